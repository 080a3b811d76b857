/-
  The statements of layer 3, plainly.
-/
import Derived.Test.YtpmejfefbepjlaaMD
import Derived.Test.YtpmejfefbepjlaaMC
import Derived.Test.YtpmejfefbepjlaaPl
set_option linter.unusedVariables false
set_option linter.unusedSimpArgs false
namespace Go.Pl
open Go Go.Den Go.Num

theorem mont_Plain_Form {r : RingT} {M : Nat} (hr : IsRing r M) {a : Nat → Int} {x : Nat} (ha : IsN a (x * 2 ^ 256 % M)) : ∃ z, mont_Ring_Plain (some r) a = some z ∧ IsN z (x % M) := by
  obtain ⟨z, Z, h1, h2, h3, h4⟩ := mont_Plain_spec hr ha
  refine ⟨z, h1, h2.of_eq ?_⟩
  rw [← Nat.mod_eq_of_lt h3]
  apply mod_cancel_right (c := 2 ^ 256) hr.cop
  rw [h4, Nat.mod_mod]
theorem mont_Form_Plain {r : RingT} {M : Nat} (hr : IsRing r M) {a : Nat → Int} {x : Nat} (ha : IsN a x) : ∃ z w, mont_Ring_Plain (some r) a = some z ∧ mont_Ring_Form (some r) z = some w ∧ IsN w (x % M) := by
  obtain ⟨z, Z, h1, h2, h3, h4⟩ := mont_Plain_spec hr ha
  obtain ⟨w, w1, w2⟩ := mont_Form_spec hr h2
  exact ⟨z, w, h1, w1, w2.of_eq h4⟩

theorem l03_of_spec {n : Int} (hn : n < 9223372036854775808) : ∃ a, l03_of n = some a ∧ IsN a n.toNat := by
  rw [l03_of_eq]; unfold l03_of'
  obtain ⟨a, h1, h2⟩ := r01_Int_spec hn
  simp only [h1]
  exact ⟨a, rfl, h2⟩

theorem l03_awake_spec : l03_awake = some true := by
  rw [l03_awake_eq]; unfold l03_awake'
  obtain ⟨a2, a2a, a2b⟩ := l03_of_spec (n := 2) (by decide)
  obtain ⟨a3, a3a, a3b⟩ := l03_of_spec (n := 3) (by decide)
  obtain ⟨a5, a5a, a5b⟩ := l03_of_spec (n := 5) (by decide)
  obtain ⟨a10, a10a, a10b⟩ := l03_of_spec (n := 10) (by decide)
  obtain ⟨a23, a23a, a23b⟩ := l03_of_spec (n := 23) (by decide)
  obtain ⟨a100, a100a, a100b⟩ := l03_of_spec (n := 100) (by decide)
  obtain ⟨a207, a207a, a207b⟩ := l03_of_spec (n := 207) (by decide)
  obtain ⟨a991, a991a, a991b⟩ := l03_of_spec (n := 991) (by decide)
  obtain ⟨a1001, a1001a, a1001b⟩ := l03_of_spec (n := 1001) (by decide)
  obtain ⟨r, r1, hr, _⟩ := (mont_New_spec a1001b).2 (by decide) (by decide)
  have t1 := (mont_New_spec a10b).1 (.inl (by decide))
  obtain ⟨p, p1, p2⟩ := mont_Prod_spec hr (n := 2) (by decide) (bases := fun j => upd (upd (fun _ => fun _ => 0) 0 a2) 1 a3 (0 + j)) (exps := fun j => upd (upd (fun _ => fun _ => 0) 0 a10) 1 a2 (0 + j)) (B := fun i => if i = 0 then 2 else 3) (E := fun i => if i = 0 then 10 else 2)
    (fun i hi => by
      rcases (show i = 0 ∨ i = 1 by omega) with rfl | rfl
      · exact a2b
      · exact a3b)
    (fun i hi => by
      rcases (show i = 0 ∨ i = 1 by omega) with rfl | rfl
      · exact a10b
      · exact a2b)
  obtain ⟨e, e1, e2⟩ := mont_Exp_spec hr a2b a10b
  obtain ⟨q, q1, q2⟩ := mont_Mul_spec hr a100b a100b
  obtain ⟨f, f1, f2⟩ := mont_Form_spec hr a5b
  obtain ⟨g, g1, g2⟩ := mont_Plain_Form hr f2
  simp (disch := first | omega | decide) only [wrap_i64n, wrapun, dec_t, dec_f, inb_t, cond_true, cond_false, Int.toNat_natCast, beq_t, beq_f, bne_t, bne_f, Bool.not_true, Bool.not_false, Int.reduceToNat, ft_b, tf_b, tt_b, ff_b, decide_true, decide_false, a2a, a3a, a5a, a10a, a23a, a100a, a207a, a991a, a1001a, r1, t1, p1, e1, q1, f1, g1, e2.eqb a23b, q2.eqb a991b, p2.eqb a207b, g2.eqb a5b]

theorem l03_MontMuls_true {a b m : Nat → Int} (ha : Go.Den.Good (.arr 4 (.int .u64)) a) (hb : Go.Den.Good (.arr 4 (.int .u64)) b) (hm : Go.Den.Good (.arr 4 (.int .u64)) m) : l03_MontMuls' a b m = some () := by
  obtain ⟨x, hx⟩ := good_nat ha
  obtain ⟨y, hy⟩ := good_nat hb
  obtain ⟨M, hM⟩ := good_nat hm
  unfold l03_MontMuls'
  by_cases h : M % 2 = 1 ∧ M ≠ 1
  · obtain ⟨r, r1, hr, e⟩ := (mont_New_spec hM).2 h.1 h.2
    obtain ⟨p, p1, p2⟩ := r02_MulMod_spec hx hy hM hr.pos
    obtain ⟨s, s1, s2⟩ := r02_Rem_spec0 hx hM hr.pos
    obtain ⟨q, q1, q2⟩ := mont_Mul_spec hr hx hy
    obtain ⟨f, f1, f2⟩ := mont_Form_spec hr hx
    obtain ⟨f', f1', f2'⟩ := r03_Form_spec hx hM hr.pos
    obtain ⟨g, g1, g2⟩ := mont_Plain_Form hr f2
    obtain ⟨z, w, i1, i2, i3⟩ := mont_Form_Plain hr hx
    have hc : (decide (x < M) == decide (cmpI x M < 0)) = true := by
      unfold cmpI
      by_cases hlt : x < M
      · simp [hlt]
      · rw [if_neg hlt, decide_eq_false hlt, decide_eq_false (by split <;> decide)]; rfl
    simp (disch := omega) only [wrap_i64n, wrapun, dec_t, dec_f, inb_t, cond_true, cond_false, Int.toNat_natCast, beq_t, beq_f, bne_t, bne_f, Bool.not_true, Bool.not_false, Int.reduceToNat, ft_b, tf_b, tt_b, ff_b, decide_true, decide_false, r1, r03_May_spec hM, h, ne_eq, not_false_eq_true, and_self, p1, s1, q1, q2.eqb p2, mont_M_spec hr, e, hM.eqb hM, mont_In_spec hr hx, r01_Cmp_spec hx hM, hc, f1, f1', f2.eqb f2', g1, g2.eqb s2, i1, i2, i3.eqb s2, l03_awake_spec]
  · have r1 := (mont_New_spec hM).1 (by omega)
    simp (disch := omega) only [wrap_i64n, wrapun, dec_t, dec_f, inb_t, cond_true, cond_false, Int.toNat_natCast, beq_t, beq_f, bne_t, bne_f, Bool.not_true, Bool.not_false, Int.reduceToNat, ft_b, tf_b, tt_b, ff_b, decide_true, decide_false, r1, r03_May_spec hM, h, l03_awake_spec]

theorem l03_MontExps_true {a m : Nat → Int} {e : Int} (ha : Go.Den.Good (.arr 4 (.int .u64)) a) (hm : Go.Den.Good (.arr 4 (.int .u64)) m) : l03_MontExps' a m e = some () := by
  obtain ⟨x, hx⟩ := good_nat ha
  obtain ⟨M, hM⟩ := good_nat hm
  unfold l03_MontExps'
  by_cases h : M % 2 = 1 ∧ M ≠ 1
  · obtain ⟨r, r1, hr, _⟩ := (mont_New_spec hM).2 h.1 h.2
    have hmask := andMask (x := e) (k := 12) (by decide)
    have hmask' : bitsOp .and .i64 e 4095 = e % (2 ^ 12 : Nat) := hmask
    obtain ⟨n, n1, n2⟩ := l03_of_spec (n := bitsOp .and .i64 e 4095) (by rw [hmask']; have := Int.emod_lt_of_pos e (show (0 : Int) < (2 ^ 12 : Nat) by decide); omega)
    obtain ⟨p, p1, p2⟩ := mont_Exp_spec hr hx n2
    obtain ⟨q, q1, q2⟩ := r03_Exp_spec hx n2 hM hr.pos
    simp (disch := omega) only [wrap_i64n, wrapun, dec_t, dec_f, inb_t, cond_true, cond_false, Int.toNat_natCast, beq_t, beq_f, bne_t, bne_f, Bool.not_true, Bool.not_false, Int.reduceToNat, ft_b, tf_b, tt_b, ff_b, decide_true, decide_false, r1, r03_May_spec hM, h, ne_eq, not_false_eq_true, and_self, n1, p1, q1, p2.eqb q2, l03_awake_spec]
  · have r1 := (mont_New_spec hM).1 (by omega)
    simp (disch := omega) only [wrap_i64n, wrapun, dec_t, dec_f, inb_t, cond_true, cond_false, Int.toNat_natCast, beq_t, beq_f, bne_t, bne_f, Bool.not_true, Bool.not_false, Int.reduceToNat, ft_b, tf_b, tt_b, ff_b, decide_true, decide_false, r1, r03_May_spec hM, h, l03_awake_spec]

theorem l03_MontAdds_true {a m : Nat → Int} {exps : Nat → Nat → Int} (ha : Go.Den.Good (.arr 4 (.int .u64)) a) (hm : Go.Den.Good (.arr 4 (.int .u64)) m) (he : Go.Den.Good (.arr 2 (.arr 2 (.int .u64))) exps) : l03_MontAdds' a m exps = some () := by
  have hb : ∃ z, IsN (upd (upd (upd (upd (fun _ => 0) 0 (a 3)) 1 (a 2)) 2 (m 1)) 3 (m 0)) z := by
    obtain ⟨x, hx⟩ := good_nat ha
    obtain ⟨y, hy⟩ := good_nat hm
    obtain ⟨x0, x1, x2, x3, e0, e1, e2, e3, h0, h1, h2, h3, hn⟩ := hx.get
    obtain ⟨y0, y1, y2, y3, f0, f1, f2, f3, g0, g1, g2, g3, hm⟩ := hy.get
    rw [e3, e2, f1, f0]
    exact ⟨_, isN4 h3 h2 g1 g0⟩
  obtain ⟨x, hx⟩ := good_nat ha
  obtain ⟨M, hM⟩ := good_nat hm
  obtain ⟨b, hb⟩ := hb
  have hex : ∀ i, i < 2 → ∃ k, k < 2 ^ 120 ∧ IsN (upd (upd (fun _ => 0) 0 (exps i 0)) 1 (shrI .u64 (exps i 1) 8)) k := by
    intro i hi
    have g0 := he i hi 0 (by decide)
    have g1 := he i hi 1 (by decide)
    have g0' : 0 ≤ exps i 0 ∧ exps i 0 ≤ 18446744073709551615 := g0
    have g1' : 0 ≤ exps i 1 ∧ exps i 1 ≤ 18446744073709551615 := g1
    obtain ⟨u, hu⟩ : ∃ u : Nat, exps i 0 = (u : Int) := ⟨(exps i 0).toNat, by omega⟩
    obtain ⟨v, hv⟩ : ∃ v : Nat, exps i 1 = (v : Int) := ⟨(exps i 1).toNat, by omega⟩
    rw [hu, hv, shr8 (by omega)]
    refine ⟨_, ?_, IsN.mk (x0 := u) (x1 := v / 256) (x2 := 0) (x3 := 0) rfl rfl rfl rfl (by omega) (by omega) (by decide) (by decide)⟩
    simp only [Nat.reducePow]; omega
  obtain ⟨k, hk, k2⟩ := hex 0 (by decide)
  obtain ⟨l, hl, l2⟩ := hex 1 (by decide)
  unfold l03_MontAdds'
  generalize upd (upd (upd (upd (fun _ => 0) 0 (a 3)) 1 (a 2)) 2 (m 1)) 3 (m 0) = B at *
  generalize upd (upd (fun _ => 0) 0 (exps 0 0)) 1 (shrI .u64 (exps 0 1) 8) = K at *
  generalize upd (upd (fun _ => 0) 0 (exps 1 0)) 1 (shrI .u64 (exps 1 1) 8) = L at *
  by_cases h : M % 2 = 1 ∧ M ≠ 1
  · obtain ⟨r, r1, hr, _⟩ := (mont_New_spec hM).2 h.1 h.2
    obtain ⟨s, s1, s2⟩ := r01_Add_spec k2 l2
    obtain ⟨lo, hi, p1, p2, p3⟩ := r02_Mul_spec k2 l2
    have hs : (k + l) % 2 ^ 256 = k + l := Nat.mod_eq_of_lt (by simp only [Nat.reducePow] at *; omega)
    have hp : k * l % 2 ^ 256 = k * l := Nat.mod_eq_of_lt (Nat.lt_of_lt_of_le (Nat.mul_lt_mul'' hk hl) (by decide))
    have s3 := s2.of_eq hs
    have p4 := p2.of_eq hp
    obtain ⟨u, u1, u2⟩ := mont_Exp_spec hr hx k2
    obtain ⟨v, v1, v2⟩ := mont_Exp_spec hr hx l2
    obtain ⟨w, w1, w2⟩ := mont_Mul_spec hr u2 v2
    obtain ⟨y, y1, y2⟩ := mont_Exp_spec hr hx s3
    obtain ⟨c, c1, c2⟩ := mont_Exp_spec hr u2 l2
    obtain ⟨d, d1, d2⟩ := mont_Exp_spec hr hx p4
    obtain ⟨f, f1, f2⟩ := mont_Mul_spec hr hx hb
    obtain ⟨g, g1, g2⟩ := mont_Exp_spec hr f2 k2
    obtain ⟨i, i1, i2⟩ := mont_Exp_spec hr hb k2
    obtain ⟨j, j1, j2⟩ := mont_Mul_spec hr u2 i2
    have e1 : x ^ k % M * (x ^ l % M) % M = x ^ (k + l) % M := by rw [← Nat.mul_mod, ← Nat.pow_add]
    have e2 : (x ^ k % M) ^ l % M = x ^ (k * l) % M := by rw [← Nat.pow_mod, ← Nat.pow_mul]
    have e3 : (x * b % M) ^ k % M = x ^ k % M * (b ^ k % M) % M := by rw [← Nat.pow_mod, Nat.mul_pow, ← Nat.mul_mod]
    simp (disch := first | omega | assumption) only [wrap_i64n, wrapun, dec_t, dec_f, inb_t, cond_true, cond_false, Int.toNat_natCast, beq_t, beq_f, bne_t, bne_f, Bool.not_true, Bool.not_false, Int.reduceToNat, ft_b, tf_b, tt_b, ff_b, decide_true, decide_false, r1, r03_May_spec hM, h, ne_eq, not_false_eq_true, and_self, s1, p1, u1, v1, w1, y1, w2.eqb y2, c1, d1, c2.eqb d2, f1, g1, i1, j1, g2.eqb j2, l03_awake_spec]
  · have r1 := (mont_New_spec hM).1 (by omega)
    simp (disch := omega) only [wrap_i64n, wrapun, dec_t, dec_f, inb_t, cond_true, cond_false, Int.toNat_natCast, beq_t, beq_f, bne_t, bne_f, Bool.not_true, Bool.not_false, Int.reduceToNat, ft_b, tf_b, tt_b, ff_b, decide_true, decide_false, r1, r03_May_spec hM, h, l03_awake_spec]

/-- lists of naturals that are handed in -/
theorem good_nats {n : Nat} {l : Nat → Nat → Int} (h : Go.Den.Good (.sl (.arr 4 (.int .u64))) (.fz n l)) : ∃ f : Nat → Nat, ∀ i, i < n → IsN (l i) (f i) := by
  have key : ∀ i, ∃ x, i < n → IsN (l i) x := by
    intro i
    by_cases hi : i < n
    · obtain ⟨x, hx⟩ := good_nat (h.2 i hi)
      exact ⟨x, fun _ => hx⟩
    · exact ⟨0, fun h => absurd h hi⟩
  exact ⟨fun i => (key i).choose, fun i hi => (key i).choose_spec hi⟩

theorem mont_Prod_odd {r : RingT} {M : Nat} (hr : IsRing r M) {n k : Nat} (hnk : n ≠ k) {bases exps : Nat → Nat → Int} : mont_Ring_Prod (some r) n bases k exps = some ((fun _ => 0), 1) := by
  rw [mont_Ring_Prod_eq]; unfold mont_Ring_Prod'
  simp (disch := omega) only [wrap_i64n, wrapun, dec_t, dec_f, inb_t, cond_true, cond_false, Int.toNat_natCast, beq_t, beq_f, bne_t, bne_f, Bool.not_true, Bool.not_false, Int.reduceToNat, ft_b, tf_b, tt_b, ff_b, decide_true, decide_false, mont_given_spec hr]

theorem l03_MontProds_true {m : Nat → Int} {n k : Nat} {bases exps : Nat → Nat → Int} (hm : Go.Den.Good (.arr 4 (.int .u64)) m) (hb : Go.Den.Good (.sl (.arr 4 (.int .u64))) (.fz n bases)) (he : Go.Den.Good (.sl (.arr 4 (.int .u64))) (.fz k exps)) : l03_MontProds' m n bases k exps = some () := by
  obtain ⟨M, hM⟩ := good_nat hm
  obtain ⟨B, hB⟩ := good_nats hb
  obtain ⟨E, hE⟩ := good_nats he
  unfold l03_MontProds'
  by_cases h : M % 2 = 1 ∧ M ≠ 1
  · obtain ⟨r, r1, hr, _⟩ := (mont_New_spec hM).2 h.1 h.2
    by_cases hn : 6 < n
    · simp (disch := omega) only [wrap_i64n, wrapun, dec_t, dec_f, inb_t, cond_true, cond_false, Int.toNat_natCast, beq_t, beq_f, bne_t, bne_f, Bool.not_true, Bool.not_false, Int.reduceToNat, ft_b, tf_b, tt_b, ff_b, decide_true, decide_false, r1, r03_May_spec hM, h, ne_eq, not_false_eq_true, and_self, l03_awake_spec]
    · by_cases hk : 6 < k
      · simp (disch := omega) only [wrap_i64n, wrapun, dec_t, dec_f, inb_t, cond_true, cond_false, Int.toNat_natCast, beq_t, beq_f, bne_t, bne_f, Bool.not_true, Bool.not_false, Int.reduceToNat, ft_b, tf_b, tt_b, ff_b, decide_true, decide_false, r1, r03_May_spec hM, h, ne_eq, not_false_eq_true, and_self, l03_awake_spec]
      · by_cases hnk : n = k
        · subst hnk
          obtain ⟨p, p1, p2⟩ := mont_Prod_spec hr (by omega) hB hE
          obtain ⟨o, o1, o2⟩ := l03_of_spec (n := 1) (by decide)
          have o2' : IsN o 1 := o2
          obtain ⟨w, w1, w2⟩ := mont_Mul_spec hr o2' o2'
          have L : ∃ z, loopF R_l03_MontProds_0 (T_l03_MontProds_0 n bases n exps r 0 ((0 : Nat) : Int) p w) = some (Y_l03_MontProds_0_0 0 p z) ∧ IsN z (prodN (fun i => B i ^ E i) n % M) :=
            loop_for (R := R_l03_MontProds_0) (fun i (z : Nat → Int) => T_l03_MontProds_0 n bases n exps r 0 (i : Int) p z) (fun z => Y_l03_MontProds_0_0 0 p z) (fun i z => IsN z (prodN (fun i => B i ^ E i) i % M)) n
              (fun i hi z hP => by
                obtain ⟨u, u1, u2⟩ := mont_Exp_spec hr (hB i hi) (hE i hi)
                obtain ⟨v, v1, v2⟩ := mont_Mul_spec hr hP u2
                refine ⟨v, ?_, v2.of_eq ?_⟩
                · unfold R_l03_MontProds_0
                  simp (disch := omega) only [add_c, add_l, l_add, mul_c, mul_l, l_mul, sub_c, sub_l, l_sub, div_c, div_l, mod_c, mod_l, tdiv_c, tdiv_l, tmod_c, tmod_l, wrap_i64n, wrapun, dec_t, dec_f, inb_t, cond_true, cond_false, Int.toNat_natCast, beq_t, beq_f, bne_t, bne_f, Bool.not_true, Bool.not_false, Int.reduceToNat, ft_b, tf_b, tt_b, ff_b, decide_true, decide_false, u1, v1]
                · rw [← Nat.mul_mod]; rfl)
              (fun z hP => by
                unfold R_l03_MontProds_0
                simp (disch := omega) only [add_c, add_l, l_add, mul_c, mul_l, l_mul, sub_c, sub_l, l_sub, div_c, div_l, mod_c, mod_l, tdiv_c, tdiv_l, tmod_c, tmod_l, wrap_i64n, wrapun, dec_t, dec_f, inb_t, cond_true, cond_false, Int.toNat_natCast, beq_t, beq_f, bne_t, bne_f, Bool.not_true, Bool.not_false, Int.reduceToNat, ft_b, tf_b, tt_b, ff_b, decide_true, decide_false]) w w2
          obtain ⟨z, z1, z2⟩ := L
          have z1' : loopF R_l03_MontProds_0 (T_l03_MontProds_0 n bases n exps r 0 0 p w) = some (Y_l03_MontProds_0_0 0 p z) := z1
          simp only [T_l03_MontProds_0] at z1'
          simp (disch := omega) only [wrap_i64n, wrapun, dec_t, dec_f, inb_t, cond_true, cond_false, Int.toNat_natCast, beq_t, beq_f, bne_t, bne_f, Bool.not_true, Bool.not_false, Int.reduceToNat, ft_b, tf_b, tt_b, ff_b, decide_true, decide_false, r1, r03_May_spec hM, h, ne_eq, not_false_eq_true, and_self, p1, o1, w1, z1', p2.eqb z2, l03_awake_spec]
        · simp (disch := omega) only [wrap_i64n, wrapun, dec_t, dec_f, inb_t, cond_true, cond_false, Int.toNat_natCast, beq_t, beq_f, bne_t, bne_f, Bool.not_true, Bool.not_false, Int.reduceToNat, ft_b, tf_b, tt_b, ff_b, decide_true, decide_false, r1, r03_May_spec hM, h, ne_eq, not_false_eq_true, and_self, mont_Prod_odd hr hnk, IsN.zero.eqb IsN.zero, l03_awake_spec]
  · have r1 := (mont_New_spec hM).1 (by omega)
    simp (disch := omega) only [wrap_i64n, wrapun, dec_t, dec_f, inb_t, cond_true, cond_false, Int.toNat_natCast, beq_t, beq_f, bne_t, bne_f, Bool.not_true, Bool.not_false, Int.reduceToNat, ft_b, tf_b, tt_b, ff_b, decide_true, decide_false, r1, r03_May_spec hM, h, l03_awake_spec]

/-! ## Rings that nobody made -/
def NoRing (r : Option RingT) : Prop := r = none ∨ ∃ f g, r = some (f, 0, g)
theorem NoRing.given {r : Option RingT} (h : NoRing r) : mont_Ring_given r = some false := by
  rcases h with rfl | ⟨f, g, rfl⟩
  · exact mont_given_none
  · rw [mont_Ring_given_eq]; rfl
theorem NoRing.M {r : Option RingT} (h : NoRing r) : mont_Ring_M r = some fun _ => 0 := by
  rw [mont_Ring_M_eq]; unfold mont_Ring_M'
  cases r <;> simp only [h.given, wrap_i64n, wrapun, dec_t, dec_f, inb_t, cond_true, cond_false, Int.toNat_natCast, beq_t, beq_f, bne_t, bne_f, Bool.not_true, Bool.not_false, Int.reduceToNat, ft_b, tf_b, tt_b, ff_b, decide_true, decide_false]
theorem NoRing.In {r : Option RingT} (h : NoRing r) (a : Nat → Int) : mont_Ring_In r a = some false := by
  rw [mont_Ring_In_eq]; unfold mont_Ring_In'
  cases r <;> simp only [h.given, wrap_i64n, wrapun, dec_t, dec_f, inb_t, cond_true, cond_false, Int.toNat_natCast, beq_t, beq_f, bne_t, bne_f, Bool.not_true, Bool.not_false, Int.reduceToNat, ft_b, tf_b, tt_b, ff_b, decide_true, decide_false]
theorem NoRing.Mul {r : Option RingT} (h : NoRing r) (a b : Nat → Int) : mont_Ring_Mul r a b = some fun _ => 0 := by
  rw [mont_Ring_Mul_eq]; unfold mont_Ring_Mul'
  cases r <;> simp only [h.given, wrap_i64n, wrapun, dec_t, dec_f, inb_t, cond_true, cond_false, Int.toNat_natCast, beq_t, beq_f, bne_t, bne_f, Bool.not_true, Bool.not_false, Int.reduceToNat, ft_b, tf_b, tt_b, ff_b, decide_true, decide_false]
theorem NoRing.Form {r : Option RingT} (h : NoRing r) (a : Nat → Int) : mont_Ring_Form r a = some fun _ => 0 := by
  rw [mont_Ring_Form_eq]; unfold mont_Ring_Form'
  cases r <;> simp only [h.given, wrap_i64n, wrapun, dec_t, dec_f, inb_t, cond_true, cond_false, Int.toNat_natCast, beq_t, beq_f, bne_t, bne_f, Bool.not_true, Bool.not_false, Int.reduceToNat, ft_b, tf_b, tt_b, ff_b, decide_true, decide_false]
theorem NoRing.Plain {r : Option RingT} (h : NoRing r) (a : Nat → Int) : mont_Ring_Plain r a = some fun _ => 0 := by
  rw [mont_Ring_Plain_eq]; unfold mont_Ring_Plain'
  cases r <;> simp only [h.given, wrap_i64n, wrapun, dec_t, dec_f, inb_t, cond_true, cond_false, Int.toNat_natCast, beq_t, beq_f, bne_t, bne_f, Bool.not_true, Bool.not_false, Int.reduceToNat, ft_b, tf_b, tt_b, ff_b, decide_true, decide_false]
theorem NoRing.Prod {r : Option RingT} (h : NoRing r) (n k : Nat) (a b : Nat → Nat → Int) : mont_Ring_Prod r n a k b = some ((fun _ => 0), 1) := by
  rw [mont_Ring_Prod_eq]; unfold mont_Ring_Prod'
  cases r <;> simp only [h.given, wrap_i64n, wrapun, dec_t, dec_f, inb_t, cond_true, cond_false, Int.toNat_natCast, beq_t, beq_f, bne_t, bne_f, Bool.not_true, Bool.not_false, Int.reduceToNat, ft_b, tf_b, tt_b, ff_b, decide_true, decide_false]
theorem NoRing.Exp {r : Option RingT} (h : NoRing r) (a b : Nat → Int) : mont_Ring_Exp r a b = some fun _ => 0 := by
  rw [mont_Ring_Exp_eq]; unfold mont_Ring_Exp'
  cases r <;> simp only [h.Prod]
theorem mont_Prod_many {r : RingT} {M : Nat} (hr : IsRing r M) {n : Nat} (hn : 64 < n) {bases exps : Nat → Nat → Int} : mont_Ring_Prod (some r) n bases n exps = some ((fun _ => 0), 1) := by
  rw [mont_Ring_Prod_eq]; unfold mont_Ring_Prod'
  simp (disch := omega) only [wrap_i64n, wrapun, dec_t, dec_f, inb_t, cond_true, cond_false, Int.toNat_natCast, beq_t, beq_f, bne_t, bne_f, Bool.not_true, Bool.not_false, Int.reduceToNat, ft_b, tf_b, tt_b, ff_b, decide_true, decide_false, mont_given_spec hr]

theorem l03_MontNobody_true {a b : Nat → Int} (ha : Go.Den.Good (.arr 4 (.int .u64)) a) (hb : Go.Den.Good (.arr 4 (.int .u64)) b) : l03_MontNobody' a b = some () := by
  unfold l03_MontNobody'
  have h0 : NoRing none := .inl rfl
  have h1 : NoRing (some ((fun _ => 0), (0, ((fun _ => 0), (fun _ => 0))))) := .inr ⟨_, _, rfl⟩
  obtain ⟨o, o1, o2⟩ := l03_of_spec (n := 7) (by decide)
  obtain ⟨r, r1, hr, _⟩ := (mont_New_spec o2).2 (by decide) (by decide)
  obtain ⟨p, p1, p2⟩ := mont_Prod_spec hr (n := 64) (by decide) (bases := fun j => (fun _ => fun _ => 0) (0 + j)) (exps := fun j => (fun _ => fun _ => 0) (0 + j)) (B := fun _ => 0) (E := fun _ => 0) (fun i hi => IsN.zero) (fun i hi => IsN.zero)
  have m1 := mont_Prod_many hr (n := 65) (by decide) (bases := fun j => (fun _ => fun _ => 0) (0 + j)) (exps := fun j => (fun _ => fun _ => 0) (0 + j))
  simp (disch := omega) only [wrap_i64n, wrapun, dec_t, dec_f, inb_t, cond_true, cond_false, Int.toNat_natCast, beq_t, beq_f, bne_t, bne_f, Bool.not_true, Bool.not_false, Int.reduceToNat, ft_b, tf_b, tt_b, ff_b, decide_true, decide_false, h0.M, h0.In, h0.Mul, h0.Form, h0.Plain, h0.Prod, h0.Exp, h1.M, h1.In, h1.Mul, h1.Form, h1.Plain, h1.Prod, h1.Exp, IsN.zero.eqb IsN.zero, o1, r1, p1, m1, l03_awake_spec]
end Go.Pl
