/-
  Tables.
-/
import Derived.Test.YtennopklknlecaaME
import Derived.Test.YtennopklknlecaaPcomb
set_option linter.unusedVariables false
set_option linter.unusedSimpArgs false
namespace Go.Pl
open Go Go.Den Go.Num

theorem glue_lt {α : Type} {n i : Nat} {f g : Nat → α} (h : i < n) : glue n f g i = f i := by
  unfold glue; rw [show Nat.blt i n = true by rw [Nat.blt_eq]; exact h]; rfl
theorem glue_at {α : Type} {n : Nat} {f g : Nat → α} : glue n f g n = g 0 := by
  unfold glue
  have : Nat.blt n n = false := by rw [← Bool.not_eq_true, Nat.blt_eq]; omega
  rw [this, Nat.sub_self]; rfl
abbrev TabT := PtrV RingT × ((Nat → Int) × (Int × SlV (Nat → (Nat → Int))))
/-- a table that was made -/
structure IsTab (t : TabT) (r : RingT) (M x bits : Nat) : Prop where
  ring : IsRing r M
  low : 1 ≤ bits
  high : bits ≤ 256
  lt : x < M
  is : ∃ b f, t = (.fz r, (b, ((bits : Int), .fz ((bits + 3) / 4) f))) ∧ IsN b x ∧ ∀ k, k < (bits + 3) / 4 → ∀ d, d < 16 → IsN (f k d) (x ^ (d * 16 ^ k) % M)

section
variable {g : GroupT} {P Q G : Nat}
theorem comb_New_odd (h : IsGroup g P Q G) {a : Nat → Int} {x : Nat} (ha : IsN a x) {bits : Int} (hb : ¬ (x < P ∧ 1 ≤ bits ∧ bits ≤ 256)) : comb_New (some g) a bits = some (none, 1) := by
  rw [comb_New_eq]; unfold comb_New'
  obtain ⟨r, r1, hr⟩ := group_Ring_spec h
  by_cases h1 : x < P
  · by_cases h2 : bits < 1
    · simp (disch := omega) only [wrap_i64n, wrapun, dec_t, dec_f, inb_t, cond_true, cond_false, Int.toNat_natCast, beq_t, beq_f, bne_t, bne_f, Bool.not_true, Bool.not_false, Int.reduceToNat, ft_b, tf_b, tt_b, ff_b, decide_true, decide_false, r1, mont_In_spec hr ha, h1]
    · simp (disch := omega) only [wrap_i64n, wrapun, dec_t, dec_f, inb_t, cond_true, cond_false, Int.toNat_natCast, beq_t, beq_f, bne_t, bne_f, Bool.not_true, Bool.not_false, Int.reduceToNat, ft_b, tf_b, tt_b, ff_b, decide_true, decide_false, r1, mont_In_spec hr ha, h1]
  · simp (disch := omega) only [wrap_i64n, wrapun, dec_t, dec_f, inb_t, cond_true, cond_false, Int.toNat_natCast, beq_t, beq_f, bne_t, bne_f, Bool.not_true, Bool.not_false, Int.reduceToNat, ft_b, tf_b, tt_b, ff_b, decide_true, decide_false, r1, mont_In_spec hr ha, h1]
theorem comb_New_spec (h : IsGroup g P Q G) {a : Nat → Int} {x : Nat} (ha : IsN a x) {bits : Nat} (hx : x < P) (h1 : 1 ≤ bits) (h2 : bits ≤ 256) :
    ∃ t r, comb_New (some g) a (bits : Int) = some (some t, 0) ∧ IsTab t r P x bits ∧ t.2.1 = a := by
  rw [comb_New_eq]; unfold comb_New'
  obtain ⟨r, r1, hr⟩ := group_Ring_spec h
  have hP1 := hr.one
  simp (disch := omega) only [add_c, add_l, l_add, mul_c, mul_l, l_mul, sub_c, sub_l, l_sub, div_c, div_l, mod_c, mod_l, tdiv_c, tdiv_l, tmod_c, tmod_l, wrap_i64n, wrapun, dec_t, dec_f, inb_t, cond_true, cond_false, Int.toNat_natCast, beq_t, beq_f, bne_t, bne_f, Bool.not_true, Bool.not_false, Int.reduceToNat, ft_b, tf_b, tt_b, ff_b, decide_true, decide_false, r1, mont_In_spec hr ha, hx]
  generalize ho : loopF R_comb_New_0 _ = o
  obtain ⟨⟨f, now⟩, hy, hQ, _⟩ := loop_for (R := R_comb_New_0) (fun k (s : (Nat → Nat → Nat → Int) × (Nat → Int)) => T_comb_New_0 ((((bits + 4 - 1) / 4 : Nat)) : Int) (k : Int) r a (bits : Int) k s.1 s.2) (fun s => Y_comb_New_0_0 r a (bits : Int) ((bits + 3) / 4) s.1)
    (fun k s => (∀ i, i < k → ∀ d, d < 16 → IsN (s.1 i d) (x ^ (d * 16 ^ i) % P)) ∧ IsN s.2 (x ^ (16 ^ k) % P)) ((bits + 3) / 4)
    (fun k hk s hP => by
      obtain ⟨f, now⟩ := s
      obtain ⟨p1, p2⟩ := hP
      simp only at p1 p2
      obtain ⟨on, on1, on2⟩ := nat_Of_spec (n := 1) (by decide)
      have on3 : IsN on (x ^ (0 * 16 ^ k) % P) := on2.of_eq (by rw [Nat.zero_mul, Nat.pow_zero]; exact (Nat.mod_eq_of_lt hP1).symm)
      obtain ⟨p, hp, hpq⟩ := loop_for (R := R_comb_New_2) (fun j (p : Nat → Nat → Int) => T_comb_New_2 ((((bits + 4 - 1) / 4 : Nat)) : Int) (k : Int) (j : Int) r a (bits : Int) k f now p) (fun p => Y_comb_New_2_0 ((((bits + 4 - 1) / 4 : Nat)) : Int) (k : Int) r a (bits : Int) k f now p)
        (fun j p => ∀ d, d < j + 1 → IsN (p d) (x ^ (d * 16 ^ k) % P)) 15
        (fun j hj p hP => by
          obtain ⟨z, z1, z2⟩ := mont_Mul_spec hr (hP j (by omega)) p2
          refine ⟨upd p (j + 1) z, ?_, fun d hd => ?_⟩
          · unfold R_comb_New_2
            simp (disch := omega) only [add_c, add_l, l_add, mul_c, mul_l, l_mul, sub_c, sub_l, l_sub, div_c, div_l, mod_c, mod_l, tdiv_c, tdiv_l, tmod_c, tmod_l, wrap_i64n, wrapun, dec_t, dec_f, inb_t, cond_true, cond_false, Int.toNat_natCast, beq_t, beq_f, bne_t, bne_f, Bool.not_true, Bool.not_false, Int.reduceToNat, ft_b, tf_b, tt_b, ff_b, decide_true, decide_false, z1]
          · by_cases e : d = j + 1
            · subst e
              rw [upd_same]
              exact z2.of_eq (by rw [← Nat.mul_mod, ← Nat.pow_add, Nat.add_mul, Nat.one_mul])
            · rw [upd_ne e]; exact hP d (by omega))
        (fun p hP => by
          unfold R_comb_New_2
          simp (disch := omega) only [add_c, add_l, l_add, mul_c, mul_l, l_mul, sub_c, sub_l, l_sub, div_c, div_l, mod_c, mod_l, tdiv_c, tdiv_l, tmod_c, tmod_l, wrap_i64n, wrapun, dec_t, dec_f, inb_t, cond_true, cond_false, Int.toNat_natCast, beq_t, beq_f, bne_t, bne_f, Bool.not_true, Bool.not_false, Int.reduceToNat, ft_b, tf_b, tt_b, ff_b, decide_true, decide_false]) (upd (fun _ => fun _ => 0) 0 on) (fun d hd => by
            obtain rfl : d = 0 := by omega
            rw [upd_same]; exact on3)
      have hp' : loopF R_comb_New_2 (T_comb_New_2 ((((bits + 4 - 1) / 4 : Nat)) : Int) (k : Int) 0 r a (bits : Int) k f now (upd (fun _ => fun _ => 0) 0 on)) = some (Y_comb_New_2_0 ((((bits + 4 - 1) / 4 : Nat)) : Int) (k : Int) r a (bits : Int) k f now p) := hp
      obtain ⟨z, z1, z2⟩ := mont_Mul_spec hr (hpq 15 (by omega)) p2
      have hb1 : Nat.ble ((k + 1) * 512) 140737488355328 = true := Nat.ble_eq_true_of_le (by omega)
      have hb2 : Nat.ble (k + 1) 9223372036854775807 = true := Nat.ble_eq_true_of_le (by omega)
      refine ⟨(glue k f (fun j => upd (fun _ => fun _ => fun _ => 0) 0 p (0 + j)), z), ?_, fun i hi d hd => ?_, ?_⟩
      · unfold R_comb_New_0
        simp (disch := omega) only [add_c, add_l, l_add, mul_c, mul_l, l_mul, sub_c, sub_l, l_sub, div_c, div_l, mod_c, mod_l, tdiv_c, tdiv_l, tmod_c, tmod_l, wrap_i64n, wrapun, dec_t, dec_f, inb_t, cond_true, cond_false, Int.toNat_natCast, beq_t, beq_f, bne_t, bne_f, Bool.not_true, Bool.not_false, Int.reduceToNat, ft_b, tf_b, tt_b, ff_b, decide_true, decide_false, on1, hp', z1, hb1, hb2, Bool.and_true]
      · show IsN ((bif Nat.blt i k then f i else (fun j => upd (fun _ => fun _ => fun _ => 0) 0 p (0 + j)) (i - k)) d) _
        by_cases e : i = k
        · subst e
          have : Nat.blt i i = false := by rw [← Bool.not_eq_true, Nat.blt_eq]; omega
          rw [this, cond_false, Nat.sub_self]
          show IsN (upd (fun _ => fun _ => fun _ => 0) 0 p (0 + 0) d) _
          rw [Nat.zero_add, upd_same]
          exact hpq d (by omega)
        · have : Nat.blt i k = true := by rw [Nat.blt_eq]; omega
          rw [this, cond_true]
          exact p1 i (by omega) d hd
      · exact z2.of_eq (by rw [← Nat.mul_mod, ← Nat.pow_add, Nat.pow_succ, show 15 * 16 ^ k + 16 ^ k = 16 ^ k * 16 by omega]))
    (fun s hP => by
      unfold R_comb_New_0
      simp (disch := omega) only [add_c, add_l, l_add, mul_c, mul_l, l_mul, sub_c, sub_l, l_sub, div_c, div_l, mod_c, mod_l, tdiv_c, tdiv_l, tmod_c, tmod_l, wrap_i64n, wrapun, dec_t, dec_f, inb_t, cond_true, cond_false, Int.toNat_natCast, beq_t, beq_f, bne_t, bne_f, Bool.not_true, Bool.not_false, Int.reduceToNat, ft_b, tf_b, tt_b, ff_b, decide_true, decide_false]) ((fun _ => fun _ => fun _ => 0), a) ⟨fun i hi => absurd hi (by omega), ha.of_eq (by rw [Nat.pow_zero, Nat.pow_one]; exact (Nat.mod_eq_of_lt hx).symm)⟩
  obtain rfl := ho.symm.trans hy
  refine ⟨_, r, rfl, ⟨hr, h1, h2, hx, _, _, rfl, ha, fun k hk d hd => ?_⟩, rfl⟩
  rw [Nat.zero_add]
  exact hQ k hk d hd
end
/-- a digit of four bits -/
theorem digit4 {E k : Nat} : (if E.testBit (4 * k) then 1 else 0) + (if E.testBit (4 * k + 1) then 2 else 0) + (if E.testBit (4 * k + 2) then 4 else 0) + (if E.testBit (4 * k + 3) then 8 else 0) = E / 16 ^ k % 16 := by
  have e : (16 : Nat) ^ k = 2 ^ (4 * k) := by rw [Nat.pow_mul]
  rw [e]
  have h0 := bit_split E (4 * k)
  have h1 := bit_split E (4 * k + 1)
  have h2 := bit_split E (4 * k + 2)
  have h3 := bit_split E (4 * k + 3)
  generalize E / 2 ^ (4 * k) = a at *
  generalize E / 2 ^ (4 * k + 1) = b at *
  simp only [Nat.add_assoc, Nat.reduceAdd] at *
  generalize E / 2 ^ (4 * k + 2) = c at *
  generalize E / 2 ^ (4 * k + 3) = d at *
  generalize E / 2 ^ (4 * k + 4) = q at *
  split at h0 <;> split at h1 <;> split at h2 <;> split at h3 <;> simp only [*, if_true, if_false, Bool.false_eq_true] <;> omega
theorem or4 (b0 b1 b2 b3 : Bool) : bitsOp .or .i64 (bitsOp .or .i64 (bitsOp .or .i64 (bitsOp .or .i64 0 (shlI .i64 (if b0 then 1 else 0) 0)) (shlI .i64 (if b1 then 1 else 0) 1)) (shlI .i64 (if b2 then 1 else 0) 2)) (shlI .i64 (if b3 then 1 else 0) 3) =
    (((if b0 then 1 else 0) + (if b1 then 2 else 0) + (if b2 then 4 else 0) + (if b3 then 8 else 0) : Nat) : Int) := by
  cases b0 <;> cases b1 <;> cases b2 <;> cases b3 <;> rfl
section
variable {t : TabT} {r : RingT} {M x bits : Nat}
theorem comb_given_spec (h : IsTab t r M x bits) : comb_Table_given (some t) = some true := by
  rw [comb_Table_given_eq]; unfold comb_Table_given'
  obtain ⟨b, f, rfl, h1, h2⟩ := h.is
  have := h.low
  simp (disch := omega) only [add_c, add_l, l_add, mul_c, mul_l, l_mul, sub_c, sub_l, l_sub, div_c, div_l, mod_c, mod_l, tdiv_c, tdiv_l, tmod_c, tmod_l, wrap_i64n, wrapun, dec_t, dec_f, inb_t, cond_true, cond_false, Int.toNat_natCast, beq_t, beq_f, bne_t, bne_f, Bool.not_true, Bool.not_false, Int.reduceToNat, ft_b, tf_b, tt_b, ff_b, decide_true, decide_false]
theorem comb_Bits_spec (h : IsTab t r M x bits) : comb_Table_Bits (some t) = some (bits : Int) := by
  rw [comb_Table_Bits_eq]; unfold comb_Table_Bits'
  obtain ⟨b, f, rfl, h1, h2⟩ := h.is
  simp (disch := omega) only [add_c, add_l, l_add, mul_c, mul_l, l_mul, sub_c, sub_l, l_sub, div_c, div_l, mod_c, mod_l, tdiv_c, tdiv_l, tmod_c, tmod_l, wrap_i64n, wrapun, dec_t, dec_f, inb_t, cond_true, cond_false, Int.toNat_natCast, beq_t, beq_f, bne_t, bne_f, Bool.not_true, Bool.not_false, Int.reduceToNat, ft_b, tf_b, tt_b, ff_b, decide_true, decide_false, comb_given_spec h]
theorem comb_Base_spec (h : IsTab t r M x bits) : comb_Table_Base (some t) = some t.2.1 := by
  rw [comb_Table_Base_eq]; unfold comb_Table_Base'
  simp (disch := omega) only [add_c, add_l, l_add, mul_c, mul_l, l_mul, sub_c, sub_l, l_sub, div_c, div_l, mod_c, mod_l, tdiv_c, tdiv_l, tmod_c, tmod_l, wrap_i64n, wrapun, dec_t, dec_f, inb_t, cond_true, cond_false, Int.toNat_natCast, beq_t, beq_f, bne_t, bne_f, Bool.not_true, Bool.not_false, Int.reduceToNat, ft_b, tf_b, tt_b, ff_b, decide_true, decide_false, comb_given_spec h]
theorem comb_exp_spec (h : IsTab t r M x bits) {e : Nat → Int} {E : Nat} (he : IsN e E) (hE : E < 2 ^ bits) : ∃ z, comb_Table_exp (some t) e = some z ∧ IsN z (x ^ E % M) := by
  rw [comb_Table_exp_eq]; unfold comb_Table_exp'
  obtain ⟨b, f, rfl, hb, hf⟩ := h.is
  have hr := h.ring
  have hM1 := hr.one
  have hbits := h.high
  obtain ⟨on, on1, on2⟩ := nat_Of_spec (n := 1) (by decide)
  simp only [on1, SlV.isMs, SlV.len, SlV.fn, cond_false]
  generalize ho : loopF R_comb_Table_exp_0 _ = o
  obtain ⟨z, hy, hQ⟩ := loop_for (R := R_comb_Table_exp_0) (fun k (out : Nat → Int) => T_comb_Table_exp_0 (.fz r, (b, ((bits : Int), .fz ((bits + 3) / 4) f))) ((bits + 3) / 4) f ((((bits + 3) / 4 : Nat)) : Int) (k : Int) e (fun _ => 0) out) (fun out => Y_comb_Table_exp_0_0 (fun _ => 0) out)
    (fun k out => IsN out (x ^ (E % 16 ^ k) % M)) ((bits + 3) / 4)
    (fun k hk out hP => by
      have hd := @digit4 E k
      have hs : x ^ (E % 16 ^ k) * x ^ (E / 16 ^ k % 16 * 16 ^ k) = x ^ (E % 16 ^ (k + 1)) := by
        rw [← Nat.pow_add, Nat.pow_succ, Nat.mod_mul, Nat.mul_comm (16 ^ k)]
      have hlt : E / 16 ^ k % 16 < 16 := Nat.mod_lt _ (by decide)
      have nb : ∀ j : Nat, nat_Bit e ((4 * k + j : Nat) : Int) = some (if E.testBit (4 * k + j) then 1 else 0) := by
        intro j
        have h0 : (0 : Int) ≤ ((4 * k + j : Nat) : Int) := by omega
        rw [nat_Bit_spec he, Int.toNat_natCast]
        simp only [h0, true_and]
      have n0 := nb 0
      have n1 := nb 1
      have n2 := nb 2
      have n3 := nb 3
      have hor := or4 (E.testBit (4 * k + 0)) (E.testBit (4 * k + 1)) (E.testBit (4 * k + 2)) (E.testBit (4 * k + 3))
      rw [Nat.add_zero] at n0 hor
      rw [hd] at hor
      generalize hg : E / 16 ^ k % 16 = d at *
      obtain ⟨z, z1, z2⟩ := mont_Mul_spec hr hP (hf k hk d hlt)
      by_cases h0 : d = 0
      · refine ⟨out, ?_, hP.of_eq ?_⟩
        · unfold R_comb_Table_exp_0
          simp (disch := omega) only [add_c, add_l, l_add, mul_c, mul_l, l_mul, sub_c, sub_l, l_sub, div_c, div_l, mod_c, mod_l, tdiv_c, tdiv_l, tmod_c, tmod_l, wrap_i64n, wrapun, dec_t, dec_f, inb_t, cond_true, cond_false, Int.toNat_natCast, beq_t, beq_f, bne_t, bne_f, Bool.not_true, Bool.not_false, Int.reduceToNat, ft_b, tf_b, tt_b, ff_b, decide_true, decide_false, Nat.add_zero, Int.add_zero, n0, n1, n2, n3, hor]
        · rw [← hs, h0, Nat.zero_mul, Nat.pow_zero, Nat.mul_one]
      · refine ⟨z, ?_, z2.of_eq ?_⟩
        · unfold R_comb_Table_exp_0
          simp (disch := omega) only [add_c, add_l, l_add, mul_c, mul_l, l_mul, sub_c, sub_l, l_sub, div_c, div_l, mod_c, mod_l, tdiv_c, tdiv_l, tmod_c, tmod_l, wrap_i64n, wrapun, dec_t, dec_f, inb_t, cond_true, cond_false, Int.toNat_natCast, beq_t, beq_f, bne_t, bne_f, Bool.not_true, Bool.not_false, Int.reduceToNat, ft_b, tf_b, tt_b, ff_b, decide_true, decide_false, Nat.add_zero, Int.add_zero, n0, n1, n2, n3, hor, PtrV.isRf, PtrV.isNil, PtrV.val, z1]
        · rw [← Nat.mul_mod, hs])
    (fun out hP => by
      unfold R_comb_Table_exp_0
      simp (disch := omega) only [add_c, add_l, l_add, mul_c, mul_l, l_mul, sub_c, sub_l, l_sub, div_c, div_l, mod_c, mod_l, tdiv_c, tdiv_l, tmod_c, tmod_l, wrap_i64n, wrapun, dec_t, dec_f, inb_t, cond_true, cond_false, Int.toNat_natCast, beq_t, beq_f, bne_t, bne_f, Bool.not_true, Bool.not_false, Int.reduceToNat, ft_b, tf_b, tt_b, ff_b, decide_true, decide_false]) on (on2.of_eq (by rw [Nat.pow_zero, Nat.mod_one, Nat.pow_zero]; exact (Nat.mod_eq_of_lt hM1).symm))
  obtain rfl := ho.symm.trans hy
  refine ⟨z, rfl, hQ.of_eq ?_⟩
  have : E < 16 ^ ((bits + 3) / 4) := by
    refine Nat.lt_of_lt_of_le hE ?_
    rw [show (16 : Nat) = 2 ^ 4 from rfl, ← Nat.pow_mul]
    exact Nat.pow_le_pow_right (by decide) (by omega)
  rw [Nat.mod_eq_of_lt this]
theorem comb_Exp_spec (h : IsTab t r M x bits) {e : Nat → Int} {E : Nat} (he : IsN e E) (hE : E < 2 ^ bits) : ∃ z, comb_Table_Exp (some t) e = some (z, 0) ∧ IsN z (x ^ E % M) := by
  rw [comb_Table_Exp_eq]; unfold comb_Table_Exp'
  obtain ⟨z, z1, z2⟩ := comb_exp_spec h he hE
  have hl := blen_le hE
  obtain ⟨b, f, rfl, hb, hf⟩ := h.is
  refine ⟨z, ?_, z2⟩
  simp (disch := omega) only [add_c, add_l, l_add, mul_c, mul_l, l_mul, sub_c, sub_l, l_sub, div_c, div_l, mod_c, mod_l, tdiv_c, tdiv_l, tmod_c, tmod_l, wrap_i64n, wrapun, dec_t, dec_f, inb_t, cond_true, cond_false, Int.toNat_natCast, beq_t, beq_f, bne_t, bne_f, Bool.not_true, Bool.not_false, Int.reduceToNat, ft_b, tf_b, tt_b, ff_b, decide_true, decide_false, comb_given_spec h, nat_Len_spec he, z1]
theorem comb_Exp_full (h : IsTab t r M x bits) {e : Nat → Int} {E : Nat} (he : IsN e E) (hE : ¬ E < 2 ^ bits) : comb_Table_Exp (some t) e = some ((fun _ => 0), 2) := by
  rw [comb_Table_Exp_eq]; unfold comb_Table_Exp'
  have hl : ¬ blen E ≤ bits := fun hh => hE (blen_le_iff.1 hh)
  obtain ⟨b, f, rfl, hb, hf⟩ := h.is
  simp (disch := omega) only [add_c, add_l, l_add, mul_c, mul_l, l_mul, sub_c, sub_l, l_sub, div_c, div_l, mod_c, mod_l, tdiv_c, tdiv_l, tmod_c, tmod_l, wrap_i64n, wrapun, dec_t, dec_f, inb_t, cond_true, cond_false, Int.toNat_natCast, beq_t, beq_f, bne_t, bne_f, Bool.not_true, Bool.not_false, Int.reduceToNat, ft_b, tf_b, tt_b, ff_b, decide_true, decide_false, comb_given_spec h, nat_Len_spec he]
end
end Go.Pl
