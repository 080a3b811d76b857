/-
  The statements of layer 2, plainly.
-/
import Derived.Test.YtpmejfefbepjlaaMB
import Derived.Test.YtpmejfefbepjlaaPl
set_option linter.unusedVariables false
set_option linter.unusedSimpArgs false
namespace Go.Pl
open Go Go.Den Go.Num

/-- what is handed in as a natural is one -/
theorem good_nat {a : Nat → Int} (h : Go.Den.Good (.arr 4 (.int .u64)) a) : ∃ n, IsN a n := by
  apply IsN.of
  intro i hi
  have := h i hi
  simp only [Go.Den.Good] at this
  exact ⟨this.1, this.2⟩

theorem l02_of_spec {n : Int} (hn : n < 9223372036854775808) : ∃ a, l02_of n = some a ∧ IsN a n.toNat := by
  rw [l02_of_eq]; unfold l02_of'
  obtain ⟨a, h1, h2⟩ := r01_Int_spec hn
  simp only [h1]
  exact ⟨a, rfl, h2⟩

theorem l02_awake_spec : l02_awake = some true := by
  rw [l02_awake_eq]; unfold l02_awake'
  obtain ⟨a2, a2a, a2b⟩ := l02_of_spec (n := 2) (by decide)
  obtain ⟨a3, a3a, a3b⟩ := l02_of_spec (n := 3) (by decide)
  obtain ⟨a4, a4a, a4b⟩ := l02_of_spec (n := 4) (by decide)
  obtain ⟨a5, a5a, a5b⟩ := l02_of_spec (n := 5) (by decide)
  obtain ⟨a6, a6a, a6b⟩ := l02_of_spec (n := 6) (by decide)
  obtain ⟨a7, a7a, a7b⟩ := l02_of_spec (n := 7) (by decide)
  obtain ⟨a12, a12a, a12b⟩ := l02_of_spec (n := 12) (by decide)
  obtain ⟨a17, a17a, a17b⟩ := l02_of_spec (n := 17) (by decide)
  obtain ⟨a18, a18a, a18b⟩ := l02_of_spec (n := 18) (by decide)
  have n1 : IsN (upd (upd (upd (fun _ => 0) 0 0) 1 0) 2 1) 340282366920938463463374607431768211456 := IsN.of_eq (IsN.mk (x0 := 0) (x1 := 0) (x2 := 1) (x3 := 0) rfl rfl rfl rfl (by decide) (by decide) (by decide) (by decide)) (by decide)
  have n5 : IsN (upd (upd (upd (fun _ => 0) 0 0) 1 0) 2 5) (5 * 340282366920938463463374607431768211456) := IsN.of_eq (IsN.mk (x0 := 0) (x1 := 0) (x2 := 5) (x3 := 0) rfl rfl rfl rfl (by decide) (by decide) (by decide) (by decide)) (by decide)
  obtain ⟨lo, hi, m1, m2, m3⟩ := wide_Mul_spec n1 n5
  obtain ⟨x, v, i1, i2, i3, i4⟩ := (wide_InvMod_spec a3b a7b).2.2 (by decide) (by decide)
  obtain ⟨q, r, d1, d2, d3⟩ := wide_Div_spec a17b a5b (by decide)
  obtain ⟨d, s1, s2⟩ := wide_SubMod_spec a2b a5b a7b (by decide)
  obtain ⟨g, g1, g2⟩ := wide_Gcd_spec a12b a18b
  have hv : v = 5 := inv_unique (m := 7) (a := 3) i3 (by decide) i4 (by decide)
  subst hv
  simp (disch := first | omega | decide) only [wrap_i64n, wrapun, dec_t, dec_f, inb_t, cond_true, cond_false, Int.toNat_natCast, beq_t, beq_f, bne_t, bne_f, Bool.not_true, Bool.not_false, Int.reduceToNat, ft_b, tf_b, tt_b, ff_b, decide_true, decide_false, a2a, a3a, a4a, a5a, a6a, a7a, a12a, a17a, a18a, m1, i1, d1, s1, g1, i2.eqb a5b, m2.isZero, m3.eqb a5b, d2.eqb a3b, d3.eqb a2b, s2.eqb a4b, g2.eqb a6b]

theorem l02_WideMuls_true {a b m : Nat → Int} (ha : Go.Den.Good (.arr 4 (.int .u64)) a) (hb : Go.Den.Good (.arr 4 (.int .u64)) b) (hm : Go.Den.Good (.arr 4 (.int .u64)) m) : l02_WideMuls' a b m = some () := by
  obtain ⟨x, hx⟩ := good_nat ha
  obtain ⟨y, hy⟩ := good_nat hb
  obtain ⟨M, hM⟩ := good_nat hm
  unfold l02_WideMuls'
  obtain ⟨lo, hi, m1, m2, m3⟩ := wide_Mul_spec hx hy
  obtain ⟨lo', hi', k1, k2, k3⟩ := r02_Mul_spec hx hy
  by_cases h0 : M = 0
  · subst h0
    simp (disch := omega) only [wrap_i64n, wrapun, dec_t, dec_f, inb_t, cond_true, cond_false, Int.toNat_natCast, beq_t, beq_f, bne_t, bne_f, Bool.not_true, Bool.not_false, Int.reduceToNat, ft_b, tf_b, tt_b, ff_b, decide_true, decide_false, m1, k1, m2.eqb k2, m3.eqb k3, wide_Rem_zero hM, r02_Rem_zero hM, l02_awake_spec, IsN.zero.eqb IsN.zero]
  · obtain ⟨r, r1, r2⟩ := wide_Rem_spec hx hy hM (by omega)
    obtain ⟨s, s1, s2⟩ := r02_Rem_spec hx hy hM (by omega)
    simp (disch := omega) only [wrap_i64n, wrapun, dec_t, dec_f, inb_t, cond_true, cond_false, Int.toNat_natCast, beq_t, beq_f, bne_t, bne_f, Bool.not_true, Bool.not_false, Int.reduceToNat, ft_b, tf_b, tt_b, ff_b, decide_true, decide_false, m1, k1, m2.eqb k2, m3.eqb k3, r1, s1, r2.eqb s2, l02_awake_spec]

theorem l02_WideDivs_true {a b : Nat → Int} (ha : Go.Den.Good (.arr 4 (.int .u64)) a) (hb : Go.Den.Good (.arr 4 (.int .u64)) b) : l02_WideDivs' a b = some () := by
  obtain ⟨x, hx⟩ := good_nat ha
  obtain ⟨y, hy⟩ := good_nat hb
  unfold l02_WideDivs'
  by_cases h0 : y = 0
  · subst h0
    obtain ⟨lo, hi, m1, m2, m3⟩ := wide_Mul_spec IsN.zero hy
    obtain ⟨s, s1, s2⟩ := r01_Add_spec m2 IsN.zero
    simp (disch := omega) only [wrap_i64n, wrapun, dec_t, dec_f, inb_t, cond_true, cond_false, Int.toNat_natCast, beq_t, beq_f, bne_t, bne_f, Bool.not_true, Bool.not_false, Int.reduceToNat, ft_b, tf_b, tt_b, ff_b, decide_true, decide_false, m1, wide_Div_zero hy, r02_Div_zero hy, l02_awake_spec, IsN.zero.eqb IsN.zero, s1]
  · obtain ⟨q, r, d1, d2, d3⟩ := wide_Div_spec hx hy (by omega)
    obtain ⟨q', r', e1, e2, e3⟩ := r02_Div_spec hx hy (by omega)
    obtain ⟨lo, hi, m1, m2, m3⟩ := wide_Mul_spec d2 hy
    obtain ⟨s, s1, s2⟩ := r01_Add_spec m2 d3
    have h1 := Nat.div_add_mod x y
    have h2 : x / y * y ≤ x := by rw [Nat.mul_comm]; omega
    have h3 := Nat.mod_lt x (show 0 < y by omega)
    rw [Nat.mul_comm] at h1
    have hxl := hx.1
    have h4 : x / y * y % 2 ^ 256 = x / y * y := Nat.mod_eq_of_lt (by omega)
    have h5 : x / y * y / 2 ^ 256 = 0 := Nat.div_eq_of_lt (by omega)
    rw [h4, h1] at s1 s2
    rw [h5] at m3
    rw [Nat.mod_eq_of_lt hxl] at s2
    rw [Nat.div_eq_of_lt hxl] at s1
    have hc : cmpI (x % y) y < 0 := by unfold cmpI; rw [if_pos h3]; decide
    simp (disch := omega) only [wrap_i64n, wrapun, dec_t, dec_f, inb_t, cond_true, cond_false, Int.toNat_natCast, beq_t, beq_f, bne_t, bne_f, Bool.not_true, Bool.not_false, Int.reduceToNat, ft_b, tf_b, tt_b, ff_b, decide_true, decide_false, d1, e1, d2.eqb e2, d3.eqb e3, m1, s1, l02_awake_spec, s2.eqb hx, m3.isZero, r01_Cmp_spec d3 hy, Int.ofNat_zero]

theorem l02_WideMods_true {a b m : Nat → Int} (ha : Go.Den.Good (.arr 4 (.int .u64)) a) (hb : Go.Den.Good (.arr 4 (.int .u64)) b) (hm : Go.Den.Good (.arr 4 (.int .u64)) m) : l02_WideMods' a b m = some () := by
  obtain ⟨x, hx⟩ := good_nat ha
  obtain ⟨y, hy⟩ := good_nat hb
  obtain ⟨M, hM⟩ := good_nat hm
  unfold l02_WideMods'
  by_cases h0 : M = 0
  · subst h0
    simp (disch := omega) only [wrap_i64n, wrapun, dec_t, dec_f, inb_t, cond_true, cond_false, Int.toNat_natCast, beq_t, beq_f, bne_t, bne_f, Bool.not_true, Bool.not_false, Int.reduceToNat, ft_b, tf_b, tt_b, ff_b, decide_true, decide_false, wide_AddMod_zero hx hy hM, wide_SubMod_zero hM, wide_MulMod_zero hx hy hM, r02_AddMod_zero hx hy hM, r02_SubMod_zero hM, r02_MulMod_zero hx hy hM, l02_awake_spec, IsN.zero.eqb IsN.zero]
  · obtain ⟨r, r1, r2⟩ := wide_AddMod_spec hx hy hM (by omega)
    obtain ⟨r', r1', r2'⟩ := r02_AddMod_spec hx hy hM (by omega)
    obtain ⟨s, s1, s2⟩ := wide_SubMod_spec hx hy hM (by omega)
    obtain ⟨s', s1', s2'⟩ := r02_SubMod_spec hx hy hM (by omega)
    obtain ⟨t, t1, t2⟩ := wide_MulMod_spec hx hy hM (by omega)
    obtain ⟨t', t1', t2'⟩ := r02_MulMod_spec hx hy hM (by omega)
    simp (disch := omega) only [wrap_i64n, wrapun, dec_t, dec_f, inb_t, cond_true, cond_false, Int.toNat_natCast, beq_t, beq_f, bne_t, bne_f, Bool.not_true, Bool.not_false, Int.reduceToNat, ft_b, tf_b, tt_b, ff_b, decide_true, decide_false, r1, r1', r2.eqb r2', s1, s1', s2.eqb s2', t1, t1', t2.eqb t2', l02_awake_spec]

theorem l02_WideInverses_true {a m : Nat → Int} (ha : Go.Den.Good (.arr 4 (.int .u64)) a) (hm : Go.Den.Good (.arr 4 (.int .u64)) m) : l02_WideInverses' a m = some () := by
  obtain ⟨x, hx⟩ := good_nat ha
  obtain ⟨M, hM⟩ := good_nat hm
  unfold l02_WideInverses'
  obtain ⟨g, g1, g2⟩ := wide_Gcd_spec hx hM
  obtain ⟨g', g1', g2'⟩ := r02_Gcd_spec hx hM
  obtain ⟨i1, i2, i3⟩ := wide_InvMod_spec hx hM
  obtain ⟨c2, c2a, c2b⟩ := l02_of_spec (n := 2) (by decide)
  obtain ⟨c1, c1a, c1b⟩ := l02_of_spec (n := 1) (by decide)
  have c2b' : IsN c2 2 := c2b
  have c1b' : IsN c1 1 := c1b
  by_cases h2 : M < 2
  · have hc : cmpI M 2 < 0 := by unfold cmpI; rw [if_pos h2]; decide
    simp (disch := omega) only [wrap_i64n, wrapun, dec_t, dec_f, inb_t, cond_true, cond_false, Int.toNat_natCast, beq_t, beq_f, bne_t, bne_f, Bool.not_true, Bool.not_false, Int.reduceToNat, ft_b, tf_b, tt_b, ff_b, decide_true, decide_false, g1, g1', g2.eqb g2', i1 h2, c2a, r01_Cmp_spec hM c2b', l02_awake_spec, IsN.zero.isZero]
  · have hc : ¬ cmpI M 2 < 0 := by unfold cmpI; rw [if_neg h2]; split <;> decide
    by_cases hg : Nat.gcd x M = 1
    · obtain ⟨z, v, z1, z2, z3, z4⟩ := i3 (by omega) hg
      simp (disch := omega) only [wrap_i64n, wrapun, dec_t, dec_f, inb_t, cond_true, cond_false, Int.toNat_natCast, beq_t, beq_f, bne_t, bne_f, Bool.not_true, Bool.not_false, Int.reduceToNat, ft_b, tf_b, tt_b, ff_b, decide_true, decide_false, g1, g1', g2.eqb g2', z1, c2a, c1a, r01_Cmp_spec hM c2b', l02_awake_spec, g2.eqb c1b', r02_Inv_spec z2 hx hM, z3, z4, and_self]
    · simp (disch := omega) only [wrap_i64n, wrapun, dec_t, dec_f, inb_t, cond_true, cond_false, Int.toNat_natCast, beq_t, beq_f, bne_t, bne_f, Bool.not_true, Bool.not_false, Int.reduceToNat, ft_b, tf_b, tt_b, ff_b, decide_true, decide_false, g1, g1', g2.eqb g2', i2 (by omega) hg, c2a, c1a, r01_Cmp_spec hM c2b', l02_awake_spec, g2.eqb c1b', IsN.zero.isZero]

theorem l02_WideGoes_true {a b m : Nat → Int} (ha : Go.Den.Good (.arr 4 (.int .u64)) a) (hb : Go.Den.Good (.arr 4 (.int .u64)) b) (hm : Go.Den.Good (.arr 4 (.int .u64)) m) : l02_WideGoes' a b m = some () := by
  have hc : ∃ z, IsN (upd (upd (upd (upd (fun _ => 0) 0 (a 3)) 1 (b 2)) 2 (a 1)) 3 (b 0)) z := by
    obtain ⟨x, hx⟩ := good_nat ha
    obtain ⟨y, hy⟩ := good_nat hb
    obtain ⟨x0, x1, x2, x3, e0, e1, e2, e3, h0, h1, h2, h3, hn⟩ := hx.get
    obtain ⟨y0, y1, y2, y3, f0, f1, f2, f3, g0, g1, g2, g3, hm⟩ := hy.get
    rw [e3, f2, e1, f0]
    exact ⟨_, isN4 h3 g2 h1 g0⟩
  obtain ⟨x, hx⟩ := good_nat ha
  obtain ⟨y, hy⟩ := good_nat hb
  obtain ⟨M, hM⟩ := good_nat hm
  obtain ⟨z, hz⟩ := hc
  unfold l02_WideGoes'
  generalize upd (upd (upd (upd (fun _ => 0) 0 (a 3)) 1 (b 2)) 2 (a 1)) 3 (b 0) = c at *
  by_cases h0 : M = 0
  · subst h0
    simp (disch := omega) only [wrap_i64n, wrapun, dec_t, dec_f, inb_t, cond_true, cond_false, Int.toNat_natCast, beq_t, beq_f, bne_t, bne_f, Bool.not_true, Bool.not_false, Int.reduceToNat, ft_b, tf_b, tt_b, ff_b, decide_true, decide_false, hM.isZero, l02_awake_spec]
  · have hp : 0 < M := by omega
    obtain ⟨s, s1, s2⟩ := wide_AddMod_spec hx hy hM hp
    obtain ⟨l, l1, l2⟩ := wide_MulMod_spec hz s2 hM hp
    obtain ⟨u, u1, u2⟩ := wide_MulMod_spec hz hx hM hp
    obtain ⟨v, v1, v2⟩ := wide_MulMod_spec hz hy hM hp
    obtain ⟨r, r1, r2⟩ := wide_AddMod_spec u2 v2 hM hp
    obtain ⟨d, d1, d2⟩ := wide_SubMod_spec s2 hy hM hp
    obtain ⟨t, t1, t2⟩ := wide_Rem_spec0 hx hM hp
    obtain ⟨p, p1, p2⟩ := wide_MulMod_spec hx hy hM hp
    obtain ⟨q, q1, q2⟩ := wide_MulMod_spec hy hx hM hp
    have e1 : z * ((x + y) % M) % M = (z * x % M + z * y % M) % M := by
      rw [← Nat.add_mod, ← Nat.mul_add]
      exact mod_mul_mod rfl (Nat.mod_mod _ _)
    have e2 : ((x + y) % M + (M - y % M)) % M = x % M := by
      apply mod_add_cancel (c := y)
      rw [sub_mod_add hp, Nat.mod_mod]
    have e3 : x * y % M = y * x % M := by rw [Nat.mul_comm]
    have hc : cmpI (z * ((x + y) % M) % M) M < 0 := by
      unfold cmpI; rw [if_pos (Nat.mod_lt _ hp)]; decide
    simp (disch := first | omega | assumption) only [wrap_i64n, wrapun, dec_t, dec_f, inb_t, cond_true, cond_false, Int.toNat_natCast, beq_t, beq_f, bne_t, bne_f, Bool.not_true, Bool.not_false, Int.reduceToNat, ft_b, tf_b, tt_b, ff_b, decide_true, decide_false, hM.isZero, l02_awake_spec, s1, l1, u1, v1, r1, d1, t1, p1, q1, l2.eqb r2, d2.eqb t2, p2.eqb q2, r01_Cmp_spec l2 hM]
end Go.Pl
