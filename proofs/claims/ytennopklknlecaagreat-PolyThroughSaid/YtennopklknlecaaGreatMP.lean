/-
  Polynomials.
-/
import Derived.Test.YtennopklknlecaaGreatMD
import Derived.Test.YtennopklknlecaaGreatPpoly
set_option linter.unusedVariables false
set_option linter.unusedSimpArgs false
namespace Go.Pl
open Go Go.Den Go.Num

/-- the sum of the first so many -/
def sumI (c : Nat → Int) : Nat → Int
  | 0 => 0
  | n + 1 => sumI c n + c n
theorem sumI_congr {c d : Nat → Int} : ∀ {n : Nat}, (∀ i, i < n → c i = d i) → sumI c n = sumI d n
  | 0, _ => rfl
  | n + 1, h => by rw [sumI, sumI, sumI_congr fun i hi => h i (by omega), h n (by omega)]
theorem sumI_add (c d : Nat → Int) : ∀ n, sumI (fun i => c i + d i) n = sumI c n + sumI d n
  | 0 => rfl
  | n + 1 => by rw [sumI, sumI, sumI, sumI_add c d n]; omega
theorem sumI_mul (a : Int) (c : Nat → Int) : ∀ n, sumI (fun i => a * c i) n = a * sumI c n
  | 0 => (Int.mul_zero a).symm
  | n + 1 => by rw [sumI, sumI, sumI_mul a c n, Int.mul_add]
theorem sumI_zero {c : Nat → Int} : ∀ {n : Nat}, (∀ i, i < n → c i = 0) → sumI c n = 0
  | 0, _ => rfl
  | n + 1, h => by rw [sumI, sumI_zero fun i hi => h i (by omega), h n (by omega)]; rfl
theorem sumI_ext {c : Nat → Int} {n : Nat} (h : ∀ i, n ≤ i → c i = 0) : ∀ {m : Nat}, n ≤ m → sumI c m = sumI c n
  | 0, hm => by rw [show n = 0 by omega]
  | m + 1, hm => by
    by_cases e : n = m + 1
    · rw [e]
    · rw [sumI, sumI_ext h (m := m) (by omega), h m (by omega)]; omega
theorem sumI_dvd {q : Int} {c d : Nat → Int} : ∀ {n : Nat}, (∀ i, i < n → q ∣ c i - d i) → q ∣ sumI c n - sumI d n
  | 0, _ => by simp only [sumI]; exact ⟨0, by omega⟩
  | n + 1, h => by
    have h1 := sumI_dvd (c := c) (d := d) (n := n) fun i hi => h i (by omega)
    have h2 := h n (by omega)
    rw [sumI, sumI, show sumI c n + c n - (sumI d n + d n) = (sumI c n - sumI d n) + (c n - d n) by omega]
    exact Int.dvd_add h1 h2
theorem sumI_head (c : Nat → Int) : ∀ n, sumI c (n + 1) = c 0 + sumI (fun i => c (i + 1)) n
  | 0 => by simp only [sumI]; omega
  | n + 1 => by rw [sumI, sumI_head c n, sumI]; omega
theorem prI {q : Nat} (h : Pr q) {u v : Int} (hd : (q : Int) ∣ u * v) : (q : Int) ∣ u ∨ (q : Int) ∣ v := by
  rw [Int.ofNat_dvd_left] at *
  rw [Int.ofNat_dvd_left]
  rw [Int.natAbs_mul] at hd
  exact h.dvd_mul hd
/-- what coefficients are at a place -/
def ev (c : Nat → Int) (n : Nat) (x : Int) : Int := sumI (fun i => c i * x ^ i) n
theorem ev_succ (c : Nat → Int) (n : Nat) (x : Int) : ev c (n + 1) x = ev c n x + c n * x ^ n := rfl
theorem ev_congr {c d : Nat → Int} {n : Nat} {x : Int} (h : ∀ i, i < n → c i = d i) : ev c n x = ev d n x := sumI_congr fun i hi => by rw [h i hi]
theorem ev_add (c d : Nat → Int) (n : Nat) (x : Int) : ev (fun i => c i + d i) n x = ev c n x + ev d n x := by
  unfold ev
  rw [← sumI_add]
  exact sumI_congr fun i _ => Int.add_mul _ _ _
theorem ev_mul (a : Int) (c : Nat → Int) (n : Nat) (x : Int) : ev (fun i => a * c i) n x = a * ev c n x := by
  unfold ev
  rw [← sumI_mul]
  exact sumI_congr fun i _ => Int.mul_assoc _ _ _
theorem ev_ext {c : Nat → Int} {n m : Nat} {x : Int} (h : ∀ i, n ≤ i → c i = 0) (hm : n ≤ m) : ev c m x = ev c n x :=
  sumI_ext (fun i hi => by simp only [h i hi, Int.zero_mul]) hm
theorem ev_dvd {q : Int} {c d : Nat → Int} {n : Nat} {x : Int} (h : ∀ i, i < n → q ∣ c i - d i) : q ∣ ev c n x - ev d n x :=
  sumI_dvd fun i hi => by
    rw [← Int.sub_mul]
    exact Int.dvd_mul_of_dvd_left (h i hi)
theorem dvd_pow {q x y : Int} (h : q ∣ x - y) : ∀ n : Nat, q ∣ x ^ n - y ^ n
  | 0 => by simp only [Int.pow_zero]; exact ⟨0, by omega⟩
  | n + 1 => by
    rw [Int.pow_succ, Int.pow_succ, show x ^ n * x - y ^ n * y = (x ^ n - y ^ n) * x + y ^ n * (x - y) by rw [Int.sub_mul, Int.mul_sub]; omega]
    exact Int.dvd_add (Int.dvd_mul_of_dvd_left (dvd_pow h n)) (Int.dvd_mul_of_dvd_right h)
theorem ev_place {q : Int} {c : Nat → Int} {n : Nat} {x y : Int} (h : q ∣ x - y) : q ∣ ev c n x - ev c n y :=
  sumI_dvd fun i _ => by
    rw [← Int.mul_sub]
    exact Int.dvd_mul_of_dvd_right (dvd_pow h i)
/-! ## Products -/
/-- so many places up -/
def upC (c : Nat → Int) (j : Nat) : Nat → Int := fun t => if j ≤ t then c (t - j) else 0
theorem ev_up (c : Nat → Int) (j : Nat) (x : Int) : ∀ n, ev (upC c j) (j + n) x = x ^ j * ev c n x
  | 0 => by
    rw [Nat.add_zero]
    unfold ev
    rw [sumI_zero fun i hi => by simp only [upC]; rw [if_neg (by omega), Int.zero_mul]]
    simp only [sumI, Int.mul_zero]
  | n + 1 => by
    rw [show j + (n + 1) = (j + n) + 1 by omega, ev_succ, ev_succ, ev_up c j x n]
    simp only [upC]
    rw [if_pos (by omega), show j + n - j = n by omega, Int.mul_add, Int.pow_add]
    congr 1
    rw [← Int.mul_assoc, ← Int.mul_assoc, Int.mul_comm (c n)]
def mulC (a b : Nat → Int) (n : Nat) : Nat → Int := fun t => sumI (fun i => a i * upC b i t) n
theorem ev_mulC {a b : Nat → Int} {m : Nat} (hb : ∀ i, m ≤ i → b i = 0) (x : Int) (N : Nat) : ∀ n, n + m ≤ N → ev (mulC a b n) N x = ev a n x * ev b m x
  | 0, _ => by
    have : ev (mulC a b 0) N x = 0 := sumI_zero fun i _ => by simp only [mulC, sumI, Int.zero_mul]
    rw [this]; simp only [ev, sumI, Int.zero_mul]
  | n + 1, h => by
    have e : ev (mulC a b (n + 1)) N x = ev (mulC a b n) N x + ev (fun t => a n * upC b n t) N x := ev_add _ _ _ _
    have e2 : ev (upC b n) N x = ev (upC b n) (n + m) x := ev_ext (fun i hi => by simp only [upC]; rw [if_pos (by omega), hb _ (by omega)]) (by omega)
    rw [e, ev_mulC hb x N n (by omega), ev_mul, e2, ev_up, ev_succ, Int.add_mul, Int.mul_assoc]
/-! ## Roots -/
theorem root_step (c : Nat → Int) (r : Int) : ∀ (n : Nat), ∃ b : Nat → Int, (∀ i, n ≤ i → b i = 0) ∧ (∀ x, ev c (n + 1) x - ev c (n + 1) r = (x - r) * ev b n x) ∧ ∀ k, k < n → c (k + 1) = b k - r * b (k + 1)
  | 0 => ⟨fun _ => 0, fun _ _ => rfl, fun x => by simp only [ev, sumI, Int.pow_zero, Int.mul_zero]; omega, fun k hk => by omega⟩
  | n + 1 => by
    -- the top coefficient is split off: c_{n+1} x^{n+1}
    obtain ⟨b, h1, h2, h3⟩ := root_step (fun i => if i = n then c n + r * c (n + 1) else c i) r n
    refine ⟨fun i => if i = n then c (n + 1) else b i, fun i hi => ?_, fun x => ?_, fun k hk => ?_⟩
    · simp only; rw [if_neg (by omega), h1 i (by omega)]
    · have e1 : ∀ y, ev (fun i => if i = n then c n + r * c (n + 1) else c i) (n + 1) y = ev c n y + (c n + r * c (n + 1)) * y ^ n := fun y => by
        rw [ev_succ, ev_congr (d := c) fun i hi => if_neg (by omega)]
        simp only [if_true]
      have e2 : ev (fun i => if i = n then c (n + 1) else b i) (n + 1) x = ev b n x + c (n + 1) * x ^ n := by
        rw [ev_succ, ev_congr (d := b) fun i hi => if_neg (by omega)]
        simp only [if_true]
      have h2x := h2 x
      rw [e1, e1] at h2x
      rw [ev_succ, ev_succ, ev_succ, ev_succ, e2, Int.mul_add, ← h2x, Int.pow_succ, Int.pow_succ]
      have t1 : c (n + 1) * (x ^ n * x) = x * (c (n + 1) * x ^ n) := by rw [← Int.mul_assoc, Int.mul_comm]
      have t2 : c (n + 1) * (r ^ n * r) = r * c (n + 1) * r ^ n := by rw [← Int.mul_assoc, Int.mul_comm _ r, ← Int.mul_assoc]
      have t3 : (x - r) * (c (n + 1) * x ^ n) = x * (c (n + 1) * x ^ n) - r * c (n + 1) * x ^ n := by rw [Int.sub_mul, Int.mul_assoc r]
      rw [t1, t2, t3, Int.add_mul, Int.add_mul]
      omega
    · by_cases e : k = n
      · subst e
        simp only [if_true]
        rw [if_neg (by omega), h1 (k + 1) (by omega)]
        omega
      · have := h3 k (by omega)
        simp only
        rw [if_neg e]
        by_cases e2 : k + 1 = n
        · rw [if_pos e2] at this
          rw [if_pos e2]
          rw [h1 (k + 1) (by omega)] at this
          rw [e2]
          omega
        · rw [if_neg e2] at this
          rw [if_neg e2]
          exact this
/-- as many roots as coefficients: all coefficients are multiples of the prime -/
theorem all_roots {q : Nat} (hq : Pr q) : ∀ (n : Nat) (c : Nat → Int) (xs : Nat → Int), (∀ i j, i < n → j < n → i ≠ j → ¬ (q : Int) ∣ xs i - xs j) → (∀ j, j < n → (q : Int) ∣ ev c n (xs j)) → ∀ i, i < n → (q : Int) ∣ c i
  | 0, _, _, _, _, i, hi => by omega
  | n + 1, c, xs, hd, hr, i, hi => by
    obtain ⟨b, h1, h2, h3⟩ := root_step c (xs n) n
    have hb : ∀ i, i < n → (q : Int) ∣ b i := all_roots hq n b xs (fun i j hi hj => hd i j (by omega) (by omega)) fun j hj => by
      have e := h2 (xs j)
      have : (q : Int) ∣ (xs j - xs n) * ev b n (xs j) := by
        rw [← e]
        exact Int.dvd_sub (hr j (by omega)) (hr n (by omega))
      rcases prI hq this with h | h
      · exact absurd h (hd j n (by omega) (by omega) (by omega))
      · exact h
    have hall : ∀ i, (q : Int) ∣ b i := fun i => by
      by_cases h : i < n
      · exact hb i h
      · rw [h1 i (by omega)]; exact ⟨0, by omega⟩
    have hup : ∀ k, k < n → (q : Int) ∣ c (k + 1) := fun k hk => by
      rw [h3 k hk]
      exact Int.dvd_sub (hall k) (Int.dvd_mul_of_dvd_right (hall _))
    cases i with
    | succ k => exact hup k (by omega)
    | zero =>
      have e : ev c (n + 1) (xs n) = c 0 + sumI (fun i => c (i + 1) * xs n ^ (i + 1)) n := by
        unfold ev
        rw [sumI_head, Int.pow_zero, Int.mul_one]
      have hz := hr n (by omega)
      rw [e] at hz
      have hs : (q : Int) ∣ sumI (fun i => c (i + 1) * xs n ^ (i + 1)) n - sumI (fun _ => 0) n := sumI_dvd fun k hk => by
        rw [Int.sub_zero]
        exact Int.dvd_mul_of_dvd_left (hup k hk)
      rw [sumI_zero (c := fun _ => 0) fun _ _ => rfl, Int.sub_zero] at hs
      have := Int.dvd_sub hz hs
      rwa [Int.add_sub_cancel] at this
end Go.Pl

set_option linter.unusedVariables false
set_option linter.unusedSimpArgs false
namespace Go.Pl
open Go Go.Den Go.Num

theorem gl_lt {α : Type} {n : Nat} {f g : Nat → α} {j : Nat} (h : j < n) : glue n f g j = f j := by
  have : Nat.blt j n = true := blt_iff.2 h
  simp [glue, this]
theorem gl_eq {α : Type} {n : Nat} {f g : Nat → α} : glue n f g n = g 0 := by
  have : Nat.blt n n = false := by
    cases hb : Nat.blt n n with
    | false => rfl
    | true => exact absurd (blt_iff.1 hb) (Nat.lt_irrefl _)
  simp [glue, this]
/-- a row that grows by one -/
theorem row_snoc {n : Nat} {f : Nat → (Nat → Int)} {A : Nat → Nat} {z : Nat → Int} (hf : ∀ i, i < n → IsN (f i) (A i)) (hz : IsN z (A n)) : ∀ i, i < n + 1 → IsN (glue n f (fun j => upd (fun _ => fun _ => 0) 0 z (0 + j)) i) (A i) := by
  intro i hi
  by_cases e : i = n
  · subst e; rw [gl_eq, Nat.add_zero, upd_same]; exact hz
  · rw [gl_lt (by omega)]; exact hf i (by omega)
/-- a polynomial without coefficients at the end that are 0 -/
structure IsPol (Q n : Nat) (f : Nat → (Nat → Int)) (c : Nat → Nat) : Prop where
  is : ∀ i, i < n → IsN (f i) (c i)
  zero : ∀ k, n ≤ k → c k = 0
  lt : ∀ k, c k < Q
  top : n = 0 ∨ c (n - 1) ≠ 0
theorem IsPol.size {Q n m : Nat} {f h : Nat → (Nat → Int)} {c : Nat → Nat} (a : IsPol Q n f c) (b : IsPol Q m h c) : n = m := by
  rcases Nat.lt_trichotomy n m with h1 | h1 | h1
  · rcases b.top with h2 | h2
    · omega
    · exact absurd (a.zero _ (by omega)) h2
  · exact h1
  · rcases a.top with h2 | h2
    · omega
    · exact absurd (b.zero _ (by omega)) h2
theorem IsPol.congr {Q n : Nat} {f : Nat → (Nat → Int)} {c d : Nat → Nat} (a : IsPol Q n f c) (h : ∀ k, c k = d k) : IsPol Q n f d := by
  have : c = d := funext h
  exact this ▸ a
theorem poly_zero_spec {a : Nat → Int} {x : Nat} (h : IsN a x) : poly_zero a = some (decide (x = 0)) := by
  rw [poly_zero_eq]; unfold poly_zero'
  rw [h.eqb IsN.zero]
theorem poly_at_spec {n : Nat} (hn : n ≤ 9223372036854775807) {f : Nat → (Nat → Int)} {A : Nat → Nat} (hf : ∀ i, i < n → IsN (f i) (A i)) (k : Int) : ∃ z, poly_at n f k = some z ∧ IsN z (if 0 ≤ k ∧ k.toNat < n then A k.toNat else 0) := by
  rw [poly_at_eq]; unfold poly_at'
  by_cases h1 : k < 0
  · refine ⟨_, ?_, IsN.zero.of_eq (if_neg (by omega)).symm⟩
    simp (disch := omega) only [wrap_i64n, wrapun, dec_t, dec_f, inb_t, cond_true, cond_false, Int.toNat_natCast, beq_t, beq_f, bne_t, bne_f, Bool.not_true, Bool.not_false, Int.reduceToNat, ft_b, tf_b, tt_b, ff_b, decide_true, decide_false]
  · by_cases h2 : k ≥ (n : Int)
    · refine ⟨_, ?_, IsN.zero.of_eq (if_neg (by omega)).symm⟩
      simp (disch := omega) only [wrap_i64n, wrapun, dec_t, dec_f, inb_t, cond_true, cond_false, Int.toNat_natCast, beq_t, beq_f, bne_t, bne_f, Bool.not_true, Bool.not_false, Int.reduceToNat, ft_b, tf_b, tt_b, ff_b, decide_true, decide_false]
    · refine ⟨_, ?_, (hf k.toNat (by omega)).of_eq (if_pos (by omega)).symm⟩
      simp (disch := omega) only [wrap_i64n, wrapun, dec_t, dec_f, inb_t, cond_true, cond_false, Int.toNat_natCast, beq_t, beq_f, bne_t, bne_f, Bool.not_true, Bool.not_false, Int.reduceToNat, ft_b, tf_b, tt_b, ff_b, decide_true, decide_false]
section
variable {g : GroupT} {P Q G : Nat}
theorem trim_loop (h : IsGroup g P Q G) {c : Nat → Nat} {f : Nat → (Nat → Int)} : ∀ (n : Nat), n ≤ 1000000 → (∀ i, i < n → IsN (f i) (c i)) → (∀ k, n ≤ k → c k = 0) → (∀ k, c k < Q) →
    ∃ m, m ≤ n ∧ loopF R_poly_Trim_2 (T_poly_Trim_2 n f) = some (Y_poly_Trim_2_0 m f) ∧ IsPol Q m f c
  | 0, _, h1, h2, h3 => ⟨0, Nat.le_refl _, loopF_exit (by unfold R_poly_Trim_2; simp (disch := omega) only [add_c, add_l, l_add, mul_c, mul_l, l_mul, sub_c, sub_l, l_sub, div_c, div_l, mod_c, mod_l, tdiv_c, tdiv_l, tmod_c, tmod_l, wrap_i64n, wrapun, dec_t, dec_f, inb_t, cond_true, cond_false, Int.toNat_natCast, beq_t, beq_f, bne_t, bne_f, Bool.not_true, Bool.not_false, Int.reduceToNat, ft_b, tf_b, tt_b, ff_b, decide_true, decide_false]), h1, h2, h3, .inl rfl⟩
  | n + 1, hn, h1, h2, h3 => by
    have hz := poly_zero_spec (h1 n (by omega))
    have e1 : IntKind.i64.wrap (((n + 1 : Nat) : Int) - 1) = ((n : Nat) : Int) := by rw [wrap_i64 (by omega)]; omega
    by_cases hc : c n = 0
    · obtain ⟨m, m1, m2, m3⟩ := trim_loop h n (by omega) (fun i hi => h1 i (by omega)) (fun k hk => by
        by_cases e : k = n
        · rw [e]; exact hc
        · exact h2 k (by omega)) h3
      refine ⟨m, by omega, ?_, m3⟩
      rw [← m2]
      refine loopF_next ?_
      unfold R_poly_Trim_2
      simp (disch := omega) only [add_c, add_l, l_add, mul_c, mul_l, l_mul, sub_c, sub_l, l_sub, div_c, div_l, mod_c, mod_l, tdiv_c, tdiv_l, tmod_c, tmod_l, wrap_i64n, wrapun, dec_t, dec_f, inb_t, cond_true, cond_false, Int.toNat_natCast, beq_t, beq_f, bne_t, bne_f, Bool.not_true, Bool.not_false, Int.reduceToNat, ft_b, tf_b, tt_b, ff_b, decide_true, decide_false, e1, Nat.add_sub_cancel, Nat.zero_add, hz, hc, Nat.sub_zero, Bool.and_self]
    · refine ⟨n + 1, Nat.le_refl _, loopF_exit ?_, h1, h2, h3, .inr hc⟩
      unfold R_poly_Trim_2
      simp (disch := omega) only [add_c, add_l, l_add, mul_c, mul_l, l_mul, sub_c, sub_l, l_sub, div_c, div_l, mod_c, mod_l, tdiv_c, tdiv_l, tmod_c, tmod_l, wrap_i64n, wrapun, dec_t, dec_f, inb_t, cond_true, cond_false, Int.toNat_natCast, beq_t, beq_f, bne_t, bne_f, Bool.not_true, Bool.not_false, Int.reduceToNat, ft_b, tf_b, tt_b, ff_b, decide_true, decide_false, e1, Nat.add_sub_cancel, Nat.zero_add, hz, hc, Bool.and_self]
theorem poly_Trim_spec (h : IsGroup g P Q G) {n : Nat} (hn : n ≤ 1000000) {f : Nat → (Nat → Int)} {A : Nat → Nat} (hf : ∀ i, i < n → IsN (f i) (A i)) :
    ∃ m z, poly_Trim (some g) n f = some (((m, z), ()), ()) ∧ m ≤ n ∧ IsPol Q m z (fun k => if k < n then A k % Q else 0) := by
  have hQ := h.qpos
  obtain ⟨r, r1, hr⟩ := group_Field_spec h
  rw [poly_Trim_eq]; unfold poly_Trim'
  simp (disch := omega) only [r1]
  obtain ⟨z, hy, hP⟩ := loop_for (R := R_poly_Trim_0) (fun i (out : Nat → (Nat → Int)) => T_poly_Trim_0 g i out n f (n : Int) (i : Int)) (fun out => Y_poly_Trim_0_0 n out) (fun i out => ∀ j, j < i → IsN (out j) (A j % Q)) n
    (fun i hi out hP => by
      obtain ⟨s, s1, s2⟩ := field_Add_spec h (hf i hi) IsN.zero
      have b1 : Nat.ble ((i + 1) * 32) 140737488355328 = true := Nat.ble_eq_true_of_le (by omega)
      have b2 : Nat.ble (i + 1) 9223372036854775807 = true := Nat.ble_eq_true_of_le (by omega)
      refine ⟨glue i out (fun j => upd (fun _ => fun _ => 0) 0 s (0 + j)), ?_, row_snoc (A := fun k => A k % Q) hP (s2.of_eq (by rw [Nat.add_zero]))⟩
      unfold R_poly_Trim_0
      simp (disch := omega) only [add_c, add_l, l_add, mul_c, mul_l, l_mul, sub_c, sub_l, l_sub, div_c, div_l, mod_c, mod_l, tdiv_c, tdiv_l, tmod_c, tmod_l, wrap_i64n, wrapun, dec_t, dec_f, inb_t, cond_true, cond_false, Int.toNat_natCast, beq_t, beq_f, bne_t, bne_f, Bool.not_true, Bool.not_false, Int.reduceToNat, ft_b, tf_b, tt_b, ff_b, decide_true, decide_false, s1, b1, b2, Bool.and_self])
    (fun out hP => by
      unfold R_poly_Trim_0
      simp (disch := omega) only [add_c, add_l, l_add, mul_c, mul_l, l_mul, sub_c, sub_l, l_sub, div_c, div_l, mod_c, mod_l, tdiv_c, tdiv_l, tmod_c, tmod_l, wrap_i64n, wrapun, dec_t, dec_f, inb_t, cond_true, cond_false, Int.toNat_natCast, beq_t, beq_f, bne_t, bne_f, Bool.not_true, Bool.not_false, Int.reduceToNat, ft_b, tf_b, tt_b, ff_b, decide_true, decide_false]) (fun _ => fun _ => 0) (fun j hj => by omega)
  have hy' : loopF R_poly_Trim_0 ((g, ((0, fun _ => fun _ => 0), ((n, f), ((n : Int), (0, ()))))), ()) = some (Y_poly_Trim_0_0 n z) := hy
  obtain ⟨m, m1, m2, m3⟩ := trim_loop h (c := fun k => if k < n then A k % Q else 0) (f := z) n hn (fun i hi => (hP i hi).of_eq (if_pos hi).symm) (fun k hk => if_neg (by omega)) (fun k => by
    split
    · exact Nat.mod_lt _ hQ
    · exact hQ)
  have m2' : loopF R_poly_Trim_2 (((n, z), ()), ()) = some (Y_poly_Trim_2_0 m z) := m2
  exact ⟨m, z, by simp only [hy', m2'], m1, m3⟩
/-- coefficients, and 0 behind them -/
def pad (A : Nat → Nat) (n : Nat) : Nat → Nat := fun k => if k < n then A k else 0
theorem pad_zero {A : Nat → Nat} {n k : Nat} (h : n ≤ k) : pad A n k = 0 := if_neg (by omega)
theorem at_nat {n : Nat} (hn : n ≤ 1000000) {f : Nat → (Nat → Int)} {A : Nat → Nat} (hf : ∀ i, i < n → IsN (f i) (A i)) (k : Nat) : ∃ z, poly_at n f (k : Int) = some z ∧ IsN z (pad A n k) := by
  obtain ⟨z, z1, z2⟩ := poly_at_spec (by omega) hf (k : Int)
  refine ⟨z, z1, z2.of_eq ?_⟩
  unfold pad
  by_cases h : k < n
  · rw [if_pos (by omega), if_pos h]; rfl
  · rw [if_neg (by omega), if_neg h]
theorem poly_Add_1_spec (h : IsGroup g P Q G) {na nb : Nat} (hna : na ≤ 1000000) (hnb : nb ≤ 1000000) {a b : Nat → (Nat → Int)} {A B : Nat → Nat} (ha : ∀ i, i < na → IsN (a i) (A i)) (hb : ∀ i, i < nb → IsN (b i) (B i)) (k : Nat) :
    ∃ z, poly_Add_1 (k : Int) (some (.fz g)) (some (.fz na a)) (some (.fz nb b)) = some z ∧ IsN z ((pad A na k + pad B nb k) % Q) := by
  obtain ⟨x, x1, x2⟩ := at_nat hna ha k
  obtain ⟨y, y1, y2⟩ := at_nat hnb hb k
  obtain ⟨z, z1, z2⟩ := field_Add_spec h x2 y2
  refine ⟨z, ?_, z2⟩
  rw [poly_Add_1_eq]; unfold poly_Add_1'
  simp only [PtrV.isRf, PtrV.isNil, SlV.isMs, SlV.len, SlV.fn, PtrV.val, cond_false, x1, y1, z1]
theorem poly_Add_spec (h : IsGroup g P Q G) {na nb : Nat} (hna : na ≤ 1000000) (hnb : nb ≤ 1000000) {a b : Nat → (Nat → Int)} {A B : Nat → Nat} (ha : ∀ i, i < na → IsN (a i) (A i)) (hb : ∀ i, i < nb → IsN (b i) (B i)) :
    ∃ m z, poly_Add (some g) na a nb b = some (((m, z), ()), ()) ∧ m ≤ max na nb ∧ IsPol Q m z (fun k => (pad A na k + pad B nb k) % Q) := by
  have hQ := h.qpos
  rw [poly_Add_eq]; unfold poly_Add'
  have hmax : (if ((na : Nat) : Int) < ((nb : Nat) : Int) then ((nb : Nat) : Int) else ((na : Nat) : Int)) = ((max na nb : Nat) : Int) := by
    split <;> omega
  simp only [hmax]
  obtain ⟨N, hN⟩ : ∃ N, N = max na nb := ⟨_, rfl⟩
  rw [← hN]
  obtain ⟨z, hy, hP⟩ := loop_for (R := R_poly_Add_93_0) (fun i (out : Nat → (Nat → Int)) => T_poly_Add_93_0 g i out (N : Int) (i : Int) g na a nb b) (fun out => Y_poly_Add_93_0_0 g N out g na a nb b) (fun i out => ∀ j, j < i → IsN (out j) ((pad A na j + pad B nb j) % Q)) N
    (fun i hi out hP => by
      obtain ⟨s, s1, s2⟩ := poly_Add_1_spec h hna hnb ha hb i
      have b1 : Nat.ble ((i + 1) * 32) 140737488355328 = true := Nat.ble_eq_true_of_le (by omega)
      have b2 : Nat.ble (i + 1) 9223372036854775807 = true := Nat.ble_eq_true_of_le (by omega)
      refine ⟨glue i out (fun j => upd (fun _ => fun _ => 0) 0 s (0 + j)), ?_, row_snoc (A := fun k => (pad A na k + pad B nb k) % Q) hP s2⟩
      unfold R_poly_Add_93_0
      simp (disch := omega) only [add_c, add_l, l_add, mul_c, mul_l, l_mul, sub_c, sub_l, l_sub, div_c, div_l, mod_c, mod_l, tdiv_c, tdiv_l, tmod_c, tmod_l, wrap_i64n, wrapun, dec_t, dec_f, inb_t, cond_true, cond_false, Int.toNat_natCast, beq_t, beq_f, bne_t, bne_f, Bool.not_true, Bool.not_false, Int.reduceToNat, ft_b, tf_b, tt_b, ff_b, decide_true, decide_false, s1, b1, b2, Bool.and_self])
    (fun out hP => by
      unfold R_poly_Add_93_0
      simp (disch := omega) only [add_c, add_l, l_add, mul_c, mul_l, l_mul, sub_c, sub_l, l_sub, div_c, div_l, mod_c, mod_l, tdiv_c, tdiv_l, tmod_c, tmod_l, wrap_i64n, wrapun, dec_t, dec_f, inb_t, cond_true, cond_false, Int.toNat_natCast, beq_t, beq_f, bne_t, bne_f, Bool.not_true, Bool.not_false, Int.reduceToNat, ft_b, tf_b, tt_b, ff_b, decide_true, decide_false]) (fun _ => fun _ => 0) (fun j hj => by omega)
  have hy' : loopF R_poly_Add_93_0 ((g, ((), ((0, fun _ => fun _ => 0), ((N : Int), (0, ()))))), (g, ((na, a), ((nb, b), ())))) = some (Y_poly_Add_93_0_0 g N z g na a nb b) := hy
  obtain ⟨m, w, m1, m2, m3⟩ := poly_Trim_spec h (n := N) (by omega) (f := fun j => z (0 + j)) (A := fun k => (pad A na k + pad B nb k) % Q) (fun i hi => by rw [Nat.zero_add]; exact hP i hi)
  refine ⟨m, w, by simp only [hy', m1], by omega, m3.congr fun k => ?_⟩
  by_cases hk : k < N
  · rw [if_pos hk, Nat.mod_mod]
  · rw [if_neg hk, pad_zero (by omega), pad_zero (by omega), Nat.zero_mod]
theorem poly_scaled_1_spec (h : IsGroup g P Q G) {n : Nat} (hn : n ≤ 1000000) {f : Nat → (Nat → Int)} {A : Nat → Nat} (hf : ∀ i, i < n → IsN (f i) (A i)) {b : Nat → Int} {v : Nat} (hb : IsN b v) (up k : Nat) (hup : up ≤ 1000000) (hk : k ≤ 2000000) :
    ∃ z, poly_scaled_1 (k : Int) (some (.fz g)) (some (.fz n f)) (some (up : Int)) (some b) = some z ∧ IsN z ((if up ≤ k then pad A n (k - up) else 0) * v % Q) := by
  have e1 : IntKind.i64.wrap ((k : Int) - (up : Int)) = (k : Int) - up := wrap_i64 (by omega)
  obtain ⟨x, x1, x2⟩ := poly_at_spec (by omega) hf ((k : Int) - up)
  have x3 := x2.of_eq (m := if up ≤ k then pad A n (k - up) else 0) (by
    unfold pad
    by_cases h1 : up ≤ k
    · rw [if_pos h1]
      have e : ((k : Int) - up).toNat = k - up := by omega
      rw [e]
      by_cases h2 : k - up < n
      · rw [if_pos ⟨by omega, h2⟩, if_pos h2]
      · rw [if_neg fun h => h2 h.2, if_neg h2]
    · rw [if_neg h1, if_neg (by omega)])
  obtain ⟨z, z1, z2⟩ := field_Mul_spec h x3 hb
  refine ⟨z, ?_, z2⟩
  rw [poly_scaled_1_eq]; unfold poly_scaled_1'
  simp only [PtrV.isRf, PtrV.isNil, SlV.isMs, SlV.len, SlV.fn, PtrV.val, cond_false, e1, x1, z1]
theorem poly_scaled_spec (h : IsGroup g P Q G) {n : Nat} (hn : n ≤ 100000) {f : Nat → (Nat → Int)} {A : Nat → Nat} (hf : ∀ i, i < n → IsN (f i) (A i)) {b : Nat → Int} {v : Nat} (hb : IsN b v) {up : Nat} (hup : up ≤ 100000) :
    ∃ m z, poly_scaled (some g) n f b (up : Int) = some (((m, z), ()), ()) ∧ m ≤ n + up ∧ IsPol Q m z (fun k => (if up ≤ k then pad A n (k - up) else 0) * v % Q) := by
  have hQ := h.qpos
  rw [poly_scaled_eq]; unfold poly_scaled'
  have e0 : IntKind.i64.wrap (((n : Nat) : Int) + (up : Int)) = ((n + up : Nat) : Int) := by rw [wrap_i64 (by omega)]; omega
  simp only [e0]
  obtain ⟨N, hN⟩ : ∃ N, N = n + up := ⟨_, rfl⟩
  rw [← hN]
  obtain ⟨z, hy, hP⟩ := loop_for (R := R_poly_scaled_93_0) (fun i (out : Nat → (Nat → Int)) => T_poly_scaled_93_0 g i out (N : Int) (i : Int) g n f b (up : Int)) (fun out => Y_poly_scaled_93_0_0 g N out g n f b (up : Int)) (fun i out => ∀ j, j < i → IsN (out j) ((if up ≤ j then pad A n (j - up) else 0) * v % Q)) N
    (fun i hi out hP => by
      obtain ⟨s, s1, s2⟩ := poly_scaled_1_spec h (by omega) hf hb up i (by omega) (by omega)
      have b1 : Nat.ble ((i + 1) * 32) 140737488355328 = true := Nat.ble_eq_true_of_le (by omega)
      have b2 : Nat.ble (i + 1) 9223372036854775807 = true := Nat.ble_eq_true_of_le (by omega)
      refine ⟨glue i out (fun j => upd (fun _ => fun _ => 0) 0 s (0 + j)), ?_, row_snoc (A := fun j => (if up ≤ j then pad A n (j - up) else 0) * v % Q) hP s2⟩
      unfold R_poly_scaled_93_0
      simp (disch := omega) only [add_c, add_l, l_add, mul_c, mul_l, l_mul, sub_c, sub_l, l_sub, div_c, div_l, mod_c, mod_l, tdiv_c, tdiv_l, tmod_c, tmod_l, wrap_i64n, wrapun, dec_t, dec_f, inb_t, cond_true, cond_false, Int.toNat_natCast, beq_t, beq_f, bne_t, bne_f, Bool.not_true, Bool.not_false, Int.reduceToNat, ft_b, tf_b, tt_b, ff_b, decide_true, decide_false, s1, b1, b2, Bool.and_self])
    (fun out hP => by
      unfold R_poly_scaled_93_0
      simp (disch := omega) only [add_c, add_l, l_add, mul_c, mul_l, l_mul, sub_c, sub_l, l_sub, div_c, div_l, mod_c, mod_l, tdiv_c, tdiv_l, tmod_c, tmod_l, wrap_i64n, wrapun, dec_t, dec_f, inb_t, cond_true, cond_false, Int.toNat_natCast, beq_t, beq_f, bne_t, bne_f, Bool.not_true, Bool.not_false, Int.reduceToNat, ft_b, tf_b, tt_b, ff_b, decide_true, decide_false]) (fun _ => fun _ => 0) (fun j hj => by omega)
  have hy' : loopF R_poly_scaled_93_0 ((g, ((), ((0, fun _ => fun _ => 0), ((N : Int), (0, ()))))), (g, ((n, f), (b, ((up : Int), ()))))) = some (Y_poly_scaled_93_0_0 g N z g n f b (up : Int)) := hy
  obtain ⟨m, w, m1, m2, m3⟩ := poly_Trim_spec h (n := N) (by omega) (f := fun j => z (0 + j)) (A := fun j => (if up ≤ j then pad A n (j - up) else 0) * v % Q) (fun i hi => by rw [Nat.zero_add]; exact hP i hi)
  refine ⟨m, w, by simp only [hy', m1], by omega, m3.congr fun k => ?_⟩
  by_cases hk : k < N
  · rw [if_pos hk, Nat.mod_mod]
  · rw [if_neg hk, if_pos (by omega), pad_zero (by omega), Nat.zero_mul, Nat.zero_mod]
/-- a coefficient of a product -/
def mulN (A B : Nat → Nat) (na nb k : Nat) : Nat := dotN A (fun i => if i ≤ k then pad B nb (k - i) else 0) na
theorem poly_Mul_1_spec (h : IsGroup g P Q G) {na nb : Nat} (hna : na ≤ 1000000) (hnb : nb ≤ 1000000) {a b : Nat → (Nat → Int)} {A B : Nat → Nat} (ha : ∀ i, i < na → IsN (a i) (A i)) (hb : ∀ i, i < nb → IsN (b i) (B i)) (k : Nat) (hk : k ≤ 2000000) :
    ∃ z, poly_Mul_1 (k : Int) (some (.fz na a)) (some (.fz g)) (some (.fz nb b)) = some z ∧ IsN z (mulN A B na nb k % Q) := by
  have hQ := h.qpos
  rw [poly_Mul_1_eq]; unfold poly_Mul_1'
  obtain ⟨z, hy, hP⟩ := loop_for (R := R_poly_Mul_1_0) (fun i (out : Nat → Int) => T_poly_Mul_1_0 (k : Int) (.fz na a) (.fz g) (.fz nb b) (na : Int) (i : Int) (fun _ => 0) out) (fun out => Y_poly_Mul_1_0_0 (fun _ => 0) out) (fun i out => IsN out (dotN A (fun i => if i ≤ k then pad B nb (k - i) else 0) i % Q)) na
    (fun i hi out hP => by
      have e1 : IntKind.i64.wrap ((k : Int) - (i : Int)) = (k : Int) - i := wrap_i64 (by omega)
      obtain ⟨x, x1, x2⟩ := poly_at_spec (by omega) hb ((k : Int) - i)
      have x3 := x2.of_eq (m := if i ≤ k then pad B nb (k - i) else 0) (by
        unfold pad
        by_cases h1 : i ≤ k
        · rw [if_pos h1]
          have e : ((k : Int) - i).toNat = k - i := by omega
          rw [e]
          by_cases h2 : k - i < nb
          · rw [if_pos ⟨by omega, h2⟩, if_pos h2]
          · rw [if_neg fun h => h2 h.2, if_neg h2]
        · rw [if_neg h1, if_neg (by omega)])
      obtain ⟨y, y1, y2⟩ := field_Mul_spec h (ha i hi) x3
      obtain ⟨w, w1, w2⟩ := field_Add_spec h hP y2
      refine ⟨w, ?_, w2.of_eq (by rw [dotN, ← Nat.add_mod])⟩
      unfold R_poly_Mul_1_0
      simp (disch := omega) only [add_c, add_l, l_add, mul_c, mul_l, l_mul, sub_c, sub_l, l_sub, div_c, div_l, mod_c, mod_l, tdiv_c, tdiv_l, tmod_c, tmod_l, wrap_i64n, wrapun, dec_t, dec_f, inb_t, cond_true, cond_false, Int.toNat_natCast, beq_t, beq_f, bne_t, bne_f, Bool.not_true, Bool.not_false, Int.reduceToNat, ft_b, tf_b, tt_b, ff_b, decide_true, decide_false, PtrV.isRf, PtrV.isNil, SlV.isMs, SlV.len, SlV.fn, PtrV.val, e1, x1, y1, w1])
    (fun out hP => by
      unfold R_poly_Mul_1_0
      simp (disch := omega) only [add_c, add_l, l_add, mul_c, mul_l, l_mul, sub_c, sub_l, l_sub, div_c, div_l, mod_c, mod_l, tdiv_c, tdiv_l, tmod_c, tmod_l, wrap_i64n, wrapun, dec_t, dec_f, inb_t, cond_true, cond_false, Int.toNat_natCast, beq_t, beq_f, bne_t, bne_f, Bool.not_true, Bool.not_false, Int.reduceToNat, ft_b, tf_b, tt_b, ff_b, decide_true, decide_false]) (fun _ => 0) (IsN.zero.of_eq (by simp only [dotN, Nat.zero_mod]))
  have hy' : loopF R_poly_Mul_1_0 (((k : Int), (SlV.fz na a, (PtrV.fz g, (SlV.fz nb b, ((), ((), ((na : Int), (0, ())))))))), ((fun _ => 0), ((fun _ => 0), ()))) = some (Y_poly_Mul_1_0_0 (fun _ => 0) z) := hy
  refine ⟨z, ?_, hP⟩
  simp only [SlV.isMs, SlV.len, cond_false, hy']
theorem mulN_zero {A B : Nat → Nat} {na nb k : Nat} (h : na + nb ≤ k) : mulN A B na nb k = 0 := by
  unfold mulN
  have : ∀ n, n ≤ na → dotN A (fun i => if i ≤ k then pad B nb (k - i) else 0) n = 0 := by
    intro n
    induction n with
    | zero => intro _; rfl
    | succ n ih =>
      intro hn
      rw [dotN, ih (by omega)]
      rw [if_pos (by omega), pad_zero (by omega), Nat.mul_zero]
  exact this na (Nat.le_refl _)
theorem poly_Mul_spec (h : IsGroup g P Q G) {na nb : Nat} (hna : na ≤ 100000) (hnb : nb ≤ 100000) {a b : Nat → (Nat → Int)} {A B : Nat → Nat} (ha : ∀ i, i < na → IsN (a i) (A i)) (hb : ∀ i, i < nb → IsN (b i) (B i)) :
    ∃ m z, poly_Mul (some g) na a nb b = some (((m, z), ()), ()) ∧ m ≤ na + nb ∧ IsPol Q m z (fun k => mulN A B na nb k % Q) := by
  have hQ := h.qpos
  rw [poly_Mul_eq]; unfold poly_Mul'
  have e0 : IntKind.i64.wrap (((na : Nat) : Int) + ((nb : Nat) : Int)) = ((na + nb : Nat) : Int) := by rw [wrap_i64 (by omega)]; omega
  simp only [e0]
  obtain ⟨N, hN⟩ : ∃ N, N = na + nb := ⟨_, rfl⟩
  rw [← hN]
  obtain ⟨z, hy, hP⟩ := loop_for (R := R_poly_Mul_93_0) (fun i (out : Nat → (Nat → Int)) => T_poly_Mul_93_0 g i out (N : Int) (i : Int) g na a nb b) (fun out => Y_poly_Mul_93_0_0 g N out g na a nb b) (fun i out => ∀ j, j < i → IsN (out j) (mulN A B na nb j % Q)) N
    (fun i hi out hP => by
      obtain ⟨s, s1, s2⟩ := poly_Mul_1_spec h (by omega) (by omega) ha hb i (by omega)
      have b1 : Nat.ble ((i + 1) * 32) 140737488355328 = true := Nat.ble_eq_true_of_le (by omega)
      have b2 : Nat.ble (i + 1) 9223372036854775807 = true := Nat.ble_eq_true_of_le (by omega)
      refine ⟨glue i out (fun j => upd (fun _ => fun _ => 0) 0 s (0 + j)), ?_, row_snoc (A := fun k => mulN A B na nb k % Q) hP s2⟩
      unfold R_poly_Mul_93_0
      simp (disch := omega) only [add_c, add_l, l_add, mul_c, mul_l, l_mul, sub_c, sub_l, l_sub, div_c, div_l, mod_c, mod_l, tdiv_c, tdiv_l, tmod_c, tmod_l, wrap_i64n, wrapun, dec_t, dec_f, inb_t, cond_true, cond_false, Int.toNat_natCast, beq_t, beq_f, bne_t, bne_f, Bool.not_true, Bool.not_false, Int.reduceToNat, ft_b, tf_b, tt_b, ff_b, decide_true, decide_false, s1, b1, b2, Bool.and_self])
    (fun out hP => by
      unfold R_poly_Mul_93_0
      simp (disch := omega) only [add_c, add_l, l_add, mul_c, mul_l, l_mul, sub_c, sub_l, l_sub, div_c, div_l, mod_c, mod_l, tdiv_c, tdiv_l, tmod_c, tmod_l, wrap_i64n, wrapun, dec_t, dec_f, inb_t, cond_true, cond_false, Int.toNat_natCast, beq_t, beq_f, bne_t, bne_f, Bool.not_true, Bool.not_false, Int.reduceToNat, ft_b, tf_b, tt_b, ff_b, decide_true, decide_false]) (fun _ => fun _ => 0) (fun j hj => by omega)
  have hy' : loopF R_poly_Mul_93_0 ((g, ((), ((0, fun _ => fun _ => 0), ((N : Int), (0, ()))))), (g, ((na, a), ((nb, b), ())))) = some (Y_poly_Mul_93_0_0 g N z g na a nb b) := hy
  obtain ⟨m, w, m1, m2, m3⟩ := poly_Trim_spec h (n := N) (by omega) (f := fun j => z (0 + j)) (A := fun k => mulN A B na nb k % Q) (fun i hi => by rw [Nat.zero_add]; exact hP i hi)
  refine ⟨m, w, by simp only [hy', m1], by omega, m3.congr fun k => ?_⟩
  by_cases hk : k < N
  · rw [if_pos hk, Nat.mod_mod]
  · rw [if_neg hk, mulN_zero (by omega), Nat.zero_mod]
end
end Go.Pl

set_option linter.unusedVariables false
set_option linter.unusedSimpArgs false
namespace Go.Pl
open Go Go.Den Go.Num

/-! ## The same, but for multiples -/
def Cg (Q : Nat) (a b : Int) : Prop := (Q : Int) ∣ a - b
theorem Cg.refl (Q : Nat) (a : Int) : Cg Q a a := ⟨0, by omega⟩
theorem Cg.of_eq {Q : Nat} {a b : Int} (h : a = b) : Cg Q a b := h ▸ Cg.refl Q a
theorem Cg.symm {Q : Nat} {a b : Int} (h : Cg Q a b) : Cg Q b a := by
  have := Int.dvd_neg.2 h
  unfold Cg
  rwa [show b - a = -(a - b) by omega]
theorem Cg.trans {Q : Nat} {a b c : Int} (h : Cg Q a b) (h' : Cg Q b c) : Cg Q a c := by
  have := Int.dvd_add h h'
  unfold Cg
  rwa [show a - c = a - b + (b - c) by omega]
theorem Cg.add {Q : Nat} {a b c d : Int} (h : Cg Q a b) (h' : Cg Q c d) : Cg Q (a + c) (b + d) := by
  have := Int.dvd_add h h'
  unfold Cg
  rwa [show a + c - (b + d) = a - b + (c - d) by omega]
theorem Cg.sub {Q : Nat} {a b c d : Int} (h : Cg Q a b) (h' : Cg Q c d) : Cg Q (a - c) (b - d) := by
  have := Int.dvd_sub h h'
  unfold Cg
  rwa [show a - c - (b - d) = a - b - (c - d) by omega]
theorem Cg.mul {Q : Nat} {a b c d : Int} (h : Cg Q a b) (h' : Cg Q c d) : Cg Q (a * c) (b * d) := by
  have := Int.dvd_add (Int.dvd_mul_of_dvd_left (c := c) h) (Int.dvd_mul_of_dvd_right (b := b) h')
  unfold Cg
  rwa [show a * c - b * d = (a - b) * c + b * (c - d) by rw [Int.sub_mul, Int.mul_sub]; omega]
theorem Cg.nat (Q a : Nat) : Cg Q ((a % Q : Nat) : Int) (a : Int) := by
  refine ⟨-((a / Q : Nat) : Int), ?_⟩
  have := Nat.div_add_mod a Q
  have e : (a : Int) = (Q : Int) * ((a / Q : Nat) : Int) + ((a % Q : Nat) : Int) := by rw [← Int.natCast_mul, ← Int.natCast_add, this]
  rw [Int.mul_neg]
  omega
theorem Cg.eq {Q a b : Nat} (h : Cg Q (a : Int) (b : Int)) (ha : a < Q) (hb : b < Q) : a = b := by
  obtain ⟨k, hk⟩ := h
  by_cases h0 : k = 0
  · subst h0; omega
  · rcases Int.lt_or_gt_of_ne h0 with h1 | h1
    · have : (Q : Int) * k ≤ (Q : Int) * (-1) := Int.mul_le_mul_of_nonneg_left (by omega) (by omega)
      omega
    · have : (Q : Int) * 1 ≤ (Q : Int) * k := Int.mul_le_mul_of_nonneg_left (by omega) (by omega)
      omega
theorem Cg.zero {Q a : Nat} (ha : a < Q) : Cg Q (a : Int) 0 ↔ a = 0 := ⟨fun h => Cg.eq (b := 0) h ha (by omega), fun h => by subst h; exact Cg.refl _ _⟩
/-- coefficients, as whole numbers -/
def cI (c : Nat → Nat) : Nat → Int := fun k => (c k : Int)
theorem dotN_cast (A B : Nat → Nat) : ∀ n, ((dotN A B n : Nat) : Int) = sumI (fun i => (A i : Int) * (B i : Int)) n
  | 0 => rfl
  | n + 1 => by rw [dotN, sumI, ← dotN_cast A B n, Int.natCast_add, Int.natCast_mul]
theorem mulN_cast (A B : Nat → Nat) (na nb k : Nat) : ((mulN A B na nb k : Nat) : Int) = mulC (cI A) (cI (pad B nb)) na k := by
  unfold mulN mulC
  rw [dotN_cast]
  refine sumI_congr fun i _ => ?_
  simp only [cI, upC]
  congr 1
  split <;> rfl
/-- what a polynomial is at a place -/
def E (c : Nat → Nat) (x : Int) : Int := ev (cI c) 1000 x
theorem E_eq {c : Nat → Nat} {n : Nat} (h : ∀ k, n ≤ k → c k = 0) (hn : n ≤ 1000) (x : Int) : E c x = ev (cI c) n x := ev_ext (fun i hi => by simp only [cI, h i hi]; rfl) hn
theorem E_pad {c : Nat → Nat} {n : Nat} (hn : n ≤ 1000) (x : Int) : E (pad c n) x = ev (cI c) n x := by
  rw [E_eq (c := pad c n) (n := n) (fun k hk => pad_zero hk) hn]
  exact ev_congr fun i hi => by simp only [cI, pad, if_pos hi]
theorem E_place {Q : Nat} {c : Nat → Nat} {x y : Int} (h : Cg Q x y) : Cg Q (E c x) (E c y) := ev_place h
section
variable {g : GroupT} {P Q G : Nat}
theorem evalGo_spec (h : IsGroup g P Q G) {x : Nat → Int} {X : Nat} (hx : IsN x X) {f : Nat → (Nat → Int)} {A : Nat → Nat} : ∀ (n : Nat) (o : Nat → Int) (v : Nat), (∀ i, i < n → IsN (f i) (A i)) → IsN o v → v < Q →
    ∃ z w, poly_EvalGo (some g) f x n o = some z ∧ IsN z w ∧ w < Q ∧ Cg Q (w : Int) ((v : Int) * (X : Int) ^ n + ev (cI A) n X)
  | 0, o, v, _, ho, hv => ⟨o, v, rfl, ho, hv, Cg.of_eq (by simp only [ev, sumI, Int.pow_zero]; omega)⟩
  | n + 1, o, v, hf, ho, hv => by
    obtain ⟨m, m1, m2⟩ := field_Mul_spec h ho hx
    obtain ⟨a, a1, a2⟩ := field_Add_spec h m2 (hf n (by omega))
    obtain ⟨z, w, z1, z2, z3, z4⟩ := evalGo_spec h hx n a _ (fun i hi => hf i (by omega)) a2 (Nat.mod_lt _ h.qpos)
    refine ⟨z, w, ?_, z2, z3, z4.trans ?_⟩
    · simp only [poly_EvalGo, poly_EvalR, m1, a1, z1]
    · have e1 : Cg Q (((v * X % Q + A n) % Q : Nat) : Int) ((v : Int) * X + A n) := (Cg.nat Q _).trans (by
        rw [Int.natCast_add]
        refine ((Cg.nat Q (v * X)).trans (Cg.of_eq (Int.natCast_mul _ _))).add (Cg.refl _ _))
      refine ((e1.mul (Cg.refl Q ((X : Int) ^ n))).add (Cg.refl Q (ev (cI A) n X))).trans (Cg.of_eq ?_)
      rw [ev_succ, Int.add_mul, Int.pow_succ]
      simp only [cI]
      have : (v : Int) * X * (X : Int) ^ n = v * ((X : Int) ^ n * X) := by rw [Int.mul_assoc, Int.mul_comm (X : Int) ((X : Int) ^ n)]
      rw [this]; omega
theorem poly_Eval_spec (h : IsGroup g P Q G) {n : Nat} (hn : n ≤ 1000) {f : Nat → (Nat → Int)} {A : Nat → Nat} (hf : ∀ i, i < n → IsN (f i) (A i)) {x : Nat → Int} {X : Nat} (hx : IsN x X) :
    ∃ z w, poly_Eval (some g) n f x = some z ∧ IsN z w ∧ w < Q ∧ Cg Q (w : Int) (ev (cI A) n X) := by
  obtain ⟨z, w, z1, z2, z3, z4⟩ := evalGo_spec h hx n (fun _ => 0) 0 hf IsN.zero h.qpos
  refine ⟨z, w, ?_, z2, z3, z4.trans (Cg.of_eq (by simp only [Int.natCast_zero, Int.zero_mul]; omega))⟩
  rw [poly_Eval_eq]; unfold poly_Eval'
  have hat : poly_EvalAt (some g) n f x := by
    refine ⟨by omega, fun o => ∃ v, IsN o v, ⟨0, IsN.zero⟩, fun o k ⟨v, hv⟩ hk => ?_⟩
    obtain ⟨m, m1, m2⟩ := field_Mul_spec h hv hx
    obtain ⟨a, a1, a2⟩ := field_Add_spec h m2 (hf k hk)
    exact ⟨a, by simp only [poly_EvalR, m1, a1], _, a2⟩
  rw [if_pos hat, z1]
/-! ## What is made, at places -/
theorem E_add {c A B : Nat → Nat} (hc : ∀ k, c k = (A k + B k) % Q) (x : Int) : Cg Q (E c x) (E A x + E B x) := by
  unfold E
  rw [← ev_add]
  refine ev_dvd fun i _ => ?_
  simp only [cI, hc]
  have := Cg.nat Q (A i + B i)
  rw [Int.natCast_add] at this
  exact this
theorem E_scaled {c A : Nat → Nat} {v : Nat} (hc : ∀ k, c k = A k * v % Q) (x : Int) : Cg Q (E c x) ((v : Int) * E A x) := by
  unfold E
  rw [← ev_mul]
  refine ev_dvd fun i _ => ?_
  simp only [cI, hc]
  have := Cg.nat Q (A i * v)
  rw [Int.natCast_mul, Int.mul_comm] at this
  exact this
theorem E_mul {c A B : Nat → Nat} {na nb : Nat} (hn : na + nb ≤ 1000) (hc : ∀ k, c k = mulN A B na nb k % Q) (x : Int) : Cg Q (E c x) (E (pad A na) x * E (pad B nb) x) := by
  have e : ev (mulC (cI A) (cI (pad B nb)) na) 1000 x = E (pad A na) x * E (pad B nb) x := by
    rw [ev_mulC (m := nb) (fun i hi => by simp only [cI, pad_zero hi]; rfl) x 1000 na hn, E_pad (by omega), E_eq (c := pad B nb) (n := nb) (fun k hk => pad_zero hk) (by omega)]
  rw [← e]
  unfold E
  refine ev_dvd fun i _ => ?_
  simp only [cI, hc]
  have := Cg.nat Q (mulN A B na nb i)
  rw [mulN_cast] at this
  exact this
theorem pad_pol {n : Nat} {f : Nat → (Nat → Int)} {c : Nat → Nat} (h : ∀ k, n ≤ k → c k = 0) : pad c n = c := funext fun k => by
  unfold pad
  split
  · rfl
  · exact (h k (by omega)).symm
end
end Go.Pl

set_option linter.unusedVariables false
set_option linter.unusedSimpArgs false
namespace Go.Pl
open Go Go.Den Go.Num

theorem sub_cg {Q x y : Nat} (hQ : 0 < Q) : Cg Q (((x + (Q - y % Q)) % Q : Nat) : Int) ((x : Int) - y) := by
  refine (Cg.nat Q _).trans ?_
  have h1 := Nat.mod_lt y hQ
  rw [Int.natCast_add, Int.natCast_sub (by omega)]
  have hq0 : Cg Q (Q : Int) 0 := ⟨1, by omega⟩
  exact ((Cg.refl Q (x : Int)).add (hq0.sub (Cg.nat Q y))).trans (Cg.of_eq (by omega))
def prodL (X : Nat → Nat) (x : Int) : Nat → Int
  | 0 => 1
  | k + 1 => prodL X x k * (x - X k)
theorem prodL_zero {Q : Nat} {X : Nat → Nat} {x : Int} : ∀ {k j : Nat}, j < k → Cg Q x (X j) → Cg Q (prodL X x k) 0
  | 0, j, hj, _ => by omega
  | k + 1, j, hj, h => by
    by_cases e : j = k
    · subst e
      refine ((Cg.refl Q _).mul (h.sub (Cg.refl Q _))).trans (Cg.of_eq (by rw [Int.sub_self, Int.mul_zero]))
    · refine ((prodL_zero (k := k) (by omega) h).mul (Cg.refl Q _)).trans (Cg.of_eq (Int.zero_mul _))
theorem prodL_root {Q : Nat} (hQ : Pr Q) {X : Nat → Nat} {x : Int} : ∀ {k : Nat}, Cg Q (prodL X x k) 0 → ∃ j, j < k ∧ Cg Q x (X j)
  | 0, h => by
    exfalso
    have h2 := hQ.1
    have : (1 : Nat) = 0 := Cg.eq (Q := Q) (a := 1) (b := 0) h (by omega) (by omega)
    omega
  | k + 1, h => by
    unfold Cg at h
    rw [Int.sub_zero] at h
    rcases prI hQ h with h1 | h1
    · obtain ⟨j, hj, h2⟩ := prodL_root hQ (X := X) (x := x) (k := k) (by unfold Cg; rwa [Int.sub_zero])
      exact ⟨j, by omega, h2⟩
    · exact ⟨k, by omega, h1⟩
section
variable {g : GroupT} {P Q G : Nat}
/-- through so many places -/
structure Thr (Q : Nat) (X Y : Nat → Nat) (k nout : Nat) (out : Nat → (Nat → Int)) (nn : Nat) (none_ : Nat → (Nat → Int)) (c d : Nat → Nat) : Prop where
  pol : IsPol Q nout out c
  size : nout ≤ k
  is : ∀ i, i < nn → IsN (none_ i) (d i)
  zero : ∀ i, nn ≤ i → d i = 0
  size2 : nn ≤ k + 1
  at' : ∀ j, j < k → Cg Q (E c (X j)) (Y j)
  none' : ∀ x, Cg Q (E d x) (prodL X x k)
  apart : ∀ i j, i < j → j < k → ¬ Cg Q (X j) (X i)
theorem poly_Through_spec (h : IsGroup g P Q G) (hQp : Pr Q) {n : Nat} (hn : n ≤ 32) {xs ys : Nat → (Nat → Int)} {X Y : Nat → Nat} (hx : ∀ i, i < n → IsN (xs i) (X i)) (hy : ∀ i, i < n → IsN (ys i) (Y i)) :
    (∃ m z c, poly_Through (some g) n xs n ys = some (((m, z), (0, ())), ()) ∧ IsPol Q m z c ∧ m ≤ n ∧ (∀ j, j < n → Cg Q (E c (X j)) (Y j)) ∧ ∀ i j, i < j → j < n → ¬ Cg Q (X j) (X i)) ∨
    (poly_Through (some g) n xs n ys = some (((0, fun _ => fun _ => 0), (1, ())), ()) ∧ ∃ i j, i < j ∧ j < n ∧ Cg Q (X j) (X i)) := by
  have hQ := h.qpos
  obtain ⟨r, r1, hr⟩ := group_Field_spec h
  rw [poly_Through_eq]; unfold poly_Through'
  simp (disch := omega) only [add_c, add_l, l_add, mul_c, mul_l, l_mul, sub_c, sub_l, l_sub, div_c, div_l, mod_c, mod_l, tdiv_c, tdiv_l, tmod_c, tmod_l, wrap_i64n, wrapun, dec_t, dec_f, inb_t, cond_true, cond_false, Int.toNat_natCast, beq_t, beq_f, bne_t, bne_f, Bool.not_true, Bool.not_false, Int.reduceToNat, ft_b, tf_b, tt_b, ff_b, decide_true, decide_false, r1]
  have one : IsN (upd (fun _ => 0) 0 1) 1 := IsN.of_eq (IsN.mk (a := upd (fun _ => 0) 0 1) (x0 := 1) (x1 := 0) (x2 := 0) (x3 := 0) rfl rfl rfl rfl (by decide) (by decide) (by decide) (by decide)) (by decide)
  obtain ⟨y, y1, y2⟩ := loop_seek (R := R_poly_Through_0) (fun k (s : (Nat × (Nat → (Nat → Int))) × (Nat × (Nat → (Nat → Int)))) => T_poly_Through_0 g n ys s.1.1 s.1.2 s.2.1 s.2.2 n xs (n : Int) (k : Int)) (fun k s => ∃ c d, Thr Q X Y k s.1.1 s.1.2 s.2.1 s.2.2 c d)
    (fun y => (y = Y_poly_Through_0_0 0 (fun _ => fun _ => 0) 1 ∧ ∃ i j, i < j ∧ j < n ∧ Cg Q (X j) (X i)) ∨ ∃ m z c, y = Y_poly_Through_0_1 m z ∧ IsPol Q m z c ∧ m ≤ n ∧ (∀ j, j < n → Cg Q (E c (X j)) (Y j)) ∧ ∀ i j, i < j → j < n → ¬ Cg Q (X j) (X i)) n
    (fun k hk s hP => by
      obtain ⟨⟨nout, out⟩, ⟨nn, none_⟩⟩ := s
      obtain ⟨c, d, hT⟩ := hP
      simp only at hT
      have t1 := hT.size
      have t2 := hT.size2
      obtain ⟨a, v, a1, a2, a3, a4⟩ := poly_Eval_spec h (n := nn) (by omega) (f := fun j => none_ (0 + j)) (fun i hi => by rw [Nat.zero_add]; exact hT.is i hi) (hx k hk)
      rw [← E_eq hT.zero (by omega)] at a4
      have a5 := a4.trans (hT.none' (X k))
      have hz := poly_zero_spec a2
      by_cases hv : v = 0
      · refine .inr ⟨_, ?_, .inl ⟨rfl, ?_⟩⟩
        · unfold R_poly_Through_0
          simp (disch := omega) only [add_c, add_l, l_add, mul_c, mul_l, l_mul, sub_c, sub_l, l_sub, div_c, div_l, mod_c, mod_l, tdiv_c, tdiv_l, tmod_c, tmod_l, wrap_i64n, wrapun, dec_t, dec_f, inb_t, cond_true, cond_false, Int.toNat_natCast, beq_t, beq_f, bne_t, bne_f, Bool.not_true, Bool.not_false, Int.reduceToNat, ft_b, tf_b, tt_b, ff_b, decide_true, decide_false, a1, hz, hv]
        · subst hv
          obtain ⟨j, hj, hc⟩ := prodL_root hQp a5.symm
          exact ⟨j, k, hj, hk, hc⟩
      · obtain ⟨e, w, e1, e2, e3, e4⟩ := poly_Eval_spec h (n := nout) (by omega) (f := fun j => out (0 + j)) (fun i hi => by rw [Nat.zero_add]; exact hT.pol.is i hi) (hx k hk)
        rw [← E_eq hT.pol.zero (by omega)] at e4
        obtain ⟨l, l1, l2⟩ := field_Sub_spec h (hy k hk) e2
        obtain ⟨u, U, u1, u2, u3, _, u5⟩ := field_Inv_spec h a2
        obtain ⟨b, b1, b2⟩ := field_Mul_spec h l2 u2
        obtain ⟨m1, z1, p1, p2, p3⟩ := poly_scaled_spec h (n := nn) (by omega) (f := fun j => none_ (0 + j)) (fun i hi => by rw [Nat.zero_add]; exact hT.is i hi) b2 (up := 0) (by omega)
        obtain ⟨B1, hB1, p4⟩ : ∃ B1 : Nat → Nat, (∀ j, B1 j = d j * ((Y k + (Q - w % Q)) % Q * U % Q) % Q) ∧ IsPol Q m1 z1 B1 := ⟨_, fun j => by rw [if_pos (Nat.zero_le _), Nat.sub_zero, pad_pol (f := none_) hT.zero], p3⟩
        clear p3
        obtain ⟨m2, z2, q1, q2, q3⟩ := poly_Add_spec h (na := nout) (nb := m1) (by omega) (by omega) (a := fun j => out (0 + j)) (b := fun j => z1 (0 + j)) (fun i hi => by rw [Nat.zero_add]; exact hT.pol.is i hi) (fun i hi => by rw [Nat.zero_add]; exact p4.is i hi)
        obtain ⟨o, o1, o2⟩ := field_Sub_spec h IsN.zero (hx k hk)
        obtain ⟨m3, z3, s1, s2, s3⟩ := poly_Mul_spec h (na := nn) (nb := 2) (by omega) (by omega) (a := fun j => none_ (0 + j)) (b := fun j => upd (upd (fun _ => fun _ => 0) 0 o) 1 (upd (fun _ => 0) 0 1) (0 + j)) (A := d) (B := fun i => if i = 0 then (0 + (Q - X k % Q)) % Q else 1) (fun i hi => by rw [Nat.zero_add]; exact hT.is i hi) (fun i hi => by
          rcases (show i = 0 ∨ i = 1 by omega) with rfl | rfl
          · exact o2
          · exact one)
        have p1' : poly_scaled (some g) nn (fun j => none_ (0 + j)) b 0 = _ := p1
        have hv0 : v % Q ≠ 0 := by rw [Nat.mod_eq_of_lt a3]; exact hv
        have hu := u5 hv0
        refine .inl ⟨((m2, z2), (m3, z3)), ?_, _, _, ⟨q3, ?_, fun i hi => s3.is i hi, s3.zero, ?_, ?_, ?_, ?_⟩⟩
        · unfold R_poly_Through_0
          simp (disch := omega) only [add_c, add_l, l_add, mul_c, mul_l, l_mul, sub_c, sub_l, l_sub, div_c, div_l, mod_c, mod_l, tdiv_c, tdiv_l, tmod_c, tmod_l, wrap_i64n, wrapun, dec_t, dec_f, inb_t, cond_true, cond_false, Int.toNat_natCast, beq_t, beq_f, bne_t, bne_f, Bool.not_true, Bool.not_false, Int.reduceToNat, ft_b, tf_b, tt_b, ff_b, decide_true, decide_false, a1, hz, hv, e1, l1, u1, b1, p1', q1, o1, s1]
        · simp only; omega
        · -- one coefficient more
          simp only
          rcases Nat.lt_or_ge (nn + 1) m3 with hlt | hge
          · exfalso
            rcases s3.top with h0 | h0
            · omega
            · have e : mulN d (fun i => if i = 0 then (0 + (Q - X k % Q)) % Q else 1) nn 2 (m3 - 1) = 0 := by
                unfold mulN
                have : ∀ q, q ≤ nn → dotN d (fun i => if i ≤ m3 - 1 then pad (fun i => if i = 0 then (0 + (Q - X k % Q)) % Q else 1) 2 (m3 - 1 - i) else 0) q = 0 := by
                  intro q
                  induction q with
                  | zero => intro _; rfl
                  | succ q ih =>
                    intro hq
                    rw [dotN, ih (by omega), if_pos (by omega), pad_zero (by omega), Nat.mul_zero]
                exact this nn (Nat.le_refl _)
              exact h0 (by simp only [e, Nat.zero_mod])
          · omega
        · -- at the places
          have hE : ∀ x, Cg Q (E (fun k_1 => (pad c nout k_1 + pad B1 m1 k_1) % Q) x) (E c x + (((Y k + (Q - w % Q)) % Q * U % Q : Nat) : Int) * E d x) := fun x => by
            refine (E_add (fun _ => rfl) x).trans ?_
            rw [pad_pol (f := out) hT.pol.zero, pad_pol (f := z1) p4.zero]
            exact (Cg.refl Q _).add (E_scaled hB1 x)
          intro j hj
          by_cases ej : j = k
          · subst ej
            refine (hE _).trans ?_
            have w1 : Cg Q (((Y j + (Q - w % Q)) % Q * U % Q : Nat) : Int) (((Y j : Int) - w) * U) := (Cg.nat Q _).trans (by
              rw [Int.natCast_mul]
              exact (sub_cg hQ).mul (Cg.refl Q _))
            have w2 : Cg Q ((U : Int) * v) 1 := by
              have := Cg.nat Q (U * v)
              rw [hu, Int.natCast_mul] at this
              exact this.symm
            have w3 : Cg Q ((((Y j : Int) - w) * U) * E d (X j)) ((Y j : Int) - w) := by
              refine ((Cg.refl Q (((Y j : Int) - w) * U)).mul a4.symm).trans ?_
              rw [Int.mul_assoc]
              exact ((Cg.refl Q ((Y j : Int) - w)).mul w2).trans (Cg.of_eq (Int.mul_one _))
            exact (e4.symm.add ((w1.mul (Cg.refl Q _)).trans w3)).trans (Cg.of_eq (by omega))
          · refine (hE _).trans ?_
            have z0 : Cg Q (E d (X j)) 0 := (hT.none' (X j)).trans (prodL_zero (j := j) (by omega) (Cg.refl Q _))
            exact ((hT.at' j (by omega)).add (((Cg.refl Q _).mul z0).trans (Cg.of_eq (Int.mul_zero _)))).trans (Cg.of_eq (by omega))
        · -- what is 0 at all places so far
          intro x
          refine (E_mul (by omega) (fun _ => rfl) x).trans ?_
          rw [pad_pol (f := none_) hT.zero, E_pad (by omega)]
          refine (hT.none' x).mul ?_
          simp only [ev, sumI, cI, Int.pow_zero, Int.pow_one, Int.mul_one, if_true]
          have : Cg Q (((0 + (Q - X k % Q)) % Q : Nat) : Int) (((0 : Nat) : Int) - X k) := sub_cg hQ
          refine (((Cg.refl Q 0).add this).add (Cg.refl Q _)).trans (Cg.of_eq ?_)
          rw [if_neg (by decide)]
          have e : ((1 : Nat) : Int) * x = x := by rw [Int.natCast_one, Int.one_mul]
          rw [e]
          omega
        · intro i j hij hj
          by_cases ej : j = k
          · subst ej
            intro hc
            have := (Cg.zero a3).1 (a5.trans (prodL_zero (j := i) hij hc))
            exact hv this
          · exact hT.apart i j hij (by omega))
    (fun s hP => by
      obtain ⟨c, d, hT⟩ := hP
      refine ⟨_, ?_, .inr ⟨_, _, c, rfl, hT.pol, hT.size, hT.at', hT.apart⟩⟩
      unfold R_poly_Through_0
      simp (disch := omega) only [add_c, add_l, l_add, mul_c, mul_l, l_mul, sub_c, sub_l, l_sub, div_c, div_l, mod_c, mod_l, tdiv_c, tdiv_l, tmod_c, tmod_l, wrap_i64n, wrapun, dec_t, dec_f, inb_t, cond_true, cond_false, Int.toNat_natCast, beq_t, beq_f, bne_t, bne_f, Bool.not_true, Bool.not_false, Int.reduceToNat, ft_b, tf_b, tt_b, ff_b, decide_true, decide_false]) ((0, fun _ => fun _ => 0), (1, upd (fun _ => fun _ => 0) 0 (upd (fun _ => 0) 0 1)))
    ⟨fun _ => 0, fun i => if i = 0 then 1 else 0, (show Thr Q X Y 0 0 (fun _ => fun _ => 0) 1 (upd (fun _ => fun _ => 0) 0 (upd (fun _ => 0) 0 1)) (fun _ => 0) (fun i => if i = 0 then 1 else 0) from
      ⟨⟨fun i hi => absurd hi (Nat.not_lt_zero i), fun _ _ => rfl, fun _ => hQ, .inl rfl⟩, Nat.le_refl _, fun i hi => by
      obtain rfl : i = 0 := by omega
      exact one, fun i hi => if_neg (by omega), Nat.le_refl _, fun j hj => absurd hj (Nat.not_lt_zero j), fun x => by
      rw [E_eq (n := 1) (fun k hk => if_neg (by omega)) (by omega)]
      exact Cg.of_eq (by simp only [ev, sumI, cI, prodL, if_true, Int.pow_zero]; rfl), fun i j _ hj => absurd hj (Nat.not_lt_zero j)⟩)⟩
  have y1' : loopF R_poly_Through_0 ((g, ((n, ys), ((0, fun _ => fun _ => 0), ((1, upd (fun _ => fun _ => 0) 0 (upd (fun _ => 0) 0 1)), ((n, xs), ((n : Int), (0, ()))))))), ()) = some y := y1
  simp only [y1']
  rcases y2 with ⟨rfl, hd⟩ | ⟨m, z, c, rfl, w1, w2, w3, w4⟩
  · exact .inr ⟨rfl, hd⟩
  · exact .inl ⟨m, z, c, rfl, w1, w2, w3, w4⟩
end
end Go.Pl

set_option linter.unusedVariables false
set_option linter.unusedSimpArgs false
namespace Go.Pl
open Go Go.Den Go.Num

theorem sumI_single {f : Nat → Int} {j : Nat} : ∀ {n : Nat}, j < n → (∀ i, i ≠ j → f i = 0) → sumI f n = f j
  | 0, hj, _ => by omega
  | n + 1, hj, h => by
    rw [sumI]
    by_cases e : j = n
    · subst e
      rw [sumI_zero fun i hi => h i (by omega)]; omega
    · rw [sumI_single (n := n) (by omega) h, h n (Ne.symm e)]; omega
theorem mulC_dvd {q : Int} {a a' b : Nat → Int} {n t : Nat} (h : ∀ i, i < n → q ∣ a i - a' i) : q ∣ mulC a b n t - mulC a' b n t :=
  sumI_dvd fun i hi => by
    rw [← Int.sub_mul]
    exact Int.dvd_mul_of_dvd_left (h i hi)
theorem mulC_add (a a' b : Nat → Int) (n t : Nat) : mulC (fun i => a i + a' i) b n t = mulC a b n t + mulC a' b n t := by
  unfold mulC
  rw [← sumI_add]
  exact sumI_congr fun i _ => Int.add_mul _ _ _
theorem mulC_one {b : Nat → Int} {e : Int} {up n t : Nat} (h : up < n) : mulC (fun i => if i = up then e else 0) b n t = e * upC b up t := by
  unfold mulC
  rw [sumI_single h fun i hi => by
    show (if i = up then e else 0) * upC b i t = 0
    rw [if_neg hi, Int.zero_mul]]
  show (if up = up then e else 0) * upC b up t = e * upC b up t
  rw [if_pos rfl]
/-- a product, as whole numbers -/
def Mu (a b : Nat → Nat) (t : Nat) : Int := mulC (cI a) (cI b) 1000 t
section
variable {g : GroupT} {P Q G : Nat}
theorem div_loop (h : IsGroup g P Q G) {nd : Nat} {d : Nat → (Nat → Int)} {cd : Nat → Nat} (hd : IsPol Q nd d cd) (hnd : 0 < nd) (hnd2 : nd ≤ 100) {ca : Nat → Nat} {u : Nat → Int} {U : Nat} (hu : IsN u U) (hU : U * cd (nd - 1) % Q = 1 % Q) :
    ∀ (nr : Nat) (r : Nat → (Nat → Int)) (cr : Nat → Nat) (nq : Nat) (q : Nat → (Nat → Int)) (cq : Nat → Nat), nr ≤ 100 → nq ≤ 100 → IsPol Q nr r cr → IsPol Q nq q cq → (∀ t, Cg Q (Mu cq cd t + cr t) (ca t)) →
      ∃ nr' r' cr' nq' q' cq', loopF R_poly_Div_0 (T_poly_Div_0 g nr r nd d nq q u) = some (Y_poly_Div_0_0 nr' r' nq' q') ∧ IsPol Q nr' r' cr' ∧ IsPol Q nq' q' cq' ∧ nr' < nd ∧ nq' ≤ 100 ∧ ∀ t, Cg Q (Mu cq' cd t + cr' t) (ca t) := by
  have hQ := h.qpos
  have one : IsN (upd (fun _ => 0) 0 1) 1 := IsN.of_eq (IsN.mk (a := upd (fun _ => 0) 0 1) (x0 := 1) (x1 := 0) (x2 := 0) (x3 := 0) rfl rfl rfl rfl (by decide) (by decide) (by decide) (by decide)) (by decide)
  intro nr
  induction nr using Nat.strongRecOn with
  | _ nr ih =>
    intro r cr nq q cq hnr hnq hr hq hinv
    by_cases hge : nd ≤ nr
    · obtain ⟨b, b1, b2⟩ := field_Mul_spec h (hr.is (nr - 1) (by omega)) hu
      obtain ⟨n1, z1, p1, p2, p3⟩ := poly_scaled_spec h (n := 1) (by omega) (f := fun j => upd (fun _ => fun _ => 0) 0 b (0 + j)) (A := fun _ => cr (nr - 1) * U % Q) (fun i hi => by
        obtain rfl : i = 0 := by omega
        exact b2) one (up := nr - nd) (by omega)
      obtain ⟨o, o1, o2⟩ := field_Sub_spec h IsN.zero b2
      obtain ⟨n3, z3, s1, s2, s3⟩ := poly_scaled_spec h (n := nd) (by omega) (f := fun j => d (0 + j)) (fun i hi => by rw [Nat.zero_add]; exact hd.is i hi) o2 (up := nr - nd) (by omega)
      obtain ⟨B1, hB1, p4⟩ : ∃ B1 : Nat → Nat, (∀ j, Cg Q (B1 j) (if j = nr - nd then ((cr (nr - 1) * U : Nat) : Int) else 0)) ∧ IsPol Q n1 z1 B1 := ⟨_, fun j => by
        refine (Cg.nat Q _).trans ?_
        rw [Nat.mul_one]
        by_cases e : j = nr - nd
        · rw [if_pos e, if_pos (by omega), show j - (nr - nd) = 0 by omega]
          simp only [pad]
          rw [if_pos (by omega)]
          exact Cg.nat Q _
        · rw [if_neg e]
          by_cases e2 : nr - nd ≤ j
          · rw [if_pos e2, pad_zero (by omega)]; exact Cg.refl _ _
          · rw [if_neg e2]; exact Cg.refl _ _, p3⟩
      obtain ⟨B2, hB2, s4⟩ : ∃ B2 : Nat → Nat, (∀ j, Cg Q (B2 j) (-((cr (nr - 1) * U : Nat) : Int) * upC (cI cd) (nr - nd) j)) ∧ IsPol Q n3 z3 B2 := ⟨_, fun j => by
        refine (Cg.nat Q _).trans ?_
        rw [pad_pol (f := d) hd.zero, Int.natCast_mul, Int.mul_comm]
        refine Cg.mul ?_ (Cg.of_eq (by simp only [upC, cI]; split <;> rfl))
        exact (sub_cg hQ).trans (((Cg.refl Q _).sub (Cg.nat Q _)).trans (Cg.of_eq (by omega))), s3⟩
      clear p3 s3
      obtain ⟨n2, z2, q1, q2, q3⟩ := poly_Add_spec h (na := nq) (nb := n1) (by omega) (by omega) (a := fun j => q (0 + j)) (b := fun j => z1 (0 + j)) (fun i hi => by rw [Nat.zero_add]; exact hq.is i hi) (fun i hi => by rw [Nat.zero_add]; exact p4.is i hi)
      obtain ⟨n4, z4, t1, t2, t3⟩ := poly_Add_spec h (na := nr) (nb := n3) (by omega) (by omega) (a := fun j => r (0 + j)) (b := fun j => z3 (0 + j)) (fun i hi => by rw [Nat.zero_add]; exact hr.is i hi) (fun i hi => by rw [Nat.zero_add]; exact s4.is i hi)
      rw [pad_pol (f := q) hq.zero, pad_pol (f := z1) p4.zero] at q3
      rw [pad_pol (f := r) hr.zero, pad_pol (f := z3) s4.zero] at t3
      have hq' : ∀ j, Cg Q (((cq j + B1 j) % Q : Nat) : Int) ((cq j : Int) + (if j = nr - nd then ((cr (nr - 1) * U : Nat) : Int) else 0)) := fun j => (Cg.nat Q _).trans (by
        rw [Int.natCast_add]
        exact (Cg.refl Q _).add (hB1 j))
      have hr' : ∀ j, Cg Q (((cr j + B2 j) % Q : Nat) : Int) ((cr j : Int) + -((cr (nr - 1) * U : Nat) : Int) * upC (cI cd) (nr - nd) j) := fun j => (Cg.nat Q _).trans (by
        rw [Int.natCast_add]
        exact (Cg.refl Q _).add (hB2 j))
      -- the top coefficient is gone
      have htop : (cr (nr - 1) + B2 (nr - 1)) % Q = 0 := by
        refine (Cg.zero (Nat.mod_lt _ hQ)).1 ((hr' (nr - 1)).trans ?_)
        have e1 : upC (cI cd) (nr - nd) (nr - 1) = (cd (nd - 1) : Int) := by
          simp only [upC]
          rw [if_pos (by omega), show nr - 1 - (nr - nd) = nd - 1 by omega]
          rfl
        rw [e1]
        have e2 : Cg Q ((U : Int) * cd (nd - 1)) 1 := by
          have k1 := Cg.nat Q (U * cd (nd - 1))
          have k2 := Cg.nat Q 1
          rw [hU, Int.natCast_mul] at k1
          exact k1.symm.trans k2
        have e3 : -((cr (nr - 1) * U : Nat) : Int) * (cd (nd - 1) : Int) = -(cr (nr - 1) : Int) * ((U : Int) * cd (nd - 1)) := by
          rw [Int.natCast_mul, ← Int.neg_mul, Int.mul_assoc]
        rw [e3]
        exact ((Cg.refl Q _).add ((Cg.refl Q _).mul e2)).trans (Cg.of_eq (by rw [Int.mul_one]; omega))
      have hlt : n4 < nr := by
        rcases Nat.lt_or_ge n4 nr with h1 | h1
        · exact h1
        · exfalso
          have : n4 = nr := by omega
          subst this
          rcases t3.top with h2 | h2
          · omega
          · exact h2 htop
      obtain ⟨nr', r', cr', nq', q', cq', w1, w2, w3, w4, w5, w6⟩ := ih n4 hlt z4 _ n2 z2 _ (by omega) (by omega) t3 q3 (fun t => by
        have m1 : Cg Q (Mu (fun k => (cq k + B1 k) % Q) cd t) (Mu cq cd t + ((cr (nr - 1) * U : Nat) : Int) * upC (cI cd) (nr - nd) t) := by
          have := mulC_dvd (q := (Q : Int)) (a := cI fun k => (cq k + B1 k) % Q) (a' := fun j => cI cq j + (if j = nr - nd then ((cr (nr - 1) * U : Nat) : Int) else 0)) (b := cI cd) (n := 1000) (t := t) fun i _ => hq' i
          rw [mulC_add, mulC_one (by omega)] at this
          exact this
        exact ((m1.add (hr' t)).trans (Cg.of_eq (by
          rw [Int.neg_mul]; omega))).trans (hinv t))
      refine ⟨nr', r', cr', nq', q', cq', ?_, w2, w3, w4, w5, w6⟩
      rw [← w1]
      refine loopF_next ?_
      have e0 : IntKind.i64.wrap (((nr : Nat) : Int) - 1) = ((nr - 1 : Nat) : Int) := by rw [wrap_i64 (by omega)]; omega
      have e9 : IntKind.i64.wrap (((nr : Nat) : Int) - ((nd : Nat) : Int)) = ((nr - nd : Nat) : Int) := by rw [wrap_i64 (by omega)]; omega
      have b1' : field_Mul (some g) (r (0 + (nr - 1))) u = some b := by rw [Nat.zero_add]; exact b1
      unfold R_poly_Div_0
      simp (disch := omega) only [e0, e9, wrap_i64n, wrapun, dec_t, dec_f, inb_t, cond_true, cond_false, Int.toNat_natCast, beq_t, beq_f, bne_t, bne_f, Bool.not_true, Bool.not_false, Int.reduceToNat, ft_b, tf_b, tt_b, ff_b, decide_true, decide_false, b1', p1, q1, o1, s1, t1]
    · refine ⟨nr, r, cr, nq, q, cq, loopF_exit ?_, hr, hq, by omega, hnq, hinv⟩
      unfold R_poly_Div_0
      simp (disch := omega) only [add_c, add_l, l_add, mul_c, mul_l, l_mul, sub_c, sub_l, l_sub, div_c, div_l, mod_c, mod_l, tdiv_c, tdiv_l, tmod_c, tmod_l, wrap_i64n, wrapun, dec_t, dec_f, inb_t, cond_true, cond_false, Int.toNat_natCast, beq_t, beq_f, bne_t, bne_f, Bool.not_true, Bool.not_false, Int.reduceToNat, ft_b, tf_b, tt_b, ff_b, decide_true, decide_false]
theorem poly_Div_spec (h : IsGroup g P Q G) {na nb : Nat} (hna : na ≤ 100) (hnb : nb ≤ 100) {a b : Nat → (Nat → Int)} {A B : Nat → Nat} (ha : ∀ i, i < na → IsN (a i) (A i)) (hb : ∀ i, i < nb → IsN (b i) (B i)) :
    (poly_Div (some g) na a nb b = some (((0, fun _ => fun _ => 0), ((0, fun _ => fun _ => 0), (1, ()))), ()) ∧ ∀ k, k < nb → B k % Q = 0) ∨
    ∃ nq q cq nr r cr nd d, poly_Div (some g) na a nb b = some (((nq, q), ((nr, r), (0, ()))), ()) ∧ IsPol Q nq q cq ∧ IsPol Q nr r cr ∧ nr < nd ∧ nq ≤ 100 ∧ nd ≤ nb ∧ IsPol Q nd d (fun k => if k < nb then B k % Q else 0) ∧ ∀ t, Cg Q (Mu cq (fun k => if k < nb then B k % Q else 0) t + cr t) ((if t < na then A t % Q else 0 : Nat) : Int) := by
  have hQ := h.qpos
  obtain ⟨n1, z1, p1, p2, p3⟩ := poly_Trim_spec h (by omega) ha
  obtain ⟨n2, z2, q1, q2, q3⟩ := poly_Trim_spec h (by omega) hb
  rw [poly_Div_eq]; unfold poly_Div'
  simp only [p1, q1]
  by_cases h0 : n2 = 0
  · refine .inl ⟨by simp (disch := omega) only [add_c, add_l, l_add, mul_c, mul_l, l_mul, sub_c, sub_l, l_sub, div_c, div_l, mod_c, mod_l, tdiv_c, tdiv_l, tmod_c, tmod_l, wrap_i64n, wrapun, dec_t, dec_f, inb_t, cond_true, cond_false, Int.toNat_natCast, beq_t, beq_f, bne_t, bne_f, Bool.not_true, Bool.not_false, Int.reduceToNat, ft_b, tf_b, tt_b, ff_b, decide_true, decide_false], fun k hk => ?_⟩
    have := q3.zero k (by omega)
    rwa [if_pos hk] at this
  · obtain ⟨u, U, u1, u2, u3, _, u5⟩ := field_Inv_spec h (q3.is (n2 - 1) (by omega))
    have htop : (if n2 - 1 < nb then B (n2 - 1) % Q else 0) ≠ 0 := by
      rcases q3.top with h1 | h1
      · exact absurd h1 h0
      · exact h1
    have hlt := q3.lt (n2 - 1)
    have hU := u5 (by rw [Nat.mod_eq_of_lt hlt]; exact htop)
    have hq1 : 1 < Q := by
      rcases Nat.lt_or_ge 1 Q with h1 | h1
      · exact h1
      · have : Q = 1 := by omega
        subst this
        rw [Nat.mod_one] at hU; cases hU
    obtain ⟨nr, r, cr, nq, q, cq, w1, w2, w3, w4, w5, w6⟩ := div_loop h q3 (by omega) (by omega) (ca := fun k => if k < na then A k % Q else 0) u2 (by rw [hU, Nat.mod_eq_of_lt hq1]) n1 z1 _ 0 (fun _ => fun _ => 0) (fun _ => 0) (by omega) (by omega) p3 ⟨fun i hi => by omega, fun _ _ => rfl, fun _ => hQ, .inl rfl⟩ (fun t => Cg.of_eq (by
      have : Mu (fun _ => 0) (fun k => if k < nb then B k % Q else 0) t = 0 := sumI_zero fun i _ => Int.zero_mul _
      rw [this]; omega))
    refine .inr ⟨nq, q, cq, nr, r, cr, n2, z2, ?_, w3, w2, w4, w5, q2, q3, w6⟩
    have e0 : IntKind.i64.wrap (((n2 : Nat) : Int) - 1) = ((n2 - 1 : Nat) : Int) := by rw [wrap_i64 (by omega)]; omega
    have w1' : loopF R_poly_Div_0 ((g, ((n1, z1), ((n2, z2), ((0, fun _ => fun _ => 0), ((), ()))))), (u, ())) = some (Y_poly_Div_0_0 nr r nq q) := w1
    have u1' : field_Inv (some g) (z2 (0 + (n2 - 1))) = some u := by rw [Nat.zero_add]; exact u1
    simp (disch := omega) only [e0, wrap_i64n, wrapun, dec_t, dec_f, inb_t, cond_true, cond_false, Int.toNat_natCast, beq_t, beq_f, bne_t, bne_f, Bool.not_true, Bool.not_false, Int.reduceToNat, ft_b, tf_b, tt_b, ff_b, decide_true, decide_false, u1', w1']
end
end Go.Pl
