/-
  Primes, groups, the field.
-/
import Derived.Test.YtennopklknlecaaMA
import Derived.Test.YtennopklknlecaaMC
import Derived.Test.YtennopklknlecaaPlA
set_option linter.unusedVariables false
namespace Go.Num
section
variable {q : Nat} [NeZero q]

def sumF (f : Nat → Fin q) : Nat → Fin q
  | 0 => 0
  | n + 1 => sumF f n + f n
def pw (x : Fin q) : Nat → Fin q
  | 0 => 1
  | n + 1 => pw x n * x
/-- what a polynomial of n coefficients is at a place -/
def ev (f : Nat → Fin q) (n : Nat) (x : Fin q) : Fin q := sumF (fun i => f i * pw x i) n
/-- the coefficients of a product -/
def conv (f g : Nat → Fin q) (k : Nat) : Fin q := sumF (fun i => f i * g (k - i)) (k + 1)
/-- a polynomial times c, and x so often -/
def shf (n : Nat) (c : Fin q) (g : Nat → Fin q) : Nat → Fin q := fun k => if k < n then 0 else c * g (k - n)
/-- the first n coefficients -/
def trn (f : Nat → Fin q) (n : Nat) : Nat → Fin q := fun i => if i < n then f i else 0

theorem sumF_congr {f g : Nat → Fin q} : ∀ {n : Nat}, (∀ i, i < n → f i = g i) → sumF f n = sumF g n := by
  intro n
  induction n with
  | zero => intro _; rfl
  | succ n ih => intro h; rw [sumF, sumF, ih fun i hi => h i (by omega), h n (by omega)]
theorem sumF_add (f g : Nat → Fin q) (n : Nat) : sumF (fun i => f i + g i) n = sumF f n + sumF g n := by
  induction n with
  | zero => simp [sumF]
  | succ n ih => simp only [sumF, ih]; grind
theorem sumF_mul (c : Fin q) (f : Nat → Fin q) (n : Nat) : sumF (fun i => c * f i) n = c * sumF f n := by
  induction n with
  | zero => simp only [sumF]; grind
  | succ n ih => simp only [sumF, ih]; grind
theorem sumF_zero (n : Nat) : sumF (fun _ => (0 : Fin q)) n = 0 := by
  induction n with
  | zero => rfl
  | succ n ih => rw [sumF, ih]; grind
theorem sumF_more {f : Nat → Fin q} {n m : Nat} (h : n ≤ m) (hz : ∀ i, n ≤ i → i < m → f i = 0) : sumF f m = sumF f n := by
  induction h with
  | refl => rfl
  | step h ih => rw [sumF, ih fun i h1 h2 => hz i h1 (by omega), hz _ h (by omega)]; grind
theorem sumF_delta {f : Nat → Fin q} {a n : Nat} (hz : ∀ i, i < n → i ≠ a → f i = 0) : sumF f n = if a < n then f a else 0 := by
  induction n with
  | zero => rfl
  | succ n ih =>
    rw [sumF]
    by_cases h : a = n
    · subst h
      rw [if_pos (Nat.lt_succ_self _), sumF_congr (g := fun _ => 0) fun i hi => hz i (by omega) (by omega), sumF_zero]; grind
    · rw [ih fun i hi hne => hz i (by omega) hne, hz n (by omega) (by omega)]
      by_cases h2 : a < n
      · rw [if_pos h2, if_pos (by omega)]; grind
      · rw [if_neg h2, if_neg (by omega)]; grind

theorem ev_congr {f g : Nat → Fin q} {n : Nat} {x : Fin q} (h : ∀ i, i < n → f i = g i) : ev f n x = ev g n x := sumF_congr fun i hi => by rw [h i hi]
theorem ev_add (f g : Nat → Fin q) (n : Nat) (x : Fin q) : ev (fun i => f i + g i) n x = ev f n x + ev g n x := by
  unfold ev
  rw [← sumF_add]
  exact sumF_congr fun i _ => by grind
theorem ev_more {f : Nat → Fin q} {n m : Nat} {x : Fin q} (h : n ≤ m) (hz : ∀ i, n ≤ i → i < m → f i = 0) : ev f m x = ev f n x :=
  sumF_more h fun i h1 h2 => by rw [hz i h1 h2]; grind
theorem ev_succ (f : Nat → Fin q) (n : Nat) (x : Fin q) : ev f (n + 1) x = ev f n x + f n * pw x n := rfl
theorem pw_add (x : Fin q) (n m : Nat) : pw x (n + m) = pw x n * pw x m := by
  induction m with
  | zero => simp only [pw, Nat.add_zero]; grind
  | succ m ih => rw [← Nat.add_assoc, pw, pw, ih]; grind
/-- Horner's way -/
theorem ev_horner (f : Nat → Fin q) (n : Nat) (x : Fin q) : ev f (n + 1) x = ev (fun i => f (i + 1)) n x * x + f 0 := by
  induction n with
  | zero => rw [ev_succ]; simp only [ev, sumF, pw]; grind
  | succ n ih => rw [ev_succ, ih, ev_succ]; simp only [pw]; grind

theorem conv_congr {f g f' g' : Nat → Fin q} {k : Nat} (hf : ∀ i, i ≤ k → f i = f' i) (hg : ∀ i, i ≤ k → g i = g' i) : conv f g k = conv f' g' k :=
  sumF_congr fun i hi => by rw [hf i (by omega), hg (k - i) (by omega)]
theorem conv_add_left (f f' g : Nat → Fin q) (k : Nat) : conv (fun i => f i + f' i) g k = conv f g k + conv f' g k := by
  unfold conv
  rw [← sumF_add]
  exact sumF_congr fun i _ => by grind
theorem conv_zero_left (g : Nat → Fin q) (k : Nat) : conv (fun _ => 0) g k = 0 := by
  unfold conv
  rw [sumF_congr (g := fun _ => 0) fun i _ => by grind, sumF_zero]
/-- one coefficient times a polynomial -/
theorem conv_mono (n : Nat) (c : Fin q) (g : Nat → Fin q) (k : Nat) : conv (fun i => if i = n then c else 0) g k = shf n c g k := by
  unfold conv shf
  rw [sumF_delta (a := n) fun i hi hne => by simp only [if_neg hne]; grind]
  by_cases h : k < n
  · rw [if_pos h, if_neg (by omega)]
  · simp only [if_neg h, if_pos (show n < k + 1 by omega), if_true]
theorem trn_succ (f : Nat → Fin q) (n i : Nat) : trn f (n + 1) i = trn f n i + (if i = n then f n else 0) := by
  unfold trn
  by_cases h : i < n
  · rw [if_pos h, if_pos (by omega), if_neg (by omega)]; grind
  · by_cases e : i = n
    · subst e; rw [if_pos (by omega), if_neg h, if_pos rfl]; grind
    · rw [if_neg (by omega), if_neg h, if_neg e]; grind
theorem conv_trn (f g : Nat → Fin q) (n k : Nat) : conv (trn f (n + 1)) g k = conv (trn f n) g k + shf n (f n) g k := by
  rw [← conv_mono, ← conv_add_left]
  exact conv_congr (fun i _ => trn_succ f n i) (fun _ _ => rfl)
theorem ev_shf (n m : Nat) (c : Fin q) (g : Nat → Fin q) (x : Fin q) : ev (shf n c g) (n + m) x = c * pw x n * ev g m x := by
  induction m with
  | zero =>
    rw [ev_congr (g := fun _ => 0) fun i hi => by unfold shf; rw [if_pos (by omega)]]
    unfold ev
    rw [sumF_congr (g := fun _ => 0) fun i _ => by grind, sumF_zero]
    simp only [sumF]; grind
  | succ m ih =>
    rw [← Nat.add_assoc, ev_succ, ih, ev_succ]
    have : shf n c g (n + m) = c * g m := by unfold shf; rw [if_neg (by omega), Nat.add_sub_cancel_left]
    rw [this, pw_add]; grind
/-- values of products are products of values -/
theorem ev_conv (f g : Nat → Fin q) (m : Nat) (x : Fin q) (hg : ∀ i, m ≤ i → g i = 0) : ∀ n N, n + m ≤ N → ev (conv (trn f n) g) N x = ev f n x * ev g m x := by
  intro n
  induction n with
  | zero =>
    intro N _
    have h0 : ∀ i, conv (trn f 0) g i = 0 := fun i => conv_zero_left g i
    rw [ev_congr (g := fun _ => 0) fun i _ => h0 i]
    unfold ev
    rw [sumF_congr (g := fun _ => 0) fun i _ => by grind, sumF_zero]
    simp only [sumF]; grind
  | succ n ih =>
    intro N hN
    rw [ev_congr (g := fun k => conv (trn f n) g k + shf n (f n) g k) fun i _ => conv_trn f g n i, ev_add, ih N (by omega), ev_succ]
    rw [ev_more (f := shf n (f n) g) (n := n + m) (m := N) (by omega) fun i h1 h2 => by unfold shf; rw [if_neg (by omega), hg (i - n) (by omega)]; grind]
    rw [ev_shf]; grind

/-! ## Roots -/
def geo (x y : Fin q) (n : Nat) : Fin q := sumF (fun i => pw x (n - 1 - i) * pw y i) n
theorem geo_succ (x y : Fin q) (n : Nat) : geo x y (n + 1) = x * geo x y n + pw y n := by
  unfold geo
  rw [sumF, ← sumF_mul]
  congr 1
  · exact sumF_congr fun i hi => by
      rw [show n + 1 - 1 - i = (n - 1 - i) + 1 by omega, pw]; grind
  · rw [show n + 1 - 1 - n = 0 by omega, pw]; grind
theorem geo_mul (x y : Fin q) (n : Nat) : (y - x) * geo x y n = pw y n - pw x n := by
  induction n with
  | zero => simp only [geo, sumF, pw]; grind
  | succ n ih => rw [geo_succ, pw, pw]; grind
/-- what is left, but for a place, by it -/
def quo (f : Nat → Fin q) (x : Fin q) : Nat → Nat → Fin q
  | 0, _ => 0
  | n + 1, i => quo f x n i + (if i < n then f n * pw x (n - 1 - i) else 0)
theorem quo_zero (f : Nat → Fin q) (x : Fin q) : ∀ n i, n ≤ i + 1 → quo f x n i = 0 := by
  intro n
  induction n with
  | zero => intro i _; rfl
  | succ n ih => intro i h; rw [quo, ih i (by omega), if_neg (by omega)]; grind
theorem quo_lead (f : Nat → Fin q) (x : Fin q) (n : Nat) : quo f x (n + 2) n = f (n + 1) := by
  rw [quo, quo_zero f x (n + 1) n (by omega), if_pos (by omega), show n + 1 - 1 - n = 0 by omega, pw]; grind
theorem quo_ev (f : Nat → Fin q) (x y : Fin q) : ∀ n, ev f n y = ev f n x + (y - x) * ev (quo f x n) n y := by
  intro n
  induction n with
  | zero => simp only [ev, sumF]; grind
  | succ n ih =>
    have h1 : ev (quo f x (n + 1)) (n + 1) y = ev (quo f x n) n y + f n * geo x y n := by
      rw [ev_succ, quo_zero f x (n + 1) n (by omega)]
      have h2 : ev (quo f x (n + 1)) n y = ev (fun i => quo f x n i + f n * pw x (n - 1 - i)) n y := ev_congr fun i hi => by rw [quo, if_pos hi]
      rw [h2, ev_add]
      have h3 : ev (fun i => f n * pw x (n - 1 - i)) n y = f n * geo x y n := by
        unfold ev geo
        rw [← sumF_mul]
        exact sumF_congr fun i _ => by grind
      rw [h3]; grind
    have h4 := geo_mul x y n
    rw [ev_succ, ev_succ, h1, ih]
    grind
/-- a polynomial with as many roots as coefficients is zero -/
theorem roots {f : Nat → Fin q} (hq : ∀ a b : Fin q, a * b = 0 → a = 0 ∨ b = 0) : ∀ (n : Nat) (f : Nat → Fin q) (xs : Nat → Fin q), (∀ i j, i < n → j < n → xs i = xs j → i = j) → (∀ j, j < n → ev f n (xs j) = 0) → ∀ i, i < n → f i = 0 := by
  intro n
  induction n with
  | zero => intro f xs _ _ i hi; omega
  | succ n ih =>
    intro f xs hd hr
    have hlead : f n = 0 := by
      cases n with
      | zero =>
        have := hr 0 (by omega)
        simp only [ev, sumF, pw] at this
        grind
      | succ n =>
        have hg := ih (quo f (xs 0) (n + 2)) (fun j => xs (j + 1)) (fun i j hi hj h => by have := hd (i + 1) (j + 1) (by omega) (by omega) h; omega) (fun j hj => by
          have h1 := quo_ev f (xs 0) (xs (j + 1)) (n + 1 + 1)
          rw [hr (j + 1) (by omega), hr 0 (by omega)] at h1
          have h2 : (xs (j + 1) - xs 0) * ev (quo f (xs 0) (n + 1 + 1)) (n + 1 + 1) (xs (j + 1)) = 0 := by grind
          rcases hq _ _ h2 with h3 | h3
          · have : xs (j + 1) = xs 0 := by grind
            have := hd (j + 1) 0 (by omega) (by omega) this
            omega
          · rw [← h3]
            exact (ev_more (n := n + 1) (m := n + 1 + 1) (by omega) fun i h1 h2 => quo_zero _ _ _ _ (by omega)).symm)
        have := hg n (by omega)
        rw [quo_lead] at this
        exact this
    have hrest := ih f xs (fun i j hi hj h => hd i j (by omega) (by omega) h) (fun j hj => by
      have := hr j (by omega)
      rw [ev_succ, hlead] at this
      grind)
    intro i hi
    by_cases e : i = n
    · rw [e]; exact hlead
    · exact hrest i (by omega)
theorem ev_sub (f g : Nat → Fin q) (n : Nat) (x : Fin q) : ev (fun i => f i - g i) n x = ev f n x - ev g n x := by
  have := ev_add (fun i => f i - g i) g n x
  rw [ev_congr (g := f) fun i _ => by grind] at this
  grind
/-- what has the same values at as many places is the same -/
theorem same_values (hq : ∀ a b : Fin q, a * b = 0 → a = 0 ∨ b = 0) {n : Nat} {f g xs : Nat → Fin q} (hd : ∀ i j, i < n → j < n → xs i = xs j → i = j) (h : ∀ j, j < n → ev f n (xs j) = ev g n (xs j)) : ∀ i, i < n → f i = g i := by
  intro i hi
  have := roots (f := f) hq n (fun i => f i - g i) xs hd (fun j hj => by rw [ev_sub, h j hj]; grind) i hi
  grind
end
end Go.Num

set_option linter.unusedVariables false
namespace Go.Num

/-! ## Powers that are reckoned -/
def pm (m : Nat) : Nat → Nat → Nat → Nat
  | 0, _, _ => 1 % m
  | k + 1, b, e => if e % 2 = 1 then b * pm m k (b * b % m) (e / 2) % m else pm m k (b * b % m) (e / 2)
theorem pm_eq (m : Nat) : ∀ k b e, e < 2 ^ k → pm m k b e = b ^ e % m := by
  intro k
  induction k with
  | zero => intro b e h; obtain rfl : e = 0 := by simpa using h
            rw [pm, Nat.pow_zero]
  | succ k ih =>
    intro b e h
    have h2 : e / 2 < 2 ^ k := by rw [Nat.pow_succ] at h; omega
    have h3 : (b * b % m) ^ (e / 2) % m = b ^ (2 * (e / 2)) % m := by
      rw [← Nat.pow_mod, Nat.pow_mul, Nat.pow_two]
    rw [pm, ih _ _ h2]
    split
    · rename_i ho
      rw [h3, Nat.mul_mod_mod]
      congr 1
      conv => rhs; rw [show e = 2 * (e / 2) + 1 by omega]
      rw [Nat.pow_succ, Nat.mul_comm]
    · rename_i ho
      rw [h3, show 2 * (e / 2) = e by omega]

/-! ## Groups of a prime's order -/
theorem pow_mod_order {P Q G : Nat} (hP : 2 ≤ P) (h : G ^ Q % P = 1) (a : Nat) : G ^ a % P = G ^ (a % Q) % P := by
  have h1 := Nat.div_add_mod a Q
  conv => lhs; rw [← h1]
  rw [Nat.pow_add, Nat.mul_mod, pow_one_mul hP h, Nat.one_mul, Nat.mod_mod]
theorem pow_order {P Q G : Nat} (hP : Pr P) (hQ : Pr Q) (h1 : 1 < G) (h2 : G < P) (h : G ^ Q % P = 1) (a b : Nat) : G ^ a % P = G ^ b % P ↔ a % Q = b % Q := by
  constructor
  · have key : ∀ a b, a ≤ b → G ^ a % P = G ^ b % P → a % Q = b % Q := by
      intro a b hab e
      have hc : Nat.Coprime P (G ^ a) := by
        apply Nat.Coprime.pow_right
        apply hP.coprime
        intro hd
        have := Nat.le_of_dvd (by omega) hd
        omega
      have e2 : (G ^ a * 1) % P = (G ^ a * G ^ (b - a)) % P := by
        rw [Nat.mul_one, ← Nat.pow_add, show a + (b - a) = b by omega]; exact e
      have e3 := mod_cancel hc e2
      rw [Nat.mod_eq_of_lt hP.1] at e3
      have e4 := order_dvd hP.1 hQ h (by rw [Nat.mod_eq_of_lt h2]; omega) e3.symm
      exact (mod_of_dvd_sub e4 hab).symm
    intro e
    rcases Nat.le_total a b with hab | hab
    · exact key a b hab e
    · exact (key b a hab e.symm).symm
  · intro e
    rw [pow_mod_order hP.1 h a, pow_mod_order hP.1 h b, e]

/-! ## Numbers by q -/
section
variable {q : Nat} [NeZero q]
theorem tf_mod (a : Nat) : Fin.ofNat q (a % q) = Fin.ofNat q a := by
  apply Fin.ext; simp [Fin.ofNat]
theorem tf_add (a b : Nat) : Fin.ofNat q a + Fin.ofNat q b = Fin.ofNat q (a + b) := by
  apply Fin.ext; simp [Fin.ofNat, Fin.val_add]
theorem tf_mul (a b : Nat) : Fin.ofNat q a * Fin.ofNat q b = Fin.ofNat q (a * b) := by
  apply Fin.ext; simp [Fin.ofNat, Fin.val_mul, Nat.mul_mod]
theorem tf_zero : Fin.ofNat q 0 = 0 := rfl
theorem tf_inj {a b : Nat} : Fin.ofNat q a = Fin.ofNat q b ↔ a % q = b % q := by
  constructor
  · intro h; exact congrArg Fin.val h
  · intro h; exact Fin.ext h
theorem tf_one : Fin.ofNat q 1 = 1 := rfl
theorem tf_eq_zero {a : Nat} : Fin.ofNat q a = 0 ↔ a % q = 0 := by
  rw [← tf_zero, tf_inj, Nat.zero_mod]
theorem tf_sub (a b : Nat) : Fin.ofNat q (a + (q - b % q)) = Fin.ofNat q a - Fin.ofNat q b := by
  have hq : 0 < q := Nat.pos_of_ne_zero (NeZero.ne q)
  have h1 : Fin.ofNat q (a + (q - b % q)) + Fin.ofNat q b = Fin.ofNat q a := by
    rw [tf_add, tf_inj]
    have h2 := Nat.div_add_mod b q
    have h3 := Nat.mod_lt b hq
    have : a + (q - b % q) + b = a + q * (b / q + 1) := by rw [Nat.mul_add, Nat.mul_one]; omega
    rw [this, Nat.add_mul_mod_self_left]
  grind
theorem tf_val (x : Fin q) : Fin.ofNat q x.val = x := by
  apply Fin.ext
  exact Nat.mod_eq_of_lt x.isLt
theorem no_divisors (hq : Pr q) : ∀ a b : Fin q, a * b = 0 → a = 0 ∨ b = 0 := by
  intro a b h
  rw [← tf_val a, ← tf_val b, tf_mul, tf_eq_zero] at h
  rw [← tf_val a, ← tf_val b, tf_eq_zero, tf_eq_zero]
  rcases hq.dvd_mul (Nat.dvd_of_mod_eq_zero h) with h1 | h1
  · exact .inl (Nat.mod_eq_zero_of_dvd h1)
  · exact .inr (Nat.mod_eq_zero_of_dvd h1)
end
/-- an inverse is a power -/
theorem inv_pow {q a v : Nat} (hq : Pr q) (ha : a % q ≠ 0) (hv : v < q) (h : v * a % q = 1) : v = a ^ (q - 2) % q := by
  have hnd : ¬ q ∣ a := fun hd => ha (Nat.mod_eq_zero_of_dvd hd)
  have hf := fermat_one hq hnd
  have h2 := hq.1
  have h3 : a ^ (q - 2) % q * a % q = 1 := by
    rw [Nat.mod_mul_mod, ← Nat.pow_succ]
    show a ^ (q - 2 + 1) % q = 1
    by_cases e : q = 2
    · subst e
      simp only [Nat.sub_self, Nat.zero_add, Nat.pow_one]
      omega
    · rw [show q - 2 + 1 = q - 1 by omega]; exact hf
  refine inv_unique (m := q) (a := a) hv (Nat.mod_lt _ (by omega)) ?_ ?_
  · rw [h]; exact (Nat.mod_eq_of_lt (by omega)).symm
  · rw [h3]; exact (Nat.mod_eq_of_lt (by omega)).symm
end Go.Num

set_option linter.unusedVariables false
set_option linter.unusedSimpArgs false
namespace Go.Pl
open Go Go.Den Go.Num

theorem prime_iff_tried {n : Nat} (hn : 2 ≤ n) : Pr n ↔ ∀ d, 2 ≤ d → d * d ≤ n → n % d ≠ 0 := by
  constructor
  · intro h d h2 hd
    refine h.tried d h2 ?_
    have : 2 * d ≤ d * d := Nat.mul_le_mul_right _ h2
    omega
  · exact prime_of_tried hn

theorem prime_Small_spec (n : Int) : ∃ b, prime_Small n = some b ∧ (b = true ↔ 2 ≤ n ∧ n < 65536 ∧ Pr n.toNat) := by
  rw [prime_Small_eq]; unfold prime_Small'
  by_cases h2 : n < 2
  · refine ⟨false, ?_, by simp; omega⟩
    simp (disch := omega) only [wrap_i64n, wrapun, dec_t, dec_f, inb_t, cond_true, cond_false, Int.toNat_natCast, beq_t, beq_f, bne_t, bne_f, Bool.not_true, Bool.not_false, Int.reduceToNat, ft_b, tf_b, tt_b, ff_b, decide_true, decide_false]
  · by_cases h3 : 65536 ≤ n
    · refine ⟨false, ?_, by simp; omega⟩
      simp (disch := omega) only [wrap_i64n, wrapun, dec_t, dec_f, inb_t, cond_true, cond_false, Int.toNat_natCast, beq_t, beq_f, bne_t, bne_f, Bool.not_true, Bool.not_false, Int.reduceToNat, ft_b, tf_b, tt_b, ff_b, decide_true, decide_false]
    · simp (disch := omega) only [wrap_i64n, wrapun, dec_t, dec_f, inb_t, cond_true, cond_false, Int.toNat_natCast, beq_t, beq_f, bne_t, bne_f, Bool.not_true, Bool.not_false, Int.reduceToNat, ft_b, tf_b, tt_b, ff_b, decide_true, decide_false]
      obtain ⟨N, rfl⟩ : ∃ N : Nat, n = (N : Int) := ⟨n.toNat, by omega⟩
      generalize ho : loopF R_prime_Small_0 _ = o
      have hN2 : 2 ≤ N := by omega
      have goal : ∃ y, loopF R_prime_Small_0 (T_prime_Small_0 (N : Int) true (N : Int) ((0 : Nat) : Int)) = some y ∧ ∃ b, y = Y_prime_Small_0_0 b ∧ (b = true ↔ Pr N) :=
        loop_seek (R := R_prime_Small_0) (S := Unit) (fun d _ => T_prime_Small_0 (N : Int) true (N : Int) (d : Int)) (fun d _ => ∀ k, 2 ≤ k → k < d → N % k ≠ 0)
          (fun y => ∃ b, y = Y_prime_Small_0_0 b ∧ (b = true ↔ Pr N)) N
          (fun d hd _ hP => by
            by_cases c2 : d < 2
            · left
              refine ⟨(), ?_, fun k h1 h2 => by omega⟩
              unfold R_prime_Small_0
              simp (disch := omega) only [add_c, add_l, l_add, mul_c, mul_l, l_mul, sub_c, sub_l, l_sub, div_c, div_l, mod_c, mod_l, tdiv_c, tdiv_l, tmod_c, tmod_l, wrap_i64n, wrapun, dec_t, dec_f, inb_t, cond_true, cond_false, Int.toNat_natCast, beq_t, beq_f, bne_t, bne_f, Bool.not_true, Bool.not_false, Int.reduceToNat, ft_b, tf_b, tt_b, ff_b, decide_true, decide_false]
            · have hdd : d * d < 65536 * 65536 := Nat.mul_lt_mul'' (by omega) (by omega)
              by_cases c3 : N < d * d
              · right
                have hp : Pr N := (prime_iff_tried hN2).2 fun k h1 h2 => hP k h1 (by
                  apply Classical.byContradiction
                  intro hc
                  have : d * d ≤ k * k := Nat.mul_le_mul (by omega) (by omega)
                  omega)
                refine ⟨_, ?_, true, rfl, by simp only [hp]⟩
                unfold R_prime_Small_0
                simp (disch := omega) only [add_c, add_l, l_add, mul_c, mul_l, l_mul, sub_c, sub_l, l_sub, div_c, div_l, mod_c, mod_l, tdiv_c, tdiv_l, tmod_c, tmod_l, wrap_i64n, wrapun, dec_t, dec_f, inb_t, cond_true, cond_false, Int.toNat_natCast, beq_t, beq_f, bne_t, bne_f, Bool.not_true, Bool.not_false, Int.reduceToNat, ft_b, tf_b, tt_b, ff_b, decide_true, decide_false]
              · by_cases c4 : N % d = 0
                · right
                  refine ⟨_, ?_, false, rfl, ?_⟩
                  · unfold R_prime_Small_0
                    simp (disch := omega) only [add_c, add_l, l_add, mul_c, mul_l, l_mul, sub_c, sub_l, l_sub, div_c, div_l, mod_c, mod_l, tdiv_c, tdiv_l, tmod_c, tmod_l, wrap_i64n, wrapun, dec_t, dec_f, inb_t, cond_true, cond_false, Int.toNat_natCast, beq_t, beq_f, bne_t, bne_f, Bool.not_true, Bool.not_false, Int.reduceToNat, ft_b, tf_b, tt_b, ff_b, decide_true, decide_false, c4]
                  · simp only [Bool.false_eq_true, false_iff]
                    exact fun hp => hp.tried d (by omega) hd c4
                · left
                  refine ⟨(), ?_, fun k h1 h2 => ?_⟩
                  · unfold R_prime_Small_0
                    generalize hm : N % d = m at c4
                    simp (disch := omega) only [add_c, add_l, l_add, mul_c, mul_l, l_mul, sub_c, sub_l, l_sub, div_c, div_l, mod_c, mod_l, tdiv_c, tdiv_l, tmod_c, tmod_l, wrap_i64n, wrapun, dec_t, dec_f, inb_t, cond_true, cond_false, Int.toNat_natCast, beq_t, beq_f, bne_t, bne_f, Bool.not_true, Bool.not_false, Int.reduceToNat, ft_b, tf_b, tt_b, ff_b, decide_true, decide_false, hm]
                  · by_cases e : k = d
                    · subst e; exact c4
                    · exact hP k h1 (by omega))
          (fun _ hP => by
            have hp : Pr N := (prime_iff_tried hN2).2 fun k h1 h2 => hP k h1 (by
              have : 2 * k ≤ k * k := Nat.mul_le_mul_right _ h1
              omega)
            refine ⟨_, ?_, true, rfl, by simp only [hp]⟩
            unfold R_prime_Small_0
            simp (disch := omega) only [add_c, add_l, l_add, mul_c, mul_l, l_mul, sub_c, sub_l, l_sub, div_c, div_l, mod_c, mod_l, tdiv_c, tdiv_l, tmod_c, tmod_l, wrap_i64n, wrapun, dec_t, dec_f, inb_t, cond_true, cond_false, Int.toNat_natCast, beq_t, beq_f, bne_t, bne_f, Bool.not_true, Bool.not_false, Int.reduceToNat, ft_b, tf_b, tt_b, ff_b, decide_true, decide_false]) () (fun k h1 h2 => by omega)
      obtain ⟨y, hy, b, rfl, hb⟩ := goal
      obtain rfl := ho.symm.trans hy
      exact ⟨b, rfl, by rw [hb, Int.toNat_natCast]; exact ⟨fun h => ⟨by omega, by omega, h⟩, fun h => h.2.2⟩⟩

theorem r04_Plain_spec (n : Int) : ∃ b, r04_Plain n = some b ∧ (b = true ↔ 2 ≤ n ∧ n ≤ 4294967296 ∧ Pr n.toNat) := by
  rw [r04_Plain_eq]; unfold r04_Plain'
  by_cases h2 : n < 2
  · refine ⟨false, ?_, by simp; omega⟩
    simp (disch := omega) only [wrap_i64n, wrapun, dec_t, dec_f, inb_t, cond_true, cond_false, Int.toNat_natCast, beq_t, beq_f, bne_t, bne_f, Bool.not_true, Bool.not_false, Int.reduceToNat, ft_b, tf_b, tt_b, ff_b, decide_true, decide_false]
  · by_cases h3 : 4294967296 < n
    · refine ⟨false, ?_, by simp; omega⟩
      simp (disch := omega) only [wrap_i64n, wrapun, dec_t, dec_f, inb_t, cond_true, cond_false, Int.toNat_natCast, beq_t, beq_f, bne_t, bne_f, Bool.not_true, Bool.not_false, Int.reduceToNat, ft_b, tf_b, tt_b, ff_b, decide_true, decide_false]
    · simp (disch := omega) only [wrap_i64n, wrapun, dec_t, dec_f, inb_t, cond_true, cond_false, Int.toNat_natCast, beq_t, beq_f, bne_t, bne_f, Bool.not_true, Bool.not_false, Int.reduceToNat, ft_b, tf_b, tt_b, ff_b, decide_true, decide_false]
      obtain ⟨N, rfl⟩ : ∃ N : Nat, n = (N : Int) := ⟨n.toNat, by omega⟩
      generalize ho : loopF R_r04_Plain_0 _ = o
      have hN2 : 2 ≤ N := by omega
      have goal : ∃ y, loopF R_r04_Plain_0 (T_r04_Plain_0 (N : Int) ((2 + 0 : Nat) : Int)) = some y ∧ ((y = Y_r04_Plain_0_0 false ∧ ¬ Pr N) ∨ (y = Y_r04_Plain_0_1 ∧ Pr N)) :=
        loop_seek (R := R_r04_Plain_0) (S := Unit) (fun d _ => T_r04_Plain_0 (N : Int) ((2 + d : Nat) : Int)) (fun d _ => ∀ k, 2 ≤ k → k < 2 + d → N % k ≠ 0)
          (fun y => (y = Y_r04_Plain_0_0 false ∧ ¬ Pr N) ∨ (y = Y_r04_Plain_0_1 ∧ Pr N)) 65534
          (fun d hd _ hP => by
            have hdd : (2 + d) * (2 + d) < 65536 * 65536 := Nat.mul_lt_mul'' (by omega) (by omega)
            by_cases c3 : N < (2 + d) * (2 + d)
            · right
              refine ⟨_, ?_, .inr ⟨rfl, (prime_iff_tried hN2).2 fun k h1 h2 => hP k h1 ?_⟩⟩
              · unfold R_r04_Plain_0
                simp (disch := omega) only [add_c, add_l, l_add, mul_c, mul_l, l_mul, sub_c, sub_l, l_sub, div_c, div_l, mod_c, mod_l, tdiv_c, tdiv_l, tmod_c, tmod_l, wrap_i64n, wrapun, dec_t, dec_f, inb_t, cond_true, cond_false, Int.toNat_natCast, beq_t, beq_f, bne_t, bne_f, Bool.not_true, Bool.not_false, Int.reduceToNat, ft_b, tf_b, tt_b, ff_b, decide_true, decide_false]
              · apply Classical.byContradiction
                intro hc
                have : (2 + d) * (2 + d) ≤ k * k := Nat.mul_le_mul (by omega) (by omega)
                omega
            · have hle : 2 * (2 + d) ≤ (2 + d) * (2 + d) := Nat.mul_le_mul_right _ (by omega)
              by_cases c4 : N % (2 + d) = 0
              · right
                refine ⟨_, ?_, .inl ⟨rfl, fun hp => hp.tried (2 + d) (by omega) (by omega) c4⟩⟩
                unfold R_r04_Plain_0
                simp (disch := omega) only [add_c, add_l, l_add, mul_c, mul_l, l_mul, sub_c, sub_l, l_sub, div_c, div_l, mod_c, mod_l, tdiv_c, tdiv_l, tmod_c, tmod_l, wrap_i64n, wrapun, dec_t, dec_f, inb_t, cond_true, cond_false, Int.toNat_natCast, beq_t, beq_f, bne_t, bne_f, Bool.not_true, Bool.not_false, Int.reduceToNat, ft_b, tf_b, tt_b, ff_b, decide_true, decide_false, c4]
              · left
                refine ⟨(), ?_, fun k h1 h2 => ?_⟩
                · unfold R_r04_Plain_0
                  generalize hm : N % (2 + d) = m at c4
                  simp (disch := omega) only [add_c, add_l, l_add, mul_c, mul_l, l_mul, sub_c, sub_l, l_sub, div_c, div_l, mod_c, mod_l, tdiv_c, tdiv_l, tmod_c, tmod_l, wrap_i64n, wrapun, dec_t, dec_f, inb_t, cond_true, cond_false, Int.toNat_natCast, beq_t, beq_f, bne_t, bne_f, Bool.not_true, Bool.not_false, Int.reduceToNat, ft_b, tf_b, tt_b, ff_b, decide_true, decide_false, hm, Nat.add_assoc]
                · by_cases e : k = 2 + d
                  · subst e; exact c4
                  · exact hP k h1 (by omega))
          (fun _ hP => by
            refine ⟨_, ?_, .inr ⟨rfl, (prime_iff_tried hN2).2 fun k h1 h2 => hP k h1 ?_⟩⟩
            · unfold R_r04_Plain_0
              simp (disch := omega) only [add_c, add_l, l_add, mul_c, mul_l, l_mul, sub_c, sub_l, l_sub, div_c, div_l, mod_c, mod_l, tdiv_c, tdiv_l, tmod_c, tmod_l, wrap_i64n, wrapun, dec_t, dec_f, inb_t, cond_true, cond_false, Int.toNat_natCast, beq_t, beq_f, bne_t, bne_f, Bool.not_true, Bool.not_false, Int.reduceToNat, ft_b, tf_b, tt_b, ff_b, decide_true, decide_false]
            · apply Classical.byContradiction
              intro hc
              have : 65536 * 65536 ≤ k * k := Nat.mul_le_mul (by omega) (by omega)
              have hN : N = 4294967296 := by omega
              exact hP 2 (by omega) (by omega) (by rw [hN])) () (fun k h1 h2 => by omega)
      obtain ⟨y, hy, hb⟩ := goal
      obtain rfl := ho.symm.trans hy
      rcases hb with ⟨rfl, hb⟩ | ⟨rfl, hb⟩
      · exact ⟨false, rfl, by simp [hb]⟩
      · exact ⟨true, rfl, by simp [hb]; omega⟩
theorem r04_Small_spec (n : Int) : ∃ b, r04_Small n = some b ∧ (b = true ↔ 2 ≤ n ∧ n < 65536 ∧ Pr n.toNat) := by
  rw [r04_Small_eq]; unfold r04_Small'
  obtain ⟨b, h1, h2⟩ := r04_Plain_spec n
  by_cases h : n < 65536
  · simp (disch := omega) only [wrap_i64n, wrapun, dec_t, dec_f, inb_t, cond_true, cond_false, Int.toNat_natCast, beq_t, beq_f, bne_t, bne_f, Bool.not_true, Bool.not_false, Int.reduceToNat, ft_b, tf_b, tt_b, ff_b, decide_true, decide_false, h1]
    refine ⟨b, rfl, ?_⟩
    rw [h2]
    constructor
    · rintro ⟨h3, h4, h5⟩; exact ⟨h3, h, h5⟩
    · rintro ⟨h3, h4, h5⟩; exact ⟨h3, by omega, h5⟩
  · simp (disch := omega) only [wrap_i64n, wrapun, dec_t, dec_f, inb_t, cond_true, cond_false, Int.toNat_natCast, beq_t, beq_f, bne_t, bne_f, Bool.not_true, Bool.not_false, Int.reduceToNat, ft_b, tf_b, tt_b, ff_b, decide_true, decide_false]
    exact ⟨false, rfl, by simp; omega⟩

/-- a witness shows that a natural is a prime, if another one is -/
def StepP (n f : Nat) (w : Int) : Prop := n % 2 = 1 ∧ n ≠ 1 ∧ 2 ≤ w ∧ w < 65536 ∧ f ≠ 0 ∧ (n - 1) % f = 0 ∧ n < f * f ∧ (w.toNat ^ ((n - 1) / f) % n) ^ f % n = 1 ∧ Nat.gcd (w.toNat ^ ((n - 1) / f) % n + (n - 1)) n = 1
instance (n f : Nat) (w : Int) : Decidable (StepP n f w) := by unfold StepP; exact inferInstance

theorem gcd_mod_left (x n : Nat) : Nat.gcd (x % n) n = Nat.gcd x n := by
  rw [Nat.gcd_comm x n, Nat.gcd_rec n x]

theorem square_over {lo hi : Nat → Int} {n : Nat → Int} {N F : Nat} (h1 : IsN lo (F * F % 2 ^ 256)) (h2 : IsN hi (F * F / 2 ^ 256)) (hn : IsN n N) :
    (F * F / 2 ^ 256 = 0 → (N < F * F ↔ ¬ cmpI (F * F % 2 ^ 256) N ≤ 0)) ∧ (F * F / 2 ^ 256 ≠ 0 → N < F * F) := by
  have hN := hn.1
  constructor
  · intro h
    have : F * F < 2 ^ 256 := by
      rcases Nat.div_eq_zero_iff.1 h with h | h
      · exact absurd h (by decide)
      · exact h
    rw [Nat.mod_eq_of_lt this]
    unfold cmpI
    generalize F * F = Q at *
    by_cases c1 : Q < N
    · rw [if_pos c1]; constructor
      · intro h; omega
      · intro h; exact absurd (by decide) h
    · rw [if_neg c1]
      by_cases c2 : N < Q
      · rw [if_pos c2]; simp [c2]
      · rw [if_neg c2]; simp [c2]
  · intro h
    generalize F * F = Q at *
    apply Classical.byContradiction
    intro hc
    exact h (Nat.div_eq_of_lt (by omega))

theorem prime_Step_spec {n f : Nat → Int} {N F : Nat} (hn : IsN n N) (hf : IsN f F) (w : Int) : prime_Step n f w = some (decide (StepP N F w)) := by
  rw [prime_Step_eq]; unfold prime_Step'
  have no : ¬ StepP N F w → some false = some (decide (StepP N F w)) := fun h => by rw [decide_eq_false h]
  by_cases h1 : N % 2 = 1 ∧ N ≠ 1
  · obtain ⟨r, r1, hr, _⟩ := (mont_New_spec hn).2 h1.1 h1.2
    have hN1 := hr.one
    by_cases h2 : w < 2
    · simp (disch := omega) only [wrap_i64n, wrapun, dec_t, dec_f, inb_t, cond_true, cond_false, Int.toNat_natCast, beq_t, beq_f, bne_t, bne_f, Bool.not_true, Bool.not_false, Int.reduceToNat, ft_b, tf_b, tt_b, ff_b, decide_true, decide_false, r1]
      exact no (fun h => by have := h.2.2.1; omega)
    · by_cases h3 : 65536 ≤ w
      · simp (disch := omega) only [wrap_i64n, wrapun, dec_t, dec_f, inb_t, cond_true, cond_false, Int.toNat_natCast, beq_t, beq_f, bne_t, bne_f, Bool.not_true, Bool.not_false, Int.reduceToNat, ft_b, tf_b, tt_b, ff_b, decide_true, decide_false, r1]
        exact no (fun h => by have := h.2.2.2.1; omega)
      · by_cases h4 : F = 0
        · simp (disch := omega) only [wrap_i64n, wrapun, dec_t, dec_f, inb_t, cond_true, cond_false, Int.toNat_natCast, beq_t, beq_f, bne_t, bne_f, Bool.not_true, Bool.not_false, Int.reduceToNat, ft_b, tf_b, tt_b, ff_b, decide_true, decide_false, r1, hf.isZero]
          exact no (fun h => h.2.2.2.2.1 h4)
        · obtain ⟨o, o1, o2⟩ := nat_Of_spec (n := 1) (by decide)
          have o2' : IsN o 1 := o2
          obtain ⟨l, l1, l2⟩ := nat_Sub_spec hn o2'
          have hNl := hn.1
          have l3 : IsN l (N - 1) := l2.of_eq (by omega)
          obtain ⟨k, q, d1, d2, d3⟩ := wide_Div_spec l3 hf (by omega)
          obtain ⟨lo, hi, m1, m2, m3⟩ := wide_Mul_spec hf hf
          have sq := square_over m2 m3 hn
          by_cases h5 : (N - 1) % F = 0
          · obtain ⟨W, hW1, hW2⟩ := nat_Of_spec (n := w) (by omega)
            obtain ⟨p, p1, p2⟩ := mont_Exp_spec hr hW2 d2
            obtain ⟨e, e1, e2⟩ := mont_Exp_spec hr p2 hf
            obtain ⟨s, s1, s2⟩ := wide_SubMod_spec p2 o2' hn hr.pos
            obtain ⟨g, g1, g2⟩ := wide_Gcd_spec s2 hn
            rw [Nat.mod_eq_of_lt hN1, gcd_mod_left] at g2
            by_cases h6 : N < F * F
            · by_cases h7 : (w.toNat ^ ((N - 1) / F) % N) ^ F % N = 1
              · have hfin : decide (Nat.gcd (w.toNat ^ ((N - 1) / F) % N + (N - 1)) N = 1) = decide (StepP N F w) := by
                  rw [decide_eq_decide]
                  exact ⟨fun h => ⟨h1.1, h1.2, by omega, by omega, h4, h5, h6, h7, h⟩, fun h => h.2.2.2.2.2.2.2.2⟩
                by_cases h8 : F * F / 2 ^ 256 = 0
                · have h9 := (sq.1 h8).1 h6
                  simp (disch := first | omega | assumption) only [wrap_i64n, wrapun, dec_t, dec_f, inb_t, cond_true, cond_false, Int.toNat_natCast, beq_t, beq_f, bne_t, bne_f, Bool.not_true, Bool.not_false, Int.reduceToNat, ft_b, tf_b, tt_b, ff_b, decide_true, decide_false, r1, hf.isZero, o1, l1, d1, m1, d3.isZero, m3.isZero, nat_Cmp_spec m2 hn, dec_f h9, hW1, p1, e1, e2.eqb o2', s1, g1, g2.eqb o2', hfin]
                · simp (disch := first | omega | assumption) only [wrap_i64n, wrapun, dec_t, dec_f, inb_t, cond_true, cond_false, Int.toNat_natCast, beq_t, beq_f, bne_t, bne_f, Bool.not_true, Bool.not_false, Int.reduceToNat, ft_b, tf_b, tt_b, ff_b, decide_true, decide_false, r1, hf.isZero, o1, l1, d1, m1, d3.isZero, m3.isZero, hW1, p1, e1, e2.eqb o2', s1, g1, g2.eqb o2', hfin]
              · have hno := no (fun h => h7 h.2.2.2.2.2.2.2.1)
                by_cases h8 : F * F / 2 ^ 256 = 0
                · have h9 := (sq.1 h8).1 h6
                  simp (disch := first | omega | assumption) only [wrap_i64n, wrapun, dec_t, dec_f, inb_t, cond_true, cond_false, Int.toNat_natCast, beq_t, beq_f, bne_t, bne_f, Bool.not_true, Bool.not_false, Int.reduceToNat, ft_b, tf_b, tt_b, ff_b, decide_true, decide_false, r1, hf.isZero, o1, l1, d1, m1, d3.isZero, m3.isZero, nat_Cmp_spec m2 hn, dec_f h9, hW1, p1, e1, e2.eqb o2']
                  exact hno
                · simp (disch := first | omega | assumption) only [wrap_i64n, wrapun, dec_t, dec_f, inb_t, cond_true, cond_false, Int.toNat_natCast, beq_t, beq_f, bne_t, bne_f, Bool.not_true, Bool.not_false, Int.reduceToNat, ft_b, tf_b, tt_b, ff_b, decide_true, decide_false, r1, hf.isZero, o1, l1, d1, m1, d3.isZero, m3.isZero, hW1, p1, e1, e2.eqb o2']
                  exact hno
            · have h8 : F * F / 2 ^ 256 = 0 := Classical.byContradiction fun h => h6 (sq.2 h)
              have h9 : cmpI (F * F % 2 ^ 256) N ≤ 0 := Classical.byContradiction fun h => h6 ((sq.1 h8).2 h)
              simp (disch := first | omega | assumption) only [wrap_i64n, wrapun, dec_t, dec_f, inb_t, cond_true, cond_false, Int.toNat_natCast, beq_t, beq_f, bne_t, bne_f, Bool.not_true, Bool.not_false, Int.reduceToNat, ft_b, tf_b, tt_b, ff_b, decide_true, decide_false, r1, hf.isZero, o1, l1, d1, m1, d3.isZero, m3.isZero, nat_Cmp_spec m2 hn, dec_t h9]
              exact no (fun h => h6 h.2.2.2.2.2.2.1)
          · simp (disch := first | omega | assumption) only [wrap_i64n, wrapun, dec_t, dec_f, inb_t, cond_true, cond_false, Int.toNat_natCast, beq_t, beq_f, bne_t, bne_f, Bool.not_true, Bool.not_false, Int.reduceToNat, ft_b, tf_b, tt_b, ff_b, decide_true, decide_false, r1, hf.isZero, o1, l1, d1, m1, d3.isZero]
            exact no (fun h => h5 h.2.2.2.2.2.1)
  · have r1 := (mont_New_spec hn).1 (by omega)
    simp (disch := omega) only [wrap_i64n, wrapun, dec_t, dec_f, inb_t, cond_true, cond_false, Int.toNat_natCast, beq_t, beq_f, bne_t, bne_f, Bool.not_true, Bool.not_false, Int.reduceToNat, ft_b, tf_b, tt_b, ff_b, decide_true, decide_false, r1]
    exact no (fun h => h1 ⟨h.1, h.2.1⟩)
end Go.Pl

set_option linter.unusedVariables false
set_option linter.unusedSimpArgs false
namespace Go.Pl
open Go Go.Den Go.Num

/-- a chain of primes: its numbers N, its witnesses A -/
def ChainP (k : Nat) (N : Nat → Nat) (A : Nat → Int) : Prop := 1 ≤ k ∧ k ≤ 8 ∧ 2 ≤ N 0 ∧ N 0 < 65536 ∧ Pr (N 0) ∧ A 0 = 0 ∧ ∀ i, i + 1 < k → StepP (N (i + 1)) (N i) (A (i + 1))

theorem StepP.prime {n f : Nat} {w : Int} (h : StepP n f w) (hf : Pr f) : Pr n := by
  obtain ⟨h1, h2, h3, h4, h5, h6, h7, h8, h9⟩ := h
  refine pocklington (f := f) (k := (n - 1) / f) (a := w.toNat) (by omega) hf ?_ h7 h8 ?_
  · have := Nat.div_add_mod (n - 1) f
    rw [h6] at this
    rw [Nat.mul_comm]; exact this
  · rw [← Nat.add_sub_assoc (by omega)] at h9; exact h9
theorem ChainP.prime {k : Nat} {N : Nat → Nat} {A : Nat → Int} (h : ChainP k N A) : ∀ i, i < k → Pr (N i) := by
  intro i
  induction i with
  | zero => intro _; exact h.2.2.2.2.1
  | succ i ih => intro hi; exact (h.2.2.2.2.2.2 i hi).prime (ih (by omega))

theorem prime_Check_spec {k : Nat} {l : Nat → (Nat → Int) × Int} {N : Nat → Nat} (hl : ∀ i, i < k → IsN (l i).1 (N i)) :
    (ChainP k N (fun i => (l i).2) → prime_Check k l = some 0) ∧ (¬ ChainP k N (fun i => (l i).2) → prime_Check k l = some 4) := by
  suffices h : ∃ b : Bool, prime_Check k l = some (if b then 0 else 4) ∧ (b = true ↔ ChainP k N (fun i => (l i).2)) by
    obtain ⟨b, h1, h2⟩ := h
    rw [h1]
    constructor
    · intro h; rw [h2.2 h]; rfl
    · intro h
      cases b
      · rfl
      · exact absurd (h2.1 rfl) h
  rw [prime_Check_eq]; unfold prime_Check'
  by_cases h1 : k < 1
  · refine ⟨false, ?_, by simp only [Bool.false_eq_true, false_iff]; exact fun h => by have := h.1; omega⟩
    simp (disch := omega) only [wrap_i64n, wrapun, dec_t, dec_f, inb_t, cond_true, cond_false, Int.toNat_natCast, beq_t, beq_f, bne_t, bne_f, Bool.not_true, Bool.not_false, Int.reduceToNat, ft_b, tf_b, tt_b, ff_b, decide_true, decide_false]; rfl
  · by_cases h2 : 8 < k
    · refine ⟨false, ?_, by simp only [Bool.false_eq_true, false_iff]; exact fun h => by have := h.2.1; omega⟩
      simp (disch := omega) only [wrap_i64n, wrapun, dec_t, dec_f, inb_t, cond_true, cond_false, Int.toNat_natCast, beq_t, beq_f, bne_t, bne_f, Bool.not_true, Bool.not_false, Int.reduceToNat, ft_b, tf_b, tt_b, ff_b, decide_true, decide_false]; rfl
    · have h0 := hl 0 (by omega)
      by_cases h3 : N 0 < 9223372036854775808
      · obtain ⟨b, hb1, hb2⟩ := prime_Small_spec ((N 0 : Nat) : Int)
        rw [Int.toNat_natCast] at hb2
        cases b with
        | false =>
          refine ⟨false, ?_, by simp only [Bool.false_eq_true, false_iff]; exact fun h => absurd (hb2.2 ⟨by have := h.2.2.1; omega, by have := h.2.2.2.1; omega, h.2.2.2.2.1⟩) (by decide)⟩
          simp (disch := omega) only [wrap_i64n, wrapun, dec_t, dec_f, inb_t, cond_true, cond_false, Int.toNat_natCast, beq_t, beq_f, bne_t, bne_f, Bool.not_true, Bool.not_false, Int.reduceToNat, ft_b, tf_b, tt_b, ff_b, decide_true, decide_false, nat_Int_spec h0, if_pos h3, hb1]; rfl
        | true =>
          have hb3 := hb2.1 rfl
          by_cases h4 : (l 0).2 = 0
          · simp (disch := omega) only [wrap_i64n, wrapun, dec_t, dec_f, inb_t, cond_true, cond_false, Int.toNat_natCast, beq_t, beq_f, bne_t, bne_f, Bool.not_true, Bool.not_false, Int.reduceToNat, ft_b, tf_b, tt_b, ff_b, decide_true, decide_false, nat_Int_spec h0, if_pos h3, hb1]
            generalize ho : loopF R_prime_Check_0 _ = o
            have L : ∃ y, loopF R_prime_Check_0 (T_prime_Check_0 k l ((1 + 0 : Nat) : Int)) = some y ∧ ((y = Y_prime_Check_0_0 4 ∧ ¬ ChainP k N (fun i => (l i).2)) ∨ (y = Y_prime_Check_0_1 ∧ ChainP k N (fun i => (l i).2))) :=
              loop_seek (R := R_prime_Check_0) (S := Unit) (fun i _ => T_prime_Check_0 k l ((1 + i : Nat) : Int)) (fun i _ => ∀ j, j < i → StepP (N (j + 1)) (N j) ((l (j + 1)).2))
                (fun y => (y = Y_prime_Check_0_0 4 ∧ ¬ ChainP k N (fun i => (l i).2)) ∨ (y = Y_prime_Check_0_1 ∧ ChainP k N (fun i => (l i).2))) (k - 1)
                (fun i hi _ hP => by
                  have hs := prime_Step_spec (hl (1 + i) (by omega)) (hl i (by omega)) (l (1 + i)).2
                  by_cases hst : StepP (N (1 + i)) (N i) (l (1 + i)).2
                  · left
                    refine ⟨(), ?_, fun j hj => ?_⟩
                    · unfold R_prime_Check_0
                      simp (disch := first | omega | assumption) only [add_c, add_l, l_add, mul_c, mul_l, l_mul, sub_c, sub_l, l_sub, div_c, div_l, mod_c, mod_l, tdiv_c, tdiv_l, tmod_c, tmod_l, wrap_i64n, wrapun, dec_t, dec_f, inb_t, cond_true, cond_false, Int.toNat_natCast, beq_t, beq_f, bne_t, bne_f, Bool.not_true, Bool.not_false, Int.reduceToNat, ft_b, tf_b, tt_b, ff_b, decide_true, decide_false, Nat.add_sub_cancel_left, hs, Nat.add_assoc]
                    · by_cases e : j = i
                      · subst e; rw [Nat.add_comm j 1]; exact hst
                      · exact hP j (by omega)
                  · right
                    refine ⟨_, ?_, .inl ⟨rfl, fun h => hst ?_⟩⟩
                    · unfold R_prime_Check_0
                      simp (disch := first | omega | assumption) only [add_c, add_l, l_add, mul_c, mul_l, l_mul, sub_c, sub_l, l_sub, div_c, div_l, mod_c, mod_l, tdiv_c, tdiv_l, tmod_c, tmod_l, wrap_i64n, wrapun, dec_t, dec_f, inb_t, cond_true, cond_false, Int.toNat_natCast, beq_t, beq_f, bne_t, bne_f, Bool.not_true, Bool.not_false, Int.reduceToNat, ft_b, tf_b, tt_b, ff_b, decide_true, decide_false, Nat.add_sub_cancel_left, hs]
                    · have := h.2.2.2.2.2.2 i (by omega)
                      rw [Nat.add_comm 1 i]; exact this)
                (fun _ hP => by
                  refine ⟨_, ?_, .inr ⟨rfl, by omega, by omega, by omega, by omega, hb3.2.2, h4, fun i hi => hP i (by omega)⟩⟩
                  unfold R_prime_Check_0
                  simp (disch := omega) only [add_c, add_l, l_add, mul_c, mul_l, l_mul, sub_c, sub_l, l_sub, div_c, div_l, mod_c, mod_l, tdiv_c, tdiv_l, tmod_c, tmod_l, wrap_i64n, wrapun, dec_t, dec_f, inb_t, cond_true, cond_false, Int.toNat_natCast, beq_t, beq_f, bne_t, bne_f, Bool.not_true, Bool.not_false, Int.reduceToNat, ft_b, tf_b, tt_b, ff_b, decide_true, decide_false]) () (fun j hj => by omega)
            obtain ⟨y, hy, hQ⟩ := L
            obtain rfl := ho.symm.trans hy
            rcases hQ with ⟨rfl, hQ⟩ | ⟨rfl, hQ⟩
            · exact ⟨false, rfl, by simp [hQ]⟩
            · exact ⟨true, rfl, by simp [hQ]⟩
          · refine ⟨false, ?_, by simp only [Bool.false_eq_true, false_iff]; exact fun h => h4 h.2.2.2.2.2.1⟩
            simp (disch := omega) only [wrap_i64n, wrapun, dec_t, dec_f, inb_t, cond_true, cond_false, Int.toNat_natCast, beq_t, beq_f, bne_t, bne_f, Bool.not_true, Bool.not_false, Int.reduceToNat, ft_b, tf_b, tt_b, ff_b, decide_true, decide_false, nat_Int_spec h0, if_pos h3, hb1]; rfl
      · refine ⟨false, ?_, by simp only [Bool.false_eq_true, false_iff]; exact fun h => by have := h.2.2.2.1; omega⟩
        simp (disch := omega) only [wrap_i64n, wrapun, dec_t, dec_f, inb_t, cond_true, cond_false, Int.toNat_natCast, beq_t, beq_f, bne_t, bne_f, Bool.not_true, Bool.not_false, Int.reduceToNat, ft_b, tf_b, tt_b, ff_b, decide_true, decide_false, nat_Int_spec h0, if_neg h3]; rfl

/-- the least witness -/
theorem prime_Witness_spec {n f : Nat → Int} {N F : Nat} (hn : IsN n N) (hf : IsN f F) :
    ∃ w e : Int, prime_Witness n f = some (w, e) ∧ ((e = 0 ∧ 2 ≤ w ∧ w ≤ 100 ∧ StepP N F w ∧ ∀ k : Int, 2 ≤ k → k < w → ¬ StepP N F k) ∨ (e = 3 ∧ w = 0 ∧ ∀ k : Int, 2 ≤ k → k ≤ 100 → ¬ StepP N F k)) := by
  rw [prime_Witness_eq]; unfold prime_Witness'
  generalize ho : loopF R_prime_Witness_0 _ = o
  have L : ∃ y, loopF R_prime_Witness_0 (T_prime_Witness_0 ((2 + 0 : Nat) : Int) n f) = some y ∧ ((∃ w : Nat, y = Y_prime_Witness_0_0 (w : Int) 0 ∧ 2 ≤ w ∧ w ≤ 100 ∧ StepP N F w ∧ ∀ k : Int, 2 ≤ k → k < w → ¬ StepP N F k) ∨ (y = Y_prime_Witness_0_1 ∧ ∀ k : Int, 2 ≤ k → k ≤ 100 → ¬ StepP N F k)) :=
    loop_seek (R := R_prime_Witness_0) (S := Unit) (fun i _ => T_prime_Witness_0 ((2 + i : Nat) : Int) n f) (fun i _ => ∀ k : Int, 2 ≤ k → k < (2 + i : Nat) → ¬ StepP N F k)
      (fun y => (∃ w : Nat, y = Y_prime_Witness_0_0 (w : Int) 0 ∧ 2 ≤ w ∧ w ≤ 100 ∧ StepP N F w ∧ ∀ k : Int, 2 ≤ k → k < w → ¬ StepP N F k) ∨ (y = Y_prime_Witness_0_1 ∧ ∀ k : Int, 2 ≤ k → k ≤ 100 → ¬ StepP N F k)) 99
      (fun i hi _ hP => by
        have hs := prime_Step_spec hn hf ((2 + i : Nat) : Int)
        by_cases hst : StepP N F ((2 + i : Nat) : Int)
        · right
          refine ⟨_, ?_, .inl ⟨2 + i, rfl, by omega, by omega, hst, hP⟩⟩
          unfold R_prime_Witness_0
          simp (disch := first | omega | assumption) only [add_c, add_l, l_add, mul_c, mul_l, l_mul, sub_c, sub_l, l_sub, div_c, div_l, mod_c, mod_l, tdiv_c, tdiv_l, tmod_c, tmod_l, wrap_i64n, wrapun, dec_t, dec_f, inb_t, cond_true, cond_false, Int.toNat_natCast, beq_t, beq_f, bne_t, bne_f, Bool.not_true, Bool.not_false, Int.reduceToNat, ft_b, tf_b, tt_b, ff_b, decide_true, decide_false, hs]
        · left
          refine ⟨(), ?_, fun k h1 h2 => ?_⟩
          · unfold R_prime_Witness_0
            simp (disch := first | omega | assumption) only [add_c, add_l, l_add, mul_c, mul_l, l_mul, sub_c, sub_l, l_sub, div_c, div_l, mod_c, mod_l, tdiv_c, tdiv_l, tmod_c, tmod_l, wrap_i64n, wrapun, dec_t, dec_f, inb_t, cond_true, cond_false, Int.toNat_natCast, beq_t, beq_f, bne_t, bne_f, Bool.not_true, Bool.not_false, Int.reduceToNat, ft_b, tf_b, tt_b, ff_b, decide_true, decide_false, hs, Nat.add_assoc]
          · by_cases e : k = ((2 + i : Nat) : Int)
            · rw [e]; exact hst
            · exact hP k h1 (by omega))
      (fun _ hP => by
        refine ⟨_, ?_, .inr ⟨rfl, fun k h1 h2 => hP k h1 (by omega)⟩⟩
        unfold R_prime_Witness_0
        simp (disch := omega) only [add_c, add_l, l_add, mul_c, mul_l, l_mul, sub_c, sub_l, l_sub, div_c, div_l, mod_c, mod_l, tdiv_c, tdiv_l, tmod_c, tmod_l, wrap_i64n, wrapun, dec_t, dec_f, inb_t, cond_true, cond_false, Int.toNat_natCast, beq_t, beq_f, bne_t, bne_f, Bool.not_true, Bool.not_false, Int.reduceToNat, ft_b, tf_b, tt_b, ff_b, decide_true, decide_false]) () (fun k h1 h2 => by omega)
  obtain ⟨y, hy, hQ⟩ := L
  obtain rfl := ho.symm.trans hy
  rcases hQ with ⟨w, rfl, h1, h2, h3, h4⟩ | ⟨rfl, hQ⟩
  · exact ⟨w, 0, rfl, .inl ⟨rfl, by omega, by omega, h3, h4⟩⟩
  · exact ⟨0, 3, rfl, .inr ⟨rfl, rfl, hQ⟩⟩

theorem r04_step_spec {n f : Nat} {w : Int} (hn : n < 2147483648) (hodd : n % 2 = 1) (hn1 : n ≠ 1) (hf0 : f ≠ 0) (hf : f < 9223372036854775808) (hw : 2 ≤ w ∧ w < 65536) :
    r04_step (n : Int) (f : Int) w = some (decide (StepP n f w)) := by
  rw [r04_step_eq]; unfold r04_step'
  have no : ¬ StepP n f w → some false = some (decide (StepP n f w)) := fun h => by rw [decide_eq_false h]
  obtain ⟨W, rfl⟩ : ∃ W : Nat, w = (W : Int) := ⟨w.toNat, by omega⟩
  by_cases h1 : n < f
  · simp (disch := omega) only [wrap_i64n, wrapun, dec_t, dec_f, inb_t, cond_true, cond_false, Int.toNat_natCast, beq_t, beq_f, bne_t, bne_f, Bool.not_true, Bool.not_false, Int.reduceToNat, ft_b, tf_b, tt_b, ff_b, decide_true, decide_false]
    refine no (fun h => ?_)
    have := h.2.2.2.2.2.1
    rw [Nat.mod_eq_of_lt (by omega)] at this
    omega
  · by_cases h2 : (n - 1) % f = 0
    · have hff : f * f < 2147483648 * 2147483648 := Nat.mul_lt_mul'' (by omega) (by omega)
      by_cases h3 : n < f * f
      · have hd := Nat.div_le_self (n - 1) f
        obtain ⟨k, k1, k2⟩ := r01_Int_spec (n := (((n - 1) / f : Nat) : Int)) (by omega)
        obtain ⟨c, c1, c2⟩ := r01_Int_spec (n := ((f : Nat) : Int)) (by omega)
        have p1 := r03_Power_spec (a := W % n) k2 (show 0 < n by omega) (by omega)
        rw [Int.toNat_natCast, ← Nat.pow_mod] at p1
        have p2 := r03_Power_spec (a := W ^ ((n - 1) / f) % n) c2 (show 0 < n by omega) (by omega)
        rw [Int.toNat_natCast] at p2
        have hlt : W ^ ((n - 1) / f) % n < n := Nat.mod_lt _ (by omega)
        by_cases h4 : (W ^ ((n - 1) / f) % n) ^ f % n = 1
        · have hfin : decide (Nat.gcd (W ^ ((n - 1) / f) % n + (n - 1)) n = 1) = decide (StepP n f W) := by
            rw [decide_eq_decide]
            exact ⟨fun h => ⟨hodd, hn1, by omega, by omega, hf0, h2, h3, h4, h⟩, fun h => h.2.2.2.2.2.2.2.2⟩
          rw [← hfin]
          generalize hp : W ^ ((n - 1) / f) % n = p at *
          generalize hq : p ^ f % n = q at *
          simp (disch := omega) only [add_c, add_l, l_add, mul_c, mul_l, l_mul, sub_c, sub_l, l_sub, div_c, div_l, mod_c, mod_l, tdiv_c, tdiv_l, tmod_c, tmod_l, wrap_i64n, wrapun, dec_t, dec_f, inb_t, cond_true, cond_false, Int.toNat_natCast, beq_t, beq_f, bne_t, bne_f, Bool.not_true, Bool.not_false, Int.reduceToNat, ft_b, tf_b, tt_b, ff_b, decide_true, decide_false, h2, k1, p1, c1, p2]
          generalize ho : loopF R_r04_step_0 _ = o
          have hst : p + n - 1 = p + (n - 1) := by omega
          have ha : (p + n - 1) % n < n := Nat.mod_lt _ (by omega)
          have pw : ∀ i, i < 64 → (2 : Nat) ^ (64 - i) = 2 * 2 ^ (64 - (i + 1)) := fun i hi => by
            rw [show 64 - i = (64 - (i + 1)) + 1 by omega, Nat.pow_succ, Nat.mul_comm]
          have L : ∃ y, loopF R_r04_step_0 (T_r04_step_0 (((p + n - 1) % n : Nat) : Int) (n : Int) ((0 : Nat) : Int)) = some y ∧ y = Y_r04_step_0_0 ((Nat.gcd (p + (n - 1)) n : Nat) : Int) :=
            loop_seek (R := R_r04_step_0) (fun i (s : Nat × Nat) => T_r04_step_0 (s.1 : Int) (s.2 : Int) (i : Int)) (fun i s => Nat.gcd s.1 s.2 = Nat.gcd (p + (n - 1)) n ∧ (i = 0 ∧ s.1 < 2147483648 ∧ s.2 < 2147483648 ∨ (s.2 < s.1 ∧ s.1 * s.2 < 2 ^ (64 - i))))
              (fun y => y = Y_r04_step_0_0 ((Nat.gcd (p + (n - 1)) n : Nat) : Int)) 64
              (fun i hi s hP => by
                obtain ⟨x, y⟩ := s
                obtain ⟨g1, g2⟩ := hP
                simp only at g1 g2
                by_cases h0 : y = 0
                · subst h0
                  right
                  refine ⟨_, ?_, rfl⟩
                  rw [← g1, Nat.gcd_zero_right]
                  unfold R_r04_step_0
                  simp (disch := omega) only [add_c, add_l, l_add, mul_c, mul_l, l_mul, sub_c, sub_l, l_sub, div_c, div_l, mod_c, mod_l, tdiv_c, tdiv_l, tmod_c, tmod_l, wrap_i64n, wrapun, dec_t, dec_f, inb_t, cond_true, cond_false, Int.toNat_natCast, beq_t, beq_f, bne_t, bne_f, Bool.not_true, Bool.not_false, Int.reduceToNat, ft_b, tf_b, tt_b, ff_b, decide_true, decide_false]
                · left
                  have hlt := Nat.mod_lt x (show 0 < y by omega)
                  refine ⟨(y, x % y), ?_, by simp only; rw [← g1, Nat.gcd_comm x y, Nat.gcd_rec y x, Nat.gcd_comm], .inr ⟨hlt, ?_⟩⟩
                  · unfold R_r04_step_0
                    simp (disch := omega) only [add_c, add_l, l_add, mul_c, mul_l, l_mul, sub_c, sub_l, l_sub, div_c, div_l, mod_c, mod_l, tdiv_c, tdiv_l, tmod_c, tmod_l, wrap_i64n, wrapun, dec_t, dec_f, inb_t, cond_true, cond_false, Int.toNat_natCast, beq_t, beq_f, bne_t, bne_f, Bool.not_true, Bool.not_false, Int.reduceToNat, ft_b, tf_b, tt_b, ff_b, decide_true, decide_false]
                  · simp only
                    rcases g2 with ⟨rfl, g2, g3⟩ | ⟨g2, g3⟩
                    · have e1 : x % y ≤ x := Nat.mod_le _ _
                      have e2 : y * (x % y) ≤ y * x := Nat.mul_le_mul_left _ e1
                      have e3 : y * x < 2147483648 * 2147483648 := Nat.mul_lt_mul'' g3 g2
                      simp only [Nat.reducePow, Nat.reduceSub, Nat.reduceAdd]
                      omega
                    · rw [pw i hi] at g3
                      have e1 : 2 * (x % y) ≤ x := by
                        have h1 := Nat.div_add_mod x y
                        have h2 : 0 < x / y := Nat.div_pos (by omega) (by omega)
                        have h3 : y * 1 ≤ y * (x / y) := Nat.mul_le_mul_left _ h2
                        omega
                      have e2 : y * (2 * (x % y)) ≤ y * x := Nat.mul_le_mul_left _ e1
                      rw [Nat.mul_left_comm, Nat.mul_comm y x] at e2
                      generalize y * (x % y) = A at *
                      generalize x * y = B at *
                      generalize 2 ^ (64 - (i + 1)) = Z at *
                      omega)
              (fun s hP => by
                obtain ⟨x, y⟩ := s
                obtain ⟨g1, g2⟩ := hP
                simp only at g1 g2
                rcases g2 with ⟨h, _⟩ | ⟨g2, g3⟩
                · cases h
                · have h0 : y = 0 := by
                    rw [Nat.sub_self, Nat.pow_zero] at g3
                    apply Classical.byContradiction
                    intro hc
                    have : 1 * 1 ≤ x * y := Nat.mul_le_mul (by omega) (by omega)
                    omega
                  subst h0
                  refine ⟨_, ?_, rfl⟩
                  rw [← g1, Nat.gcd_zero_right]
                  unfold R_r04_step_0
                  simp (disch := omega) only [add_c, add_l, l_add, mul_c, mul_l, l_mul, sub_c, sub_l, l_sub, div_c, div_l, mod_c, mod_l, tdiv_c, tdiv_l, tmod_c, tmod_l, wrap_i64n, wrapun, dec_t, dec_f, inb_t, cond_true, cond_false, Int.toNat_natCast, beq_t, beq_f, bne_t, bne_f, Bool.not_true, Bool.not_false, Int.reduceToNat, ft_b, tf_b, tt_b, ff_b, decide_true, decide_false]) ((p + n - 1) % n, n) ⟨by simp only; rw [gcd_mod_left, hst], .inl ⟨rfl, by simp only; omega, by simp only; omega⟩⟩
          obtain ⟨y, hy, rfl⟩ := L
          obtain rfl := ho.symm.trans hy
          simp only [Option.some.injEq]
          rw [Bool.eq_iff_iff]
          simp only [beq_iff_eq, decide_eq_true_eq]
          omega
        · have hno := no (fun h => h4 h.2.2.2.2.2.2.2.1)
          rw [← hno]
          generalize hp : W ^ ((n - 1) / f) % n = p at *
          generalize hq : p ^ f % n = q at *
          simp (disch := omega) only [add_c, add_l, l_add, mul_c, mul_l, l_mul, sub_c, sub_l, l_sub, div_c, div_l, mod_c, mod_l, tdiv_c, tdiv_l, tmod_c, tmod_l, wrap_i64n, wrapun, dec_t, dec_f, inb_t, cond_true, cond_false, Int.toNat_natCast, beq_t, beq_f, bne_t, bne_f, Bool.not_true, Bool.not_false, Int.reduceToNat, ft_b, tf_b, tt_b, ff_b, decide_true, decide_false, h2, k1, p1, c1, p2]
      · simp (disch := omega) only [add_c, add_l, l_add, mul_c, mul_l, l_mul, sub_c, sub_l, l_sub, div_c, div_l, mod_c, mod_l, tdiv_c, tdiv_l, tmod_c, tmod_l, wrap_i64n, wrapun, dec_t, dec_f, inb_t, cond_true, cond_false, Int.toNat_natCast, beq_t, beq_f, bne_t, bne_f, Bool.not_true, Bool.not_false, Int.reduceToNat, ft_b, tf_b, tt_b, ff_b, decide_true, decide_false, h2]
        exact no (fun h => h3 h.2.2.2.2.2.2.1)
    · have hno := no (fun h => h2 h.2.2.2.2.2.1)
      rw [← hno]
      generalize hq : (n - 1) % f = q at *
      simp (disch := omega) only [add_c, add_l, l_add, mul_c, mul_l, l_mul, sub_c, sub_l, l_sub, div_c, div_l, mod_c, mod_l, tdiv_c, tdiv_l, tmod_c, tmod_l, wrap_i64n, wrapun, dec_t, dec_f, inb_t, cond_true, cond_false, Int.toNat_natCast, beq_t, beq_f, bne_t, bne_f, Bool.not_true, Bool.not_false, Int.reduceToNat, ft_b, tf_b, tt_b, ff_b, decide_true, decide_false, hq]
end Go.Pl

set_option linter.unusedVariables false
set_option linter.unusedSimpArgs false
namespace Go.Pl
open Go Go.Den Go.Num

theorem r04_Step_spec {n f : Nat → Int} {N F : Nat} (hn : IsN n N) (hf : IsN f F) (w : Int) : r04_Step n f w = some (decide (StepP N F w)) := by
  rw [r04_Step_eq]; unfold r04_Step'
  have no : ¬ StepP N F w → some false = some (decide (StepP N F w)) := fun h => by rw [decide_eq_false h]
  by_cases h2 : w < 2
  · simp (disch := omega) only [wrap_i64n, wrapun, dec_t, dec_f, inb_t, cond_true, cond_false, Int.toNat_natCast, beq_t, beq_f, bne_t, bne_f, Bool.not_true, Bool.not_false, Int.reduceToNat, ft_b, tf_b, tt_b, ff_b, decide_true, decide_false]
    exact no (fun h => by have := h.2.2.1; omega)
  · by_cases h3 : 65536 ≤ w
    · simp (disch := omega) only [wrap_i64n, wrapun, dec_t, dec_f, inb_t, cond_true, cond_false, Int.toNat_natCast, beq_t, beq_f, bne_t, bne_f, Bool.not_true, Bool.not_false, Int.reduceToNat, ft_b, tf_b, tt_b, ff_b, decide_true, decide_false]
      exact no (fun h => by have := h.2.2.2.1; omega)
    · by_cases h1 : N % 2 = 1 ∧ N ≠ 1
      · have hN1 : 1 < N := by omega
        have hpos : 0 < N := by omega
        obtain ⟨two, t1, t2⟩ := r01_Int_spec (n := 2) (by decide)
        have t2' : IsN two 2 := t2
        have hc2 : ¬ cmpI N 2 ≤ 0 := by
          unfold cmpI; rw [if_neg (by omega), if_pos (by omega)]; decide
        by_cases h4 : F = 0
        · simp (disch := first | omega | assumption) only [wrap_i64n, wrapun, dec_t, dec_f, inb_t, cond_true, cond_false, Int.toNat_natCast, beq_t, beq_f, bne_t, bne_f, Bool.not_true, Bool.not_false, Int.reduceToNat, ft_b, tf_b, tt_b, ff_b, decide_true, decide_false, r03_May_spec hn, h1, ne_eq, not_false_eq_true, and_self, t1, r01_Cmp_spec hn t2', dec_f hc2, hf.isZero]
          exact no (fun h => h.2.2.2.2.1 h4)
        · obtain ⟨o, o1, o2⟩ := r01_Int_spec (n := 1) (by decide)
          have o2' : IsN o 1 := o2
          obtain ⟨l, l1, l2⟩ := r01_Sub_spec hn o2'
          have hNl := hn.1
          have l3 : IsN l (N - 1) := l2.of_eq (by omega)
          obtain ⟨k, q, d1, d2, d3⟩ := r02_Div_spec l3 hf (by omega)
          obtain ⟨lo, hi, m1, m2, m3⟩ := r02_Mul_spec hf hf
          have sq := square_over m2 m3 hn
          obtain ⟨W, hW1, hW2⟩ := r01_Int_spec (n := w) (by omega)
          obtain ⟨e, e1, e2⟩ := r03_Exp_spec hW2 l3 hn hpos
          obtain ⟨p, p1, p2⟩ := r03_Exp_spec hW2 d2 hn hpos
          obtain ⟨s, s1, s2⟩ := r02_SubMod_spec p2 o2' hn hpos
          obtain ⟨g, g1, g2⟩ := r02_Gcd_spec s2 hn
          rw [Nat.mod_eq_of_lt hN1, gcd_mod_left] at g2
          -- numbers that are not small
          have great : ¬ N < 2147483648 → (match r01_Int 1 with
              | none => none
              | some r6 => match r01_Sub n r6 with
                | none => none
                | some r7 => match r02_Div r7.1 f with
                  | none => none
                  | some r8 => match r02_Mul f f with
                    | none => none
                    | some r9 => bif (!(eqF (.arr 4 (.int .u64)) r8.2.1 (fun _ => 0))) then some false else
                      bif (eqF (.arr 4 (.int .u64)) r9.2 (fun _ => 0)) then
                        match r01_Cmp r9.1 n with
                        | none => none
                        | some r10 => bif (decide (r10 ≤ 0)) then some false else
                          match r01_Int w with
                          | none => none
                          | some r11 => match r03_Exp r11 r7.1 n with
                            | none => none
                            | some r12 => match r01_Int 1 with
                              | none => none
                              | some r13 => bif (!(eqF (.arr 4 (.int .u64)) r12 r13)) then some false else
                                match r03_Exp r11 r8.1 n with
                                | none => none
                                | some r14 => match r01_Int 1 with
                                  | none => none
                                  | some r15 => match r02_SubMod r14 r15 n with
                                    | none => none
                                    | some r16 => match r02_Gcd r16.1 n with
                                      | none => none
                                      | some r17 => match r01_Int 1 with
                                        | none => none
                                        | some r18 => some (eqF (.arr 4 (.int .u64)) r17 r18)
                      else
                        match r01_Int w with
                        | none => none
                        | some r11 => match r03_Exp r11 r7.1 n with
                          | none => none
                          | some r12 => match r01_Int 1 with
                            | none => none
                            | some r13 => bif (!(eqF (.arr 4 (.int .u64)) r12 r13)) then some false else
                              match r03_Exp r11 r8.1 n with
                              | none => none
                              | some r14 => match r01_Int 1 with
                                | none => none
                                | some r15 => match r02_SubMod r14 r15 n with
                                  | none => none
                                  | some r16 => match r02_Gcd r16.1 n with
                                    | none => none
                                    | some r17 => match r01_Int 1 with
                                      | none => none
                                      | some r18 => some (eqF (.arr 4 (.int .u64)) r17 r18)) = some (decide (StepP N F w)) := by
            intro hbig
            by_cases h5 : (N - 1) % F = 0
            · have hkF : (N - 1) / F * F = N - 1 := by
                have := Nat.div_add_mod (N - 1) F
                rw [h5] at this
                rw [Nat.mul_comm]; exact this
              have hpw : (w.toNat ^ ((N - 1) / F) % N) ^ F % N = w.toNat ^ (N - 1) % N := by
                rw [← Nat.pow_mod, ← Nat.pow_mul, hkF]
              by_cases h6 : N < F * F
              · by_cases h7 : w.toNat ^ (N - 1) % N = 1
                · have hfin : decide (Nat.gcd (w.toNat ^ ((N - 1) / F) % N + (N - 1)) N = 1) = decide (StepP N F w) := by
                    rw [decide_eq_decide]
                    exact ⟨fun h => ⟨h1.1, h1.2, by omega, by omega, h4, h5, h6, by rw [hpw]; exact h7, h⟩, fun h => h.2.2.2.2.2.2.2.2⟩
                  by_cases h8 : F * F / 2 ^ 256 = 0
                  · have h9 := (sq.1 h8).1 h6
                    simp (disch := first | omega | assumption) only [wrap_i64n, wrapun, dec_t, dec_f, inb_t, cond_true, cond_false, Int.toNat_natCast, beq_t, beq_f, bne_t, bne_f, Bool.not_true, Bool.not_false, Int.reduceToNat, ft_b, tf_b, tt_b, ff_b, decide_true, decide_false, o1, l1, d1, m1, d3.isZero, m3.isZero, r01_Cmp_spec m2 hn, dec_f h9, hW1, p1, e1, e2.eqb o2', s1, g1, g2.eqb o2', hfin]
                  · simp (disch := first | omega | assumption) only [wrap_i64n, wrapun, dec_t, dec_f, inb_t, cond_true, cond_false, Int.toNat_natCast, beq_t, beq_f, bne_t, bne_f, Bool.not_true, Bool.not_false, Int.reduceToNat, ft_b, tf_b, tt_b, ff_b, decide_true, decide_false, o1, l1, d1, m1, d3.isZero, m3.isZero, hW1, p1, e1, e2.eqb o2', s1, g1, g2.eqb o2', hfin]
                · have hno := no (fun h => h7 (by rw [← hpw]; exact h.2.2.2.2.2.2.2.1))
                  by_cases h8 : F * F / 2 ^ 256 = 0
                  · have h9 := (sq.1 h8).1 h6
                    simp (disch := first | omega | assumption) only [wrap_i64n, wrapun, dec_t, dec_f, inb_t, cond_true, cond_false, Int.toNat_natCast, beq_t, beq_f, bne_t, bne_f, Bool.not_true, Bool.not_false, Int.reduceToNat, ft_b, tf_b, tt_b, ff_b, decide_true, decide_false, o1, l1, d1, m1, d3.isZero, m3.isZero, r01_Cmp_spec m2 hn, dec_f h9, hW1, p1, e1, e2.eqb o2']
                    exact hno
                  · simp (disch := first | omega | assumption) only [wrap_i64n, wrapun, dec_t, dec_f, inb_t, cond_true, cond_false, Int.toNat_natCast, beq_t, beq_f, bne_t, bne_f, Bool.not_true, Bool.not_false, Int.reduceToNat, ft_b, tf_b, tt_b, ff_b, decide_true, decide_false, o1, l1, d1, m1, d3.isZero, m3.isZero, hW1, p1, e1, e2.eqb o2']
                    exact hno
              · have h8 : F * F / 2 ^ 256 = 0 := Classical.byContradiction fun h => h6 (sq.2 h)
                have h9 : cmpI (F * F % 2 ^ 256) N ≤ 0 := Classical.byContradiction fun h => h6 ((sq.1 h8).2 h)
                simp (disch := first | omega | assumption) only [wrap_i64n, wrapun, dec_t, dec_f, inb_t, cond_true, cond_false, Int.toNat_natCast, beq_t, beq_f, bne_t, bne_f, Bool.not_true, Bool.not_false, Int.reduceToNat, ft_b, tf_b, tt_b, ff_b, decide_true, decide_false, o1, l1, d1, m1, d3.isZero, m3.isZero, r01_Cmp_spec m2 hn, dec_t h9]
                exact no (fun h => h6 h.2.2.2.2.2.2.1)
            · simp (disch := first | omega | assumption) only [wrap_i64n, wrapun, dec_t, dec_f, inb_t, cond_true, cond_false, Int.toNat_natCast, beq_t, beq_f, bne_t, bne_f, Bool.not_true, Bool.not_false, Int.reduceToNat, ft_b, tf_b, tt_b, ff_b, decide_true, decide_false, o1, l1, d1, m1, d3.isZero]
              exact no (fun h => h5 h.2.2.2.2.2.1)
          by_cases h63 : N < 9223372036854775808
          · by_cases h31 : N < 2147483648
            · by_cases hF : F < 9223372036854775808
              · simp (disch := first | omega | assumption) only [wrap_i64n, wrapun, dec_t, dec_f, inb_t, cond_true, cond_false, Int.toNat_natCast, beq_t, beq_f, bne_t, bne_f, Bool.not_true, Bool.not_false, Int.reduceToNat, ft_b, tf_b, tt_b, ff_b, decide_true, decide_false, r03_May_spec hn, h1, ne_eq, not_false_eq_true, and_self, t1, r01_Cmp_spec hn t2', dec_f hc2, hf.isZero, r01_Low_spec hn, if_pos h63, r01_Low_spec hf, if_pos hF, r04_step_spec (w := w) h31 h1.1 h1.2 h4 hF ⟨by omega, by omega⟩]
              · simp (disch := first | omega | assumption) only [wrap_i64n, wrapun, dec_t, dec_f, inb_t, cond_true, cond_false, Int.toNat_natCast, beq_t, beq_f, bne_t, bne_f, Bool.not_true, Bool.not_false, Int.reduceToNat, ft_b, tf_b, tt_b, ff_b, decide_true, decide_false, r03_May_spec hn, h1, ne_eq, not_false_eq_true, and_self, t1, r01_Cmp_spec hn t2', dec_f hc2, hf.isZero, r01_Low_spec hn, if_pos h63, r01_Low_spec hf, if_neg hF]
                refine no (fun h => ?_)
                have := h.2.2.2.2.2.1
                rw [Nat.mod_eq_of_lt (by omega)] at this
                omega
            · have hg := great h31
              simp (disch := first | omega | assumption) only [wrap_i64n, wrapun, dec_t, dec_f, inb_t, cond_true, cond_false, Int.toNat_natCast, beq_t, beq_f, bne_t, bne_f, Bool.not_true, Bool.not_false, Int.reduceToNat, ft_b, tf_b, tt_b, ff_b, decide_true, decide_false, r03_May_spec hn, h1, ne_eq, not_false_eq_true, and_self, t1, r01_Cmp_spec hn t2', dec_f hc2, hf.isZero, r01_Low_spec hn, if_pos h63]
              exact hg
          · have hg := great (by omega)
            simp (disch := first | omega | assumption) only [wrap_i64n, wrapun, dec_t, dec_f, inb_t, cond_true, cond_false, Int.toNat_natCast, beq_t, beq_f, bne_t, bne_f, Bool.not_true, Bool.not_false, Int.reduceToNat, ft_b, tf_b, tt_b, ff_b, decide_true, decide_false, r03_May_spec hn, h1, ne_eq, not_false_eq_true, and_self, t1, r01_Cmp_spec hn t2', dec_f hc2, hf.isZero, r01_Low_spec hn, if_neg h63]
            exact hg
      · simp (disch := omega) only [wrap_i64n, wrapun, dec_t, dec_f, inb_t, cond_true, cond_false, Int.toNat_natCast, beq_t, beq_f, bne_t, bne_f, Bool.not_true, Bool.not_false, Int.reduceToNat, ft_b, tf_b, tt_b, ff_b, decide_true, decide_false, r03_May_spec hn, h1]
        exact no (fun h => h1 ⟨h.1, h.2.1⟩)

theorem r04_Check_spec {k : Nat} {l : Nat → (Nat → Int) × Int} {N : Nat → Nat} (hl : ∀ i, i < k → IsN (l i).1 (N i)) :
    ∃ b, r04_Check k l = some b ∧ (b = true ↔ ChainP k N (fun i => (l i).2)) := by
  rw [r04_Check_eq]; unfold r04_Check'
  by_cases h1 : k < 1
  · refine ⟨false, ?_, by simp only [Bool.false_eq_true, false_iff]; exact fun h => by have := h.1; omega⟩
    simp (disch := omega) only [wrap_i64n, wrapun, dec_t, dec_f, inb_t, cond_true, cond_false, Int.toNat_natCast, beq_t, beq_f, bne_t, bne_f, Bool.not_true, Bool.not_false, Int.reduceToNat, ft_b, tf_b, tt_b, ff_b, decide_true, decide_false]
  · by_cases h2 : 8 < k
    · refine ⟨false, ?_, by simp only [Bool.false_eq_true, false_iff]; exact fun h => by have := h.2.1; omega⟩
      simp (disch := omega) only [wrap_i64n, wrapun, dec_t, dec_f, inb_t, cond_true, cond_false, Int.toNat_natCast, beq_t, beq_f, bne_t, bne_f, Bool.not_true, Bool.not_false, Int.reduceToNat, ft_b, tf_b, tt_b, ff_b, decide_true, decide_false]
    · have h0 := hl 0 (by omega)
      by_cases h3 : N 0 < 9223372036854775808
      · obtain ⟨b, hb1, hb2⟩ := r04_Small_spec ((N 0 : Nat) : Int)
        rw [Int.toNat_natCast] at hb2
        cases b with
        | false =>
          refine ⟨false, ?_, by simp only [Bool.false_eq_true, false_iff]; exact fun h => absurd (hb2.2 ⟨by have := h.2.2.1; omega, by have := h.2.2.2.1; omega, h.2.2.2.2.1⟩) (by decide)⟩
          simp (disch := omega) only [wrap_i64n, wrapun, dec_t, dec_f, inb_t, cond_true, cond_false, Int.toNat_natCast, beq_t, beq_f, bne_t, bne_f, Bool.not_true, Bool.not_false, Int.reduceToNat, ft_b, tf_b, tt_b, ff_b, decide_true, decide_false, r01_Low_spec h0, if_pos h3, hb1]
        | true =>
          have hb3 := hb2.1 rfl
          by_cases h4 : (l 0).2 = 0
          · simp (disch := omega) only [wrap_i64n, wrapun, dec_t, dec_f, inb_t, cond_true, cond_false, Int.toNat_natCast, beq_t, beq_f, bne_t, bne_f, Bool.not_true, Bool.not_false, Int.reduceToNat, ft_b, tf_b, tt_b, ff_b, decide_true, decide_false, r01_Low_spec h0, if_pos h3, hb1]
            generalize ho : loopF R_r04_Check_0 _ = o
            have L : ∃ y, loopF R_r04_Check_0 (T_r04_Check_0 k l ((1 + 0 : Nat) : Int)) = some y ∧ ((y = Y_r04_Check_0_0 false ∧ ¬ ChainP k N (fun i => (l i).2)) ∨ (y = Y_r04_Check_0_1 ∧ ChainP k N (fun i => (l i).2))) :=
              loop_seek (R := R_r04_Check_0) (S := Unit) (fun i _ => T_r04_Check_0 k l ((1 + i : Nat) : Int)) (fun i _ => ∀ j, j < i → StepP (N (j + 1)) (N j) ((l (j + 1)).2))
                (fun y => (y = Y_r04_Check_0_0 false ∧ ¬ ChainP k N (fun i => (l i).2)) ∨ (y = Y_r04_Check_0_1 ∧ ChainP k N (fun i => (l i).2))) (k - 1)
                (fun i hi _ hP => by
                  have hs := r04_Step_spec (hl (1 + i) (by omega)) (hl i (by omega)) (l (1 + i)).2
                  by_cases hst : StepP (N (1 + i)) (N i) (l (1 + i)).2
                  · left
                    refine ⟨(), ?_, fun j hj => ?_⟩
                    · unfold R_r04_Check_0
                      simp (disch := first | omega | assumption) only [add_c, add_l, l_add, mul_c, mul_l, l_mul, sub_c, sub_l, l_sub, div_c, div_l, mod_c, mod_l, tdiv_c, tdiv_l, tmod_c, tmod_l, wrap_i64n, wrapun, dec_t, dec_f, inb_t, cond_true, cond_false, Int.toNat_natCast, beq_t, beq_f, bne_t, bne_f, Bool.not_true, Bool.not_false, Int.reduceToNat, ft_b, tf_b, tt_b, ff_b, decide_true, decide_false, Nat.add_sub_cancel_left, hs, Nat.add_assoc]
                    · by_cases e : j = i
                      · subst e; rw [Nat.add_comm j 1]; exact hst
                      · exact hP j (by omega)
                  · right
                    refine ⟨_, ?_, .inl ⟨rfl, fun h => hst ?_⟩⟩
                    · unfold R_r04_Check_0
                      simp (disch := first | omega | assumption) only [add_c, add_l, l_add, mul_c, mul_l, l_mul, sub_c, sub_l, l_sub, div_c, div_l, mod_c, mod_l, tdiv_c, tdiv_l, tmod_c, tmod_l, wrap_i64n, wrapun, dec_t, dec_f, inb_t, cond_true, cond_false, Int.toNat_natCast, beq_t, beq_f, bne_t, bne_f, Bool.not_true, Bool.not_false, Int.reduceToNat, ft_b, tf_b, tt_b, ff_b, decide_true, decide_false, Nat.add_sub_cancel_left, hs]
                    · have := h.2.2.2.2.2.2 i (by omega)
                      rw [Nat.add_comm 1 i]; exact this)
                (fun _ hP => by
                  refine ⟨_, ?_, .inr ⟨rfl, by omega, by omega, by omega, by omega, hb3.2.2, h4, fun i hi => hP i (by omega)⟩⟩
                  unfold R_r04_Check_0
                  simp (disch := omega) only [add_c, add_l, l_add, mul_c, mul_l, l_mul, sub_c, sub_l, l_sub, div_c, div_l, mod_c, mod_l, tdiv_c, tdiv_l, tmod_c, tmod_l, wrap_i64n, wrapun, dec_t, dec_f, inb_t, cond_true, cond_false, Int.toNat_natCast, beq_t, beq_f, bne_t, bne_f, Bool.not_true, Bool.not_false, Int.reduceToNat, ft_b, tf_b, tt_b, ff_b, decide_true, decide_false]) () (fun j hj => by omega)
            obtain ⟨y, hy, hQ⟩ := L
            obtain rfl := ho.symm.trans hy
            rcases hQ with ⟨rfl, hQ⟩ | ⟨rfl, hQ⟩
            · exact ⟨false, rfl, by simp [hQ]⟩
            · exact ⟨true, rfl, by simp [hQ]⟩
          · refine ⟨false, ?_, by simp only [Bool.false_eq_true, false_iff]; exact fun h => h4 h.2.2.2.2.2.1⟩
            simp (disch := omega) only [wrap_i64n, wrapun, dec_t, dec_f, inb_t, cond_true, cond_false, Int.toNat_natCast, beq_t, beq_f, bne_t, bne_f, Bool.not_true, Bool.not_false, Int.reduceToNat, ft_b, tf_b, tt_b, ff_b, decide_true, decide_false, r01_Low_spec h0, if_pos h3, hb1]
      · refine ⟨false, ?_, by simp only [Bool.false_eq_true, false_iff]; exact fun h => by have := h.2.2.2.1; omega⟩
        simp (disch := omega) only [wrap_i64n, wrapun, dec_t, dec_f, inb_t, cond_true, cond_false, Int.toNat_natCast, beq_t, beq_f, bne_t, bne_f, Bool.not_true, Bool.not_false, Int.reduceToNat, ft_b, tf_b, tt_b, ff_b, decide_true, decide_false, r01_Low_spec h0, if_neg h3]
end Go.Pl

set_option linter.unusedVariables false
set_option linter.unusedSimpArgs false
namespace Go.Pl
open Go Go.Den Go.Num

theorem isRf_fz {α : Type} (x : α) : PtrV.isRf (.fz x) = false := rfl
theorem isNil_fz {α : Type} (x : α) : PtrV.isNil (.fz x) = false := rfl
theorem val_fz {α : Type} (d x : α) : PtrV.val d (.fz x) = x := rfl
theorem isRf_nil {α : Type} : PtrV.isRf (.nil : PtrV α) = false := rfl
theorem isNil_nil {α : Type} : PtrV.isNil (.nil : PtrV α) = true := rfl

abbrev GroupT := (PtrV RingT × PtrV RingT) × (Nat → Int)
/-- a group that was made -/
structure IsGroup (g : GroupT) (P Q G : Nat) : Prop where
  rings : ∃ r f, g.1 = (.fz r, .fz f) ∧ IsRing r P ∧ IsRing f Q
  gen : IsN g.2 G
  pp : Pr P
  pq : Pr Q
  big : 512 ≤ Q
  g1 : 1 < G
  gP : G < P
  order : G ^ Q % P = 1
theorem IsGroup.qpos {g : GroupT} {P Q G : Nat} (h : IsGroup g P Q G) : 0 < Q := h.pq.pos
theorem IsGroup.ppos {g : GroupT} {P Q G : Nat} (h : IsGroup g P Q G) : 0 < P := h.pp.pos

/-- parameters of a group: the chain's numbers N, its witnesses A -/
def GroupP (k : Nat) (N : Nat → Nat) (A : Nat → Int) (G : Nat) : Prop := 2 ≤ k ∧ ChainP k N A ∧ 512 ≤ N (k - 2) ∧ 1 < G ∧ G < N (k - 1) ∧ G ^ N (k - 2) % N (k - 1) = 1

theorem blen_lt10 {n : Nat} : blen n < 10 ↔ n < 512 := by
  constructor
  · intro h
    have h1 := lt_blen n
    have : 2 ^ blen n ≤ 2 ^ 9 := Nat.pow_le_pow_right (by decide) (by omega)
    omega
  · intro h
    have := blen_le (n := n) (L := 9) h
    omega

theorem group_New_spec {k : Nat} {l : Nat → (Nat → Int) × Int} {ga : Nat → Int} {N : Nat → Nat} {G : Nat} (hl : ∀ i, i < k → IsN (l i).1 (N i)) (hg : IsN ga G) :
    (GroupP k N (fun i => (l i).2) G → ∃ g, group_New ((k, l), ga) = some (some g, 0) ∧ IsGroup g (N (k - 1)) (N (k - 2)) G ∧ g.2 = ga) ∧ (¬ GroupP k N (fun i => (l i).2) G → group_New ((k, l), ga) = some (none, 4)) := by
  rw [group_New_eq]; unfold group_New'
  by_cases h1 : k < 2
  · refine ⟨fun h => by have := h.1; omega, fun _ => ?_⟩
    simp (disch := omega) only [wrap_i64n, wrapun, dec_t, dec_f, inb_t, cond_true, cond_false, Int.toNat_natCast, beq_t, beq_f, bne_t, bne_f, Bool.not_true, Bool.not_false, Int.reduceToNat, ft_b, tf_b, tt_b, ff_b, decide_true, decide_false]
  · by_cases h2 : ChainP k N (fun i => (l i).2)
    · have hk8 := h2.2.1
      have hp := h2.prime (k - 1) (by omega)
      have hq := h2.prime (k - 2) (by omega)
      have hPN := hl (k - 1) (by omega)
      have hQN := hl (k - 2) (by omega)
      have hst := h2.2.2.2.2.2.2 (k - 2) (by omega)
      rw [show k - 2 + 1 = k - 1 by omega] at hst
      obtain ⟨r, r1, hr, _⟩ := (mont_New_spec hPN).2 hst.1 hst.2.1
      have hc := (prime_Check_spec hl).1 h2
      generalize hP : N (k - 1) = P at *
      generalize hQ : N (k - 2) = Q at *
      have no : ∀ {p : Prop}, (GroupP k N (fun i => (l i).2) G → p) → ¬ p → ¬ GroupP k N (fun i => (l i).2) G := fun h1 h2 h3 => h2 (h1 h3)
      obtain ⟨o, o1, o2⟩ := nat_Of_spec (n := 1) (by decide)
      have o2' : IsN o 1 := o2
      by_cases h3 : Q < 512
      · -- too few bits
        have hb := blen_lt10.2 h3
        refine ⟨fun h => by have := h.2.2.1; omega, fun _ => ?_⟩
        by_cases hodd : Q % 2 = 1
        · obtain ⟨f, f1, hf, _⟩ := (mont_New_spec hQN).2 hodd (by have := hq.1; omega)
          simp (disch := omega) only [add_c, add_l, l_add, mul_c, mul_l, l_mul, sub_c, sub_l, l_sub, div_c, div_l, mod_c, mod_l, tdiv_c, tdiv_l, tmod_c, tmod_l, wrap_i64n, wrapun, dec_t, dec_f, inb_t, cond_true, cond_false, Int.toNat_natCast, beq_t, beq_f, bne_t, bne_f, Bool.not_true, Bool.not_false, Int.reduceToNat, ft_b, tf_b, tt_b, ff_b, decide_true, decide_false, hc, r1, f1, nat_Len_spec hQN]
        · have f1 := (mont_New_spec hQN).1 (.inl (by omega))
          simp (disch := omega) only [add_c, add_l, l_add, mul_c, mul_l, l_mul, sub_c, sub_l, l_sub, div_c, div_l, mod_c, mod_l, tdiv_c, tdiv_l, tmod_c, tmod_l, wrap_i64n, wrapun, dec_t, dec_f, inb_t, cond_true, cond_false, Int.toNat_natCast, beq_t, beq_f, bne_t, bne_f, Bool.not_true, Bool.not_false, Int.reduceToNat, ft_b, tf_b, tt_b, ff_b, decide_true, decide_false, hc, r1, f1]
      · have hb : ¬ blen Q < 10 := fun h => h3 (blen_lt10.1 h)
        have hodd : Q % 2 = 1 := by
          have := hq.tried 2 (by decide) (by omega)
          omega
        obtain ⟨f, f1, hf, _⟩ := (mont_New_spec hQN).2 hodd (by omega)
        by_cases h4 : G = 0
        · subst h4
          refine ⟨fun h => by have := h.2.2.2.1; omega, fun _ => ?_⟩
          simp (disch := omega) only [add_c, add_l, l_add, mul_c, mul_l, l_mul, sub_c, sub_l, l_sub, div_c, div_l, mod_c, mod_l, tdiv_c, tdiv_l, tmod_c, tmod_l, wrap_i64n, wrapun, dec_t, dec_f, inb_t, cond_true, cond_false, Int.toNat_natCast, beq_t, beq_f, bne_t, bne_f, Bool.not_true, Bool.not_false, Int.reduceToNat, ft_b, tf_b, tt_b, ff_b, decide_true, decide_false, hc, r1, f1, nat_Len_spec hQN, hg.isZero]
        · by_cases h5 : G = 1
          · subst h5
            refine ⟨fun h => by have := h.2.2.2.1; omega, fun _ => ?_⟩
            simp (disch := omega) only [add_c, add_l, l_add, mul_c, mul_l, l_mul, sub_c, sub_l, l_sub, div_c, div_l, mod_c, mod_l, tdiv_c, tdiv_l, tmod_c, tmod_l, wrap_i64n, wrapun, dec_t, dec_f, inb_t, cond_true, cond_false, Int.toNat_natCast, beq_t, beq_f, bne_t, bne_f, Bool.not_true, Bool.not_false, Int.reduceToNat, ft_b, tf_b, tt_b, ff_b, decide_true, decide_false, hc, r1, f1, nat_Len_spec hQN, hg.isZero, o1, hg.eqb o2']
          · by_cases h6 : G < P
            · obtain ⟨z, z1, z2⟩ := mont_Exp_spec hr hg hQN
              by_cases h7 : G ^ Q % P = 1
              · refine ⟨fun _ => ?_, fun h => absurd ⟨by omega, h2, by rw [hQ]; omega, by omega, by rw [hP]; exact h6, by rw [hP, hQ]; exact h7⟩ h⟩
                simp (disch := first | omega | assumption) only [add_c, add_l, l_add, mul_c, mul_l, l_mul, sub_c, sub_l, l_sub, div_c, div_l, mod_c, mod_l, tdiv_c, tdiv_l, tmod_c, tmod_l, wrap_i64n, wrapun, dec_t, dec_f, inb_t, cond_true, cond_false, Int.toNat_natCast, beq_t, beq_f, bne_t, bne_f, Bool.not_true, Bool.not_false, Int.reduceToNat, ft_b, tf_b, tt_b, ff_b, decide_true, decide_false, hc, r1, f1, nat_Len_spec hQN, hg.isZero, o1, hg.eqb o2', mont_In_spec hr hg, z1, z2.eqb o2']
                exact ⟨_, rfl, ⟨⟨r, f, rfl, hr, hf⟩, hg, hp, hq, by omega, by omega, h6, h7⟩, rfl⟩
              · refine ⟨fun h => absurd (by have := h.2.2.2.2.2; rw [hP, hQ] at this; exact this) h7, fun _ => ?_⟩
                simp (disch := first | omega | assumption) only [add_c, add_l, l_add, mul_c, mul_l, l_mul, sub_c, sub_l, l_sub, div_c, div_l, mod_c, mod_l, tdiv_c, tdiv_l, tmod_c, tmod_l, wrap_i64n, wrapun, dec_t, dec_f, inb_t, cond_true, cond_false, Int.toNat_natCast, beq_t, beq_f, bne_t, bne_f, Bool.not_true, Bool.not_false, Int.reduceToNat, ft_b, tf_b, tt_b, ff_b, decide_true, decide_false, hc, r1, f1, nat_Len_spec hQN, hg.isZero, o1, hg.eqb o2', mont_In_spec hr hg, z1, z2.eqb o2']
            · refine ⟨fun h => absurd (by have := h.2.2.2.2.1; rw [hP] at this; exact this) h6, fun _ => ?_⟩
              simp (disch := first | omega | assumption) only [add_c, add_l, l_add, mul_c, mul_l, l_mul, sub_c, sub_l, l_sub, div_c, div_l, mod_c, mod_l, tdiv_c, tdiv_l, tmod_c, tmod_l, wrap_i64n, wrapun, dec_t, dec_f, inb_t, cond_true, cond_false, Int.toNat_natCast, beq_t, beq_f, bne_t, bne_f, Bool.not_true, Bool.not_false, Int.reduceToNat, ft_b, tf_b, tt_b, ff_b, decide_true, decide_false, hc, r1, f1, nat_Len_spec hQN, hg.isZero, o1, hg.eqb o2', mont_In_spec hr hg]
    · refine ⟨fun h => absurd h.2.1 h2, fun _ => ?_⟩
      simp (disch := omega) only [add_c, add_l, l_add, mul_c, mul_l, l_mul, sub_c, sub_l, l_sub, div_c, div_l, mod_c, mod_l, tdiv_c, tdiv_l, tmod_c, tmod_l, wrap_i64n, wrapun, dec_t, dec_f, inb_t, cond_true, cond_false, Int.toNat_natCast, beq_t, beq_f, bne_t, bne_f, Bool.not_true, Bool.not_false, Int.reduceToNat, ft_b, tf_b, tt_b, ff_b, decide_true, decide_false, (prime_Check_spec hl).2 h2]

theorem group_Check_spec {k : Nat} {l : Nat → (Nat → Int) × Int} {ga : Nat → Int} {N : Nat → Nat} {G : Nat} (hl : ∀ i, i < k → IsN (l i).1 (N i)) (hg : IsN ga G) :
    (GroupP k N (fun i => (l i).2) G → group_Check ((k, l), ga) = some 0) ∧ (¬ GroupP k N (fun i => (l i).2) G → group_Check ((k, l), ga) = some 4) := by
  rw [group_Check_eq]; unfold group_Check'
  constructor
  · intro h
    obtain ⟨g, g1, _⟩ := (group_New_spec hl hg).1 h
    simp only [g1]
  · intro h
    simp only [(group_New_spec hl hg).2 h]

section
variable {g : GroupT} {P Q G : Nat}
theorem group_Ring_spec (h : IsGroup g P Q G) : ∃ r, group_Group_Ring (some g) = some (some r) ∧ IsRing r P := by
  rw [group_Group_Ring_eq]; unfold group_Group_Ring'
  obtain ⟨r, f, e, hr, hf⟩ := h.rings
  simp only [e, isRf_fz, isNil_fz, val_fz, wrap_i64n, wrapun, dec_t, dec_f, inb_t, cond_true, cond_false, Int.toNat_natCast, beq_t, beq_f, bne_t, bne_f, Bool.not_true, Bool.not_false, Int.reduceToNat, ft_b, tf_b, tt_b, ff_b, decide_true, decide_false]
  exact ⟨r, rfl, hr⟩
theorem group_Field_spec (h : IsGroup g P Q G) : ∃ r, group_Group_Field (some g) = some (some r) ∧ IsRing r Q := by
  rw [group_Group_Field_eq]; unfold group_Group_Field'
  obtain ⟨r, f, e, hr, hf⟩ := h.rings
  simp only [e, isRf_fz, isNil_fz, val_fz, wrap_i64n, wrapun, dec_t, dec_f, inb_t, cond_true, cond_false, Int.toNat_natCast, beq_t, beq_f, bne_t, bne_f, Bool.not_true, Bool.not_false, Int.reduceToNat, ft_b, tf_b, tt_b, ff_b, decide_true, decide_false]
  exact ⟨f, rfl, hf⟩
theorem group_P_spec (h : IsGroup g P Q G) : ∃ z, group_Group_P (some g) = some z ∧ IsN z P := by
  rw [group_Group_P_eq]; unfold group_Group_P'
  obtain ⟨r, r1, hr⟩ := group_Ring_spec h
  simp only [r1, mont_M_spec hr]
  exact ⟨_, rfl, hr.m⟩
theorem group_Q_spec (h : IsGroup g P Q G) : ∃ z, group_Group_Q (some g) = some z ∧ IsN z Q := by
  rw [group_Group_Q_eq]; unfold group_Group_Q'
  obtain ⟨r, r1, hr⟩ := group_Field_spec h
  simp only [r1, mont_M_spec hr]
  exact ⟨_, rfl, hr.m⟩
theorem group_G_spec (h : IsGroup g P Q G) : group_Group_G (some g) = some g.2 := by
  rw [group_Group_G_eq]; rfl
theorem group_Size_spec (h : IsGroup g P Q G) : group_Group_Size (some g) = some (((blen Q - 1) / 8 : Nat) : Int) := by
  rw [group_Group_Size_eq]; unfold group_Group_Size'
  obtain ⟨q, q1, q2⟩ := group_Q_spec h
  have hb : ¬ blen Q < 10 := fun hc => by have := blen_lt10.1 hc; have := h.big; omega
  have hb2 : blen Q ≤ 256 := blen_le q2.1
  have hm : (if (0 : Int) < ((blen Q - 1 : Nat) : Int) then ((blen Q - 1 : Nat) : Int) else 0) = ((blen Q - 1 : Nat) : Int) := if_pos (by omega)
  simp (disch := omega) only [add_c, add_l, l_add, mul_c, mul_l, l_mul, sub_c, sub_l, l_sub, div_c, div_l, mod_c, mod_l, tdiv_c, tdiv_l, tmod_c, tmod_l, wrap_i64n, wrapun, dec_t, dec_f, inb_t, cond_true, cond_false, Int.toNat_natCast, beq_t, beq_f, bne_t, bne_f, Bool.not_true, Bool.not_false, Int.reduceToNat, ft_b, tf_b, tt_b, ff_b, decide_true, decide_false, q1, nat_Len_spec q2, hm]
end

/-! ## The document's -/
theorem r07_P_spec {k : Nat} {l : Nat → (Nat → Int) × Int} {ga : Nat → Int} (h : 2 ≤ k) (h2 : k ≤ 9223372036854775807) : r07_P ((k, l), ga) = some (l (k - 1)).1 := by
  rw [r07_P_eq]; unfold r07_P'
  simp (disch := omega) only [add_c, add_l, l_add, mul_c, mul_l, l_mul, sub_c, sub_l, l_sub, div_c, div_l, mod_c, mod_l, tdiv_c, tdiv_l, tmod_c, tmod_l, wrap_i64n, wrapun, dec_t, dec_f, inb_t, cond_true, cond_false, Int.toNat_natCast, beq_t, beq_f, bne_t, bne_f, Bool.not_true, Bool.not_false, Int.reduceToNat, ft_b, tf_b, tt_b, ff_b, decide_true, decide_false]
theorem r07_Q_spec {k : Nat} {l : Nat → (Nat → Int) × Int} {ga : Nat → Int} (h : 2 ≤ k) (h2 : k ≤ 9223372036854775807) : r07_Q ((k, l), ga) = some (l (k - 2)).1 := by
  rw [r07_Q_eq]; unfold r07_Q'
  simp (disch := omega) only [add_c, add_l, l_add, mul_c, mul_l, l_mul, sub_c, sub_l, l_sub, div_c, div_l, mod_c, mod_l, tdiv_c, tdiv_l, tmod_c, tmod_l, wrap_i64n, wrapun, dec_t, dec_f, inb_t, cond_true, cond_false, Int.toNat_natCast, beq_t, beq_f, bne_t, bne_f, Bool.not_true, Bool.not_false, Int.reduceToNat, ft_b, tf_b, tt_b, ff_b, decide_true, decide_false]
theorem r07_May_spec {k : Nat} {l : Nat → (Nat → Int) × Int} {ga : Nat → Int} {N : Nat → Nat} {G : Nat} (h63 : k ≤ 9223372036854775807) (hl : ∀ i, i < k → IsN (l i).1 (N i)) (hg : IsN ga G) :
    ∃ b, r07_May ((k, l), ga) = some b ∧ (b = true ↔ GroupP k N (fun i => (l i).2) G) := by
  rw [r07_May_eq]; unfold r07_May'
  have no : ∀ {x : Option Bool}, x = some false → ¬ GroupP k N (fun i => (l i).2) G → ∃ b, x = some b ∧ (b = true ↔ GroupP k N (fun i => (l i).2) G) := fun h1 h2 => ⟨false, h1, by simp [h2]⟩
  by_cases h1 : k < 2
  · refine no ?_ (fun h => by have := h.1; omega)
    simp (disch := omega) only [wrap_i64n, wrapun, dec_t, dec_f, inb_t, cond_true, cond_false, Int.toNat_natCast, beq_t, beq_f, bne_t, bne_f, Bool.not_true, Bool.not_false, Int.reduceToNat, ft_b, tf_b, tt_b, ff_b, decide_true, decide_false]
  · obtain ⟨b, b1, b2⟩ := r04_Check_spec hl
    cases b with
    | false =>
      refine no ?_ (fun h => absurd (b2.2 h.2.1) (by decide))
      simp (disch := omega) only [wrap_i64n, wrapun, dec_t, dec_f, inb_t, cond_true, cond_false, Int.toNat_natCast, beq_t, beq_f, bne_t, bne_f, Bool.not_true, Bool.not_false, Int.reduceToNat, ft_b, tf_b, tt_b, ff_b, decide_true, decide_false, b1]
    | true =>
      have h2 := b2.1 rfl
      have hk8 := h2.2.1
      have hp := h2.prime (k - 1) (by omega)
      have hPN := hl (k - 1) (by omega)
      have hQN := hl (k - 2) (by omega)
      have eP := r07_P_spec (l := l) (ga := ga) (show 2 ≤ k by omega) h63
      have eQ := r07_Q_spec (l := l) (ga := ga) (show 2 ≤ k by omega) h63
      generalize hP : N (k - 1) = P at *
      generalize hQ : N (k - 2) = Q at *
      obtain ⟨o, o1, o2⟩ := r01_Int_spec (n := 1) (by decide)
      have o2' : IsN o 1 := o2
      obtain ⟨z, z1, z2⟩ := r01_Int_spec (n := 0) (by decide)
      have z2' : IsN z 0 := z2
      by_cases h3 : Q < 512
      · have hb := blen_lt10.2 h3
        refine no ?_ (fun h => by have := h.2.2.1; omega)
        simp (disch := omega) only [wrap_i64n, wrapun, dec_t, dec_f, inb_t, cond_true, cond_false, Int.toNat_natCast, beq_t, beq_f, bne_t, bne_f, Bool.not_true, Bool.not_false, Int.reduceToNat, ft_b, tf_b, tt_b, ff_b, decide_true, decide_false, b1, eQ, r01_Len_spec hQN]
      · have hb : ¬ blen Q < 10 := fun h => h3 (blen_lt10.1 h)
        by_cases h4 : G = 0
        · subst h4
          refine no ?_ (fun h => by have := h.2.2.2.1; omega)
          simp (disch := omega) only [wrap_i64n, wrapun, dec_t, dec_f, inb_t, cond_true, cond_false, Int.toNat_natCast, beq_t, beq_f, bne_t, bne_f, Bool.not_true, Bool.not_false, Int.reduceToNat, ft_b, tf_b, tt_b, ff_b, decide_true, decide_false, b1, eQ, r01_Len_spec hQN, z1, hg.eqb z2']
        · by_cases h5 : G = 1
          · subst h5
            refine no ?_ (fun h => by have := h.2.2.2.1; omega)
            simp (disch := omega) only [wrap_i64n, wrapun, dec_t, dec_f, inb_t, cond_true, cond_false, Int.toNat_natCast, beq_t, beq_f, bne_t, bne_f, Bool.not_true, Bool.not_false, Int.reduceToNat, ft_b, tf_b, tt_b, ff_b, decide_true, decide_false, b1, eQ, r01_Len_spec hQN, z1, hg.eqb z2', o1, hg.eqb o2']
          · by_cases h6 : G < P
            · have hc : cmpI G P < 0 := by unfold cmpI; rw [if_pos h6]; decide
              obtain ⟨e, e1, e2⟩ := r03_Exp_spec hg hQN hPN hp.pos
              refine ⟨decide (G ^ Q % P = 1), ?_, ?_⟩
              · simp (disch := first | omega | assumption) only [wrap_i64n, wrapun, dec_t, dec_f, inb_t, cond_true, cond_false, Int.toNat_natCast, beq_t, beq_f, bne_t, bne_f, Bool.not_true, Bool.not_false, Int.reduceToNat, ft_b, tf_b, tt_b, ff_b, decide_true, decide_false, b1, eQ, eP, r01_Len_spec hQN, z1, hg.eqb z2', o1, hg.eqb o2', r01_Cmp_spec hg hPN, dec_t hc, e1, e2.eqb o2']
              · rw [decide_eq_true_eq]
                constructor
                · intro h7; exact ⟨by omega, h2, by rw [hQ]; omega, by omega, by rw [hP]; exact h6, by rw [hP, hQ]; exact h7⟩
                · intro h; have := h.2.2.2.2.2; rw [hP, hQ] at this; exact this
            · have hc : ¬ cmpI G P < 0 := by unfold cmpI; rw [if_neg h6]; split <;> decide
              refine no ?_ (fun h => h6 (by have := h.2.2.2.2.1; rw [hP] at this; exact this))
              simp (disch := first | omega | assumption) only [wrap_i64n, wrapun, dec_t, dec_f, inb_t, cond_true, cond_false, Int.toNat_natCast, beq_t, beq_f, bne_t, bne_f, Bool.not_true, Bool.not_false, Int.reduceToNat, ft_b, tf_b, tt_b, ff_b, decide_true, decide_false, b1, eQ, eP, r01_Len_spec hQN, z1, hg.eqb z2', o1, hg.eqb o2', r01_Cmp_spec hg hPN, dec_f hc]
theorem r07_Size_spec {k : Nat} {l : Nat → (Nat → Int) × Int} {ga : Nat → Int} {Q : Nat} (h : 2 ≤ k) (h2 : k ≤ 9223372036854775807) (hQ : IsN (l (k - 2)).1 Q) (hb : 512 ≤ Q) : r07_Size ((k, l), ga) = some (((blen Q - 1) / 8 : Nat) : Int) := by
  rw [r07_Size_eq]; unfold r07_Size'
  have hb : ¬ blen Q < 10 := fun hc => by have := blen_lt10.1 hc; omega
  have hb2 : blen Q ≤ 256 := blen_le hQ.1
  simp (disch := omega) only [add_c, add_l, l_add, mul_c, mul_l, l_mul, sub_c, sub_l, l_sub, div_c, div_l, mod_c, mod_l, tdiv_c, tdiv_l, tmod_c, tmod_l, wrap_i64n, wrapun, dec_t, dec_f, inb_t, cond_true, cond_false, Int.toNat_natCast, beq_t, beq_f, bne_t, bne_f, Bool.not_true, Bool.not_false, Int.reduceToNat, ft_b, tf_b, tt_b, ff_b, decide_true, decide_false, r07_Q_spec h h2, r01_Len_spec hQ]

/-! ## The three that are given -/
theorem StepP.by_pm {n f w : Nat} (h1 : n % 2 = 1) (h2 : n ≠ 1) (h3 : 2 ≤ w) (h4 : w < 65536) (h5 : f ≠ 0) (h6 : (n - 1) % f = 0) (h7 : n < f * f) (hn : n < 2 ^ 256) (hf : f < 2 ^ 256) (h8 : pm n 256 (pm n 256 w ((n - 1) / f)) f = 1) (h9 : Nat.gcd (pm n 256 w ((n - 1) / f) + (n - 1)) n = 1) : StepP n f (w : Int) := by
  have e1 : (n - 1) / f < 2 ^ 256 := Nat.lt_of_le_of_lt (Nat.div_le_self _ _) (by omega)
  rw [pm_eq n 256 w _ e1] at h8 h9
  rw [pm_eq n 256 _ _ hf] at h8
  exact ⟨h1, h2, by omega, by omega, h5, h6, h7, h8, h9⟩
theorem step_prime1 : StepP 1966023127 65521 ((2 : Nat) : Int) := StepP.by_pm (by decide) (by decide) (by decide) (by decide) (by decide) (by decide) (by decide) (by decide) (by decide) (by decide +kernel) (by decide +kernel)
theorem step_prime2 : StepP 1055500680322183127 1966023127 ((2 : Nat) : Int) := StepP.by_pm (by decide) (by decide) (by decide) (by decide) (by decide) (by decide) (by decide) (by decide) (by decide) (by decide +kernel) (by decide +kernel)
end Go.Pl

set_option linter.unusedVariables false
set_option linter.unusedSimpArgs false
namespace Go.Pl
open Go Go.Den Go.Num

theorem prime_tries {n r : Nat} (hn : 2 ≤ n) (hr : n < (r + 1) * (r + 1)) (h : ∀ d, d < r + 1 → 2 ≤ d → n % d ≠ 0) : Pr n :=
  prime_of_tried hn fun d h2 hd => h d (by
    apply Classical.byContradiction
    intro hc
    have : (r + 1) * (r + 1) ≤ d * d := Nat.mul_le_mul (by omega) (by omega)
    omega) h2
abbrev ChainT := Nat → (Nat → Int) × Int
def leastN : Nat → Nat
  | 0 => 65521
  | 1 => 1966023127
  | _ => 1055500680322183127
def leastL : ChainT := fun j => (upd (upd (upd (fun _ => ((fun _ => 0), 0)) 0 ((upd (fun _ => 0) 0 65521), 0)) 1 ((upd (fun _ => 0) 0 1966023127), 2)) 2 ((upd (fun _ => 0) 0 1055500680322183127), 2)) (0 + j)
def leastG : Nat → Int := (upd (fun _ => 0) 0 316543771439780984)
theorem leastL_n : ∀ i, i < 3 → IsN (leastL i).1 (leastN i) := fun i hi => by
  match i, hi with
  | 0, _ => exact IsN.of_eq (IsN.mk (a := (leastL 0).1) (x0 := 65521) (x1 := 0) (x2 := 0) (x3 := 0) rfl rfl rfl rfl (by decide) (by decide) (by decide) (by decide)) (by decide)
  | 1, _ => exact IsN.of_eq (IsN.mk (a := (leastL 1).1) (x0 := 1966023127) (x1 := 0) (x2 := 0) (x3 := 0) rfl rfl rfl rfl (by decide) (by decide) (by decide) (by decide)) (by decide)
  | 2, _ => exact IsN.of_eq (IsN.mk (a := (leastL 2).1) (x0 := 1055500680322183127) (x1 := 0) (x2 := 0) (x3 := 0) rfl rfl rfl rfl (by decide) (by decide) (by decide) (by decide)) (by decide)
theorem leastG_n : IsN leastG 316543771439780984 := IsN.of_eq (IsN.mk (a := leastG) (x0 := 316543771439780984) (x1 := 0) (x2 := 0) (x3 := 0) rfl rfl rfl rfl (by decide) (by decide) (by decide) (by decide)) (by decide)
theorem least_first : Pr 65521 := prime_tries (r := 255) (by decide) (by decide) (by decide +kernel)
theorem least_step1 : StepP 1966023127 65521 ((2 : Nat) : Int) := StepP.by_pm (by decide) (by decide) (by decide) (by decide) (by decide) (by decide) (by decide) (by decide) (by decide) (by decide +kernel) (by decide +kernel)
theorem least_step2 : StepP 1055500680322183127 1966023127 ((2 : Nat) : Int) := StepP.by_pm (by decide) (by decide) (by decide) (by decide) (by decide) (by decide) (by decide) (by decide) (by decide) (by decide +kernel) (by decide +kernel)
theorem least_pow (b e m : Nat) (hb : b = 316543771439780984) (he : e = 1966023127) (hm : m = 1055500680322183127) : b ^ e % m = 1 := by
  rw [← pm_eq m 256 b e (by subst he; decide)]
  subst hb he hm
  decide +kernel
theorem least_group : GroupP 3 leastN (fun i => (leastL i).2) 316543771439780984 := by
  refine ⟨by decide, ⟨by decide, by decide, by decide, by decide, least_first, rfl, fun i hi => ?_⟩, by decide, by decide, by decide, least_pow _ _ _ rfl rfl rfl⟩
  match i, hi with
  | 0, _ => exact least_step1
  | 1, _ => exact least_step2
theorem group_Least_eq2 : group_Least = some ((3, leastL), leastG) := by
  rw [group_Least_eq]; rfl
theorem r07_Least_eq2 : r07_Least = some ((3, leastL), leastG) := by
  rw [r07_Least_eq]; rfl
theorem least_new : ∃ g, group_New ((3, leastL), leastG) = some (some g, 0) ∧ IsGroup g 1055500680322183127 1966023127 316543771439780984 ∧ g.2 = leastG := (group_New_spec leastL_n leastG_n).1 least_group

def otherN : Nat → Nat
  | 0 => 64817
  | 1 => 1815135269
  | _ => 487269091447081429
def otherL : ChainT := fun j => (upd (upd (upd (fun _ => ((fun _ => 0), 0)) 0 ((upd (fun _ => 0) 0 64817), 0)) 1 ((upd (fun _ => 0) 0 1815135269), 2)) 2 ((upd (fun _ => 0) 0 487269091447081429), 2)) (0 + j)
def otherG : Nat → Int := (upd (fun _ => 0) 0 54624333139524128)
theorem otherL_n : ∀ i, i < 3 → IsN (otherL i).1 (otherN i) := fun i hi => by
  match i, hi with
  | 0, _ => exact IsN.of_eq (IsN.mk (a := (otherL 0).1) (x0 := 64817) (x1 := 0) (x2 := 0) (x3 := 0) rfl rfl rfl rfl (by decide) (by decide) (by decide) (by decide)) (by decide)
  | 1, _ => exact IsN.of_eq (IsN.mk (a := (otherL 1).1) (x0 := 1815135269) (x1 := 0) (x2 := 0) (x3 := 0) rfl rfl rfl rfl (by decide) (by decide) (by decide) (by decide)) (by decide)
  | 2, _ => exact IsN.of_eq (IsN.mk (a := (otherL 2).1) (x0 := 487269091447081429) (x1 := 0) (x2 := 0) (x3 := 0) rfl rfl rfl rfl (by decide) (by decide) (by decide) (by decide)) (by decide)
theorem otherG_n : IsN otherG 54624333139524128 := IsN.of_eq (IsN.mk (a := otherG) (x0 := 54624333139524128) (x1 := 0) (x2 := 0) (x3 := 0) rfl rfl rfl rfl (by decide) (by decide) (by decide) (by decide)) (by decide)
theorem other_first : Pr 64817 := prime_tries (r := 255) (by decide) (by decide) (by decide +kernel)
theorem other_step1 : StepP 1815135269 64817 ((2 : Nat) : Int) := StepP.by_pm (by decide) (by decide) (by decide) (by decide) (by decide) (by decide) (by decide) (by decide) (by decide) (by decide +kernel) (by decide +kernel)
theorem other_step2 : StepP 487269091447081429 1815135269 ((2 : Nat) : Int) := StepP.by_pm (by decide) (by decide) (by decide) (by decide) (by decide) (by decide) (by decide) (by decide) (by decide) (by decide +kernel) (by decide +kernel)
theorem other_pow (b e m : Nat) (hb : b = 54624333139524128) (he : e = 1815135269) (hm : m = 487269091447081429) : b ^ e % m = 1 := by
  rw [← pm_eq m 256 b e (by subst he; decide)]
  subst hb he hm
  decide +kernel
theorem other_group : GroupP 3 otherN (fun i => (otherL i).2) 54624333139524128 := by
  refine ⟨by decide, ⟨by decide, by decide, by decide, by decide, other_first, rfl, fun i hi => ?_⟩, by decide, by decide, by decide, other_pow _ _ _ rfl rfl rfl⟩
  match i, hi with
  | 0, _ => exact other_step1
  | 1, _ => exact other_step2
theorem group_Other_eq2 : group_Other = some ((3, otherL), otherG) := by
  rw [group_Other_eq]; rfl
theorem r07_Other_eq2 : r07_Other = some ((3, otherL), otherG) := by
  rw [r07_Other_eq]; rfl
theorem other_new : ∃ g, group_New ((3, otherL), otherG) = some (some g, 0) ∧ IsGroup g 487269091447081429 1815135269 54624333139524128 ∧ g.2 = otherG := (group_New_spec otherL_n otherG_n).1 other_group

def greatN : Nat → Nat
  | 0 => 65519
  | 1 => 1313918027
  | 2 => 88175567203779761
  | 3 => 6353719225633997551192976661815171
  | _ => 128868735840905246597005622286753383510486359307609845843856143183
def greatL : ChainT := fun j => (upd (upd (upd (upd (upd (fun _ => ((fun _ => 0), 0)) 0 ((upd (fun _ => 0) 0 65519), 0)) 1 ((upd (fun _ => 0) 0 1313918027), 2)) 2 ((upd (fun _ => 0) 0 88175567203779761), 2)) 3 ((upd (upd (fun _ => 0) 0 15752163429641756547) 1 344435809389764), 2)) 4 ((upd (upd (upd (upd (fun _ => 0) 0 3727879549075534671) 1 12844076830096575486) 2 1228573241546452547) 3 20529974), 2)) (0 + j)
def greatG : Nat → Int := (upd (upd (upd (upd (fun _ => 0) 0 12280068205398558585) 1 6413536983304955349) 2 8741009603146644127) 3 1457863)
theorem greatL_n : ∀ i, i < 5 → IsN (greatL i).1 (greatN i) := fun i hi => by
  match i, hi with
  | 0, _ => exact IsN.of_eq (IsN.mk (a := (greatL 0).1) (x0 := 65519) (x1 := 0) (x2 := 0) (x3 := 0) rfl rfl rfl rfl (by decide) (by decide) (by decide) (by decide)) (by decide)
  | 1, _ => exact IsN.of_eq (IsN.mk (a := (greatL 1).1) (x0 := 1313918027) (x1 := 0) (x2 := 0) (x3 := 0) rfl rfl rfl rfl (by decide) (by decide) (by decide) (by decide)) (by decide)
  | 2, _ => exact IsN.of_eq (IsN.mk (a := (greatL 2).1) (x0 := 88175567203779761) (x1 := 0) (x2 := 0) (x3 := 0) rfl rfl rfl rfl (by decide) (by decide) (by decide) (by decide)) (by decide)
  | 3, _ => exact IsN.of_eq (IsN.mk (a := (greatL 3).1) (x0 := 15752163429641756547) (x1 := 344435809389764) (x2 := 0) (x3 := 0) rfl rfl rfl rfl (by decide) (by decide) (by decide) (by decide)) (by decide)
  | 4, _ => exact IsN.of_eq (IsN.mk (a := (greatL 4).1) (x0 := 3727879549075534671) (x1 := 12844076830096575486) (x2 := 1228573241546452547) (x3 := 20529974) rfl rfl rfl rfl (by decide) (by decide) (by decide) (by decide)) (by decide)
theorem greatG_n : IsN greatG 9151157341667469615800997130231454865425018181917904921479972729 := IsN.of_eq (IsN.mk (a := greatG) (x0 := 12280068205398558585) (x1 := 6413536983304955349) (x2 := 8741009603146644127) (x3 := 1457863) rfl rfl rfl rfl (by decide) (by decide) (by decide) (by decide)) (by decide)
theorem great_first : Pr 65519 := prime_tries (r := 255) (by decide) (by decide) (by decide +kernel)
theorem great_step1 : StepP 1313918027 65519 ((2 : Nat) : Int) := StepP.by_pm (by decide) (by decide) (by decide) (by decide) (by decide) (by decide) (by decide) (by decide) (by decide) (by decide +kernel) (by decide +kernel)
theorem great_step2 : StepP 88175567203779761 1313918027 ((2 : Nat) : Int) := StepP.by_pm (by decide) (by decide) (by decide) (by decide) (by decide) (by decide) (by decide) (by decide) (by decide) (by decide +kernel) (by decide +kernel)
theorem great_step3 : StepP 6353719225633997551192976661815171 88175567203779761 ((2 : Nat) : Int) := StepP.by_pm (by decide) (by decide) (by decide) (by decide) (by decide) (by decide) (by decide) (by decide) (by decide) (by decide +kernel) (by decide +kernel)
theorem great_step4 : StepP 128868735840905246597005622286753383510486359307609845843856143183 6353719225633997551192976661815171 ((2 : Nat) : Int) := StepP.by_pm (by decide) (by decide) (by decide) (by decide) (by decide) (by decide) (by decide) (by decide) (by decide) (by decide +kernel) (by decide +kernel)
theorem great_pow (b e m : Nat) (hb : b = 9151157341667469615800997130231454865425018181917904921479972729) (he : e = 6353719225633997551192976661815171) (hm : m = 128868735840905246597005622286753383510486359307609845843856143183) : b ^ e % m = 1 := by
  rw [← pm_eq m 256 b e (by subst he; decide)]
  subst hb he hm
  decide +kernel
theorem great_group : GroupP 5 greatN (fun i => (greatL i).2) 9151157341667469615800997130231454865425018181917904921479972729 := by
  refine ⟨by decide, ⟨by decide, by decide, by decide, by decide, great_first, rfl, fun i hi => ?_⟩, by decide, by decide, by decide, great_pow _ _ _ rfl rfl rfl⟩
  match i, hi with
  | 0, _ => exact great_step1
  | 1, _ => exact great_step2
  | 2, _ => exact great_step3
  | 3, _ => exact great_step4
theorem group_Great_eq2 : group_Great = some ((5, greatL), greatG) := by
  rw [group_Great_eq]; rfl
theorem r07_Great_eq2 : r07_Great = some ((5, greatL), greatG) := by
  rw [r07_Great_eq]; rfl
theorem great_new : ∃ g, group_New ((5, greatL), greatG) = some (some g, 0) ∧ IsGroup g 128868735840905246597005622286753383510486359307609845843856143183 6353719225633997551192976661815171 9151157341667469615800997130231454865425018181917904921479972729 ∧ g.2 = greatG := (group_New_spec greatL_n greatG_n).1 great_group

end Go.Pl

set_option linter.unusedVariables false
set_option linter.unusedSimpArgs false
namespace Go.Pl
open Go Go.Den Go.Num

section
variable {g : GroupT} {P Q G : Nat} {a b : Nat → Int} {x y : Nat}
theorem field_In_spec (h : IsGroup g P Q G) (ha : IsN a x) : field_In (some g) a = some (decide (x < Q)) := by
  rw [field_In_eq]; unfold field_In'
  obtain ⟨r, r1, hr⟩ := group_Field_spec h
  simp only [r1, mont_In_spec hr ha]
theorem field_Add_spec (h : IsGroup g P Q G) (ha : IsN a x) (hb : IsN b y) : ∃ z, field_Add (some g) a b = some z ∧ IsN z ((x + y) % Q) := by
  rw [field_Add_eq]; unfold field_Add'
  obtain ⟨q, q1, q2⟩ := group_Q_spec h
  obtain ⟨z, z1, z2⟩ := wide_AddMod_spec ha hb q2 h.qpos
  simp only [q1, z1]
  exact ⟨z, rfl, z2⟩
theorem field_Sub_spec (h : IsGroup g P Q G) (ha : IsN a x) (hb : IsN b y) : ∃ z, field_Sub (some g) a b = some z ∧ IsN z ((x + (Q - y % Q)) % Q) := by
  rw [field_Sub_eq]; unfold field_Sub'
  obtain ⟨q, q1, q2⟩ := group_Q_spec h
  obtain ⟨z, z1, z2⟩ := wide_SubMod_spec ha hb q2 h.qpos
  simp only [q1, z1]
  exact ⟨z, rfl, z2⟩
theorem field_Mul_spec (h : IsGroup g P Q G) (ha : IsN a x) (hb : IsN b y) : ∃ z, field_Mul (some g) a b = some z ∧ IsN z (x * y % Q) := by
  rw [field_Mul_eq]; unfold field_Mul'
  obtain ⟨r, r1, hr⟩ := group_Field_spec h
  obtain ⟨z, z1, z2⟩ := mont_Mul_spec hr ha hb
  simp only [r1, z1]
  exact ⟨z, rfl, z2⟩
/-- the inverse; 0 of 0 -/
theorem field_Inv_spec (h : IsGroup g P Q G) (ha : IsN a x) : ∃ z v, field_Inv (some g) a = some z ∧ IsN z v ∧ v < Q ∧ (x % Q = 0 → v = 0) ∧ (x % Q ≠ 0 → v * x % Q = 1) := by
  rw [field_Inv_eq]; unfold field_Inv'
  obtain ⟨q, q1, q2⟩ := group_Q_spec h
  obtain ⟨i1, i2, i3⟩ := wide_InvMod_spec ha q2
  have hQ := h.pq.1
  have hpos := h.qpos
  by_cases h0 : x % Q = 0
  · have hg : Nat.gcd x Q ≠ 1 := by
      intro hc
      have : Q ∣ Nat.gcd x Q := Nat.dvd_gcd (Nat.dvd_of_mod_eq_zero h0) (Nat.dvd_refl Q)
      rw [hc] at this
      have := Nat.le_of_dvd (by decide) this
      omega
    simp (disch := omega) only [wrap_i64n, wrapun, dec_t, dec_f, inb_t, cond_true, cond_false, Int.toNat_natCast, beq_t, beq_f, bne_t, bne_f, Bool.not_true, Bool.not_false, Int.reduceToNat, ft_b, tf_b, tt_b, ff_b, decide_true, decide_false, q1, i2 (by omega) hg]
    exact ⟨_, 0, rfl, IsN.zero, hpos, fun _ => rfl, fun h => absurd h0 h⟩
  · have hg : Nat.gcd x Q = 1 := by
      rw [Nat.gcd_comm]
      exact h.pq.coprime fun hd => h0 (Nat.mod_eq_zero_of_dvd hd)
    obtain ⟨z, v, z1, z2, z3, z4⟩ := i3 (by omega) hg
    simp (disch := omega) only [wrap_i64n, wrapun, dec_t, dec_f, inb_t, cond_true, cond_false, Int.toNat_natCast, beq_t, beq_f, bne_t, bne_f, Bool.not_true, Bool.not_false, Int.reduceToNat, ft_b, tf_b, tt_b, ff_b, decide_true, decide_false, q1, z1]
    exact ⟨z, v, rfl, z2, z3, fun h => absurd h h0, fun _ => z4⟩

/-- sums of products -/
def dotN (A B : Nat → Nat) : Nat → Nat
  | 0 => 0
  | n + 1 => dotN A B n + A n * B n
theorem field_Dot_spec (h : IsGroup g P Q G) {n : Nat} {l m : Nat → Nat → Int} {A B : Nat → Nat} (hn : n ≤ 9223372036854775807) (hl : ∀ i, i < n → IsN (l i) (A i)) (hm : ∀ i, i < n → IsN (m i) (B i)) :
    ∃ z, field_Dot (some g) n l n m = some (z, 0) ∧ IsN z (dotN A B n % Q) := by
  rw [field_Dot_eq]; unfold field_Dot'
  obtain ⟨r, r1, hr⟩ := group_Field_spec h
  simp (disch := omega) only [wrap_i64n, wrapun, dec_t, dec_f, inb_t, cond_true, cond_false, Int.toNat_natCast, beq_t, beq_f, bne_t, bne_f, Bool.not_true, Bool.not_false, Int.reduceToNat, ft_b, tf_b, tt_b, ff_b, decide_true, decide_false, r1]
  generalize ho : loopF R_field_Dot_0 _ = o
  obtain ⟨z, hy, hQ⟩ := loop_for (R := R_field_Dot_0) (fun i (z : Nat → Int) => T_field_Dot_0 g n l n m (n : Int) (i : Int) (fun _ => 0) z) (fun z => Y_field_Dot_0_0 (fun _ => 0) z)
    (fun i z => IsN z (dotN A B i % Q)) n
    (fun i hi z hP => by
      obtain ⟨u, u1, u2⟩ := field_Mul_spec h (hl i hi) (hm i hi)
      obtain ⟨v, v1, v2⟩ := field_Add_spec h hP u2
      refine ⟨v, ?_, v2.of_eq (by rw [← Nat.add_mod]; rfl)⟩
      unfold R_field_Dot_0
      simp (disch := omega) only [add_c, add_l, l_add, mul_c, mul_l, l_mul, sub_c, sub_l, l_sub, div_c, div_l, mod_c, mod_l, tdiv_c, tdiv_l, tmod_c, tmod_l, wrap_i64n, wrapun, dec_t, dec_f, inb_t, cond_true, cond_false, Int.toNat_natCast, beq_t, beq_f, bne_t, bne_f, Bool.not_true, Bool.not_false, Int.reduceToNat, ft_b, tf_b, tt_b, ff_b, decide_true, decide_false, u1, v1])
    (fun z hP => by
      unfold R_field_Dot_0
      simp (disch := omega) only [wrap_i64n, wrapun, dec_t, dec_f, inb_t, cond_true, cond_false, Int.toNat_natCast, beq_t, beq_f, bne_t, bne_f, Bool.not_true, Bool.not_false, Int.reduceToNat, ft_b, tf_b, tt_b, ff_b, decide_true, decide_false]) (fun _ => 0) (by rw [show dotN A B 0 = 0 from rfl, Nat.zero_mod]; exact IsN.zero)
  obtain rfl := ho.symm.trans hy
  exact ⟨z, rfl, hQ⟩
theorem field_Dot_odd (h : IsGroup g P Q G) {n k : Nat} {l m : Nat → Nat → Int} (hnk : n ≠ k) : field_Dot (some g) n l k m = some ((fun _ => 0), 1) := by
  rw [field_Dot_eq]; unfold field_Dot'
  obtain ⟨r, r1, hr⟩ := group_Field_spec h
  simp (disch := omega) only [wrap_i64n, wrapun, dec_t, dec_f, inb_t, cond_true, cond_false, Int.toNat_natCast, beq_t, beq_f, bne_t, bne_f, Bool.not_true, Bool.not_false, Int.reduceToNat, ft_b, tf_b, tt_b, ff_b, decide_true, decide_false, r1]

/-! ## Powers -/
theorem power_Exp_spec (h : IsGroup g P Q G) (ha : IsN a x) (hb : IsN b y) : ∃ z, power_Exp (some g) a b = some z ∧ IsN z (x ^ y % P) := by
  rw [power_Exp_eq]; unfold power_Exp'
  obtain ⟨r, r1, hr⟩ := group_Ring_spec h
  obtain ⟨z, z1, z2⟩ := mont_Exp_spec hr ha hb
  simp only [r1, z1]
  exact ⟨z, rfl, z2⟩
theorem power_Of_spec (h : IsGroup g P Q G) (hb : IsN b y) : ∃ z, power_Of (some g) b = some z ∧ IsN z (G ^ y % P) := by
  rw [power_Of_eq]; unfold power_Of'
  obtain ⟨z, z1, z2⟩ := power_Exp_spec h h.gen hb
  simp only [group_G_spec h, z1]
  exact ⟨z, rfl, z2⟩
theorem power_Inv_spec (h : IsGroup g P Q G) (ha : IsN a x) : ∃ z, power_Inv (some g) a = some z ∧ IsN z (x ^ (Q - 1) % P) := by
  rw [power_Inv_eq]; unfold power_Inv'
  obtain ⟨q, q1, q2⟩ := group_Q_spec h
  obtain ⟨o, o1, o2⟩ := nat_Of_spec (n := 1) (by decide)
  have o2' : IsN o 1 := o2
  obtain ⟨d, d1, d2⟩ := nat_Sub_spec q2 o2'
  have hq := q2.1
  have hQ := h.pq.1
  have d3 : IsN d (Q - 1) := d2.of_eq (by omega)
  obtain ⟨z, z1, z2⟩ := power_Exp_spec h ha d3
  simp only [q1, o1, d1, z1]
  exact ⟨z, rfl, z2⟩
theorem power_Multi_spec (h : IsGroup g P Q G) {n : Nat} (hn : n ≤ 64) {bases exps : Nat → (Nat → Int)} {B E : Nat → Nat} (hB : ∀ i, i < n → IsN (bases i) (B i)) (hE : ∀ i, i < n → IsN (exps i) (E i)) :
    ∃ z, power_Multi (some g) n bases n exps = some (z, 0) ∧ IsN z (prodN (fun i => B i ^ E i) n % P) := by
  rw [power_Multi_eq]; unfold power_Multi'
  obtain ⟨r, r1, hr⟩ := group_Ring_spec h
  obtain ⟨z, z1, z2⟩ := mont_Prod_spec hr hn hB hE
  simp only [r1, z1]
  exact ⟨z, rfl, z2⟩
theorem power_In_spec (h : IsGroup g P Q G) (ha : IsN a x) : power_In (some g) a = some (decide (x ≠ 0 ∧ x < P ∧ x ^ Q % P = 1)) := by
  rw [power_In_eq]; unfold power_In'
  obtain ⟨r, r1, hr⟩ := group_Ring_spec h
  obtain ⟨q, q1, q2⟩ := group_Q_spec h
  obtain ⟨o, o1, o2⟩ := nat_Of_spec (n := 1) (by decide)
  have o2' : IsN o 1 := o2
  obtain ⟨z, z1, z2⟩ := mont_Exp_spec hr ha q2
  by_cases h0 : x = 0
  · simp (disch := omega) only [wrap_i64n, wrapun, dec_t, dec_f, inb_t, cond_true, cond_false, Int.toNat_natCast, beq_t, beq_f, bne_t, bne_f, Bool.not_true, Bool.not_false, Int.reduceToNat, ft_b, tf_b, tt_b, ff_b, decide_true, decide_false, ha.isZero, h0, ne_eq, not_true_eq_false, false_and]
  · by_cases h1 : x < P
    · simp (disch := omega) only [wrap_i64n, wrapun, dec_t, dec_f, inb_t, cond_true, cond_false, Int.toNat_natCast, beq_t, beq_f, bne_t, bne_f, Bool.not_true, Bool.not_false, Int.reduceToNat, ft_b, tf_b, tt_b, ff_b, decide_true, decide_false, ha.isZero, r1, mont_In_spec hr ha, q1, z1, o1, z2.eqb o2', h0, h1, ne_eq, not_false_eq_true, true_and]
    · simp (disch := omega) only [wrap_i64n, wrapun, dec_t, dec_f, inb_t, cond_true, cond_false, Int.toNat_natCast, beq_t, beq_f, bne_t, bne_f, Bool.not_true, Bool.not_false, Int.reduceToNat, ft_b, tf_b, tt_b, ff_b, decide_true, decide_false, ha.isZero, r1, mont_In_spec hr ha, h1, false_and, and_false]
theorem power_product_spec (h : IsGroup g P Q G) {n : Nat} (hn : n ≤ 9223372036854775807) {l : Nat → Nat → Int} {A : Nat → Nat} (hl : ∀ i, i < n → IsN (l i) (A i)) : ∃ z, power_product (some g) n l = some z ∧ IsN z (prodN A n % P) := by
  rw [power_product_eq]; unfold power_product'
  obtain ⟨o, o1, o2⟩ := nat_Of_spec (n := 1) (by decide)
  have o2' : IsN o 1 := o2
  obtain ⟨r, r1, hr⟩ := group_Ring_spec h
  simp only [o1]
  generalize ho : loopF R_power_product_0 _ = oo
  obtain ⟨z, hy, hQ⟩ := loop_for (R := R_power_product_0) (fun i (z : Nat → Int) => T_power_product_0 g n l (n : Int) (i : Int) (fun _ => 0) z) (fun z => Y_power_product_0_0 (fun _ => 0) z)
    (fun i z => IsN z (prodN A i % P)) n
    (fun i hi z hP => by
      obtain ⟨u, u1, u2⟩ := mont_Mul_spec hr hP (hl i hi)
      refine ⟨u, ?_, u2.of_eq (by rw [Nat.mod_mul_mod]; rfl)⟩
      unfold R_power_product_0
      simp (disch := omega) only [add_c, add_l, l_add, mul_c, mul_l, l_mul, sub_c, sub_l, l_sub, div_c, div_l, mod_c, mod_l, tdiv_c, tdiv_l, tmod_c, tmod_l, wrap_i64n, wrapun, dec_t, dec_f, inb_t, cond_true, cond_false, Int.toNat_natCast, beq_t, beq_f, bne_t, bne_f, Bool.not_true, Bool.not_false, Int.reduceToNat, ft_b, tf_b, tt_b, ff_b, decide_true, decide_false, r1, u1])
    (fun z hP => by
      unfold R_power_product_0
      simp (disch := omega) only [wrap_i64n, wrapun, dec_t, dec_f, inb_t, cond_true, cond_false, Int.toNat_natCast, beq_t, beq_f, bne_t, bne_f, Bool.not_true, Bool.not_false, Int.reduceToNat, ft_b, tf_b, tt_b, ff_b, decide_true, decide_false]) o (o2'.of_eq (Nat.mod_eq_of_lt h.pp.1).symm)
  obtain rfl := ho.symm.trans hy
  exact ⟨z, rfl, hQ⟩
theorem power_Mul_spec (h : IsGroup g P Q G) (ha : IsN a x) (hb : IsN b y) : ∃ z, power_Mul (some g) a b = some z ∧ IsN z (x * y % P) := by
  rw [power_Mul_eq]; unfold power_Mul'
  obtain ⟨z, z1, z2⟩ := power_product_spec h (n := 2) (by decide) (l := fun j => upd (upd (fun _ => fun _ => 0) 0 a) 1 b (0 + j)) (A := fun i => if i = 0 then x else y) (fun i hi => by
    rcases (show i = 0 ∨ i = 1 by omega) with rfl | rfl
    · exact ha
    · exact hb)
  simp only [z1]
  exact ⟨z, rfl, z2.of_eq (by simp [prodN])⟩
end
end Go.Pl

set_option linter.unusedVariables false
set_option linter.unusedSimpArgs false
namespace Go.Pl
open Go Go.Den Go.Num

theorem r08_By_spec {a : Nat → Int} {x q : Nat} (ha : IsN a x) (hq : 0 < q) (hq2 : q < 9223372036854775808) : r08_By a (q : Int) = some ((x % q : Nat) : Int) := by
  rw [r08_By_eq]; unfold r08_By'
  obtain ⟨m, m1, m2⟩ := r01_Int_spec (n := (q : Int)) (by omega)
  obtain ⟨r, r1, r2⟩ := r02_Rem_spec0 ha m2 (by omega)
  rw [Int.toNat_natCast] at r2
  have hlt := Nat.mod_lt x hq
  simp only [m1, r1, r01_Low_spec r2, if_pos (show x % q < 9223372036854775808 by omega)]
theorem r08_Add_spec {a b q : Nat} (hq : 0 < q) (ha : a < 4611686018427387904) (hb : b < 4611686018427387904) : r08_Add (a : Int) (b : Int) (q : Int) = some (((a + b) % q : Nat) : Int) := by
  rw [r08_Add_eq]; unfold r08_Add'
  simp (disch := omega) only [add_c, add_l, l_add, mul_c, mul_l, l_mul, sub_c, sub_l, l_sub, div_c, div_l, mod_c, mod_l, tdiv_c, tdiv_l, tmod_c, tmod_l, wrap_i64n, wrapun, dec_t, dec_f, inb_t, cond_true, cond_false, Int.toNat_natCast, beq_t, beq_f, bne_t, bne_f, Bool.not_true, Bool.not_false, Int.reduceToNat, ft_b, tf_b, tt_b, ff_b, decide_true, decide_false]
theorem r08_Sub_spec {a b q : Nat} (hq : 0 < q) (hq2 : q < 4611686018427387904) (ha : a < 4611686018427387904) (hb : b ≤ q) : r08_Sub (a : Int) (b : Int) (q : Int) = some (((a + (q - b)) % q : Nat) : Int) := by
  rw [r08_Sub_eq]; unfold r08_Sub'
  simp (disch := omega) only [add_c, add_l, l_add, mul_c, mul_l, l_mul, sub_c, sub_l, l_sub, div_c, div_l, mod_c, mod_l, tdiv_c, tdiv_l, tmod_c, tmod_l, wrap_i64n, wrapun, dec_t, dec_f, inb_t, cond_true, cond_false, Int.toNat_natCast, beq_t, beq_f, bne_t, bne_f, Bool.not_true, Bool.not_false, Int.reduceToNat, ft_b, tf_b, tt_b, ff_b, decide_true, decide_false]
  rw [show a + q - b = a + (q - b) by omega]
theorem r08_Mul_spec {a b q : Nat} (hq : 0 < q) (hq2 : q < 9223372036854775808) : r08_Mul (a : Int) (b : Int) (q : Int) = some ((a * b % q : Nat) : Int) := by
  rw [r08_Mul_eq]; unfold r08_Mul'
  simp only [r03_Times_spec hq hq2]
theorem r08_Inv_spec {a q : Nat} (hq : 2 ≤ q) (hq2 : q < 9223372036854775808) : r08_Inv (a : Int) (q : Int) = some (((if a = 0 then 0 else a ^ (q - 2) % q : Nat) : Nat) : Int) := by
  rw [r08_Inv_eq]; unfold r08_Inv'
  by_cases h0 : a = 0
  · subst h0
    simp (disch := omega) only [wrap_i64n, wrapun, dec_t, dec_f, inb_t, cond_true, cond_false, Int.toNat_natCast, beq_t, beq_f, bne_t, bne_f, Bool.not_true, Bool.not_false, Int.reduceToNat, ft_b, tf_b, tt_b, ff_b, decide_true, decide_false, if_true]
    rfl
  · obtain ⟨m, m1, m2⟩ := r01_Int_spec (n := ((q - 2 : Nat) : Int)) (by omega)
    have hp := r03_Power_spec (a := a) m2 (show 0 < q by omega) hq2
    rw [Int.toNat_natCast] at hp
    simp (disch := omega) only [add_c, add_l, l_add, mul_c, mul_l, l_mul, sub_c, sub_l, l_sub, div_c, div_l, mod_c, mod_l, tdiv_c, tdiv_l, tmod_c, tmod_l, wrap_i64n, wrapun, dec_t, dec_f, inb_t, cond_true, cond_false, Int.toNat_natCast, beq_t, beq_f, bne_t, bne_f, Bool.not_true, Bool.not_false, Int.reduceToNat, ft_b, tf_b, tt_b, ff_b, decide_true, decide_false, m1, hp, if_neg h0]

theorem r09_Of_spec {k : Nat} {l : Nat → (Nat → Int) × Int} {ga : Nat → Int} {P Q G : Nat} (h : 2 ≤ k) (h2 : k ≤ 9223372036854775807) (hP : IsN (l (k - 1)).1 P) (hQ : IsN (l (k - 2)).1 Q) (hG : IsN ga G) (p63 : P < 9223372036854775808) (q63 : Q < 9223372036854775808) (g63 : G < 9223372036854775808) :
    r09_Of ((k, l), ga) = some ((P : Int), (Q : Int), (G : Int)) := by
  rw [r09_Of_eq]; unfold r09_Of'
  simp only [r07_P_spec h h2, r07_Q_spec h h2, r01_Low_spec hP, r01_Low_spec hQ, r01_Low_spec hG, if_pos p63, if_pos q63, if_pos g63]
section
variable {P Q G : Nat}
theorem r09_Exp_spec {a : Nat} {e : Nat → Int} {E : Nat} (he : IsN e E) (hP : 0 < P) (p63 : P < 9223372036854775808) : r09_Exp ((P : Int), (Q : Int), (G : Int)) (a : Int) e = some ((a ^ E % P : Nat) : Int) := by
  rw [r09_Exp_eq]; unfold r09_Exp'
  simp only [r03_Power_spec he hP p63]
theorem r09_Mul_spec {a b : Nat} (hP : 0 < P) (p63 : P < 9223372036854775808) : r09_Mul ((P : Int), (Q : Int), (G : Int)) (a : Int) (b : Int) = some ((a * b % P : Nat) : Int) := by
  rw [r09_Mul_eq]; unfold r09_Mul'
  simp only [r03_Times_spec hP p63]
theorem r09_In_spec {a : Nat → Int} {x : Nat} (ha : IsN a x) (hP : 0 < P) (p63 : P < 9223372036854775808) (q63 : Q < 9223372036854775808) : r09_In ((P : Int), (Q : Int), (G : Int)) a = some (decide (x ≠ 0 ∧ x < P ∧ x ^ Q % P = 1)) := by
  rw [r09_In_eq]; unfold r09_In'
  obtain ⟨m, m1, m2⟩ := r01_Int_spec (n := (Q : Int)) (by omega)
  rw [Int.toNat_natCast] at m2
  by_cases h63 : x < 9223372036854775808
  · by_cases h0 : x = 0
    · subst h0
      simp (disch := omega) only [wrap_i64n, wrapun, dec_t, dec_f, inb_t, cond_true, cond_false, Int.toNat_natCast, beq_t, beq_f, bne_t, bne_f, Bool.not_true, Bool.not_false, Int.reduceToNat, ft_b, tf_b, tt_b, ff_b, decide_true, decide_false, r01_Low_spec ha, if_pos h63, ne_eq, not_true_eq_false, false_and]
    · by_cases h1 : x < P
      · simp (disch := omega) only [wrap_i64n, wrapun, dec_t, dec_f, inb_t, cond_true, cond_false, Int.toNat_natCast, beq_t, beq_f, bne_t, bne_f, Bool.not_true, Bool.not_false, Int.reduceToNat, ft_b, tf_b, tt_b, ff_b, decide_true, decide_false, r01_Low_spec ha, if_pos h63, m1, r09_Exp_spec m2 hP p63]
        simp only [Option.some.injEq]
        rw [Bool.eq_iff_iff]
        simp only [beq_iff_eq, decide_eq_true_eq, ne_eq, h0, not_false_eq_true, h1, true_and]
        omega
      · simp (disch := omega) only [wrap_i64n, wrapun, dec_t, dec_f, inb_t, cond_true, cond_false, Int.toNat_natCast, beq_t, beq_f, bne_t, bne_f, Bool.not_true, Bool.not_false, Int.reduceToNat, ft_b, tf_b, tt_b, ff_b, decide_true, decide_false, r01_Low_spec ha, if_pos h63, h1, false_and, and_false]
  · simp (disch := omega) only [wrap_i64n, wrapun, dec_t, dec_f, inb_t, cond_true, cond_false, Int.toNat_natCast, beq_t, beq_f, bne_t, bne_f, Bool.not_true, Bool.not_false, Int.reduceToNat, ft_b, tf_b, tt_b, ff_b, decide_true, decide_false, r01_Low_spec ha, if_neg h63, show ¬ x < P by omega, false_and, and_false]
theorem r09_Multi_spec {n : Nat} (hn : n ≤ 9223372036854775807) {bases exps : Nat → (Nat → Int)} {B E : Nat → Nat} (hB : ∀ i, i < n → IsN (bases i) (B i)) (hE : ∀ i, i < n → IsN (exps i) (E i)) (hP : 1 < P) (p63 : P < 9223372036854775808) :
    r09_Multi ((P : Int), (Q : Int), (G : Int)) n bases n exps = some ((prodN (fun i => B i ^ E i) n % P : Nat) : Int) := by
  rw [r09_Multi_eq]; unfold r09_Multi'
  generalize ho : loopF R_r09_Multi_0 _ = o
  obtain ⟨z, hy, hQ⟩ := loop_for (R := R_r09_Multi_0) (fun i (z : Nat) => T_r09_Multi_0 n bases n exps (z : Int) (i : Int) ((P : Int), (Q : Int), (G : Int))) (fun z => Y_r09_Multi_0_0 (z : Int))
    (fun i z => z = prodN (fun i => B i ^ E i) i % P) n
    (fun i hi z hP' => by
      refine ⟨z * ((B i % P) ^ E i % P) % P, ?_, ?_⟩
      · unfold R_r09_Multi_0
        simp (disch := omega) only [add_c, add_l, l_add, mul_c, mul_l, l_mul, sub_c, sub_l, l_sub, div_c, div_l, mod_c, mod_l, tdiv_c, tdiv_l, tmod_c, tmod_l, wrap_i64n, wrapun, dec_t, dec_f, inb_t, cond_true, cond_false, Int.toNat_natCast, beq_t, beq_f, bne_t, bne_f, Bool.not_true, Bool.not_false, Int.reduceToNat, ft_b, tf_b, tt_b, ff_b, decide_true, decide_false, r08_By_spec (hB i hi) (show 0 < P by omega) p63, r09_Exp_spec (hE i hi) (show 0 < P by omega) p63, r09_Mul_spec (show 0 < P by omega) p63]
      · rw [hP', ← Nat.pow_mod, ← Nat.mul_mod]; rfl)
    (fun z hP' => by
      unfold R_r09_Multi_0
      simp (disch := omega) only [wrap_i64n, wrapun, dec_t, dec_f, inb_t, cond_true, cond_false, Int.toNat_natCast, beq_t, beq_f, bne_t, bne_f, Bool.not_true, Bool.not_false, Int.reduceToNat, ft_b, tf_b, tt_b, ff_b, decide_true, decide_false]) 1 (Nat.mod_eq_of_lt hP).symm
  obtain rfl := ho.symm.trans hy
  rw [hQ]
end
end Go.Pl

set_option linter.unusedVariables false
set_option linter.unusedSimpArgs false
namespace Go.Pl
open Go Go.Den Go.Num

/-- a group that is handed on: its parameters, and the group that is made of them -/
structure IsPick (k : Nat) (l : ChainT) (ga : Nat → Int) (g : GroupT) (P Q G : Nat) : Prop where
  made : group_New ((k, l), ga) = some (some g, 0)
  group : IsGroup g P Q G
  k2 : 2 ≤ k
  k8 : k ≤ 8
  p : IsN (l (k - 1)).1 P
  q : IsN (l (k - 2)).1 Q
  gen : IsN ga G
  gen2 : g.2 = ga
theorem IsPick.rP {k : Nat} {l : ChainT} {ga : Nat → Int} {g : GroupT} {P Q G : Nat} (h : IsPick k l ga g P Q G) : r07_P ((k, l), ga) = some (l (k - 1)).1 := r07_P_spec h.k2 (by have := h.k8; omega)
theorem IsPick.rQ {k : Nat} {l : ChainT} {ga : Nat → Int} {g : GroupT} {P Q G : Nat} (h : IsPick k l ga g P Q G) : r07_Q ((k, l), ga) = some (l (k - 2)).1 := r07_Q_spec h.k2 (by have := h.k8; omega)
theorem least_pick : ∃ g, IsPick 3 leastL leastG g 1055500680322183127 1966023127 316543771439780984 := by
  obtain ⟨g, g1, g2, g3⟩ := least_new
  exact ⟨g, g1, g2, by decide, by decide, leastL_n 2 (by decide), leastL_n 1 (by decide), leastG_n, g3⟩
theorem other_pick : ∃ g, IsPick 3 otherL otherG g 487269091447081429 1815135269 54624333139524128 := by
  obtain ⟨g, g1, g2, g3⟩ := other_new
  exact ⟨g, g1, g2, by decide, by decide, otherL_n 2 (by decide), otherL_n 1 (by decide), otherG_n, g3⟩
theorem great_pick : ∃ g P Q G, IsPick 5 greatL greatG g P Q G := by
  obtain ⟨g, g1, g2, g3⟩ := great_new
  exact ⟨g, _, _, _, g1, g2, by decide, by decide, greatL_n 4 (by decide), greatL_n 3 (by decide), greatG_n, g3⟩
/-- one of the two small ones -/
theorem r07_Pick_spec (which : Int) : ∃ k l ga g P Q G, r07_Pick which = some ((k, l), ga) ∧ IsPick k l ga g P Q G ∧ P < 4611686018427387904 ∧ Q < 2147483648 := by
  rw [r07_Pick_eq]; unfold r07_Pick'
  have hm : bitsOp .and .i64 which 1 = which % (2 ^ 1 : Nat) := andMask (k := 1) (by decide)
  by_cases h : which % 2 = 1
  · have h1 : bitsOp .and .i64 which 1 = 1 := by rw [hm]; exact h
    simp (disch := omega) only [wrap_i64n, wrapun, dec_t, dec_f, inb_t, cond_true, cond_false, Int.toNat_natCast, beq_t, beq_f, bne_t, bne_f, Bool.not_true, Bool.not_false, Int.reduceToNat, ft_b, tf_b, tt_b, ff_b, decide_true, decide_false, h1, r07_Other_eq2]
    obtain ⟨g, hg⟩ := other_pick
    exact ⟨3, otherL, otherG, g, _, _, _, rfl, hg, by decide, by decide⟩
  · have h1 : bitsOp .and .i64 which 1 = 0 := by rw [hm]; omega
    simp (disch := omega) only [wrap_i64n, wrapun, dec_t, dec_f, inb_t, cond_true, cond_false, Int.toNat_natCast, beq_t, beq_f, bne_t, bne_f, Bool.not_true, Bool.not_false, Int.reduceToNat, ft_b, tf_b, tt_b, ff_b, decide_true, decide_false, h1, r07_Least_eq2]
    obtain ⟨g, hg⟩ := least_pick
    exact ⟨3, leastL, leastG, g, _, _, _, rfl, hg, by decide, by decide⟩
abbrev ParT : Ty := .pair (.sl (.pair (.arr 4 (.int .u64)) (.int .i64))) (.arr 4 (.int .u64))
theorem three_idx (which : Int) : ∃ i : Nat, i < 3 ∧ Int.tmod (bitsOp .and .i64 which 255) 3 = (i : Int) := by
  have hm : bitsOp .and .i64 which 255 = which % (2 ^ 8 : Nat) := andMask (k := 8) (by decide)
  have h1 := Int.emod_nonneg which (show ((2 ^ 8 : Nat) : Int) ≠ 0 by decide)
  refine ⟨((which % (2 ^ 8 : Nat)).toNat % 3), by omega, ?_⟩
  rw [hm, tmod_nn h1]
  omega
/-- one of the three -/
theorem three_spec {i : Nat} (hi : i < 3) : ∃ k l ga g P Q G, takeArgs false (fun _ => none) [ParT] [.v ⟨ParT, (upd (upd (upd (fun _ => (.nil, fun _ => 0)) 0 ((.fz 3 leastL), leastG)) 1 ((.fz 3 otherL), otherG)) 2 ((.fz 5 greatL), greatG)) (0 + i)⟩] = some (((k, l), ga), ()) ∧ IsPick k l ga g P Q G := by
  match i, hi with
  | 0, _ =>
    obtain ⟨g, hg⟩ := least_pick
    exact ⟨3, leastL, leastG, g, _, _, _, rfl, hg⟩
  | 1, _ =>
    obtain ⟨g, hg⟩ := other_pick
    exact ⟨3, otherL, otherG, g, _, _, _, rfl, hg⟩
  | 2, _ =>
    obtain ⟨g, P, Q, G, hg⟩ := great_pick
    exact ⟨5, greatL, greatG, g, P, Q, G, rfl, hg⟩

end Go.Pl

set_option linter.unusedVariables false
set_option linter.unusedSimpArgs false
namespace Go.Pl
open Go Go.Den Go.Num

/-- no group: none at all, or one with no rings -/
def NoGroup (g : Option GroupT) : Prop := g = none ∨ ∃ a, g = some ((.nil, .nil), a)
theorem NoGroup.Ring {g : Option GroupT} (h : NoGroup g) : group_Group_Ring g = some none := by
  rw [group_Group_Ring_eq]; unfold group_Group_Ring'
  rcases h with rfl | ⟨a, rfl⟩ <;> rfl
theorem NoGroup.Field {g : Option GroupT} (h : NoGroup g) : group_Group_Field g = some none := by
  rw [group_Group_Field_eq]; unfold group_Group_Field'
  rcases h with rfl | ⟨a, rfl⟩ <;> rfl
theorem noRing_none : NoRing none := .inl rfl
theorem NoGroup.P {g : Option GroupT} (h : NoGroup g) : group_Group_P g = some fun _ => 0 := by
  rw [group_Group_P_eq]; unfold group_Group_P'
  rcases g with _ | g <;> simp only [h.Ring, noRing_none.M]
theorem NoGroup.Q {g : Option GroupT} (h : NoGroup g) : group_Group_Q g = some fun _ => 0 := by
  rw [group_Group_Q_eq]; unfold group_Group_Q'
  rcases g with _ | g <;> simp only [h.Field, noRing_none.M]
theorem NoGroup.fMul {g : Option GroupT} (h : NoGroup g) (a b : Nat → Int) : field_Mul g a b = some fun _ => 0 := by
  rw [field_Mul_eq]; unfold field_Mul'
  rcases g with _ | g <;> simp only [h.Field, noRing_none.Mul]
theorem NoGroup.fIn {g : Option GroupT} (h : NoGroup g) (a : Nat → Int) : field_In g a = some false := by
  rw [field_In_eq]; unfold field_In'
  rcases g with _ | g <;> simp only [h.Field, noRing_none.In]
theorem NoGroup.fAdd {g : Option GroupT} (h : NoGroup g) {a b : Nat → Int} {x y : Nat} (ha : IsN a x) (hb : IsN b y) : field_Add g a b = some fun _ => 0 := by
  rw [field_Add_eq]; unfold field_Add'
  rcases g with _ | g <;> simp only [h.Q, wide_AddMod_zero ha hb IsN.zero]
theorem NoGroup.fSub {g : Option GroupT} (h : NoGroup g) (a b : Nat → Int) : field_Sub g a b = some fun _ => 0 := by
  rw [field_Sub_eq]; unfold field_Sub'
  rcases g with _ | g <;> simp only [h.Q, wide_SubMod_zero IsN.zero]
theorem NoGroup.fInv {g : Option GroupT} (h : NoGroup g) {a : Nat → Int} {x : Nat} (ha : IsN a x) : field_Inv g a = some fun _ => 0 := by
  rw [field_Inv_eq]; unfold field_Inv'
  rcases g with _ | g <;> simp only [h.Q, (wide_InvMod_spec ha IsN.zero).1 (by decide), show ((1 : Int) != 0) = true from rfl, cond_true]
theorem NoGroup.Dot {g : Option GroupT} (h : NoGroup g) (n k : Nat) (a b : Nat → Nat → Int) : field_Dot g n a k b = some ((fun _ => 0), 1) := by
  rw [field_Dot_eq]; unfold field_Dot'
  rcases g with _ | g <;> simp only [h.Field]
end Go.Pl
