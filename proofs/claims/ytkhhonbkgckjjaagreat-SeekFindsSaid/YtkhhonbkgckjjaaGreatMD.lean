/-
  Primes, groups, the field.
-/
import Derived.Test.YtkhhonbkgckjjaaGreatMA
import Derived.Test.YtkhhonbkgckjjaaGreatMC
import Derived.Test.YtkhhonbkgckjjaaGreatPlA
set_option linter.unusedVariables false
namespace Go.Num
section
variable {q : Nat} [NeZero q]
def sumF (f : Nat → Fin q) : Nat → Fin q
  | 0 => 0
  | n + 1 => sumF f n + f n
def pw (x : Fin q) : Nat → Fin q
  | 0 => 1
  | n + 1 => pw x n * x
def ev (f : Nat → Fin q) (n : Nat) (x : Fin q) : Fin q := sumF (fun i => f i * pw x i) n
def conv (f g : Nat → Fin q) (k : Nat) : Fin q := sumF (fun i => f i * g (k - i)) (k + 1)
def quo (f : Nat → Fin q) (x : Fin q) : Nat → Nat → Fin q
  | 0, _ => 0
  | n + 1, i => quo f x n i + (if i < n then f n * pw x (n - 1 - i) else 0)
end
end Go.Num

namespace Go.Num
section
variable {q : Nat} [NeZero q]
end
end Go.Num

set_option linter.unusedSimpArgs false
namespace Go.Pl
open Go Go.Den Go.Num
theorem prime_iff_tried {n : Nat} (hn : 2 ≤ n) : Pr n ↔ ∀ d, 2 ≤ d → d * d ≤ n → n % d ≠ 0 := by
  constructor
  · intro h d h2 hd
    refine h.tried d h2 ?_
    have : 2 * d ≤ d * d := Nat.mul_le_mul_right _ h2
    omega
  · exact prime_of_tried hn
theorem prime_Small_spec (n : Int) : ∃ b, prime_Small n = some b ∧ (b = true ↔ 2 ≤ n ∧ n < 65536 ∧ Pr n.toNat) := by
  rw [prime_Small_eq]; unfold prime_Small'
  by_cases h2 : n < 2
  · refine ⟨false, ?_, by simp; omega⟩
    simp (disch := omega) only [WW]
  · by_cases h3 : 65536 ≤ n
    · refine ⟨false, ?_, by simp; omega⟩
      simp (disch := omega) only [WW]
    · simp (disch := omega) only [WW]
      obtain ⟨N, rfl⟩ : ∃ N : Nat, n = (N : Int) := ⟨n.toNat, by omega⟩
      generalize ho : loopF R_prime_Small_0 _ = o
      have hN2 : 2 ≤ N := by omega
      have goal : ∃ y, loopF R_prime_Small_0 (T_prime_Small_0 (N : Int) true (N : Int) ((0 : Nat) : Int)) = some y ∧ ∃ b, y = Y_prime_Small_0_0 b ∧ (b = true ↔ Pr N) :=
        loop_seek (R := R_prime_Small_0) (S := Unit) (fun d _ => T_prime_Small_0 (N : Int) true (N : Int) (d : Int)) (fun d _ => ∀ k, 2 ≤ k → k < d → N % k ≠ 0)
          (fun y => ∃ b, y = Y_prime_Small_0_0 b ∧ (b = true ↔ Pr N)) N
          (fun d hd _ hP => by
            by_cases c2 : d < 2
            · left
              refine ⟨(), ?_, fun k h1 h2 => by omega⟩
              unfold R_prime_Small_0
              simp (disch := omega) only [CC, WW]
            · have hdd : d * d < 65536 * 65536 := Nat.mul_lt_mul'' (by omega) (by omega)
              by_cases c3 : N < d * d
              · right
                have hp : Pr N := (prime_iff_tried hN2).2 fun k h1 h2 => hP k h1 (by
                  apply Classical.byContradiction
                  intro hc
                  have : d * d ≤ k * k := Nat.mul_le_mul (by omega) (by omega)
                  omega)
                refine ⟨_, ?_, true, rfl, by simp only [hp]⟩
                unfold R_prime_Small_0
                simp (disch := omega) only [CC, WW]
              · by_cases c4 : N % d = 0
                · right
                  refine ⟨_, ?_, false, rfl, ?_⟩
                  · unfold R_prime_Small_0
                    simp (disch := omega) only [CC, WW, c4]
                  · simp only [Bool.false_eq_true, false_iff]
                    exact fun hp => hp.tried d (by omega) hd c4
                · left
                  refine ⟨(), ?_, fun k h1 h2 => ?_⟩
                  · unfold R_prime_Small_0
                    generalize hm : N % d = m at c4
                    simp (disch := omega) only [CC, WW, hm]
                  · by_cases e : k = d
                    · subst e; exact c4
                    · exact hP k h1 (by omega))
          (fun _ hP => by
            have hp : Pr N := (prime_iff_tried hN2).2 fun k h1 h2 => hP k h1 (by
              have : 2 * k ≤ k * k := Nat.mul_le_mul_right _ h1
              omega)
            refine ⟨_, ?_, true, rfl, by simp only [hp]⟩
            unfold R_prime_Small_0
            simp (disch := omega) only [CC, WW]) () (fun k h1 h2 => by omega)
      obtain ⟨y, hy, b, rfl, hb⟩ := goal
      obtain rfl := ho.symm.trans hy
      exact ⟨b, rfl, by rw [hb, Int.toNat_natCast]; exact ⟨fun h => ⟨by omega, by omega, h⟩, fun h => h.2.2⟩⟩
theorem r04_Plain_spec (n : Int) : ∃ b, r04_Plain n = some b ∧ (b = true ↔ 2 ≤ n ∧ n ≤ 4294967296 ∧ Pr n.toNat) := by
  rw [r04_Plain_eq]; unfold r04_Plain'
  by_cases h2 : n < 2
  · refine ⟨false, ?_, by simp; omega⟩
    simp (disch := omega) only [WW]
  · by_cases h3 : 4294967296 < n
    · refine ⟨false, ?_, by simp; omega⟩
      simp (disch := omega) only [WW]
    · simp (disch := omega) only [WW]
      obtain ⟨N, rfl⟩ : ∃ N : Nat, n = (N : Int) := ⟨n.toNat, by omega⟩
      generalize ho : loopF R_r04_Plain_0 _ = o
      have hN2 : 2 ≤ N := by omega
      have goal : ∃ y, loopF R_r04_Plain_0 (T_r04_Plain_0 (N : Int) ((2 + 0 : Nat) : Int)) = some y ∧ ((y = Y_r04_Plain_0_0 false ∧ ¬ Pr N) ∨ (y = Y_r04_Plain_0_1 ∧ Pr N)) :=
        loop_seek (R := R_r04_Plain_0) (S := Unit) (fun d _ => T_r04_Plain_0 (N : Int) ((2 + d : Nat) : Int)) (fun d _ => ∀ k, 2 ≤ k → k < 2 + d → N % k ≠ 0)
          (fun y => (y = Y_r04_Plain_0_0 false ∧ ¬ Pr N) ∨ (y = Y_r04_Plain_0_1 ∧ Pr N)) 65534
          (fun d hd _ hP => by
            have hdd : (2 + d) * (2 + d) < 65536 * 65536 := Nat.mul_lt_mul'' (by omega) (by omega)
            by_cases c3 : N < (2 + d) * (2 + d)
            · right
              refine ⟨_, ?_, .inr ⟨rfl, (prime_iff_tried hN2).2 fun k h1 h2 => hP k h1 ?_⟩⟩
              · unfold R_r04_Plain_0
                simp (disch := omega) only [CC, WW]
              · apply Classical.byContradiction
                intro hc
                have : (2 + d) * (2 + d) ≤ k * k := Nat.mul_le_mul (by omega) (by omega)
                omega
            · have hle : 2 * (2 + d) ≤ (2 + d) * (2 + d) := Nat.mul_le_mul_right _ (by omega)
              by_cases c4 : N % (2 + d) = 0
              · right
                refine ⟨_, ?_, .inl ⟨rfl, fun hp => hp.tried (2 + d) (by omega) (by omega) c4⟩⟩
                unfold R_r04_Plain_0
                simp (disch := omega) only [CC, WW, c4]
              · left
                refine ⟨(), ?_, fun k h1 h2 => ?_⟩
                · unfold R_r04_Plain_0
                  generalize hm : N % (2 + d) = m at c4
                  simp (disch := omega) only [CC, WW, hm, Nat.add_assoc]
                · by_cases e : k = 2 + d
                  · subst e; exact c4
                  · exact hP k h1 (by omega))
          (fun _ hP => by
            refine ⟨_, ?_, .inr ⟨rfl, (prime_iff_tried hN2).2 fun k h1 h2 => hP k h1 ?_⟩⟩
            · unfold R_r04_Plain_0
              simp (disch := omega) only [CC, WW]
            · apply Classical.byContradiction
              intro hc
              have : 65536 * 65536 ≤ k * k := Nat.mul_le_mul (by omega) (by omega)
              have hN : N = 4294967296 := by omega
              exact hP 2 (by omega) (by omega) (by rw [hN])) () (fun k h1 h2 => by omega)
      obtain ⟨y, hy, hb⟩ := goal
      obtain rfl := ho.symm.trans hy
      rcases hb with ⟨rfl, hb⟩ | ⟨rfl, hb⟩
      · exact ⟨false, rfl, by simp [hb]⟩
      · exact ⟨true, rfl, by simp [hb]; omega⟩
theorem r04_Small_spec (n : Int) : ∃ b, r04_Small n = some b ∧ (b = true ↔ 2 ≤ n ∧ n < 65536 ∧ Pr n.toNat) := by
  rw [r04_Small_eq]; unfold r04_Small'
  obtain ⟨b, h1, h2⟩ := r04_Plain_spec n
  by_cases h : n < 65536
  · simp (disch := omega) only [WW, h1]
    refine ⟨b, rfl, ?_⟩
    rw [h2]
    constructor
    · rintro ⟨h3, h4, h5⟩; exact ⟨h3, h, h5⟩
    · rintro ⟨h3, h4, h5⟩; exact ⟨h3, by omega, h5⟩
  · simp (disch := omega) only [WW]
    exact ⟨false, rfl, by simp; omega⟩
def StepP (n f : Nat) (w : Int) : Prop := n % 2 = 1 ∧ n ≠ 1 ∧ 2 ≤ w ∧ w < 65536 ∧ f ≠ 0 ∧ (n - 1) % f = 0 ∧ n < f * f ∧ (w.toNat ^ ((n - 1) / f) % n) ^ f % n = 1 ∧ Nat.gcd (w.toNat ^ ((n - 1) / f) % n + (n - 1)) n = 1
instance (n f : Nat) (w : Int) : Decidable (StepP n f w) := by unfold StepP; exact inferInstance
theorem gcd_mod_left (x n : Nat) : Nat.gcd (x % n) n = Nat.gcd x n := by
  rw [Nat.gcd_comm x n, Nat.gcd_rec n x]
theorem square_over {lo hi : Nat → Int} {n : Nat → Int} {N F : Nat} (h1 : IsN lo (F * F % 2 ^ 256)) (h2 : IsN hi (F * F / 2 ^ 256)) (hn : IsN n N) :
    (F * F / 2 ^ 256 = 0 → (N < F * F ↔ ¬ cmpI (F * F % 2 ^ 256) N ≤ 0)) ∧ (F * F / 2 ^ 256 ≠ 0 → N < F * F) := by
  have hN := hn.1
  constructor
  · intro h
    have : F * F < 2 ^ 256 := by
      rcases Nat.div_eq_zero_iff.1 h with h | h
      · exact absurd h (by decide)
      · exact h
    rw [Nat.mod_eq_of_lt this]
    unfold cmpI
    generalize F * F = Q at *
    by_cases c1 : Q < N
    · rw [if_pos c1]; constructor
      · intro h; omega
      · intro h; exact absurd (by decide) h
    · rw [if_neg c1]
      by_cases c2 : N < Q
      · rw [if_pos c2]; simp [c2]
      · rw [if_neg c2]; simp [c2]
  · intro h
    generalize F * F = Q at *
    apply Classical.byContradiction
    intro hc
    exact h (Nat.div_eq_of_lt (by omega))
theorem prime_Step_spec {n f : Nat → Int} {N F : Nat} (hn : IsN n N) (hf : IsN f F) (w : Int) : prime_Step n f w = some (decide (StepP N F w)) := by
  rw [prime_Step_eq]; unfold prime_Step'
  have no : ¬ StepP N F w → some false = some (decide (StepP N F w)) := fun h => by rw [decide_eq_false h]
  by_cases h1 : N % 2 = 1 ∧ N ≠ 1
  · obtain ⟨r, r1, hr, _⟩ := (mont_New_spec hn).2 h1.1 h1.2
    have hN1 := hr.one
    by_cases h2 : w < 2
    · simp (disch := omega) only [WW, r1]
      exact no (fun h => by have := h.2.2.1; omega)
    · by_cases h3 : 65536 ≤ w
      · simp (disch := omega) only [WW, r1]
        exact no (fun h => by have := h.2.2.2.1; omega)
      · by_cases h4 : F = 0
        · simp (disch := omega) only [WW, r1, hf.isZero]
          exact no (fun h => h.2.2.2.2.1 h4)
        · obtain ⟨o, o1, o2⟩ := nat_Of_spec (n := 1) (by decide)
          have o2' : IsN o 1 := o2
          obtain ⟨l, l1, l2⟩ := nat_Sub_spec hn o2'
          have hNl := hn.1
          have l3 : IsN l (N - 1) := l2.of_eq (by omega)
          obtain ⟨k, q, d1, d2, d3⟩ := wide_Div_spec l3 hf (by omega)
          obtain ⟨lo, hi, m1, m2, m3⟩ := wide_Mul_spec hf hf
          have sq := square_over m2 m3 hn
          by_cases h5 : (N - 1) % F = 0
          · obtain ⟨W, hW1, hW2⟩ := nat_Of_spec (n := w) (by omega)
            obtain ⟨p, p1, p2⟩ := mont_Exp_spec hr hW2 d2
            obtain ⟨e, e1, e2⟩ := mont_Exp_spec hr p2 hf
            obtain ⟨s, s1, s2⟩ := wide_SubMod_spec p2 o2' hn hr.pos
            obtain ⟨g, g1, g2⟩ := wide_Gcd_spec s2 hn
            rw [Nat.mod_eq_of_lt hN1, gcd_mod_left] at g2
            by_cases h6 : N < F * F
            · by_cases h7 : (w.toNat ^ ((N - 1) / F) % N) ^ F % N = 1
              · have hfin : decide (Nat.gcd (w.toNat ^ ((N - 1) / F) % N + (N - 1)) N = 1) = decide (StepP N F w) := by
                  rw [decide_eq_decide]
                  exact ⟨fun h => ⟨h1.1, h1.2, by omega, by omega, h4, h5, h6, h7, h⟩, fun h => h.2.2.2.2.2.2.2.2⟩
                by_cases h8 : F * F / 2 ^ 256 = 0
                · have h9 := (sq.1 h8).1 h6
                  simp (disch := first | omega | assumption) only [WW, r1, hf.isZero, o1, l1, d1, m1, d3.isZero, m3.isZero, nat_Cmp_spec m2 hn, dec_f h9, hW1, p1, e1, e2.eqb o2', s1, g1, g2.eqb o2', hfin]
                · simp (disch := first | omega | assumption) only [WW, r1, hf.isZero, o1, l1, d1, m1, d3.isZero, m3.isZero, hW1, p1, e1, e2.eqb o2', s1, g1, g2.eqb o2', hfin]
              · have hno := no (fun h => h7 h.2.2.2.2.2.2.2.1)
                by_cases h8 : F * F / 2 ^ 256 = 0
                · have h9 := (sq.1 h8).1 h6
                  simp (disch := first | omega | assumption) only [WW, r1, hf.isZero, o1, l1, d1, m1, d3.isZero, m3.isZero, nat_Cmp_spec m2 hn, dec_f h9, hW1, p1, e1, e2.eqb o2']
                  exact hno
                · simp (disch := first | omega | assumption) only [WW, r1, hf.isZero, o1, l1, d1, m1, d3.isZero, m3.isZero, hW1, p1, e1, e2.eqb o2']
                  exact hno
            · have h8 : F * F / 2 ^ 256 = 0 := Classical.byContradiction fun h => h6 (sq.2 h)
              have h9 : cmpI (F * F % 2 ^ 256) N ≤ 0 := Classical.byContradiction fun h => h6 ((sq.1 h8).2 h)
              simp (disch := first | omega | assumption) only [WW, r1, hf.isZero, o1, l1, d1, m1, d3.isZero, m3.isZero, nat_Cmp_spec m2 hn, dec_t h9]
              exact no (fun h => h6 h.2.2.2.2.2.2.1)
          · simp (disch := first | omega | assumption) only [WW, r1, hf.isZero, o1, l1, d1, m1, d3.isZero]
            exact no (fun h => h5 h.2.2.2.2.2.1)
  · have r1 := (mont_New_spec hn).1 (by omega)
    simp (disch := omega) only [WW, r1]
    exact no (fun h => h1 ⟨h.1, h.2.1⟩)
end Go.Pl

namespace Go.Pl
open Go Go.Den Go.Num
def ChainP (k : Nat) (N : Nat → Nat) (A : Nat → Int) : Prop := 1 ≤ k ∧ k ≤ 8 ∧ 2 ≤ N 0 ∧ N 0 < 65536 ∧ Pr (N 0) ∧ A 0 = 0 ∧ ∀ i, i + 1 < k → StepP (N (i + 1)) (N i) (A (i + 1))
theorem StepP.prime {n f : Nat} {w : Int} (h : StepP n f w) (hf : Pr f) : Pr n := by
  obtain ⟨h1, h2, h3, h4, h5, h6, h7, h8, h9⟩ := h
  refine pocklington (f := f) (k := (n - 1) / f) (a := w.toNat) (by omega) hf ?_ h7 h8 ?_
  · have := Nat.div_add_mod (n - 1) f
    rw [h6] at this
    rw [Nat.mul_comm]; exact this
  · rw [← Nat.add_sub_assoc (by omega)] at h9; exact h9
theorem ChainP.prime {k : Nat} {N : Nat → Nat} {A : Nat → Int} (h : ChainP k N A) : ∀ i, i < k → Pr (N i) := by
  intro i
  induction i with
  | zero => intro _; exact h.2.2.2.2.1
  | succ i ih => intro hi; exact (h.2.2.2.2.2.2 i hi).prime (ih (by omega))
theorem prime_Check_spec {k : Nat} {l : Nat → (Nat → Int) × Int} {N : Nat → Nat} (hl : ∀ i, i < k → IsN (l i).1 (N i)) :
    (ChainP k N (fun i => (l i).2) → prime_Check k l = some 0) ∧ (¬ ChainP k N (fun i => (l i).2) → prime_Check k l = some 4) := by
  suffices h : ∃ b : Bool, prime_Check k l = some (if b then 0 else 4) ∧ (b = true ↔ ChainP k N (fun i => (l i).2)) by
    obtain ⟨b, h1, h2⟩ := h
    rw [h1]
    constructor
    · intro h; rw [h2.2 h]; rfl
    · intro h
      cases b
      · rfl
      · exact absurd (h2.1 rfl) h
  rw [prime_Check_eq]; unfold prime_Check'
  by_cases h1 : k < 1
  · refine ⟨false, ?_, by simp only [Bool.false_eq_true, false_iff]; exact fun h => by have := h.1; omega⟩
    simp (disch := omega) only [WW]; rfl
  · by_cases h2 : 8 < k
    · refine ⟨false, ?_, by simp only [Bool.false_eq_true, false_iff]; exact fun h => by have := h.2.1; omega⟩
      simp (disch := omega) only [WW]; rfl
    · have h0 := hl 0 (by omega)
      by_cases h3 : N 0 < 9223372036854775808
      · obtain ⟨b, hb1, hb2⟩ := prime_Small_spec ((N 0 : Nat) : Int)
        rw [Int.toNat_natCast] at hb2
        cases b with
        | false =>
          refine ⟨false, ?_, by simp only [Bool.false_eq_true, false_iff]; exact fun h => absurd (hb2.2 ⟨by have := h.2.2.1; omega, by have := h.2.2.2.1; omega, h.2.2.2.2.1⟩) (by decide)⟩
          simp (disch := omega) only [WW, nat_Int_spec h0, if_pos h3, hb1]; rfl
        | true =>
          have hb3 := hb2.1 rfl
          by_cases h4 : (l 0).2 = 0
          · simp (disch := omega) only [WW, nat_Int_spec h0, if_pos h3, hb1]
            generalize ho : loopF R_prime_Check_0 _ = o
            have L : ∃ y, loopF R_prime_Check_0 (T_prime_Check_0 k l ((1 + 0 : Nat) : Int)) = some y ∧ ((y = Y_prime_Check_0_0 4 ∧ ¬ ChainP k N (fun i => (l i).2)) ∨ (y = Y_prime_Check_0_1 ∧ ChainP k N (fun i => (l i).2))) :=
              loop_seek (R := R_prime_Check_0) (S := Unit) (fun i _ => T_prime_Check_0 k l ((1 + i : Nat) : Int)) (fun i _ => ∀ j, j < i → StepP (N (j + 1)) (N j) ((l (j + 1)).2))
                (fun y => (y = Y_prime_Check_0_0 4 ∧ ¬ ChainP k N (fun i => (l i).2)) ∨ (y = Y_prime_Check_0_1 ∧ ChainP k N (fun i => (l i).2))) (k - 1)
                (fun i hi _ hP => by
                  have hs := prime_Step_spec (hl (1 + i) (by omega)) (hl i (by omega)) (l (1 + i)).2
                  by_cases hst : StepP (N (1 + i)) (N i) (l (1 + i)).2
                  · left
                    refine ⟨(), ?_, fun j hj => ?_⟩
                    · unfold R_prime_Check_0
                      simp (disch := first | omega | assumption) only [CC, WW, Nat.add_sub_cancel_left, hs, Nat.add_assoc]
                    · by_cases e : j = i
                      · subst e; rw [Nat.add_comm j 1]; exact hst
                      · exact hP j (by omega)
                  · right
                    refine ⟨_, ?_, .inl ⟨rfl, fun h => hst ?_⟩⟩
                    · unfold R_prime_Check_0
                      simp (disch := first | omega | assumption) only [CC, WW, Nat.add_sub_cancel_left, hs]
                    · have := h.2.2.2.2.2.2 i (by omega)
                      rw [Nat.add_comm 1 i]; exact this)
                (fun _ hP => by
                  refine ⟨_, ?_, .inr ⟨rfl, by omega, by omega, by omega, by omega, hb3.2.2, h4, fun i hi => hP i (by omega)⟩⟩
                  unfold R_prime_Check_0
                  simp (disch := omega) only [CC, WW]) () (fun j hj => by omega)
            obtain ⟨y, hy, hQ⟩ := L
            obtain rfl := ho.symm.trans hy
            rcases hQ with ⟨rfl, hQ⟩ | ⟨rfl, hQ⟩
            · exact ⟨false, rfl, by simp [hQ]⟩
            · exact ⟨true, rfl, by simp [hQ]⟩
          · refine ⟨false, ?_, by simp only [Bool.false_eq_true, false_iff]; exact fun h => h4 h.2.2.2.2.2.1⟩
            simp (disch := omega) only [WW, nat_Int_spec h0, if_pos h3, hb1]; rfl
      · refine ⟨false, ?_, by simp only [Bool.false_eq_true, false_iff]; exact fun h => by have := h.2.2.2.1; omega⟩
        simp (disch := omega) only [WW, nat_Int_spec h0, if_neg h3]; rfl
theorem prime_Witness_spec {n f : Nat → Int} {N F : Nat} (hn : IsN n N) (hf : IsN f F) :
    ∃ w e : Int, prime_Witness n f = some (w, e) ∧ ((e = 0 ∧ 2 ≤ w ∧ w ≤ 100 ∧ StepP N F w ∧ ∀ k : Int, 2 ≤ k → k < w → ¬ StepP N F k) ∨ (e = 3 ∧ w = 0 ∧ ∀ k : Int, 2 ≤ k → k ≤ 100 → ¬ StepP N F k)) := by
  rw [prime_Witness_eq]; unfold prime_Witness'
  generalize ho : loopF R_prime_Witness_0 _ = o
  have L : ∃ y, loopF R_prime_Witness_0 (T_prime_Witness_0 ((2 + 0 : Nat) : Int) n f) = some y ∧ ((∃ w : Nat, y = Y_prime_Witness_0_0 (w : Int) 0 ∧ 2 ≤ w ∧ w ≤ 100 ∧ StepP N F w ∧ ∀ k : Int, 2 ≤ k → k < w → ¬ StepP N F k) ∨ (y = Y_prime_Witness_0_1 ∧ ∀ k : Int, 2 ≤ k → k ≤ 100 → ¬ StepP N F k)) :=
    loop_seek (R := R_prime_Witness_0) (S := Unit) (fun i _ => T_prime_Witness_0 ((2 + i : Nat) : Int) n f) (fun i _ => ∀ k : Int, 2 ≤ k → k < (2 + i : Nat) → ¬ StepP N F k)
      (fun y => (∃ w : Nat, y = Y_prime_Witness_0_0 (w : Int) 0 ∧ 2 ≤ w ∧ w ≤ 100 ∧ StepP N F w ∧ ∀ k : Int, 2 ≤ k → k < w → ¬ StepP N F k) ∨ (y = Y_prime_Witness_0_1 ∧ ∀ k : Int, 2 ≤ k → k ≤ 100 → ¬ StepP N F k)) 99
      (fun i hi _ hP => by
        have hs := prime_Step_spec hn hf ((2 + i : Nat) : Int)
        by_cases hst : StepP N F ((2 + i : Nat) : Int)
        · right
          refine ⟨_, ?_, .inl ⟨2 + i, rfl, by omega, by omega, hst, hP⟩⟩
          unfold R_prime_Witness_0
          simp (disch := first | omega | assumption) only [CC, WW, hs]
        · left
          refine ⟨(), ?_, fun k h1 h2 => ?_⟩
          · unfold R_prime_Witness_0
            simp (disch := first | omega | assumption) only [CC, WW, hs, Nat.add_assoc]
          · by_cases e : k = ((2 + i : Nat) : Int)
            · rw [e]; exact hst
            · exact hP k h1 (by omega))
      (fun _ hP => by
        refine ⟨_, ?_, .inr ⟨rfl, fun k h1 h2 => hP k h1 (by omega)⟩⟩
        unfold R_prime_Witness_0
        simp (disch := omega) only [CC, WW]) () (fun k h1 h2 => by omega)
  obtain ⟨y, hy, hQ⟩ := L
  obtain rfl := ho.symm.trans hy
  rcases hQ with ⟨w, rfl, h1, h2, h3, h4⟩ | ⟨rfl, hQ⟩
  · exact ⟨w, 0, rfl, .inl ⟨rfl, by omega, by omega, h3, h4⟩⟩
  · exact ⟨0, 3, rfl, .inr ⟨rfl, rfl, hQ⟩⟩
theorem r04_step_spec {n f : Nat} {w : Int} (hn : n < 2147483648) (hodd : n % 2 = 1) (hn1 : n ≠ 1) (hf0 : f ≠ 0) (hf : f < 9223372036854775808) (hw : 2 ≤ w ∧ w < 65536) :
    r04_step (n : Int) (f : Int) w = some (decide (StepP n f w)) := by
  rw [r04_step_eq]; unfold r04_step'
  have no : ¬ StepP n f w → some false = some (decide (StepP n f w)) := fun h => by rw [decide_eq_false h]
  obtain ⟨W, rfl⟩ : ∃ W : Nat, w = (W : Int) := ⟨w.toNat, by omega⟩
  by_cases h1 : n < f
  · simp (disch := omega) only [WW]
    refine no (fun h => ?_)
    have := h.2.2.2.2.2.1
    rw [Nat.mod_eq_of_lt (by omega)] at this
    omega
  · by_cases h2 : (n - 1) % f = 0
    · have hff : f * f < 2147483648 * 2147483648 := Nat.mul_lt_mul'' (by omega) (by omega)
      by_cases h3 : n < f * f
      · have hd := Nat.div_le_self (n - 1) f
        obtain ⟨k, k1, k2⟩ := r01_Int_spec (n := (((n - 1) / f : Nat) : Int)) (by omega)
        obtain ⟨c, c1, c2⟩ := r01_Int_spec (n := ((f : Nat) : Int)) (by omega)
        have p1 := r03_Power_spec (a := W % n) k2 (show 0 < n by omega) (by omega)
        rw [Int.toNat_natCast, ← Nat.pow_mod] at p1
        have p2 := r03_Power_spec (a := W ^ ((n - 1) / f) % n) c2 (show 0 < n by omega) (by omega)
        rw [Int.toNat_natCast] at p2
        have hlt : W ^ ((n - 1) / f) % n < n := Nat.mod_lt _ (by omega)
        by_cases h4 : (W ^ ((n - 1) / f) % n) ^ f % n = 1
        · have hfin : decide (Nat.gcd (W ^ ((n - 1) / f) % n + (n - 1)) n = 1) = decide (StepP n f W) := by
            rw [decide_eq_decide]
            exact ⟨fun h => ⟨hodd, hn1, by omega, by omega, hf0, h2, h3, h4, h⟩, fun h => h.2.2.2.2.2.2.2.2⟩
          rw [← hfin]
          generalize hp : W ^ ((n - 1) / f) % n = p at *
          generalize hq : p ^ f % n = q at *
          simp (disch := omega) only [CC, WW, h2, k1, p1, c1, p2]
          generalize ho : loopF R_r04_step_0 _ = o
          have hst : p + n - 1 = p + (n - 1) := by omega
          have ha : (p + n - 1) % n < n := Nat.mod_lt _ (by omega)
          have pw : ∀ i, i < 64 → (2 : Nat) ^ (64 - i) = 2 * 2 ^ (64 - (i + 1)) := fun i hi => by
            rw [show 64 - i = (64 - (i + 1)) + 1 by omega, Nat.pow_succ, Nat.mul_comm]
          have L : ∃ y, loopF R_r04_step_0 (T_r04_step_0 (((p + n - 1) % n : Nat) : Int) (n : Int) ((0 : Nat) : Int)) = some y ∧ y = Y_r04_step_0_0 ((Nat.gcd (p + (n - 1)) n : Nat) : Int) :=
            loop_seek (R := R_r04_step_0) (fun i (s : Nat × Nat) => T_r04_step_0 (s.1 : Int) (s.2 : Int) (i : Int)) (fun i s => Nat.gcd s.1 s.2 = Nat.gcd (p + (n - 1)) n ∧ (i = 0 ∧ s.1 < 2147483648 ∧ s.2 < 2147483648 ∨ (s.2 < s.1 ∧ s.1 * s.2 < 2 ^ (64 - i))))
              (fun y => y = Y_r04_step_0_0 ((Nat.gcd (p + (n - 1)) n : Nat) : Int)) 64
              (fun i hi s hP => by
                obtain ⟨x, y⟩ := s
                obtain ⟨g1, g2⟩ := hP
                simp only at g1 g2
                by_cases h0 : y = 0
                · subst h0
                  right
                  refine ⟨_, ?_, rfl⟩
                  rw [← g1, Nat.gcd_zero_right]
                  unfold R_r04_step_0
                  simp (disch := omega) only [CC, WW]
                · left
                  have hlt := Nat.mod_lt x (show 0 < y by omega)
                  refine ⟨(y, x % y), ?_, by simp only; rw [← g1, Nat.gcd_comm x y, Nat.gcd_rec y x, Nat.gcd_comm], .inr ⟨hlt, ?_⟩⟩
                  · unfold R_r04_step_0
                    simp (disch := omega) only [CC, WW]
                  · simp only
                    rcases g2 with ⟨rfl, g2, g3⟩ | ⟨g2, g3⟩
                    · have e1 : x % y ≤ x := Nat.mod_le _ _
                      have e2 : y * (x % y) ≤ y * x := Nat.mul_le_mul_left _ e1
                      have e3 : y * x < 2147483648 * 2147483648 := Nat.mul_lt_mul'' g3 g2
                      simp only [Nat.reducePow, Nat.reduceSub, Nat.reduceAdd]
                      omega
                    · rw [pw i hi] at g3
                      have e1 : 2 * (x % y) ≤ x := by
                        have h1 := Nat.div_add_mod x y
                        have h2 : 0 < x / y := Nat.div_pos (by omega) (by omega)
                        have h3 : y * 1 ≤ y * (x / y) := Nat.mul_le_mul_left _ h2
                        omega
                      have e2 : y * (2 * (x % y)) ≤ y * x := Nat.mul_le_mul_left _ e1
                      rw [Nat.mul_left_comm, Nat.mul_comm y x] at e2
                      generalize y * (x % y) = A at *
                      generalize x * y = B at *
                      generalize 2 ^ (64 - (i + 1)) = Z at *
                      omega)
              (fun s hP => by
                obtain ⟨x, y⟩ := s
                obtain ⟨g1, g2⟩ := hP
                simp only at g1 g2
                rcases g2 with ⟨h, _⟩ | ⟨g2, g3⟩
                · cases h
                · have h0 : y = 0 := by
                    rw [Nat.sub_self, Nat.pow_zero] at g3
                    apply Classical.byContradiction
                    intro hc
                    have : 1 * 1 ≤ x * y := Nat.mul_le_mul (by omega) (by omega)
                    omega
                  subst h0
                  refine ⟨_, ?_, rfl⟩
                  rw [← g1, Nat.gcd_zero_right]
                  unfold R_r04_step_0
                  simp (disch := omega) only [CC, WW]) ((p + n - 1) % n, n) ⟨by simp only; rw [gcd_mod_left, hst], .inl ⟨rfl, by simp only; omega, by simp only; omega⟩⟩
          obtain ⟨y, hy, rfl⟩ := L
          obtain rfl := ho.symm.trans hy
          simp only [Option.some.injEq]
          rw [Bool.eq_iff_iff]
          simp only [beq_iff_eq, decide_eq_true_eq]
          omega
        · have hno := no (fun h => h4 h.2.2.2.2.2.2.2.1)
          rw [← hno]
          generalize hp : W ^ ((n - 1) / f) % n = p at *
          generalize hq : p ^ f % n = q at *
          simp (disch := omega) only [CC, WW, h2, k1, p1, c1, p2]
      · simp (disch := omega) only [CC, WW, h2]
        exact no (fun h => h3 h.2.2.2.2.2.2.1)
    · have hno := no (fun h => h2 h.2.2.2.2.2.1)
      rw [← hno]
      generalize hq : (n - 1) % f = q at *
      simp (disch := omega) only [CC, WW, hq]
end Go.Pl

namespace Go.Pl
open Go Go.Den Go.Num
theorem r04_Step_spec {n f : Nat → Int} {N F : Nat} (hn : IsN n N) (hf : IsN f F) (w : Int) : r04_Step n f w = some (decide (StepP N F w)) := by
  rw [r04_Step_eq]; unfold r04_Step'
  have no : ¬ StepP N F w → some false = some (decide (StepP N F w)) := fun h => by rw [decide_eq_false h]
  by_cases h2 : w < 2
  · simp (disch := omega) only [WW]
    exact no (fun h => by have := h.2.2.1; omega)
  · by_cases h3 : 65536 ≤ w
    · simp (disch := omega) only [WW]
      exact no (fun h => by have := h.2.2.2.1; omega)
    · by_cases h1 : N % 2 = 1 ∧ N ≠ 1
      · have hN1 : 1 < N := by omega
        have hpos : 0 < N := by omega
        obtain ⟨two, t1, t2⟩ := r01_Int_spec (n := 2) (by decide)
        have t2' : IsN two 2 := t2
        have hc2 : ¬ cmpI N 2 ≤ 0 := by
          unfold cmpI; rw [if_neg (by omega), if_pos (by omega)]; decide
        by_cases h4 : F = 0
        · simp (disch := first | omega | assumption) only [WW, r03_May_spec hn, h1, ne_eq, not_false_eq_true, and_self, t1, r01_Cmp_spec hn t2', dec_f hc2, hf.isZero]
          exact no (fun h => h.2.2.2.2.1 h4)
        · obtain ⟨o, o1, o2⟩ := r01_Int_spec (n := 1) (by decide)
          have o2' : IsN o 1 := o2
          obtain ⟨l, l1, l2⟩ := r01_Sub_spec hn o2'
          have hNl := hn.1
          have l3 : IsN l (N - 1) := l2.of_eq (by omega)
          obtain ⟨k, q, d1, d2, d3⟩ := r02_Div_spec l3 hf (by omega)
          obtain ⟨lo, hi, m1, m2, m3⟩ := r02_Mul_spec hf hf
          have sq := square_over m2 m3 hn
          obtain ⟨W, hW1, hW2⟩ := r01_Int_spec (n := w) (by omega)
          obtain ⟨e, e1, e2⟩ := r03_Exp_spec hW2 l3 hn hpos
          obtain ⟨p, p1, p2⟩ := r03_Exp_spec hW2 d2 hn hpos
          obtain ⟨s, s1, s2⟩ := r02_SubMod_spec p2 o2' hn hpos
          obtain ⟨g, g1, g2⟩ := r02_Gcd_spec s2 hn
          rw [Nat.mod_eq_of_lt hN1, gcd_mod_left] at g2
          -- numbers that are not small
          have great : ¬ N < 2147483648 → (match r01_Int 1 with
              | none => none
              | some r6 => match r01_Sub n r6 with
                | none => none
                | some r7 => match r02_Div r7.1 f with
                  | none => none
                  | some r8 => match r02_Mul f f with
                    | none => none
                    | some r9 => bif (!(eqF (.arr 4 (.int .u64)) r8.2.1 (fun _ => 0))) then some false else
                      bif (eqF (.arr 4 (.int .u64)) r9.2 (fun _ => 0)) then
                        match r01_Cmp r9.1 n with
                        | none => none
                        | some r10 => bif (decide (r10 ≤ 0)) then some false else
                          match r01_Int w with
                          | none => none
                          | some r11 => match r03_Exp r11 r7.1 n with
                            | none => none
                            | some r12 => match r01_Int 1 with
                              | none => none
                              | some r13 => bif (!(eqF (.arr 4 (.int .u64)) r12 r13)) then some false else
                                match r03_Exp r11 r8.1 n with
                                | none => none
                                | some r14 => match r01_Int 1 with
                                  | none => none
                                  | some r15 => match r02_SubMod r14 r15 n with
                                    | none => none
                                    | some r16 => match r02_Gcd r16.1 n with
                                      | none => none
                                      | some r17 => match r01_Int 1 with
                                        | none => none
                                        | some r18 => some (eqF (.arr 4 (.int .u64)) r17 r18)
                      else
                        match r01_Int w with
                        | none => none
                        | some r11 => match r03_Exp r11 r7.1 n with
                          | none => none
                          | some r12 => match r01_Int 1 with
                            | none => none
                            | some r13 => bif (!(eqF (.arr 4 (.int .u64)) r12 r13)) then some false else
                              match r03_Exp r11 r8.1 n with
                              | none => none
                              | some r14 => match r01_Int 1 with
                                | none => none
                                | some r15 => match r02_SubMod r14 r15 n with
                                  | none => none
                                  | some r16 => match r02_Gcd r16.1 n with
                                    | none => none
                                    | some r17 => match r01_Int 1 with
                                      | none => none
                                      | some r18 => some (eqF (.arr 4 (.int .u64)) r17 r18)) = some (decide (StepP N F w)) := by
            intro hbig
            by_cases h5 : (N - 1) % F = 0
            · have hkF : (N - 1) / F * F = N - 1 := by
                have := Nat.div_add_mod (N - 1) F
                rw [h5] at this
                rw [Nat.mul_comm]; exact this
              have hpw : (w.toNat ^ ((N - 1) / F) % N) ^ F % N = w.toNat ^ (N - 1) % N := by
                rw [← Nat.pow_mod, ← Nat.pow_mul, hkF]
              by_cases h6 : N < F * F
              · by_cases h7 : w.toNat ^ (N - 1) % N = 1
                · have hfin : decide (Nat.gcd (w.toNat ^ ((N - 1) / F) % N + (N - 1)) N = 1) = decide (StepP N F w) := by
                    rw [decide_eq_decide]
                    exact ⟨fun h => ⟨h1.1, h1.2, by omega, by omega, h4, h5, h6, by rw [hpw]; exact h7, h⟩, fun h => h.2.2.2.2.2.2.2.2⟩
                  by_cases h8 : F * F / 2 ^ 256 = 0
                  · have h9 := (sq.1 h8).1 h6
                    simp (disch := first | omega | assumption) only [WW, o1, l1, d1, m1, d3.isZero, m3.isZero, r01_Cmp_spec m2 hn, dec_f h9, hW1, p1, e1, e2.eqb o2', s1, g1, g2.eqb o2', hfin]
                  · simp (disch := first | omega | assumption) only [WW, o1, l1, d1, m1, d3.isZero, m3.isZero, hW1, p1, e1, e2.eqb o2', s1, g1, g2.eqb o2', hfin]
                · have hno := no (fun h => h7 (by rw [← hpw]; exact h.2.2.2.2.2.2.2.1))
                  by_cases h8 : F * F / 2 ^ 256 = 0
                  · have h9 := (sq.1 h8).1 h6
                    simp (disch := first | omega | assumption) only [WW, o1, l1, d1, m1, d3.isZero, m3.isZero, r01_Cmp_spec m2 hn, dec_f h9, hW1, p1, e1, e2.eqb o2']
                    exact hno
                  · simp (disch := first | omega | assumption) only [WW, o1, l1, d1, m1, d3.isZero, m3.isZero, hW1, p1, e1, e2.eqb o2']
                    exact hno
              · have h8 : F * F / 2 ^ 256 = 0 := Classical.byContradiction fun h => h6 (sq.2 h)
                have h9 : cmpI (F * F % 2 ^ 256) N ≤ 0 := Classical.byContradiction fun h => h6 ((sq.1 h8).2 h)
                simp (disch := first | omega | assumption) only [WW, o1, l1, d1, m1, d3.isZero, m3.isZero, r01_Cmp_spec m2 hn, dec_t h9]
                exact no (fun h => h6 h.2.2.2.2.2.2.1)
            · simp (disch := first | omega | assumption) only [WW, o1, l1, d1, m1, d3.isZero]
              exact no (fun h => h5 h.2.2.2.2.2.1)
          by_cases h63 : N < 9223372036854775808
          · by_cases h31 : N < 2147483648
            · by_cases hF : F < 9223372036854775808
              · simp (disch := first | omega | assumption) only [WW, r03_May_spec hn, h1, ne_eq, not_false_eq_true, and_self, t1, r01_Cmp_spec hn t2', dec_f hc2, hf.isZero, r01_Low_spec hn, if_pos h63, r01_Low_spec hf, if_pos hF, r04_step_spec (w := w) h31 h1.1 h1.2 h4 hF ⟨by omega, by omega⟩]
              · simp (disch := first | omega | assumption) only [WW, r03_May_spec hn, h1, ne_eq, not_false_eq_true, and_self, t1, r01_Cmp_spec hn t2', dec_f hc2, hf.isZero, r01_Low_spec hn, if_pos h63, r01_Low_spec hf, if_neg hF]
                refine no (fun h => ?_)
                have := h.2.2.2.2.2.1
                rw [Nat.mod_eq_of_lt (by omega)] at this
                omega
            · have hg := great h31
              simp (disch := first | omega | assumption) only [WW, r03_May_spec hn, h1, ne_eq, not_false_eq_true, and_self, t1, r01_Cmp_spec hn t2', dec_f hc2, hf.isZero, r01_Low_spec hn, if_pos h63]
              exact hg
          · have hg := great (by omega)
            simp (disch := first | omega | assumption) only [WW, r03_May_spec hn, h1, ne_eq, not_false_eq_true, and_self, t1, r01_Cmp_spec hn t2', dec_f hc2, hf.isZero, r01_Low_spec hn, if_neg h63]
            exact hg
      · simp (disch := omega) only [WW, r03_May_spec hn, h1]
        exact no (fun h => h1 ⟨h.1, h.2.1⟩)
theorem r04_Check_spec {k : Nat} {l : Nat → (Nat → Int) × Int} {N : Nat → Nat} (hl : ∀ i, i < k → IsN (l i).1 (N i)) :
    ∃ b, r04_Check k l = some b ∧ (b = true ↔ ChainP k N (fun i => (l i).2)) := by
  rw [r04_Check_eq]; unfold r04_Check'
  by_cases h1 : k < 1
  · refine ⟨false, ?_, by simp only [Bool.false_eq_true, false_iff]; exact fun h => by have := h.1; omega⟩
    simp (disch := omega) only [WW]
  · by_cases h2 : 8 < k
    · refine ⟨false, ?_, by simp only [Bool.false_eq_true, false_iff]; exact fun h => by have := h.2.1; omega⟩
      simp (disch := omega) only [WW]
    · have h0 := hl 0 (by omega)
      by_cases h3 : N 0 < 9223372036854775808
      · obtain ⟨b, hb1, hb2⟩ := r04_Small_spec ((N 0 : Nat) : Int)
        rw [Int.toNat_natCast] at hb2
        cases b with
        | false =>
          refine ⟨false, ?_, by simp only [Bool.false_eq_true, false_iff]; exact fun h => absurd (hb2.2 ⟨by have := h.2.2.1; omega, by have := h.2.2.2.1; omega, h.2.2.2.2.1⟩) (by decide)⟩
          simp (disch := omega) only [WW, r01_Low_spec h0, if_pos h3, hb1]
        | true =>
          have hb3 := hb2.1 rfl
          by_cases h4 : (l 0).2 = 0
          · simp (disch := omega) only [WW, r01_Low_spec h0, if_pos h3, hb1]
            generalize ho : loopF R_r04_Check_0 _ = o
            have L : ∃ y, loopF R_r04_Check_0 (T_r04_Check_0 k l ((1 + 0 : Nat) : Int)) = some y ∧ ((y = Y_r04_Check_0_0 false ∧ ¬ ChainP k N (fun i => (l i).2)) ∨ (y = Y_r04_Check_0_1 ∧ ChainP k N (fun i => (l i).2))) :=
              loop_seek (R := R_r04_Check_0) (S := Unit) (fun i _ => T_r04_Check_0 k l ((1 + i : Nat) : Int)) (fun i _ => ∀ j, j < i → StepP (N (j + 1)) (N j) ((l (j + 1)).2))
                (fun y => (y = Y_r04_Check_0_0 false ∧ ¬ ChainP k N (fun i => (l i).2)) ∨ (y = Y_r04_Check_0_1 ∧ ChainP k N (fun i => (l i).2))) (k - 1)
                (fun i hi _ hP => by
                  have hs := r04_Step_spec (hl (1 + i) (by omega)) (hl i (by omega)) (l (1 + i)).2
                  by_cases hst : StepP (N (1 + i)) (N i) (l (1 + i)).2
                  · left
                    refine ⟨(), ?_, fun j hj => ?_⟩
                    · unfold R_r04_Check_0
                      simp (disch := first | omega | assumption) only [CC, WW, Nat.add_sub_cancel_left, hs, Nat.add_assoc]
                    · by_cases e : j = i
                      · subst e; rw [Nat.add_comm j 1]; exact hst
                      · exact hP j (by omega)
                  · right
                    refine ⟨_, ?_, .inl ⟨rfl, fun h => hst ?_⟩⟩
                    · unfold R_r04_Check_0
                      simp (disch := first | omega | assumption) only [CC, WW, Nat.add_sub_cancel_left, hs]
                    · have := h.2.2.2.2.2.2 i (by omega)
                      rw [Nat.add_comm 1 i]; exact this)
                (fun _ hP => by
                  refine ⟨_, ?_, .inr ⟨rfl, by omega, by omega, by omega, by omega, hb3.2.2, h4, fun i hi => hP i (by omega)⟩⟩
                  unfold R_r04_Check_0
                  simp (disch := omega) only [CC, WW]) () (fun j hj => by omega)
            obtain ⟨y, hy, hQ⟩ := L
            obtain rfl := ho.symm.trans hy
            rcases hQ with ⟨rfl, hQ⟩ | ⟨rfl, hQ⟩
            · exact ⟨false, rfl, by simp [hQ]⟩
            · exact ⟨true, rfl, by simp [hQ]⟩
          · refine ⟨false, ?_, by simp only [Bool.false_eq_true, false_iff]; exact fun h => h4 h.2.2.2.2.2.1⟩
            simp (disch := omega) only [WW, r01_Low_spec h0, if_pos h3, hb1]
      · refine ⟨false, ?_, by simp only [Bool.false_eq_true, false_iff]; exact fun h => by have := h.2.2.2.1; omega⟩
        simp (disch := omega) only [WW, r01_Low_spec h0, if_neg h3]
end Go.Pl

namespace Go.Pl
open Go Go.Den Go.Num
abbrev GroupT := (PtrV RingT × PtrV RingT) × (Nat → Int)
structure IsGroup (g : GroupT) (P Q G : Nat) : Prop where
  rings : ∃ r f, g.1 = (.fz r, .fz f) ∧ IsRing r P ∧ IsRing f Q
  gen : IsN g.2 G
  pp : Pr P
  pq : Pr Q
  big : 512 ≤ Q
  g1 : 1 < G
  gP : G < P
  order : G ^ Q % P = 1
def GroupP (k : Nat) (N : Nat → Nat) (A : Nat → Int) (G : Nat) : Prop := 2 ≤ k ∧ ChainP k N A ∧ 512 ≤ N (k - 2) ∧ 1 < G ∧ G < N (k - 1) ∧ G ^ N (k - 2) % N (k - 1) = 1
theorem blen_lt10 {n : Nat} : blen n < 10 ↔ n < 512 := by
  constructor
  · intro h
    have h1 := lt_blen n
    have : 2 ^ blen n ≤ 2 ^ 9 := Nat.pow_le_pow_right (by decide) (by omega)
    omega
  · intro h
    have := blen_le (n := n) (L := 9) h
    omega
theorem group_New_spec {k : Nat} {l : Nat → (Nat → Int) × Int} {ga : Nat → Int} {N : Nat → Nat} {G : Nat} (hl : ∀ i, i < k → IsN (l i).1 (N i)) (hg : IsN ga G) :
    (GroupP k N (fun i => (l i).2) G → ∃ g, group_New ((k, l), ga) = some (some g, 0) ∧ IsGroup g (N (k - 1)) (N (k - 2)) G ∧ g.2 = ga) ∧ (¬ GroupP k N (fun i => (l i).2) G → group_New ((k, l), ga) = some (none, 4)) := by
  rw [group_New_eq]; unfold group_New'
  by_cases h1 : k < 2
  · refine ⟨fun h => by have := h.1; omega, fun _ => ?_⟩
    simp (disch := omega) only [WW]
  · by_cases h2 : ChainP k N (fun i => (l i).2)
    · have hk8 := h2.2.1
      have hp := h2.prime (k - 1) (by omega)
      have hq := h2.prime (k - 2) (by omega)
      have hPN := hl (k - 1) (by omega)
      have hQN := hl (k - 2) (by omega)
      have hst := h2.2.2.2.2.2.2 (k - 2) (by omega)
      rw [show k - 2 + 1 = k - 1 by omega] at hst
      obtain ⟨r, r1, hr, _⟩ := (mont_New_spec hPN).2 hst.1 hst.2.1
      have hc := (prime_Check_spec hl).1 h2
      generalize hP : N (k - 1) = P at *
      generalize hQ : N (k - 2) = Q at *
      have no : ∀ {p : Prop}, (GroupP k N (fun i => (l i).2) G → p) → ¬ p → ¬ GroupP k N (fun i => (l i).2) G := fun h1 h2 h3 => h2 (h1 h3)
      obtain ⟨o, o1, o2⟩ := nat_Of_spec (n := 1) (by decide)
      have o2' : IsN o 1 := o2
      by_cases h3 : Q < 512
      · -- too few bits
        have hb := blen_lt10.2 h3
        refine ⟨fun h => by have := h.2.2.1; omega, fun _ => ?_⟩
        by_cases hodd : Q % 2 = 1
        · obtain ⟨f, f1, hf, _⟩ := (mont_New_spec hQN).2 hodd (by have := hq.1; omega)
          simp (disch := omega) only [CC, WW, hc, r1, f1, nat_Len_spec hQN]
        · have f1 := (mont_New_spec hQN).1 (.inl (by omega))
          simp (disch := omega) only [CC, WW, hc, r1, f1]
      · have hb : ¬ blen Q < 10 := fun h => h3 (blen_lt10.1 h)
        have hodd : Q % 2 = 1 := by
          have := hq.tried 2 (by decide) (by omega)
          omega
        obtain ⟨f, f1, hf, _⟩ := (mont_New_spec hQN).2 hodd (by omega)
        by_cases h4 : G = 0
        · subst h4
          refine ⟨fun h => by have := h.2.2.2.1; omega, fun _ => ?_⟩
          simp (disch := omega) only [CC, WW, hc, r1, f1, nat_Len_spec hQN, hg.isZero]
        · by_cases h5 : G = 1
          · subst h5
            refine ⟨fun h => by have := h.2.2.2.1; omega, fun _ => ?_⟩
            simp (disch := omega) only [CC, WW, hc, r1, f1, nat_Len_spec hQN, hg.isZero, o1, hg.eqb o2']
          · by_cases h6 : G < P
            · obtain ⟨z, z1, z2⟩ := mont_Exp_spec hr hg hQN
              by_cases h7 : G ^ Q % P = 1
              · refine ⟨fun _ => ?_, fun h => absurd ⟨by omega, h2, by rw [hQ]; omega, by omega, by rw [hP]; exact h6, by rw [hP, hQ]; exact h7⟩ h⟩
                simp (disch := first | omega | assumption) only [CC, WW, hc, r1, f1, nat_Len_spec hQN, hg.isZero, o1, hg.eqb o2', mont_In_spec hr hg, z1, z2.eqb o2']
                exact ⟨_, rfl, ⟨⟨r, f, rfl, hr, hf⟩, hg, hp, hq, by omega, by omega, h6, h7⟩, rfl⟩
              · refine ⟨fun h => absurd (by have := h.2.2.2.2.2; rw [hP, hQ] at this; exact this) h7, fun _ => ?_⟩
                simp (disch := first | omega | assumption) only [CC, WW, hc, r1, f1, nat_Len_spec hQN, hg.isZero, o1, hg.eqb o2', mont_In_spec hr hg, z1, z2.eqb o2']
            · refine ⟨fun h => absurd (by have := h.2.2.2.2.1; rw [hP] at this; exact this) h6, fun _ => ?_⟩
              simp (disch := first | omega | assumption) only [CC, WW, hc, r1, f1, nat_Len_spec hQN, hg.isZero, o1, hg.eqb o2', mont_In_spec hr hg]
    · refine ⟨fun h => absurd h.2.1 h2, fun _ => ?_⟩
      simp (disch := omega) only [CC, WW, (prime_Check_spec hl).2 h2]
theorem group_Check_spec {k : Nat} {l : Nat → (Nat → Int) × Int} {ga : Nat → Int} {N : Nat → Nat} {G : Nat} (hl : ∀ i, i < k → IsN (l i).1 (N i)) (hg : IsN ga G) :
    (GroupP k N (fun i => (l i).2) G → group_Check ((k, l), ga) = some 0) ∧ (¬ GroupP k N (fun i => (l i).2) G → group_Check ((k, l), ga) = some 4) := by
  rw [group_Check_eq]; unfold group_Check'
  constructor
  · intro h
    obtain ⟨g, g1, _⟩ := (group_New_spec hl hg).1 h
    simp only [g1]
  · intro h
    simp only [(group_New_spec hl hg).2 h]
section
variable {g : GroupT} {P Q G : Nat}
end
theorem r07_P_spec {k : Nat} {l : Nat → (Nat → Int) × Int} {ga : Nat → Int} (h : 2 ≤ k) (h2 : k ≤ 9223372036854775807) : r07_P ((k, l), ga) = some (l (k - 1)).1 := by
  rw [r07_P_eq]; unfold r07_P'
  simp (disch := omega) only [CC, WW]
theorem r07_Q_spec {k : Nat} {l : Nat → (Nat → Int) × Int} {ga : Nat → Int} (h : 2 ≤ k) (h2 : k ≤ 9223372036854775807) : r07_Q ((k, l), ga) = some (l (k - 2)).1 := by
  rw [r07_Q_eq]; unfold r07_Q'
  simp (disch := omega) only [CC, WW]
theorem r07_May_spec {k : Nat} {l : Nat → (Nat → Int) × Int} {ga : Nat → Int} {N : Nat → Nat} {G : Nat} (h63 : k ≤ 9223372036854775807) (hl : ∀ i, i < k → IsN (l i).1 (N i)) (hg : IsN ga G) :
    ∃ b, r07_May ((k, l), ga) = some b ∧ (b = true ↔ GroupP k N (fun i => (l i).2) G) := by
  rw [r07_May_eq]; unfold r07_May'
  have no : ∀ {x : Option Bool}, x = some false → ¬ GroupP k N (fun i => (l i).2) G → ∃ b, x = some b ∧ (b = true ↔ GroupP k N (fun i => (l i).2) G) := fun h1 h2 => ⟨false, h1, by simp [h2]⟩
  by_cases h1 : k < 2
  · refine no ?_ (fun h => by have := h.1; omega)
    simp (disch := omega) only [WW]
  · obtain ⟨b, b1, b2⟩ := r04_Check_spec hl
    cases b with
    | false =>
      refine no ?_ (fun h => absurd (b2.2 h.2.1) (by decide))
      simp (disch := omega) only [WW, b1]
    | true =>
      have h2 := b2.1 rfl
      have hk8 := h2.2.1
      have hp := h2.prime (k - 1) (by omega)
      have hPN := hl (k - 1) (by omega)
      have hQN := hl (k - 2) (by omega)
      have eP := r07_P_spec (l := l) (ga := ga) (show 2 ≤ k by omega) h63
      have eQ := r07_Q_spec (l := l) (ga := ga) (show 2 ≤ k by omega) h63
      generalize hP : N (k - 1) = P at *
      generalize hQ : N (k - 2) = Q at *
      obtain ⟨o, o1, o2⟩ := r01_Int_spec (n := 1) (by decide)
      have o2' : IsN o 1 := o2
      obtain ⟨z, z1, z2⟩ := r01_Int_spec (n := 0) (by decide)
      have z2' : IsN z 0 := z2
      by_cases h3 : Q < 512
      · have hb := blen_lt10.2 h3
        refine no ?_ (fun h => by have := h.2.2.1; omega)
        simp (disch := omega) only [WW, b1, eQ, r01_Len_spec hQN]
      · have hb : ¬ blen Q < 10 := fun h => h3 (blen_lt10.1 h)
        by_cases h4 : G = 0
        · subst h4
          refine no ?_ (fun h => by have := h.2.2.2.1; omega)
          simp (disch := omega) only [WW, b1, eQ, r01_Len_spec hQN, z1, hg.eqb z2']
        · by_cases h5 : G = 1
          · subst h5
            refine no ?_ (fun h => by have := h.2.2.2.1; omega)
            simp (disch := omega) only [WW, b1, eQ, r01_Len_spec hQN, z1, hg.eqb z2', o1, hg.eqb o2']
          · by_cases h6 : G < P
            · have hc : cmpI G P < 0 := by unfold cmpI; rw [if_pos h6]; decide
              obtain ⟨e, e1, e2⟩ := r03_Exp_spec hg hQN hPN hp.pos
              refine ⟨decide (G ^ Q % P = 1), ?_, ?_⟩
              · simp (disch := first | omega | assumption) only [WW, b1, eQ, eP, r01_Len_spec hQN, z1, hg.eqb z2', o1, hg.eqb o2', r01_Cmp_spec hg hPN, dec_t hc, e1, e2.eqb o2']
              · rw [decide_eq_true_eq]
                constructor
                · intro h7; exact ⟨by omega, h2, by rw [hQ]; omega, by omega, by rw [hP]; exact h6, by rw [hP, hQ]; exact h7⟩
                · intro h; have := h.2.2.2.2.2; rw [hP, hQ] at this; exact this
            · have hc : ¬ cmpI G P < 0 := by unfold cmpI; rw [if_neg h6]; split <;> decide
              refine no ?_ (fun h => h6 (by have := h.2.2.2.2.1; rw [hP] at this; exact this))
              simp (disch := first | omega | assumption) only [WW, b1, eQ, eP, r01_Len_spec hQN, z1, hg.eqb z2', o1, hg.eqb o2', r01_Cmp_spec hg hPN, dec_f hc]
end Go.Pl

namespace Go.Pl
open Go Go.Den Go.Num
theorem prime_tries {n r : Nat} (hn : 2 ≤ n) (hr : n < (r + 1) * (r + 1)) (h : ∀ d, d < r + 1 → 2 ≤ d → n % d ≠ 0) : Pr n :=
  prime_of_tried hn fun d h2 hd => h d (by
    apply Classical.byContradiction
    intro hc
    have : (r + 1) * (r + 1) ≤ d * d := Nat.mul_le_mul (by omega) (by omega)
    omega) h2
end Go.Pl
