/-
  Primes, groups, the field.
-/
import Derived.Test.YtidodcilgldjoaaGreatMA
import Derived.Test.YtidodcilgldjoaaGreatMC
import Derived.Test.YtidodcilgldjoaaGreatPlA
set_option linter.unusedVariables false
namespace Go.Num
section
variable {q : Nat} [NeZero q]
def sumF (f : Nat → Fin q) : Nat → Fin q
  | 0 => 0
  | n + 1 => sumF f n + f n
def pw (x : Fin q) : Nat → Fin q
  | 0 => 1
  | n + 1 => pw x n * x
def ev (f : Nat → Fin q) (n : Nat) (x : Fin q) : Fin q := sumF (fun i => f i * pw x i) n
def conv (f g : Nat → Fin q) (k : Nat) : Fin q := sumF (fun i => f i * g (k - i)) (k + 1)
def quo (f : Nat → Fin q) (x : Fin q) : Nat → Nat → Fin q
  | 0, _ => 0
  | n + 1, i => quo f x n i + (if i < n then f n * pw x (n - 1 - i) else 0)
end
end Go.Num

namespace Go.Num
def pm (m : Nat) : Nat → Nat → Nat → Nat
  | 0, _, _ => 1 % m
  | k + 1, b, e => if e % 2 = 1 then b * pm m k (b * b % m) (e / 2) % m else pm m k (b * b % m) (e / 2)
theorem pm_eq (m : Nat) : ∀ k b e, e < 2 ^ k → pm m k b e = b ^ e % m := by
  intro k
  induction k with
  | zero => intro b e h; obtain rfl : e = 0 := by simpa using h
            rw [pm, Nat.pow_zero]
  | succ k ih =>
    intro b e h
    have h2 : e / 2 < 2 ^ k := by rw [Nat.pow_succ] at h; omega
    have h3 : (b * b % m) ^ (e / 2) % m = b ^ (2 * (e / 2)) % m := by
      rw [← Nat.pow_mod, Nat.pow_mul, Nat.pow_two]
    rw [pm, ih _ _ h2]
    split
    · rename_i ho
      rw [h3, Nat.mul_mod_mod]
      congr 1
      conv => rhs; rw [show e = 2 * (e / 2) + 1 by omega]
      rw [Nat.pow_succ, Nat.mul_comm]
    · rename_i ho
      rw [h3, show 2 * (e / 2) = e by omega]
section
variable {q : Nat} [NeZero q]
end
end Go.Num

set_option linter.unusedSimpArgs false
namespace Go.Pl
open Go Go.Den Go.Num
theorem prime_iff_tried {n : Nat} (hn : 2 ≤ n) : Pr n ↔ ∀ d, 2 ≤ d → d * d ≤ n → n % d ≠ 0 := by
  constructor
  · intro h d h2 hd
    refine h.tried d h2 ?_
    have : 2 * d ≤ d * d := Nat.mul_le_mul_right _ h2
    omega
  · exact prime_of_tried hn
theorem prime_Small_spec (n : Int) : ∃ b, prime_Small n = some b ∧ (b = true ↔ 2 ≤ n ∧ n < 65536 ∧ Pr n.toNat) := by
  rw [prime_Small_eq]; unfold prime_Small'
  by_cases h2 : n < 2
  · refine ⟨false, ?_, by simp; omega⟩
    simp (disch := omega) only [WW]
  · by_cases h3 : 65536 ≤ n
    · refine ⟨false, ?_, by simp; omega⟩
      simp (disch := omega) only [WW]
    · simp (disch := omega) only [WW]
      obtain ⟨N, rfl⟩ : ∃ N : Nat, n = (N : Int) := ⟨n.toNat, by omega⟩
      generalize ho : loopF R_prime_Small_0 _ = o
      have hN2 : 2 ≤ N := by omega
      have goal : ∃ y, loopF R_prime_Small_0 (T_prime_Small_0 (N : Int) true (N : Int) ((0 : Nat) : Int)) = some y ∧ ∃ b, y = Y_prime_Small_0_0 b ∧ (b = true ↔ Pr N) :=
        loop_seek (R := R_prime_Small_0) (S := Unit) (fun d _ => T_prime_Small_0 (N : Int) true (N : Int) (d : Int)) (fun d _ => ∀ k, 2 ≤ k → k < d → N % k ≠ 0)
          (fun y => ∃ b, y = Y_prime_Small_0_0 b ∧ (b = true ↔ Pr N)) N
          (fun d hd _ hP => by
            by_cases c2 : d < 2
            · left
              refine ⟨(), ?_, fun k h1 h2 => by omega⟩
              unfold R_prime_Small_0
              simp (disch := omega) only [CC, WW]
            · have hdd : d * d < 65536 * 65536 := Nat.mul_lt_mul'' (by omega) (by omega)
              by_cases c3 : N < d * d
              · right
                have hp : Pr N := (prime_iff_tried hN2).2 fun k h1 h2 => hP k h1 (by
                  apply Classical.byContradiction
                  intro hc
                  have : d * d ≤ k * k := Nat.mul_le_mul (by omega) (by omega)
                  omega)
                refine ⟨_, ?_, true, rfl, by simp only [hp]⟩
                unfold R_prime_Small_0
                simp (disch := omega) only [CC, WW]
              · by_cases c4 : N % d = 0
                · right
                  refine ⟨_, ?_, false, rfl, ?_⟩
                  · unfold R_prime_Small_0
                    simp (disch := omega) only [CC, WW, c4]
                  · simp only [Bool.false_eq_true, false_iff]
                    exact fun hp => hp.tried d (by omega) hd c4
                · left
                  refine ⟨(), ?_, fun k h1 h2 => ?_⟩
                  · unfold R_prime_Small_0
                    generalize hm : N % d = m at c4
                    simp (disch := omega) only [CC, WW, hm]
                  · by_cases e : k = d
                    · subst e; exact c4
                    · exact hP k h1 (by omega))
          (fun _ hP => by
            have hp : Pr N := (prime_iff_tried hN2).2 fun k h1 h2 => hP k h1 (by
              have : 2 * k ≤ k * k := Nat.mul_le_mul_right _ h1
              omega)
            refine ⟨_, ?_, true, rfl, by simp only [hp]⟩
            unfold R_prime_Small_0
            simp (disch := omega) only [CC, WW]) () (fun k h1 h2 => by omega)
      obtain ⟨y, hy, b, rfl, hb⟩ := goal
      obtain rfl := ho.symm.trans hy
      exact ⟨b, rfl, by rw [hb, Int.toNat_natCast]; exact ⟨fun h => ⟨by omega, by omega, h⟩, fun h => h.2.2⟩⟩
def StepP (n f : Nat) (w : Int) : Prop := n % 2 = 1 ∧ n ≠ 1 ∧ 2 ≤ w ∧ w < 65536 ∧ f ≠ 0 ∧ (n - 1) % f = 0 ∧ n < f * f ∧ (w.toNat ^ ((n - 1) / f) % n) ^ f % n = 1 ∧ Nat.gcd (w.toNat ^ ((n - 1) / f) % n + (n - 1)) n = 1
instance (n f : Nat) (w : Int) : Decidable (StepP n f w) := by unfold StepP; exact inferInstance
theorem gcd_mod_left (x n : Nat) : Nat.gcd (x % n) n = Nat.gcd x n := by
  rw [Nat.gcd_comm x n, Nat.gcd_rec n x]
theorem square_over {lo hi : Nat → Int} {n : Nat → Int} {N F : Nat} (h1 : IsN lo (F * F % 2 ^ 256)) (h2 : IsN hi (F * F / 2 ^ 256)) (hn : IsN n N) :
    (F * F / 2 ^ 256 = 0 → (N < F * F ↔ ¬ cmpI (F * F % 2 ^ 256) N ≤ 0)) ∧ (F * F / 2 ^ 256 ≠ 0 → N < F * F) := by
  have hN := hn.1
  constructor
  · intro h
    have : F * F < 2 ^ 256 := by
      rcases Nat.div_eq_zero_iff.1 h with h | h
      · exact absurd h (by decide)
      · exact h
    rw [Nat.mod_eq_of_lt this]
    unfold cmpI
    generalize F * F = Q at *
    by_cases c1 : Q < N
    · rw [if_pos c1]; constructor
      · intro h; omega
      · intro h; exact absurd (by decide) h
    · rw [if_neg c1]
      by_cases c2 : N < Q
      · rw [if_pos c2]; simp [c2]
      · rw [if_neg c2]; simp [c2]
  · intro h
    generalize F * F = Q at *
    apply Classical.byContradiction
    intro hc
    exact h (Nat.div_eq_of_lt (by omega))
theorem prime_Step_spec {n f : Nat → Int} {N F : Nat} (hn : IsN n N) (hf : IsN f F) (w : Int) : prime_Step n f w = some (decide (StepP N F w)) := by
  rw [prime_Step_eq]; unfold prime_Step'
  have no : ¬ StepP N F w → some false = some (decide (StepP N F w)) := fun h => by rw [decide_eq_false h]
  by_cases h1 : N % 2 = 1 ∧ N ≠ 1
  · obtain ⟨r, r1, hr, _⟩ := (mont_New_spec hn).2 h1.1 h1.2
    have hN1 := hr.one
    by_cases h2 : w < 2
    · simp (disch := omega) only [WW, r1]
      exact no (fun h => by have := h.2.2.1; omega)
    · by_cases h3 : 65536 ≤ w
      · simp (disch := omega) only [WW, r1]
        exact no (fun h => by have := h.2.2.2.1; omega)
      · by_cases h4 : F = 0
        · simp (disch := omega) only [WW, r1, hf.isZero]
          exact no (fun h => h.2.2.2.2.1 h4)
        · obtain ⟨o, o1, o2⟩ := nat_Of_spec (n := 1) (by decide)
          have o2' : IsN o 1 := o2
          obtain ⟨l, l1, l2⟩ := nat_Sub_spec hn o2'
          have hNl := hn.1
          have l3 : IsN l (N - 1) := l2.of_eq (by omega)
          obtain ⟨k, q, d1, d2, d3⟩ := wide_Div_spec l3 hf (by omega)
          obtain ⟨lo, hi, m1, m2, m3⟩ := wide_Mul_spec hf hf
          have sq := square_over m2 m3 hn
          by_cases h5 : (N - 1) % F = 0
          · obtain ⟨W, hW1, hW2⟩ := nat_Of_spec (n := w) (by omega)
            obtain ⟨p, p1, p2⟩ := mont_Exp_spec hr hW2 d2
            obtain ⟨e, e1, e2⟩ := mont_Exp_spec hr p2 hf
            obtain ⟨s, s1, s2⟩ := wide_SubMod_spec p2 o2' hn hr.pos
            obtain ⟨g, g1, g2⟩ := wide_Gcd_spec s2 hn
            rw [Nat.mod_eq_of_lt hN1, gcd_mod_left] at g2
            by_cases h6 : N < F * F
            · by_cases h7 : (w.toNat ^ ((N - 1) / F) % N) ^ F % N = 1
              · have hfin : decide (Nat.gcd (w.toNat ^ ((N - 1) / F) % N + (N - 1)) N = 1) = decide (StepP N F w) := by
                  rw [decide_eq_decide]
                  exact ⟨fun h => ⟨h1.1, h1.2, by omega, by omega, h4, h5, h6, h7, h⟩, fun h => h.2.2.2.2.2.2.2.2⟩
                by_cases h8 : F * F / 2 ^ 256 = 0
                · have h9 := (sq.1 h8).1 h6
                  simp (disch := first | omega | assumption) only [WW, r1, hf.isZero, o1, l1, d1, m1, d3.isZero, m3.isZero, nat_Cmp_spec m2 hn, dec_f h9, hW1, p1, e1, e2.eqb o2', s1, g1, g2.eqb o2', hfin]
                · simp (disch := first | omega | assumption) only [WW, r1, hf.isZero, o1, l1, d1, m1, d3.isZero, m3.isZero, hW1, p1, e1, e2.eqb o2', s1, g1, g2.eqb o2', hfin]
              · have hno := no (fun h => h7 h.2.2.2.2.2.2.2.1)
                by_cases h8 : F * F / 2 ^ 256 = 0
                · have h9 := (sq.1 h8).1 h6
                  simp (disch := first | omega | assumption) only [WW, r1, hf.isZero, o1, l1, d1, m1, d3.isZero, m3.isZero, nat_Cmp_spec m2 hn, dec_f h9, hW1, p1, e1, e2.eqb o2']
                  exact hno
                · simp (disch := first | omega | assumption) only [WW, r1, hf.isZero, o1, l1, d1, m1, d3.isZero, m3.isZero, hW1, p1, e1, e2.eqb o2']
                  exact hno
            · have h8 : F * F / 2 ^ 256 = 0 := Classical.byContradiction fun h => h6 (sq.2 h)
              have h9 : cmpI (F * F % 2 ^ 256) N ≤ 0 := Classical.byContradiction fun h => h6 ((sq.1 h8).2 h)
              simp (disch := first | omega | assumption) only [WW, r1, hf.isZero, o1, l1, d1, m1, d3.isZero, m3.isZero, nat_Cmp_spec m2 hn, dec_t h9]
              exact no (fun h => h6 h.2.2.2.2.2.2.1)
          · simp (disch := first | omega | assumption) only [WW, r1, hf.isZero, o1, l1, d1, m1, d3.isZero]
            exact no (fun h => h5 h.2.2.2.2.2.1)
  · have r1 := (mont_New_spec hn).1 (by omega)
    simp (disch := omega) only [WW, r1]
    exact no (fun h => h1 ⟨h.1, h.2.1⟩)
end Go.Pl

namespace Go.Pl
open Go Go.Den Go.Num
def ChainP (k : Nat) (N : Nat → Nat) (A : Nat → Int) : Prop := 1 ≤ k ∧ k ≤ 8 ∧ 2 ≤ N 0 ∧ N 0 < 65536 ∧ Pr (N 0) ∧ A 0 = 0 ∧ ∀ i, i + 1 < k → StepP (N (i + 1)) (N i) (A (i + 1))
theorem StepP.prime {n f : Nat} {w : Int} (h : StepP n f w) (hf : Pr f) : Pr n := by
  obtain ⟨h1, h2, h3, h4, h5, h6, h7, h8, h9⟩ := h
  refine pocklington (f := f) (k := (n - 1) / f) (a := w.toNat) (by omega) hf ?_ h7 h8 ?_
  · have := Nat.div_add_mod (n - 1) f
    rw [h6] at this
    rw [Nat.mul_comm]; exact this
  · rw [← Nat.add_sub_assoc (by omega)] at h9; exact h9
theorem ChainP.prime {k : Nat} {N : Nat → Nat} {A : Nat → Int} (h : ChainP k N A) : ∀ i, i < k → Pr (N i) := by
  intro i
  induction i with
  | zero => intro _; exact h.2.2.2.2.1
  | succ i ih => intro hi; exact (h.2.2.2.2.2.2 i hi).prime (ih (by omega))
theorem prime_Check_spec {k : Nat} {l : Nat → (Nat → Int) × Int} {N : Nat → Nat} (hl : ∀ i, i < k → IsN (l i).1 (N i)) :
    (ChainP k N (fun i => (l i).2) → prime_Check k l = some 0) ∧ (¬ ChainP k N (fun i => (l i).2) → prime_Check k l = some 4) := by
  suffices h : ∃ b : Bool, prime_Check k l = some (if b then 0 else 4) ∧ (b = true ↔ ChainP k N (fun i => (l i).2)) by
    obtain ⟨b, h1, h2⟩ := h
    rw [h1]
    constructor
    · intro h; rw [h2.2 h]; rfl
    · intro h
      cases b
      · rfl
      · exact absurd (h2.1 rfl) h
  rw [prime_Check_eq]; unfold prime_Check'
  by_cases h1 : k < 1
  · refine ⟨false, ?_, by simp only [Bool.false_eq_true, false_iff]; exact fun h => by have := h.1; omega⟩
    simp (disch := omega) only [WW]; rfl
  · by_cases h2 : 8 < k
    · refine ⟨false, ?_, by simp only [Bool.false_eq_true, false_iff]; exact fun h => by have := h.2.1; omega⟩
      simp (disch := omega) only [WW]; rfl
    · have h0 := hl 0 (by omega)
      by_cases h3 : N 0 < 9223372036854775808
      · obtain ⟨b, hb1, hb2⟩ := prime_Small_spec ((N 0 : Nat) : Int)
        rw [Int.toNat_natCast] at hb2
        cases b with
        | false =>
          refine ⟨false, ?_, by simp only [Bool.false_eq_true, false_iff]; exact fun h => absurd (hb2.2 ⟨by have := h.2.2.1; omega, by have := h.2.2.2.1; omega, h.2.2.2.2.1⟩) (by decide)⟩
          simp (disch := omega) only [WW, nat_Int_spec h0, if_pos h3, hb1]; rfl
        | true =>
          have hb3 := hb2.1 rfl
          by_cases h4 : (l 0).2 = 0
          · simp (disch := omega) only [WW, nat_Int_spec h0, if_pos h3, hb1]
            generalize ho : loopF R_prime_Check_0 _ = o
            have L : ∃ y, loopF R_prime_Check_0 (T_prime_Check_0 k l ((1 + 0 : Nat) : Int)) = some y ∧ ((y = Y_prime_Check_0_0 4 ∧ ¬ ChainP k N (fun i => (l i).2)) ∨ (y = Y_prime_Check_0_1 ∧ ChainP k N (fun i => (l i).2))) :=
              loop_seek (R := R_prime_Check_0) (S := Unit) (fun i _ => T_prime_Check_0 k l ((1 + i : Nat) : Int)) (fun i _ => ∀ j, j < i → StepP (N (j + 1)) (N j) ((l (j + 1)).2))
                (fun y => (y = Y_prime_Check_0_0 4 ∧ ¬ ChainP k N (fun i => (l i).2)) ∨ (y = Y_prime_Check_0_1 ∧ ChainP k N (fun i => (l i).2))) (k - 1)
                (fun i hi _ hP => by
                  have hs := prime_Step_spec (hl (1 + i) (by omega)) (hl i (by omega)) (l (1 + i)).2
                  by_cases hst : StepP (N (1 + i)) (N i) (l (1 + i)).2
                  · left
                    refine ⟨(), ?_, fun j hj => ?_⟩
                    · unfold R_prime_Check_0
                      simp (disch := first | omega | assumption) only [CC, WW, Nat.add_sub_cancel_left, hs, Nat.add_assoc]
                    · by_cases e : j = i
                      · subst e; rw [Nat.add_comm j 1]; exact hst
                      · exact hP j (by omega)
                  · right
                    refine ⟨_, ?_, .inl ⟨rfl, fun h => hst ?_⟩⟩
                    · unfold R_prime_Check_0
                      simp (disch := first | omega | assumption) only [CC, WW, Nat.add_sub_cancel_left, hs]
                    · have := h.2.2.2.2.2.2 i (by omega)
                      rw [Nat.add_comm 1 i]; exact this)
                (fun _ hP => by
                  refine ⟨_, ?_, .inr ⟨rfl, by omega, by omega, by omega, by omega, hb3.2.2, h4, fun i hi => hP i (by omega)⟩⟩
                  unfold R_prime_Check_0
                  simp (disch := omega) only [CC, WW]) () (fun j hj => by omega)
            obtain ⟨y, hy, hQ⟩ := L
            obtain rfl := ho.symm.trans hy
            rcases hQ with ⟨rfl, hQ⟩ | ⟨rfl, hQ⟩
            · exact ⟨false, rfl, by simp [hQ]⟩
            · exact ⟨true, rfl, by simp [hQ]⟩
          · refine ⟨false, ?_, by simp only [Bool.false_eq_true, false_iff]; exact fun h => h4 h.2.2.2.2.2.1⟩
            simp (disch := omega) only [WW, nat_Int_spec h0, if_pos h3, hb1]; rfl
      · refine ⟨false, ?_, by simp only [Bool.false_eq_true, false_iff]; exact fun h => by have := h.2.2.2.1; omega⟩
        simp (disch := omega) only [WW, nat_Int_spec h0, if_neg h3]; rfl
end Go.Pl

namespace Go.Pl
open Go Go.Den Go.Num
end Go.Pl

namespace Go.Pl
open Go Go.Den Go.Num
theorem isRf_fz {α : Type} (x : α) : PtrV.isRf (.fz x) = false := rfl
theorem isNil_fz {α : Type} (x : α) : PtrV.isNil (.fz x) = false := rfl
theorem val_fz {α : Type} (d x : α) : PtrV.val d (.fz x) = x := rfl
abbrev GroupT := (PtrV RingT × PtrV RingT) × (Nat → Int)
structure IsGroup (g : GroupT) (P Q G : Nat) : Prop where
  rings : ∃ r f, g.1 = (.fz r, .fz f) ∧ IsRing r P ∧ IsRing f Q
  gen : IsN g.2 G
  pp : Pr P
  pq : Pr Q
  big : 512 ≤ Q
  g1 : 1 < G
  gP : G < P
  order : G ^ Q % P = 1
def GroupP (k : Nat) (N : Nat → Nat) (A : Nat → Int) (G : Nat) : Prop := 2 ≤ k ∧ ChainP k N A ∧ 512 ≤ N (k - 2) ∧ 1 < G ∧ G < N (k - 1) ∧ G ^ N (k - 2) % N (k - 1) = 1
theorem blen_lt10 {n : Nat} : blen n < 10 ↔ n < 512 := by
  constructor
  · intro h
    have h1 := lt_blen n
    have : 2 ^ blen n ≤ 2 ^ 9 := Nat.pow_le_pow_right (by decide) (by omega)
    omega
  · intro h
    have := blen_le (n := n) (L := 9) h
    omega
theorem group_New_spec {k : Nat} {l : Nat → (Nat → Int) × Int} {ga : Nat → Int} {N : Nat → Nat} {G : Nat} (hl : ∀ i, i < k → IsN (l i).1 (N i)) (hg : IsN ga G) :
    (GroupP k N (fun i => (l i).2) G → ∃ g, group_New ((k, l), ga) = some (some g, 0) ∧ IsGroup g (N (k - 1)) (N (k - 2)) G ∧ g.2 = ga) ∧ (¬ GroupP k N (fun i => (l i).2) G → group_New ((k, l), ga) = some (none, 4)) := by
  rw [group_New_eq]; unfold group_New'
  by_cases h1 : k < 2
  · refine ⟨fun h => by have := h.1; omega, fun _ => ?_⟩
    simp (disch := omega) only [WW]
  · by_cases h2 : ChainP k N (fun i => (l i).2)
    · have hk8 := h2.2.1
      have hp := h2.prime (k - 1) (by omega)
      have hq := h2.prime (k - 2) (by omega)
      have hPN := hl (k - 1) (by omega)
      have hQN := hl (k - 2) (by omega)
      have hst := h2.2.2.2.2.2.2 (k - 2) (by omega)
      rw [show k - 2 + 1 = k - 1 by omega] at hst
      obtain ⟨r, r1, hr, _⟩ := (mont_New_spec hPN).2 hst.1 hst.2.1
      have hc := (prime_Check_spec hl).1 h2
      generalize hP : N (k - 1) = P at *
      generalize hQ : N (k - 2) = Q at *
      have no : ∀ {p : Prop}, (GroupP k N (fun i => (l i).2) G → p) → ¬ p → ¬ GroupP k N (fun i => (l i).2) G := fun h1 h2 h3 => h2 (h1 h3)
      obtain ⟨o, o1, o2⟩ := nat_Of_spec (n := 1) (by decide)
      have o2' : IsN o 1 := o2
      by_cases h3 : Q < 512
      · -- too few bits
        have hb := blen_lt10.2 h3
        refine ⟨fun h => by have := h.2.2.1; omega, fun _ => ?_⟩
        by_cases hodd : Q % 2 = 1
        · obtain ⟨f, f1, hf, _⟩ := (mont_New_spec hQN).2 hodd (by have := hq.1; omega)
          simp (disch := omega) only [CC, WW, hc, r1, f1, nat_Len_spec hQN]
        · have f1 := (mont_New_spec hQN).1 (.inl (by omega))
          simp (disch := omega) only [CC, WW, hc, r1, f1]
      · have hb : ¬ blen Q < 10 := fun h => h3 (blen_lt10.1 h)
        have hodd : Q % 2 = 1 := by
          have := hq.tried 2 (by decide) (by omega)
          omega
        obtain ⟨f, f1, hf, _⟩ := (mont_New_spec hQN).2 hodd (by omega)
        by_cases h4 : G = 0
        · subst h4
          refine ⟨fun h => by have := h.2.2.2.1; omega, fun _ => ?_⟩
          simp (disch := omega) only [CC, WW, hc, r1, f1, nat_Len_spec hQN, hg.isZero]
        · by_cases h5 : G = 1
          · subst h5
            refine ⟨fun h => by have := h.2.2.2.1; omega, fun _ => ?_⟩
            simp (disch := omega) only [CC, WW, hc, r1, f1, nat_Len_spec hQN, hg.isZero, o1, hg.eqb o2']
          · by_cases h6 : G < P
            · obtain ⟨z, z1, z2⟩ := mont_Exp_spec hr hg hQN
              by_cases h7 : G ^ Q % P = 1
              · refine ⟨fun _ => ?_, fun h => absurd ⟨by omega, h2, by rw [hQ]; omega, by omega, by rw [hP]; exact h6, by rw [hP, hQ]; exact h7⟩ h⟩
                simp (disch := first | omega | assumption) only [CC, WW, hc, r1, f1, nat_Len_spec hQN, hg.isZero, o1, hg.eqb o2', mont_In_spec hr hg, z1, z2.eqb o2']
                exact ⟨_, rfl, ⟨⟨r, f, rfl, hr, hf⟩, hg, hp, hq, by omega, by omega, h6, h7⟩, rfl⟩
              · refine ⟨fun h => absurd (by have := h.2.2.2.2.2; rw [hP, hQ] at this; exact this) h7, fun _ => ?_⟩
                simp (disch := first | omega | assumption) only [CC, WW, hc, r1, f1, nat_Len_spec hQN, hg.isZero, o1, hg.eqb o2', mont_In_spec hr hg, z1, z2.eqb o2']
            · refine ⟨fun h => absurd (by have := h.2.2.2.2.1; rw [hP] at this; exact this) h6, fun _ => ?_⟩
              simp (disch := first | omega | assumption) only [CC, WW, hc, r1, f1, nat_Len_spec hQN, hg.isZero, o1, hg.eqb o2', mont_In_spec hr hg]
    · refine ⟨fun h => absurd h.2.1 h2, fun _ => ?_⟩
      simp (disch := omega) only [CC, WW, (prime_Check_spec hl).2 h2]
section
variable {g : GroupT} {P Q G : Nat}
theorem group_Field_spec (h : IsGroup g P Q G) : ∃ r, group_Group_Field (some g) = some (some r) ∧ IsRing r Q := by
  rw [group_Group_Field_eq]; unfold group_Group_Field'
  obtain ⟨r, f, e, hr, hf⟩ := h.rings
  simp only [e, isRf_fz, isNil_fz, val_fz, WW]
  exact ⟨f, rfl, hf⟩
end
theorem StepP.by_pm {n f w : Nat} (h1 : n % 2 = 1) (h2 : n ≠ 1) (h3 : 2 ≤ w) (h4 : w < 65536) (h5 : f ≠ 0) (h6 : (n - 1) % f = 0) (h7 : n < f * f) (hn : n < 2 ^ 256) (hf : f < 2 ^ 256) (h8 : pm n 256 (pm n 256 w ((n - 1) / f)) f = 1) (h9 : Nat.gcd (pm n 256 w ((n - 1) / f) + (n - 1)) n = 1) : StepP n f (w : Int) := by
  have e1 : (n - 1) / f < 2 ^ 256 := Nat.lt_of_le_of_lt (Nat.div_le_self _ _) (by omega)
  rw [pm_eq n 256 w _ e1] at h8 h9
  rw [pm_eq n 256 _ _ hf] at h8
  exact ⟨h1, h2, by omega, by omega, h5, h6, h7, h8, h9⟩
end Go.Pl

namespace Go.Pl
open Go Go.Den Go.Num
theorem prime_tries {n r : Nat} (hn : 2 ≤ n) (hr : n < (r + 1) * (r + 1)) (h : ∀ d, d < r + 1 → 2 ≤ d → n % d ≠ 0) : Pr n :=
  prime_of_tried hn fun d h2 hd => h d (by
    apply Classical.byContradiction
    intro hc
    have : (r + 1) * (r + 1) ≤ d * d := Nat.mul_le_mul (by omega) (by omega)
    omega) h2
abbrev ChainT := Nat → (Nat → Int) × Int
def leastN : Nat → Nat
  | 0 => 65521
  | 1 => 1966023127
  | _ => 1055500680322183127
def leastL : ChainT := fun j => (upd (upd (upd (fun _ => ((fun _ => 0), 0)) 0 ((upd (fun _ => 0) 0 65521), 0)) 1 ((upd (fun _ => 0) 0 1966023127), 2)) 2 ((upd (fun _ => 0) 0 1055500680322183127), 2)) (0 + j)
def leastG : Nat → Int := (upd (fun _ => 0) 0 316543771439780984)
theorem leastL_n : ∀ i, i < 3 → IsN (leastL i).1 (leastN i) := fun i hi => by
  match i, hi with
  | 0, _ => exact IsN.of_eq (IsN.mk (a := (leastL 0).1) (x0 := 65521) (x1 := 0) (x2 := 0) (x3 := 0) rfl rfl rfl rfl (by decide) (by decide) (by decide) (by decide)) (by decide)
  | 1, _ => exact IsN.of_eq (IsN.mk (a := (leastL 1).1) (x0 := 1966023127) (x1 := 0) (x2 := 0) (x3 := 0) rfl rfl rfl rfl (by decide) (by decide) (by decide) (by decide)) (by decide)
  | 2, _ => exact IsN.of_eq (IsN.mk (a := (leastL 2).1) (x0 := 1055500680322183127) (x1 := 0) (x2 := 0) (x3 := 0) rfl rfl rfl rfl (by decide) (by decide) (by decide) (by decide)) (by decide)
theorem leastG_n : IsN leastG 316543771439780984 := IsN.of_eq (IsN.mk (a := leastG) (x0 := 316543771439780984) (x1 := 0) (x2 := 0) (x3 := 0) rfl rfl rfl rfl (by decide) (by decide) (by decide) (by decide)) (by decide)
theorem least_first : Pr 65521 := prime_tries (r := 255) (by decide) (by decide) (by decide +kernel)
theorem least_step1 : StepP 1966023127 65521 ((2 : Nat) : Int) := StepP.by_pm (by decide) (by decide) (by decide) (by decide) (by decide) (by decide) (by decide) (by decide) (by decide) (by decide +kernel) (by decide +kernel)
theorem least_step2 : StepP 1055500680322183127 1966023127 ((2 : Nat) : Int) := StepP.by_pm (by decide) (by decide) (by decide) (by decide) (by decide) (by decide) (by decide) (by decide) (by decide) (by decide +kernel) (by decide +kernel)
theorem least_pow (b e m : Nat) (hb : b = 316543771439780984) (he : e = 1966023127) (hm : m = 1055500680322183127) : b ^ e % m = 1 := by
  rw [← pm_eq m 256 b e (by subst he; decide)]
  subst hb he hm
  decide +kernel
theorem least_group : GroupP 3 leastN (fun i => (leastL i).2) 316543771439780984 := by
  refine ⟨by decide, ⟨by decide, by decide, by decide, by decide, least_first, rfl, fun i hi => ?_⟩, by decide, by decide, by decide, least_pow _ _ _ rfl rfl rfl⟩
  match i, hi with
  | 0, _ => exact least_step1
  | 1, _ => exact least_step2
theorem r07_Least_eq2 : r07_Least = some ((3, leastL), leastG) := by
  rw [r07_Least_eq]; rfl
theorem least_new : ∃ g, group_New ((3, leastL), leastG) = some (some g, 0) ∧ IsGroup g 1055500680322183127 1966023127 316543771439780984 ∧ g.2 = leastG := (group_New_spec leastL_n leastG_n).1 least_group
end Go.Pl

namespace Go.Pl
open Go Go.Den Go.Num
section
variable {g : GroupT} {P Q G : Nat} {a b : Nat → Int} {x y : Nat}
end
end Go.Pl

namespace Go.Pl
open Go Go.Den Go.Num
section
variable {P Q G : Nat}
end
end Go.Pl

namespace Go.Pl
open Go Go.Den Go.Num
structure IsPick (k : Nat) (l : ChainT) (ga : Nat → Int) (g : GroupT) (P Q G : Nat) : Prop where
  made : group_New ((k, l), ga) = some (some g, 0)
  group : IsGroup g P Q G
  k2 : 2 ≤ k
  k8 : k ≤ 8
  p : IsN (l (k - 1)).1 P
  q : IsN (l (k - 2)).1 Q
  gen : IsN ga G
  gen2 : g.2 = ga
theorem least_pick : ∃ g, IsPick 3 leastL leastG g 1055500680322183127 1966023127 316543771439780984 := by
  obtain ⟨g, g1, g2, g3⟩ := least_new
  exact ⟨g, g1, g2, by decide, by decide, leastL_n 2 (by decide), leastL_n 1 (by decide), leastG_n, g3⟩
end Go.Pl

namespace Go.Pl
open Go Go.Den Go.Num
def NoGroup (g : Option GroupT) : Prop := g = none ∨ ∃ a, g = some ((.nil, .nil), a)
theorem NoGroup.Ring {g : Option GroupT} (h : NoGroup g) : group_Group_Ring g = some none := by
  rw [group_Group_Ring_eq]; unfold group_Group_Ring'
  rcases h with rfl | ⟨a, rfl⟩ <;> rfl
theorem NoGroup.Field {g : Option GroupT} (h : NoGroup g) : group_Group_Field g = some none := by
  rw [group_Group_Field_eq]; unfold group_Group_Field'
  rcases h with rfl | ⟨a, rfl⟩ <;> rfl
theorem noRing_none : NoRing none := .inl rfl
theorem NoGroup.P {g : Option GroupT} (h : NoGroup g) : group_Group_P g = some fun _ => 0 := by
  rw [group_Group_P_eq]; unfold group_Group_P'
  rcases g with _ | g <;> simp only [h.Ring, noRing_none.M]
theorem NoGroup.Q {g : Option GroupT} (h : NoGroup g) : group_Group_Q g = some fun _ => 0 := by
  rw [group_Group_Q_eq]; unfold group_Group_Q'
  rcases g with _ | g <;> simp only [h.Field, noRing_none.M]
end Go.Pl
