/-
 What the layer computes.
-/
import Derived.Test.YtkhhonbkgckjjaaGreatMF
import Derived.Test.YtkhhonbkgckjjaaGreatMD
import Derived.Test.YtkhhonbkgckjjaaGreatMC
import Derived.Test.YtkhhonbkgckjjaaGreatPseek
import Derived.Test.YtkhhonbkgckjjaaGreatPr37
set_option linter.unusedVariables false
set_option linter.unusedSimpArgs false
set_option maxRecDepth 4000
namespace Go.Pl
open Go Go.Den Go.Num
theorem prime_65521' : Pr 65521 := prime_tries (r := 255) (by decide) (by decide) (by decide +kernel)
theorem seek_First_spec {a : Nat} (ha : a ≤ 65521) : ∃ n : Nat, seek_First (a : Int) = some ((n : Int), 0) ∧ a ≤ n ∧ n < 65536 ∧ Pr n ∧ ∀ k, a ≤ k → k < n → ¬ Pr k := by
 have hfound : ∀ m : Nat, a ≤ m → m < 65536 → Pr m → R_seek_First_0 (T_seek_First_0 (m : Int)) = some (.inr (Y_seek_First_0_0 (m : Int) 0)) := by
  intro m h1 h2 h3
  obtain ⟨b, hb, hb2⟩ := prime_Small_spec (m : Int)
  have : b = true := hb2.2 ⟨by have := h3.1; omega, by omega, by rw [Int.toNat_natCast]; exact h3⟩
  subst this
  simp (disch := omega) only [R_seek_First_0, T_seek_First_0, WW, hb]
 obtain ⟨y, h1, n, rfl, h2⟩ := loop_seek (R := R_seek_First_0) (S := Unit) (fun k _ => T_seek_First_0 ((a + k : Nat) : Int)) (fun k _ => ∀ j, a ≤ j → j < a + k → ¬ Pr j)
  (fun y => ∃ n : Nat, y = Y_seek_First_0_0 (n : Int) 0 ∧ a ≤ n ∧ n < 65536 ∧ Pr n ∧ ∀ k, a ≤ k → k < n → ¬ Pr k) (65521 - a)
  (fun k hk _ hP => by
   obtain ⟨b, hb, hb2⟩ := prime_Small_spec ((a + k : Nat) : Int)
   by_cases hp : Pr (a + k)
   ·exact .inr ⟨_, hfound (a + k) (by omega) (by omega) hp, a + k, rfl, by omega, by omega, hp, hP⟩
   ·have : b = false := by
     cases hbb : b
     ·rfl
     ·have := (hb2.1 hbb).2.2
      rw [Int.toNat_natCast] at this
      exact absurd this hp
    subst this
    refine .inl ⟨(), ?_, ?_⟩
    ·simp (disch := omega) only [R_seek_First_0, T_seek_First_0, WW, CC, hb]
     rfl
    ·intro j h1 h2
     by_cases hj : j = a + k
     ·rw [hj]; exact hp
     ·exact hP j h1 (by omega))
  (fun _ hP => by
   have e : a + (65521 - a) = 65521 := by omega
   exact ⟨_, hfound (a + (65521 - a)) (by omega) (by omega) (by rw [e]; exact prime_65521'), a + (65521 - a), rfl, by omega, by omega, by rw [e]; exact prime_65521', hP⟩)
  () (fun j h1 h2 => by omega)
 refine ⟨n, ?_, h2⟩
 have h1' : loopF R_seek_First_0 (((a : Int), ()), ()) = some (Y_seek_First_0_0 (n : Int) 0) := h1
 rw [seek_First_eq, seek_First', h1']
theorem nat_Of_l (n : Nat) (hn : (OfNat.ofNat n : Nat) < 9223372036854775808) : ∃ a, nat_Of (no_index (OfNat.ofNat n : Int)) = some a ∧ IsN a (OfNat.ofNat n) := by
 obtain ⟨a, h1, h2⟩ := nat_Of_spec (n := ((OfNat.ofNat n : Nat) : Int)) (by omega)
 exact ⟨a, h1, h2⟩
theorem seek_above_spec {k f : Nat → Int} {K F : Nat} (hk : IsN k K) (hf : IsN f F) (h : K * F + 1 < 2 ^ 256) : ∃ r, seek_above k f = some r ∧ IsN r (K * F + 1) := by
 obtain ⟨lo, hi, h1, h2, h3⟩ := wide_Mul_spec hk hf
 obtain ⟨o, o1, o2⟩ : ∃ o, nat_Of 1 = some o ∧ IsN o 1 := nat_Of_l 1 (by decide)
 obtain ⟨s, s1, s2⟩ := nat_Add_spec h2 o2
 refine ⟨s, by rw [seek_above_eq, seek_above', h1, o1]; simp only [s1], s2.of_eq ?_⟩
 rw [Nat.mod_eq_of_lt (by omega), Nat.mod_eq_of_lt (by omega)]
theorem seek_even_spec {a : Nat → Int} {A : Nat} (ha : IsN a A) : ∃ r, seek_even a = some r ∧ IsN r (A - A % 2) := by
 obtain ⟨d, d1, d2⟩ := nat_Down_spec ha 1
 obtain ⟨u, u1, u2⟩ := nat_Up_spec d2 1
 refine ⟨u, by rw [seek_even_eq, seek_even', d1]; simp only [u1], u2.of_eq ?_⟩
 have e : (2 : Nat) ^ Int.toNat 1 = 2 := rfl
 rw [e, Nat.mod_eq_of_lt (by have := ha.1; omega)]
 omega
def leastK (F b : Nat) : Nat :=
 let e := 2 ^ (b - 1) / F
 if blen ((e - e % 2) * F + 1) < b then e - e % 2 + 2 else e - e % 2
structure LeastOk (F b K : Nat) : Prop where
 even : K % 2 = 0
 two : 2 ≤ K
 long : b ≤ blen (K * F + 1)
 le : K * F ≤ 2 ^ (b - 1) + 2 * F
theorem leastK_ok {F b : Nat} (hF : 0 < F) (hb : blen F + 2 ≤ b) : LeastOk F b (leastK F b) := by
 have hlt := lt_blen F
 have hp : 2 ^ blen F ≤ 2 ^ (b - 2) := Nat.pow_le_pow_right (by decide) (by omega)
 have hp2 : 2 ^ (b - 1) = 2 * 2 ^ (b - 2) := by rw [← Nat.pow_succ']; congr 1; omega
 have he2 : 2 ≤ 2 ^ (b - 1) / F := (Nat.le_div_iff_mul_le hF).2 (by omega)
 have hdm := Nat.div_add_mod (2 ^ (b - 1)) F
 have hml := Nat.mod_lt (2 ^ (b - 1)) hF
 generalize hE : 2 ^ (b - 1) / F = E at *
 have hEm : (E - E % 2) * F ≤ F * E := by rw [Nat.mul_comm F]; exact Nat.mul_le_mul_right _ (by omega)
 unfold leastK
 simp only [hE]
 split
 ·have h1 : F * E + F ≤ (E - E % 2 + 2) * F := by
   have : (E + 1) * F ≤ (E - E % 2 + 2) * F := Nat.mul_le_mul_right _ (by omega)
   rw [Nat.add_mul, Nat.mul_comm E F, Nat.one_mul] at this
   exact this
  refine ⟨by omega, by omega, ?_, ?_⟩
  ·apply Classical.byContradiction
   intro hc
   have h2 := lt_blen ((E - E % 2 + 2) * F + 1)
   have h3 : 2 ^ blen ((E - E % 2 + 2) * F + 1) ≤ 2 ^ (b - 1) := Nat.pow_le_pow_right (by decide) (by omega)
   omega
  ·rw [Nat.add_mul]; omega
 ·exact ⟨by omega, by omega, by omega, by omega⟩
theorem seek_least_spec {f : Nat → Int} {F b : Nat} (hf : IsN f F) (hF : 0 < F) (hb : blen F + 2 ≤ b) (hb2 : b ≤ 250) : ∃ r, seek_least f (b : Int) = some r ∧ IsN r (leastK F b) := by
 have hlt := lt_blen F
 have hp : 2 ^ blen F ≤ 2 ^ (b - 2) := Nat.pow_le_pow_right (by decide) (by omega)
 have hp2 : 2 ^ (b - 1) = 2 * 2 ^ (b - 2) := by rw [← Nat.pow_succ']; congr 1; omega
 have hp3 : 2 ^ (b - 2) ≤ 2 ^ 248 := Nat.pow_le_pow_right (by decide) (by omega)
 have he2 : 2 ≤ 2 ^ (b - 1) / F := (Nat.le_div_iff_mul_le hF).2 (by omega)
 obtain ⟨o, o1, o2⟩ : ∃ o, nat_Of 1 = some o ∧ IsN o 1 := nat_Of_l 1 (by decide)
 obtain ⟨t, t1, t2⟩ : ∃ o, nat_Of 2 = some o ∧ IsN o 2 := nat_Of_l 2 (by decide)
 obtain ⟨u, u1, u2⟩ := nat_Up_spec o2 ((b - 1 : Nat) : Int)
 have u2' : IsN u (2 ^ (b - 1)) := u2.of_eq (by rw [Int.toNat_natCast]; show 1 * _ % _ = _; rw [Nat.one_mul, Nat.mod_eq_of_lt (by omega)])
 obtain ⟨q, r, d1, d2, d3⟩ := wide_Div_spec u2' hf hF
 obtain ⟨e, e1, e2⟩ := seek_even_spec d2
 have hdm := Nat.div_add_mod (2 ^ (b - 1)) F
 have hml := Nat.mod_lt (2 ^ (b - 1)) hF
 have hz := e2.isZero
 generalize hE : 2 ^ (b - 1) / F = E at *
 have hEm : (E - E % 2) * F ≤ F * E := by rw [Nat.mul_comm F]; exact Nat.mul_le_mul_right _ (by omega)
 have hw : IntKind.i64.wrap ((b : Int) - 1) = ((b - 1 : Nat) : Int) := by rw [wrap_i64 (by omega)]; omega
 have hok := leastK_ok hF hb
 have exit : ∀ {k : Nat → Int} {K : Nat}, IsN k K → K * F + 1 < 2 ^ 256 → b ≤ blen (K * F + 1) → R_seek_least_0 (T_seek_least_0 (b : Int) f (fun _ => 0) k) = some (.inr (Y_seek_least_0_0 (fun _ => 0) k)) := by
  intro k K hk h1 h2
  obtain ⟨a, a1, a2⟩ := seek_above_spec hk hf h1
  simp (disch := omega) only [R_seek_least_0, T_seek_least_0, a1, nat_Len_spec a2, WW]
 have next : ∀ {k : Nat → Int} {K : Nat}, IsN k K → K * F + 1 < 2 ^ 256 → K + 2 < 2 ^ 256 → blen (K * F + 1) < b → ∃ k', R_seek_least_0 (T_seek_least_0 (b : Int) f (fun _ => 0) k) = some (.inl (T_seek_least_0 (b : Int) f (fun _ => 0) k')) ∧ IsN k' (K + 2) := by
  intro k K hk h1 h3 h2
  obtain ⟨a, a1, a2⟩ := seek_above_spec hk hf h1
  obtain ⟨s, s1, s2⟩ := nat_Add_spec hk t2
  refine ⟨s, ?_, s2.of_eq (Nat.mod_eq_of_lt h3)⟩
  simp (disch := omega) only [R_seek_least_0, T_seek_least_0, a1, nat_Len_spec a2, WW, t1, s1]
 have hle : (E - E % 2) ≤ (E - E % 2) * F := Nat.le_mul_of_pos_right _ hF
 have L : ∃ k, loopF R_seek_least_0 (((b : Int), ((), ((), ((), ())))), (f, ((fun _ => 0), (e, ())))) = some (Y_seek_least_0_0 (fun _ => 0) k) ∧ IsN k (leastK F b) := by
  unfold leastK at hok ⊢
  simp only [hE] at hok ⊢
  by_cases hc : blen ((E - E % 2) * F + 1) < b
  ·rw [if_pos hc] at hok ⊢
   obtain ⟨k', k1, k2⟩ := next e2 (by omega) (by omega) hc
   refine ⟨k', (loopF_next k1).trans (loopF_exit (exit k2 ?_ hok.long)), k2⟩
   have := hok.le
   omega
  ·rw [if_neg hc]
   exact ⟨e, loopF_exit (exit e2 (by omega) (by omega)), e2⟩
 obtain ⟨k, k1, k2⟩ := L
 refine ⟨k, ?_, k2⟩
 rw [seek_least_eq, seek_least', o1]
 simp only [hw, u1, d1, e1, hz, decide_eq_false (show ¬ (E - E % 2 = 0) by omega), cond_false, k1]
def witL (N F : Nat) : Option Nat := ((List.range 99).map (· + 2)).find? fun a => decide (StepP N F (a : Int))
theorem witL_some {N F a : Nat} (h1 : 2 ≤ a) (h2 : a ≤ 100) (h3 : StepP N F a) (h4 : ∀ k : Nat, 2 ≤ k → k < a → ¬ StepP N F k) : witL N F = some a := by
 unfold witL
 rw [List.find?_eq_some_iff_append]
 refine ⟨decide_eq_true h3, (List.range (a - 2)).map (· + 2), (List.range' (a + 1) (100 - a)), ?_, ?_⟩
 ·apply List.ext_getElem
  ·simp; omega
  ·intro i h5 h6
   simp at h5
   by_cases hi : i < a - 2
   ·rw [List.getElem_append_left (by simpa using hi)]; simp
   ·by_cases hi2 : i = a - 2
    ·subst hi2
     rw [List.getElem_append_right (by simp)]
     simp; omega
    ·rw [List.getElem_append_right (by simp; omega)]
     simp only [List.length_map, List.length_range, List.getElem_map, List.getElem_range]
     rw [List.getElem_cons, dif_neg (by omega)]
     simp; omega
 ·intro x hx
  rw [List.mem_map] at hx
  obtain ⟨y, hy, rfl⟩ := hx
  rw [List.mem_range] at hy
  have := h4 (y + 2) (by omega) (by omega)
  simpa using this
theorem witL_none {N F : Nat} (h : ∀ k : Nat, 2 ≤ k → k ≤ 100 → ¬ StepP N F k) : witL N F = none := by
 unfold witL
 rw [List.find?_eq_none]
 intro x hx
 rw [List.mem_map] at hx
 obtain ⟨y, hy, rfl⟩ := hx
 rw [List.mem_range] at hy
 have := h (y + 2) (by omega) (by omega)
 simpa using this
theorem witL_of {N F a : Nat} (h : witL N F = some a) : 2 ≤ a ∧ a ≤ 100 ∧ StepP N F a := by
 unfold witL at h
 have h1 := List.find?_some h
 have h2 := List.mem_of_find?_eq_some h
 rw [List.mem_map] at h2
 obtain ⟨y, hy, rfl⟩ := h2
 rw [List.mem_range] at hy
 exact ⟨by omega, by omega, of_decide_eq_true h1⟩
theorem seek_witness_spec {n f : Nat → Int} {N F : Nat} (hn : IsN n N) (hf : IsN f F) (hF : Pr F) (hN : 3 ≤ N) (hodd : N % 2 = 1) :
  (∀ a, witL N F = some a → seek_witness n f = some ((a : Int), 0)) ∧ (witL N F = none → seek_witness n f = some (0, 3)) := by
 obtain ⟨r, r1, r2, _⟩ := (mont_New_spec hn).2 hodd (by omega)
 obtain ⟨o, o1, o2⟩ : ∃ o, nat_Of 1 = some o ∧ IsN o 1 := nat_Of_l 1 (by decide)
 obtain ⟨t, t1, t2⟩ : ∃ o, nat_Of 2 = some o ∧ IsN o 2 := nat_Of_l 2 (by decide)
 obtain ⟨s, s1, s2⟩ := nat_Sub_spec hn o2
 have s2' : IsN s (N - 1) := s2.of_eq (by have := hn.1; omega)
 obtain ⟨z, z1, z2⟩ := mont_Exp_spec r2 t2 s2'
 obtain ⟨w, e, w1, w2⟩ := prime_Witness_spec hn hf
 have hz : eqF (.arr 4 (.int .u64)) z o = decide (2 ^ (N - 1) % N = 1) := z2.eqb o2
 have key : seek_witness n f = if 2 ^ (N - 1) % N = 1 then some (w, e) else some (0, 3) := by
  rw [seek_witness_eq, seek_witness', r1]
  simp only [o1, s1, show ((0 : Int) != 0) = false from rfl, cond_false, t1, z1, hz, w1]
  by_cases hc : 2 ^ (N - 1) % N = 1
  ·simp only [decide_eq_true hc, Bool.not_true, cond_false, if_pos hc]
  ·simp only [decide_eq_false hc, Bool.not_false, cond_true, if_neg hc]
 have hferm : ∀ a : Int, StepP N F a → 2 ^ (N - 1) % N = 1 := by
  intro a ha
  have hp := ha.prime hF
  apply fermat_one hp
  intro hd
  have := Nat.le_of_dvd (by decide) hd
  omega
 rcases w2 with ⟨rfl, h1, h2, h3, h4⟩ | ⟨rfl, rfl, h4⟩
 ·obtain ⟨W, rfl⟩ : ∃ W : Nat, w = (W : Int) := ⟨w.toNat, by omega⟩
  have := witL_some (N := N) (F := F) (a := W) (by omega) (by omega) h3 (fun k h5 h6 => h4 k (by omega) (by omega))
  constructor
  ·intro a ha
   rw [this] at ha; cases ha
   rw [key, if_pos (hferm _ h3)]
  ·intro ha; rw [this] at ha; cases ha
 ·have := witL_none (N := N) (F := F) (fun k h5 h6 => h4 k (by omega) (by omega))
  constructor
  ·intro a ha; rw [this] at ha; cases ha
  ·intro _
   rw [key]; split <;> rfl
end Go.Pl

namespace Go.Pl
open Go Go.Den Go.Num
def searchN (F b : Nat) : Nat → Nat → Option (Nat × Nat)
 | 0, _ => none
 | r + 1, K => if b < blen (K * F + 1) then none else match witL (K * F + 1) F with
  | some a => some (K * F + 1, a)
  | none => searchN F b r (K + 2)
theorem searchN_succ (F b r K : Nat) : searchN F b (r + 1) K = if b < blen (K * F + 1) then none else match witL (K * F + 1) F with
  | some a => some (K * F + 1, a)
  | none => searchN F b r (K + 2) := rfl
theorem searchN_of {F b : Nat} : ∀ {r K N a : Nat}, searchN F b r K = some (N, a) → ∃ i, i < r ∧ N = (K + 2 * i) * F + 1 ∧ blen N ≤ b ∧ witL N F = some a := by
 intro r
 induction r with
 | zero => intro K N a h; cases h
 | succ r ih =>
  intro K N a h
  simp only [searchN] at h
  split at h
  ·cases h
  ·split at h
   ·cases h
    exact ⟨0, by omega, rfl, by omega, by assumption⟩
   ·obtain ⟨i, h1, h2, h3, h4⟩ := ih h
    exact ⟨i + 1, by omega, by rw [h2]; congr 2; omega, h3, h4⟩
theorem blen_mono {a b : Nat} (h : a ≤ b) : blen a ≤ blen b := blen_le (Nat.lt_of_le_of_lt h (lt_blen b))
def nextM (F b A : Nat) : Option (Nat × Nat) := searchN F b 1024 (leastK F b + (A - A % 2))
theorem nextM_of {F b A N a : Nat} (hF : Pr F) (hb : blen F + 2 ≤ b) (h : nextM F b A = some (N, a)) : Pr N ∧ blen N = b ∧ N % 2 = 1 ∧ (N - 1) % F = 0 ∧ StepP N F a ∧ 2 ≤ a ∧ a ≤ 100 := by
 obtain ⟨i, h1, h2, h3, h4⟩ := searchN_of h
 obtain ⟨w1, w2, w3⟩ := witL_of h4
 have hok := leastK_ok hF.pos hb
 have hge : leastK F b * F + 1 ≤ N := by
  rw [h2]
  have : leastK F b * F ≤ (leastK F b + (A - A % 2) + 2 * i) * F := Nat.mul_le_mul_right _ (by omega)
  omega
 have := blen_mono hge
 have hl := hok.long
 exact ⟨w3.prime hF, by omega, w3.1, w3.2.2.2.2.2.1, w3, w1, w2⟩
theorem seek_Next_spec {f a : Nat → Int} {F A b : Nat} (hf : IsN f F) (ha : IsN a A) (hF : Pr F) (hF3 : 3 ≤ F) (hA : A < 2 ^ 64) (hb : blen F + 2 ≤ b) (hb2 : b ≤ 2 * blen F - 2) (hb3 : b ≤ 64) :
  (nextM F b A = none → seek_Next f (b : Int) a = some (((fun _ => 0), 0), 3)) ∧
  ∀ N w, nextM F b A = some (N, w) → ∃ n, seek_Next f (b : Int) a = some ((n, (w : Int)), 0) ∧ IsN n N := by
 have hodd : F % 2 = 1 := by
  rcases Nat.mod_two_eq_zero_or_one F with h | h
  ·rcases hF.2 2 (Nat.dvd_of_mod_eq_zero h) with h2 | h2 <;> omega
  ·exact h
 have hlt := lt_blen F
 have hp : 2 ^ blen F ≤ 2 ^ 62 := Nat.pow_le_pow_right (by decide) (by omega)
 have hp1 : 2 ^ (b - 1) ≤ 2 ^ 63 := Nat.pow_le_pow_right (by decide) (by omega)
 have hok := leastK_ok hF.pos hb
 have hle := hok.le
 have hlk : leastK F b ≤ leastK F b * F := Nat.le_mul_of_pos_right _ hF.pos
 obtain ⟨l, l1, l2⟩ := seek_least_spec hf hF.pos hb (by omega)
 obtain ⟨e, e1, e2⟩ := seek_even_spec ha
 obtain ⟨s, s1, s2⟩ := nat_Add_spec l2 e2
 obtain ⟨t, t1, t2⟩ : ∃ o, nat_Of 2 = some o ∧ IsN o 2 := nat_Of_l 2 (by decide)
 have hK0 : leastK F b + (A - A % 2) < 2 ^ 66 := by omega
 have s2' : IsN s (leastK F b + (A - A % 2)) := s2.of_eq (Nat.mod_eq_of_lt (by omega))
 generalize hK : leastK F b + (A - A % 2) = K0 at *
 have hfl : blen A ≤ 64 := blen_le hA
 have hnm : nextM F b A = searchN F b 1024 K0 := by rw [nextM, hK]
 generalize hR : searchN F b 1024 K0 = R at *
 obtain ⟨y, y1, y2⟩ := loop_seek (R := R_seek_Next_0) (fun i (k : Nat → Int) => T_seek_Next_0 (b : Int) (i : Int) f ((fun _ => 0), 0) k ((fun _ => 0), 0))
  (fun i k => IsN k (K0 + 2 * i) ∧ searchN F b (1024 - i) (K0 + 2 * i) = R)
  (fun y => (R = none → y = Y_seek_Next_0_0 ((fun _ => 0), 0) ((fun _ => 0), 0)) ∧ ∀ N w, R = some (N, w) → ∃ n, y = Y_seek_Next_0_0 ((fun _ => 0), 0) (n, (w : Int)) ∧ IsN n N) 1024
  (fun i hi k hk => by
   obtain ⟨k1, k2⟩ := hk
   have hr : 1024 - i = (1024 - (i + 1)) + 1 := by omega
   rw [hr, searchN_succ] at k2
   have hKb : (K0 + 2 * i) * F < 2 ^ 67 * 2 ^ 62 := Nat.mul_lt_mul'' (by omega) (by omega)
   obtain ⟨n, n1, n2⟩ := seek_above_spec k1 hf (by omega)
   have hn3 : 3 ≤ (K0 + 2 * i) * F + 1 := by
    have : 2 * 1 ≤ (K0 + 2 * i) * F := Nat.mul_le_mul (by have := hok.two; omega) hF.pos
    omega
   have hev : (K0 + 2 * i) % 2 = 0 := by have := hok.even; omega
   have hnodd : ((K0 + 2 * i) * F + 1) % 2 = 1 := by
    have : (K0 + 2 * i) * F % 2 = 0 := by rw [Nat.mul_mod, hev, Nat.zero_mul]
    omega
   by_cases hc : b < blen ((K0 + 2 * i) * F + 1)
   ·rw [if_pos hc] at k2
    refine .inr ⟨Y_seek_Next_0_0 ((fun _ => 0), 0) ((fun _ => 0), 0), ?_, ⟨fun _ => rfl, fun N w h => (by rw [← k2] at h; cases h)⟩⟩
    simp (disch := omega) only [R_seek_Next_0, T_seek_Next_0, n1, nat_Len_spec n2, WW]
   ·rw [if_neg hc] at k2
    obtain ⟨w1, w2⟩ := seek_witness_spec n2 hf hF hn3 hnodd
    cases hw : witL ((K0 + 2 * i) * F + 1) F with
    | some w =>
     rw [hw] at k2
     simp only at k2
     refine .inr ⟨Y_seek_Next_0_0 ((fun _ => 0), 0) (n, (w : Int)), ?_, ⟨fun h => (by rw [← k2] at h; cases h), fun N w' h => (by rw [← k2] at h; cases h; exact ⟨n, rfl, n2⟩)⟩⟩
     simp (disch := omega) only [R_seek_Next_0, T_seek_Next_0, n1, nat_Len_spec n2, WW, w1 w hw]
    | none =>
     rw [hw] at k2
     simp only at k2
     obtain ⟨k', kk1, kk2⟩ := nat_Add_spec k1 t2
     refine .inl ⟨k', ?_, kk2.of_eq (by rw [Nat.mod_eq_of_lt (by omega)]; omega), k2⟩
     simp (disch := omega) only [R_seek_Next_0, T_seek_Next_0, n1, nat_Len_spec n2, WW, w2 hw, t1, kk1, CC])
  (fun k hk => by
   obtain ⟨k1, k2⟩ := hk
   rw [Nat.sub_self] at k2
   refine ⟨Y_seek_Next_0_0 ((fun _ => 0), 0) ((fun _ => 0), 0), ?_, ⟨fun _ => rfl, fun N w h => (by rw [← k2] at h; cases h)⟩⟩
   simp (disch := omega) only [R_seek_Next_0, T_seek_Next_0, WW])
  s ⟨s2', hR⟩
 have y1' : loopF R_seek_Next_0 (((b : Int), ((), ((), ((), ((), (0, ())))))), (f, (((fun _ => 0), 0), (s, (((fun _ => 0), 0), ()))))) = some y := y1
 have hl2 : 2 ≤ blen F := by omega
 have red : seek_Next f (b : Int) a = match some y with
   | none => none
   | some y => bif y.2.2.1.2 == 0 then some (((fun _ => 0), 0), 3) else some (y.2.2.1, 0) := by
  rw [seek_Next_eq, seek_Next', nat_Len_spec hf]
  simp only [hf.lowbit, hodd]
  simp (disch := omega) only [WW, CC, nat_Len_spec ha, l1, e1, s1, y1']
 rw [hnm, red]
 constructor
 ·intro h
  rw [y2.1 h]; rfl
 ·intro N w h
  obtain ⟨n, rfl, n2⟩ := y2.2 N w h
  obtain ⟨i, _, _, _, h4⟩ := searchN_of (hR.trans h)
  obtain ⟨w1, w2, w3⟩ := witL_of h4
  refine ⟨n, ?_, n2⟩
  simp (disch := omega) only [Y_seek_Next_0_0, WW]
def spawnN (P E : Nat) : Nat → Nat → Option Nat
 | 0, _ => none
 | r + 1, h => if h ^ E % P = 1 then spawnN P E r (h + 1) else some (h ^ E % P)
theorem spawnN_succ (P E r h : Nat) : spawnN P E (r + 1) h = if h ^ E % P = 1 then spawnN P E r (h + 1) else some (h ^ E % P) := rfl
theorem seek_Spawn_spec {p q : Nat → Int} {P Q : Nat} (hp : IsN p P) (hq : IsN q Q) (hodd : P % 2 = 1) (h5 : 5 ≤ P) (hQ : 0 < Q) (hd : (P - 1) % Q = 0) :
  (spawnN P ((P - 1) / Q) 99 2 = none → seek_Spawn p q = some ((fun _ => 0), 3)) ∧
  ∀ g, spawnN P ((P - 1) / Q) 99 2 = some g → ∃ x, seek_Spawn p q = some (x, 0) ∧ IsN x g := by
 obtain ⟨r, r1, r2, _⟩ := (mont_New_spec hp).2 hodd (by omega)
 obtain ⟨o, o1, o2⟩ : ∃ o, nat_Of 1 = some o ∧ IsN o 1 := nat_Of_l 1 (by decide)
 obtain ⟨f, f1, f2⟩ : ∃ o, nat_Of 5 = some o ∧ IsN o 5 := nat_Of_l 5 (by decide)
 obtain ⟨s, s1, s2⟩ := nat_Sub_spec hp o2
 have s2' : IsN s (P - 1) := s2.of_eq (by have := hp.1; omega)
 obtain ⟨e, l, d1, d2, d3⟩ := wide_Div_spec s2' hq hQ
 rw [hd] at d3
 have hc : cmpI P 5 = 0 ∨ cmpI P 5 = 1 := by
  unfold cmpI
  split
  ·omega
  ·split <;> simp
 generalize hE : (P - 1) / Q = E at *
 generalize hR : spawnN P E 99 2 = R
 obtain ⟨y, y1, y2⟩ := loop_seek (R := R_seek_Spawn_0) (S := Unit) (fun i _ => T_seek_Spawn_0 r ((2 + i : Nat) : Int) (fun _ => 0) e)
  (fun i _ => spawnN P E (99 - i) (2 + i) = R)
  (fun y => (R = none → y = Y_seek_Spawn_0_1 (fun _ => 0)) ∧ ∀ g, R = some g → ∃ x, y = Y_seek_Spawn_0_0 0 x ∧ IsN x g) 99
  (fun i hi _ hk => by
   have hr : 99 - i = (99 - (i + 1)) + 1 := by omega
   rw [hr, spawnN_succ] at hk
   obtain ⟨h, h1, h2⟩ := nat_Of_spec (n := ((2 + i : Nat) : Int)) (by omega)
   rw [Int.toNat_natCast] at h2
   obtain ⟨z, z1, z2⟩ := mont_Exp_spec r2 h2 d2
   have hz := z2.eqb o2
   by_cases hc : (2 + i) ^ E % P = 1
   ·rw [if_pos hc] at hk
    refine .inl ⟨(), ?_, hk⟩
    simp (disch := omega) only [R_seek_Spawn_0, T_seek_Spawn_0, h1, z1, o1, hz, decide_eq_true hc, WW, CC]
    rfl
   ·rw [if_neg hc] at hk
    refine .inr ⟨Y_seek_Spawn_0_0 0 z, ?_, ⟨fun h => (by rw [← hk] at h; cases h), fun g h => (by rw [← hk] at h; cases h; exact ⟨z, rfl, z2⟩)⟩⟩
    simp (disch := omega) only [R_seek_Spawn_0, T_seek_Spawn_0, h1, z1, o1, hz, decide_eq_false hc, WW, CC])
  (fun _ hk => by
   rw [Nat.sub_self] at hk
   refine ⟨Y_seek_Spawn_0_1 (fun _ => 0), ?_, ⟨fun _ => rfl, fun g h => (by rw [← hk] at h; cases h)⟩⟩
   simp (disch := omega) only [R_seek_Spawn_0, T_seek_Spawn_0, WW])
  () hR
 have y1' : loopF R_seek_Spawn_0 (((), (r, ((), (2, ())))), ((fun _ => 0), (e, ()))) = some y := y1
 have hz0 := d3.isZero
 have red : seek_Spawn p q = match y with
   | .inl y1 => some (y1.2.1, y1.1.2.1)
   | .inr _ => some ((fun _ => 0), 3) := by
  rw [seek_Spawn_eq, seek_Spawn', r1]
  have hlt : decide (cmpI P 5 < 0) = false := decide_eq_false (by omega)
  simp only [show ((0 : Int) != 0) = false from rfl, cond_false, f1, nat_Cmp_spec hp f2, hlt, o1, s1, d1, hz0, decide_true, Bool.not_true, y1']
  cases y <;> rfl
 rw [red]
 constructor
 ·intro h; have e1 := y2.1 h; subst e1; rfl
 ·intro g h
  obtain ⟨x, rfl, hx⟩ := y2.2 g h
  exact ⟨x, rfl, hx⟩
end Go.Pl

namespace Go.Pl
open Go Go.Den Go.Num
def numN (s : SrcT) (n : Nat) (b : Int) : Nat := if b < 1 then 0 else numB (bl (tellN s n)) % 2 ^ (min b.toNat 60)
theorem numN_lt (s : SrcT) (n : Nat) (b : Int) : numN s n b < 2 ^ 60 := by
 unfold numN
 split
 ·decide
 ·exact Nat.lt_of_lt_of_le (Nat.mod_lt _ (Nat.pow_pos (by decide))) (Nat.pow_le_pow_right (by decide) (by omega))
theorem seek_number_spec {s : SrcT} {t : Nat} (h : SrcOk s t) (ht : t < 1000) {n : Nat} (h1 : 0 < n) (h2 : n ≤ 30) (b : Int) (hb : b < 9223372036854775808) :
  ∃ x, seek_number_m (n : Int) b s = some (Y_seek_number_m_0 x 0 (toldN s)) ∧ IsN x (numN s n b) := by
 have hB := drbg_Bytes_spec h ht h1 (by omega : n ≤ 32)
 have hsz : (tellN s n).size = n := tellN_size (by omega)
 have hlen : (bl (tellN s n)).length = n := by rw [← bl_size, hsz]
 rw [seek_number_m_eq, seek_number_m', hB]
 unfold numN
 by_cases hb1 : b < 1
 ·rw [if_pos hb1]
  refine ⟨fun _ => 0, ?_, IsN.zero⟩
  simp (disch := omega) only [Y_drbg_Source_Bytes_m_0, WW]
 ·rw [if_neg hb1]
  generalize tellN s n = y at *
  obtain ⟨x, x1, x2⟩ := loop_for (R := R_seek_number_m_0) (fun k (x : Nat → Int) => T_seek_number_m_0 b n (fun i => (((y.data.toList.getD i 0).toNat : Nat) : Int)) (n : Int) (k : Int) (toldN s) (fun _ => 0) x)
   (fun x => Y_seek_number_m_0_0 b (toldN s) (fun _ => 0) x) (fun k x => IsN x (numB ((bl y).take k))) n
   (fun k hk x hx => by
    have hl := numB_lt ((bl y).take k)
    have hp : 256 ^ ((bl y).take k).length ≤ 256 ^ 30 := Nat.pow_le_pow_right (by decide) (by rw [List.length_take]; omega)
    have hbl : ((bl y).getD k 0).toNat < 256 := UInt8.toNat_lt _
    have hbl' : (y.data.toList.getD k 0).toNat < 256 := hbl
    obtain ⟨r, r1, r2⟩ := up_byte hx (by omega) hbl
    refine ⟨_, ?_, by rw [take_snoc (by omega), numB_snoc]; exact r2⟩
    simp (disch := omega) only [R_seek_number_m_0, T_seek_number_m_0, WW, CC, Nat.zero_add, wrapun, r1])
   (fun x hx => by simp (disch := omega) only [R_seek_number_m_0, T_seek_number_m_0, WW]) (fun _ => 0) IsN.zero
  rw [List.take_of_length_le (by omega)] at x2
  have x1' : loopF R_seek_number_m_0 (((), (b, ((), ((), ((n, (fun i => (((y.data.toList.getD i 0).toNat : Nat) : Int))), ((n : Int), (0, ()))))))), (toldN s, ((fun _ => 0), ((fun _ => 0), ())))) = some (Y_seek_number_m_0_0 b (toldN s) (fun _ => 0) x) := x1
  have hm : IntKind.i64.wrap (256 - (if 60 < b then 60 else b)) = ((256 - min b.toNat 60 : Nat) : Int) := by
   rw [wrap_i64 (by split <;> omega)]
   split <;> omega
  obtain ⟨u, u1, u2⟩ := nat_Up_spec x2 ((256 - min b.toNat 60 : Nat) : Int)
  rw [Int.toNat_natCast] at u2
  obtain ⟨d, d1, d2⟩ := nat_Down_spec u2 ((256 - min b.toNat 60 : Nat) : Int)
  rw [Int.toNat_natCast, low_bits (b := min b.toNat 60) (by omega)] at d2
  refine ⟨d, ?_, d2⟩
  have hble : Nat.ble n 9223372036854775807 = true := Nat.ble_eq_true_of_le (by omega)
  simp (disch := omega) only [Y_drbg_Source_Bytes_m_0, WW, hsz, hble, x1', hm, u1, d1]
structure LeastP (a n : Nat) : Prop where
 ge : a ≤ n
 lt : n < 65536
 pr : Pr n
 least : ∀ k, a ≤ k → k < n → ¬ Pr k
theorem LeastP.same {a n m : Nat} (h1 : LeastP a n) (h2 : LeastP a m) : n = m := by
 apply Classical.byContradiction
 intro h
 rcases Nat.lt_or_gt_of_ne h with h3 | h3
 ·exact h2.least n h1.ge h3 h1.pr
 ·exact h1.least m h2.ge h3 h2.pr
def fromN (s : SrcT) : Nat := 32768 + numN s 2 14
theorem fromN_lt (s : SrcT) : fromN s < 49152 := by
 unfold fromN numN
 rw [if_neg (by decide), show (min (Int.toNat 14) 60) = 14 from rfl]
 omega
theorem seek_first_spec {s : SrcT} {t : Nat} (h : SrcOk s t) (ht : t < 1000) : ∃ x N, seek_first_m s = some (Y_seek_first_m_0 (x, 0) 0 (toldN s)) ∧ IsN x N ∧ LeastP (fromN s) N := by
 obtain ⟨x, x1, x2⟩ := seek_number_spec h ht (n := 2) (by decide) (by decide) 14 (by decide)
 have x1' : seek_number_m 2 14 s = some (Y_seek_number_m_0 x 0 (toldN s)) := x1
 have hl := fromN_lt s
 unfold fromN at hl ⊢
 generalize numN s 2 14 = X at *
 obtain ⟨n, n1, n2, n3, n4, n5⟩ := seek_First_spec (a := 32768 + X) (by omega)
 obtain ⟨o, o1, o2⟩ := nat_Of_spec (n := (n : Int)) (by omega)
 rw [Int.toNat_natCast] at o2
 refine ⟨o, n, ?_, o2, n2, n3, n4, n5⟩
 rw [seek_first_m_eq, seek_first_m', x1']
 have hi := nat_Int_spec x2
 rw [if_pos (by omega)] at hi
 simp (disch := omega) only [Y_seek_number_m_0, WW, hi, CC, n1, o1]
def nextZ (F : Nat) (b : Int) (A : Nat) : Int ⊕ (Nat × Nat) :=
 if b < blen F + 2 ∨ b > 2 * (blen F : Int) - 2 ∨ b > 250 then .inl 1 else match nextM F b.toNat A with
  | none => .inl 3
  | some x => .inr x
theorem odd_of_prime {F : Nat} (hF : Pr F) (hF3 : 3 ≤ F) : F % 2 = 1 := by
 rcases Nat.mod_two_eq_zero_or_one F with h | h
 ·rcases hF.2 2 (Nat.dvd_of_mod_eq_zero h) with h2 | h2 <;> omega
 ·exact h
theorem seek_Next_all {f a : Nat → Int} {F A : Nat} {b : Int} (hf : IsN f F) (ha : IsN a A) (hF : Pr F) (hF3 : 3 ≤ F) (hA : A < 2 ^ 64) (hb : b ≤ 64 ∨ 250 < b) :
  (∀ e, nextZ F b A = .inl e → e ≠ 0 ∧ seek_Next f b a = some (((fun _ => 0), 0), e)) ∧
  ∀ N w, nextZ F b A = .inr (N, w) → ∃ n, seek_Next f b a = some ((n, (w : Int)), 0) ∧ IsN n N := by
 have hodd := odd_of_prime hF hF3
 have hlt := lt_blen F
 have hfl : blen A ≤ 64 := blen_le hA
 have hl2 : 2 ≤ blen F := by
  apply Classical.byContradiction
  intro h
  have : 2 ^ blen F ≤ 2 ^ 1 := Nat.pow_le_pow_right (by decide) (by omega)
  omega
 have h256 : blen F ≤ 256 := blen_le hf.1
 unfold nextZ
 by_cases hc : b < blen F + 2 ∨ b > 2 * (blen F : Int) - 2 ∨ b > 250
 ·rw [if_pos hc]
  refine ⟨fun e he => ?_, fun N w h => by cases h⟩
  cases he
  refine ⟨by decide, ?_⟩
  rw [seek_Next_eq, seek_Next', nat_Len_spec hf]
  have e1 : IntKind.i64.wrap ((blen F : Int) + 2) = (blen F : Int) + 2 := wrap_i64 (by omega)
  have e2 : IntKind.i64.wrap (2 * (blen F : Int)) = 2 * (blen F : Int) := wrap_i64 (by omega)
  have e3 : IntKind.i64.wrap (2 * (blen F : Int) - 2) = 2 * (blen F : Int) - 2 := wrap_i64 (by omega)
  simp only [hf.lowbit, hodd, nat_Len_spec ha, e1, e2, e3]
  rw [beq_f (by decide), cond_false, dec_f (by omega), cond_false, dec_f (by omega), cond_false]
  by_cases c1 : b < blen F + 2
  ·rw [dec_t c1, cond_true]
  ·rw [dec_f c1, cond_false]
   by_cases c2 : b > 2 * (blen F : Int) - 2
   ·rw [dec_t c2, cond_true]
   ·rw [dec_f c2, cond_false, dec_t (by omega), cond_true]
 ·rw [if_neg hc]
  obtain ⟨B, rfl⟩ : ∃ B : Nat, b = (B : Int) := ⟨b.toNat, by omega⟩
  rw [Int.toNat_natCast]
  obtain ⟨s1, s2⟩ := seek_Next_spec hf ha hF hF3 hA (b := B) (by omega) (by omega) (by omega)
  cases hm : nextM F B A with
  | none =>
   refine ⟨fun e he => ?_, fun N w h => by cases h⟩
   cases he
   exact ⟨by decide, s1 hm⟩
  | some x =>
   obtain ⟨N', w'⟩ := x
   refine ⟨fun e he => (by cases he), fun N w h => ?_⟩
   cases h
   exact s2 _ _ hm
theorem nextZ_of {F A N a : Nat} {b : Int} (hF : Pr F) (h : nextZ F b A = .inr (N, a)) : Pr N ∧ (blen N : Int) = b ∧ N % 2 = 1 ∧ (N - 1) % F = 0 ∧ F < N := by
 unfold nextZ at h
 split at h
 ·cases h
 ·rename_i hc
  cases hm : nextM F b.toNat A with
  | none => rw [hm] at h; cases h
  | some x =>
   rw [hm] at h; cases h
   obtain ⟨h1, h2, h3, h4, h5, h6, h7⟩ := nextM_of hF (by omega) hm
   refine ⟨h1, by omega, h3, h4, ?_⟩
   apply Classical.byContradiction
   intro hn
   have := blen_mono (show N ≤ F by omega)
   omega
def chainM : List Int → SrcT → List (Nat × Nat) → Int ⊕ List (Nat × Nat)
 | [], _, acc => .inr acc
 | b :: l, s, acc => match nextZ (acc.getLastD (0, 0)).1 b (numN s 8 (b - blen (acc.getLastD (0, 0)).1 - 2)) with
  | .inl e => .inl e
  | .inr x => chainM l (toldN s) (acc ++ [x])
structure AccOk (acc : List (Nat × Nat)) (nl : Nat) (l : Nat → (Nat → Int) × Int) : Prop where
 len : acc.length = nl
 pos : 0 < nl
 link : ∀ i, i < nl → IsN (l i).1 (acc.getD i (0, 0)).1 ∧ (l i).2 = ((acc.getD i (0, 0)).2 : Int)
 pr : ∀ i, i < nl → Pr (acc.getD i (0, 0)).1 ∧ 3 ≤ (acc.getD i (0, 0)).1
theorem getLastD_getD {acc : List (Nat × Nat)} {nl : Nat} (h : acc.length = nl) (hp : 0 < nl) : acc.getLastD (0, 0) = acc.getD (nl - 1) (0, 0) := by
 rw [List.getLastD_eq_getLast?, List.getLast?_eq_getElem?, List.getD_eq_getElem?_getD, h]
theorem AccOk.last {acc : List (Nat × Nat)} {nl : Nat} {l : Nat → (Nat → Int) × Int} (h : AccOk acc nl l) : IsN (l (nl - 1)).1 (acc.getLastD (0, 0)).1 ∧ Pr (acc.getLastD (0, 0)).1 ∧ 3 ≤ (acc.getLastD (0, 0)).1 := by
 have hp := h.pos
 rw [getLastD_getD h.len hp]
 exact ⟨(h.link _ (by omega)).1, h.pr _ (by omega)⟩
theorem AccOk.push {acc : List (Nat × Nat)} {nl : Nat} {l : Nat → (Nat → Int) × Int} (h : AccOk acc nl l) {n : Nat → Int} {N w : Nat} (hn : IsN n N) (hp : Pr N) (h3 : 3 ≤ N) :
  AccOk (acc ++ [(N, w)]) (nl + 1) (glue nl l (fun j => upd (fun _ => ((fun _ => 0), 0)) 0 (n, (w : Int)) (0 + j))) := by
 have hlen := h.len
 have hg : ∀ i, i < nl + 1 → (i < nl ∧ (acc ++ [(N, w)]).getD i (0, 0) = acc.getD i (0, 0) ∧ glue nl l (fun j => upd (fun _ => ((fun _ => 0), 0)) 0 (n, (w : Int)) (0 + j)) i = l i) ∨ (i = nl ∧ (acc ++ [(N, w)]).getD i (0, 0) = (N, w) ∧ glue nl l (fun j => upd (fun _ => ((fun _ => 0), 0)) 0 (n, (w : Int)) (0 + j)) i = (n, (w : Int))) := by
  intro i hi
  by_cases hc : i < nl
  ·refine .inl ⟨hc, ?_, ?_⟩
   ·rw [List.getD_eq_getElem?_getD, List.getD_eq_getElem?_getD, List.getElem?_append_left (by omega)]
   ·unfold glue
    rw [show Nat.blt i nl = true from Nat.ble_eq_true_of_le hc]; rfl
  ·obtain rfl : i = nl := by omega
   refine .inr ⟨rfl, ?_, ?_⟩
   ·rw [List.getD_eq_getElem?_getD, List.getElem?_append_right (by omega), hlen, Nat.sub_self]; rfl
   ·unfold glue
    rw [show Nat.blt i i = false by
     cases hb : Nat.blt i i
     ·rfl
     ·exact absurd (Nat.le_of_ble_eq_true hb) (by omega), Nat.sub_self]; rfl
 refine ⟨by simp; omega, by omega, ?_, ?_⟩
 ·intro i hi
  rcases hg i hi with ⟨h1, h2, h4⟩ | ⟨h1, h2, h4⟩
  ·rw [h2, h4]; exact h.link i h1
  ·rw [h2, h4]; exact ⟨hn, rfl⟩
 ·intro i hi
  rcases hg i hi with ⟨h1, h2, h4⟩ | ⟨h1, h2, h4⟩
  ·rw [h2]; exact h.pr i h1
  ·rw [h2]; exact ⟨hp, h3⟩
abbrev ChS := Int × ((Nat × (Nat → ((Nat → Int) × Int))) × (SrcT × ((Nat → Int) × Int)))
theorem seek_chain_loop {nb : Nat} {bits : Nat → Int} (hnb : nb ≤ 8) (hbits : ∀ i, i < nb → -9223372036854775808 ≤ bits i ∧ bits i < 9223372036854775808 ∧ (bits i ≤ 64 ∨ 250 < bits i)) {s : SrcT} {x : Nat → Int} {N : Nat} (hs : SrcOk s 1) (hx : IsN x N) (hN : Pr N) (hN3 : 3 ≤ N) :
  ∃ y, loopF R_seek_chain_m_0 (T_seek_chain_m_0 0 1 (upd (fun _ => ((fun _ => 0), 0)) 0 (x, 0)) nb bits (nb : Int) 0 s (x, 0)) = some y ∧
   (∀ e, chainM ((List.range nb).map bits) s [(N, 0)] = .inl e → e ≠ 0 ∧ y.1.2.1 = e) ∧
   (∀ acc, chainM ((List.range nb).map bits) s [(N, 0)] = .inr acc → ∃ nl l, y.1.2.1 = 0 ∧ y.1.2.2.1 = (nl, l) ∧ AccOk acc nl l ∧ nl = nb + 1) := by
 generalize hB : (List.range nb).map bits = B
 have hdrop : ∀ k, k < nb → B.drop k = bits k :: B.drop (k + 1) := by
  intro k hk
  have hl : B.length = nb := by rw [← hB]; simp
  rw [List.drop_eq_getElem_cons (by omega)]
  congr 1
  simp only [← hB, List.getElem_map, List.getElem_range]
 have hdropn : B.drop nb = [] := List.drop_of_length_le (by rw [← hB]; simp)
 generalize hR : chainM B s [(N, 0)] = R
 have hacc0 : AccOk [(N, 0)] 1 (upd (fun _ => ((fun _ => 0), 0)) 0 (x, 0)) := by
  refine ⟨rfl, by decide, ?_, ?_⟩
  ·intro i hi
   obtain rfl : i = 0 := by omega
   exact ⟨hx, rfl⟩
  ·intro i hi
   obtain rfl : i = 0 := by omega
   exact ⟨hN, hN3⟩
 exact loop_seek (R := R_seek_chain_m_0) (fun k (S : ChS) => T_seek_chain_m_0 S.1 S.2.1.1 S.2.1.2 nb bits (nb : Int) (k : Int) S.2.2.1 S.2.2.2)
  (fun k S => (S.1 = 0 ∧ SrcOk S.2.2.1 (k + 1) ∧ ∃ acc, AccOk acc S.2.1.1 S.2.1.2 ∧ S.2.1.1 = k + 1 ∧ chainM (B.drop k) S.2.2.1 acc = R) ∨ (S.1 ≠ 0 ∧ R = .inl S.1))
  (fun y => (∀ e, R = .inl e → e ≠ 0 ∧ y.1.2.1 = e) ∧ (∀ acc, R = .inr acc → ∃ nl l, y.1.2.1 = 0 ∧ y.1.2.2.1 = (nl, l) ∧ AccOk acc nl l ∧ nl = nb + 1)) nb
  (fun k hk S hP => by
   obtain ⟨e, ⟨nl, l⟩, s, link⟩ := S
   simp only at hP
   rcases hP with ⟨rfl, hs, acc, hacc, hnl, hch⟩ | ⟨he, hr⟩
   ·have hnl2 : nl = k + 1 := hnl
    subst hnl2
    rw [hdrop k hk, chainM] at hch
    obtain ⟨hl1, hl2, hl3⟩ := hacc.last
    rw [show k + 1 - 1 = k from rfl] at hl1
    generalize hwas : (acc.getLastD (0, 0)).1 = was at *
    obtain ⟨b1, b2, b3⟩ := hbits k hk
    have hw256 : blen was ≤ 256 := blen_le hl1.1
    by_cases hlow : bits k - blen was - 2 < -9223372036854775808
    ·-- far below: no prime of so few bits; the counter wraps, the answer is the same
     have hz : ∀ A, nextZ was (bits k) A = .inl 1 := by
      intro A; unfold nextZ; rw [if_pos (.inl (by omega))]
     rw [hz] at hch
     simp only at hch
     obtain ⟨x', x1, x2⟩ := seek_number_spec hs (by omega) (n := 8) (by decide) (by decide) (IntKind.i64.wrap (IntKind.i64.wrap (bits k - blen was) - 2)) (by rw [wrap_i64']; split <;> omega)
     have x1' : seek_number_m 8 (IntKind.i64.wrap (IntKind.i64.wrap (bits k - blen was) - 2)) s = some (Y_seek_number_m_0 x' 0 (toldN s)) := x1
     have hlt := numN_lt s 8 (IntKind.i64.wrap (IntKind.i64.wrap (bits k - blen was) - 2))
     obtain ⟨e1, e2⟩ := (seek_Next_all hl1 x2 hl2 hl3 (by omega) b3).1 1 (hz _)
     refine .inl ⟨(1, ((k + 1 + 1, glue (k + 1) l (fun j => upd (fun _ => ((fun _ => 0), 0)) 0 ((fun _ => 0), 0) (0 + j))), (toldN s, ((fun _ => 0), 0)))), ?_, .inr ⟨by simp, hch.symm⟩⟩
     have c1 : Nat.ble ((k + 1 + 1) * 40) 140737488355328 = true := Nat.ble_eq_true_of_le (by omega)
     have c2 : Nat.ble (k + 1 + 1) 9223372036854775807 = true := Nat.ble_eq_true_of_le (by omega)
     simp (disch := omega) only [R_seek_chain_m_0, T_seek_chain_m_0, WW, CC, show k + 1 - 1 = k from rfl, Nat.zero_add, nat_Len_spec hl1, x1', Y_seek_number_m_0, e2, c1, c2, Bool.and_true]
    ·have hw1 : IntKind.i64.wrap (IntKind.i64.wrap (bits k - blen was) - 2) = bits k - blen was - 2 := by
      rw [wrap_i64 (x := bits k - blen was) (by omega), wrap_i64 (by omega)]
     obtain ⟨x', x1, x2⟩ := seek_number_spec hs (by omega) (n := 8) (by decide) (by decide) (bits k - blen was - 2) (by omega)
     have x1' : seek_number_m 8 (bits k - blen was - 2) s = some (Y_seek_number_m_0 x' 0 (toldN s)) := x1
     have hlt := numN_lt s 8 (bits k - blen was - 2)
     obtain ⟨s1, s2⟩ := seek_Next_all hl1 x2 hl2 hl3 (by omega) b3
     have c1 : Nat.ble ((k + 1 + 1) * 40) 140737488355328 = true := Nat.ble_eq_true_of_le (by omega)
     have c2 : Nat.ble (k + 1 + 1) 9223372036854775807 = true := Nat.ble_eq_true_of_le (by omega)
     cases hz : nextZ was (bits k) (numN s 8 (bits k - blen was - 2)) with
     | inl e =>
      rw [hz] at hch
      simp only at hch
      obtain ⟨e1, e2⟩ := s1 e hz
      refine .inl ⟨(e, ((k + 1 + 1, glue (k + 1) l (fun j => upd (fun _ => ((fun _ => 0), 0)) 0 ((fun _ => 0), 0) (0 + j))), (toldN s, ((fun _ => 0), 0)))), ?_, .inr ⟨e1, hch.symm⟩⟩
      simp (disch := omega) only [R_seek_chain_m_0, T_seek_chain_m_0, WW, CC, show k + 1 - 1 = k from rfl, Nat.zero_add, nat_Len_spec hl1, hw1, x1', Y_seek_number_m_0, e2, c1, c2, Bool.and_true]
     | inr z =>
      obtain ⟨N', w⟩ := z
      rw [hz] at hch
      simp only at hch
      obtain ⟨n, n1, n2⟩ := s2 N' w hz
      obtain ⟨p1, p2, p3, p4, p5⟩ := nextZ_of hl2 hz
      refine .inl ⟨(0, ((k + 1 + 1, glue (k + 1) l (fun j => upd (fun _ => ((fun _ => 0), 0)) 0 (n, (w : Int)) (0 + j))), (toldN s, (n, (w : Int))))), ?_, .inl ⟨rfl, toldN_ok hs, _, hacc.push n2 p1 (by omega), rfl, hch⟩⟩
      simp (disch := omega) only [R_seek_chain_m_0, T_seek_chain_m_0, WW, CC, show k + 1 - 1 = k from rfl, Nat.zero_add, nat_Len_spec hl1, hw1, x1', Y_seek_number_m_0, n1, c1, c2, Bool.and_true]
   ·refine .inr ⟨Y_seek_chain_m_0_0 e nl l s, ?_, ⟨fun e' h => ?_, fun acc h => (by rw [hr] at h; cases h)⟩⟩
    ·simp (disch := omega) only [R_seek_chain_m_0, T_seek_chain_m_0, WW, bne_t he]
    ·rw [hr] at h; cases h; exact ⟨he, rfl⟩)
  (fun S hP => by
   obtain ⟨e, ⟨nl, l⟩, s, link⟩ := S
   simp only at hP
   refine ⟨Y_seek_chain_m_0_0 e nl l s, by simp (disch := omega) only [R_seek_chain_m_0, T_seek_chain_m_0, WW], ?_⟩
   rcases hP with ⟨rfl, hs, acc, hacc, hnl, hch⟩ | ⟨he, hr⟩
   ·rw [hdropn, chainM] at hch
    refine ⟨fun e h => (by rw [← hch] at h; cases h), fun acc' h => ?_⟩
    rw [← hch] at h; cases h
    exact ⟨nl, l, rfl, rfl, hacc, hnl⟩
   ·refine ⟨fun e' h => ?_, fun acc h => (by rw [hr] at h; cases h)⟩
    rw [hr] at h; cases h; exact ⟨he, rfl⟩)
  (0, ((1, upd (fun _ => ((fun _ => 0), 0)) 0 (x, 0)), (s, (x, 0)))) (.inl ⟨rfl, hs, _, hacc0, rfl, by rw [List.drop_zero]; exact hR⟩)
end Go.Pl

namespace Go.Pl
open Go Go.Den Go.Num
theorem chainM_ne {B : List Int} : ∀ {s : SrcT} {acc : List (Nat × Nat)} {e : Int}, Pr (acc.getLastD (0, 0)).1 → chainM B s acc = .inl e → e = 1 ∨ e = 3 := by
 induction B with
 | nil => intro s acc e _ h; cases h
 | cons b B ih =>
  intro s acc e hp h
  rw [chainM] at h
  cases hz : nextZ (acc.getLastD (0, 0)).1 b (numN s 8 (b - blen (acc.getLastD (0, 0)).1 - 2)) with
  | inl e' =>
   rw [hz] at h; simp only at h; cases h
   unfold nextZ at hz
   split at hz
   ·cases hz; exact .inl rfl
   ·cases hm : nextM (acc.getLastD (0, 0)).1 b.toNat (numN s 8 (b - blen (acc.getLastD (0, 0)).1 - 2)) with
    | none => rw [hm] at hz; cases hz; exact .inr rfl
    | some x => rw [hm] at hz; cases hz
  | inr x =>
   rw [hz] at h; simp only at h
   obtain ⟨N', w⟩ := x
   exact ih (by rw [List.getLastD_concat]; exact (nextZ_of hp hz).1) h
inductive FoundT where
 | no (e : Int)
 | yes (acc : List (Nat × Nat)) (g : Nat)
def lastN (acc : List (Nat × Nat)) (k : Nat) : Nat := (acc.getD (acc.length - k) (0, 0)).1
def accN (acc : List (Nat × Nat)) : Nat → Nat := fun i => (acc.getD i (0, 0)).1
def accA (acc : List (Nat × Nat)) : Nat → Int := fun i => ((acc.getD i (0, 0)).2 : Int)
open Classical in
noncomputable def foundN (B : List Int) (s : SrcT) (N : Nat) : FoundT :=
 match chainM B s [(N, 0)] with
 | .inl e => .no e
 | .inr acc => match spawnN (lastN acc 1) ((lastN acc 1 - 1) / lastN acc 2) 99 2 with
  | none => .no 3
  | some g => if GroupP acc.length (accN acc) (accA acc) g then .yes acc g else .no 3
theorem chainM_div : ∀ {B : List Int} {s : SrcT} {acc acc' : List (Nat × Nat)}, acc ≠ [] → Pr (acc.getLastD (0, 0)).1 → chainM B s acc = .inr acc' → B ≠ [] →
  lastN acc' 1 % 2 = 1 ∧ (lastN acc' 1 - 1) % lastN acc' 2 = 0 ∧ lastN acc' 2 < lastN acc' 1 ∧ acc'.length = acc.length + B.length := by
 intro B
 induction B with
 | nil => intro s acc acc' _ _ _ h; exact absurd rfl h
 | cons b B ih =>
  intro s acc acc' ha hp h _
  rw [chainM] at h
  cases hz : nextZ (acc.getLastD (0, 0)).1 b (numN s 8 (b - blen (acc.getLastD (0, 0)).1 - 2)) with
  | inl e' => rw [hz] at h; cases h
  | inr x =>
   rw [hz] at h; simp only at h
   obtain ⟨N', w⟩ := x
   obtain ⟨z1, z2, z3, z4, z5⟩ := nextZ_of hp hz
   cases B with
   | nil =>
    rw [chainM] at h; cases h
    have hl : 0 < acc.length := List.length_pos_iff.2 ha
    have e1 : lastN (acc ++ [(N', w)]) 1 = N' := by
     unfold lastN
     rw [List.getD_eq_getElem?_getD, List.getElem?_append_right (by simp), List.length_append]
     simp
    have e2 : lastN (acc ++ [(N', w)]) 2 = (acc.getLastD (0, 0)).1 := by
     unfold lastN
     rw [getLastD_getD rfl hl, List.getD_eq_getElem?_getD, List.getD_eq_getElem?_getD, List.getElem?_append_left (by simp; omega)]
     congr 3
     simp
    rw [e1, e2]
    exact ⟨z3, z4, z5, by simp⟩
   | cons b' B' =>
    obtain ⟨h1, h2, h3, h4⟩ := ih (s := toldN s) (acc := acc ++ [(N', w)]) (by simp) (by rw [List.getLastD_concat]; exact z1) h (by simp)
    exact ⟨h1, h2, h3, by rw [h4]; simp; omega⟩
theorem seek_Find_spec {seed : ByteArray} {nb : Nat} {bits : Nat → Int} (hseed : 16 ≤ seed.size ∧ seed.size ≤ 1024) (h2 : 2 ≤ nb) (h7 : nb ≤ 7)
  (hbits : ∀ i, i < nb → -9223372036854775808 ≤ bits i ∧ bits i < 9223372036854775808 ∧ (bits i ≤ 64 ∨ 250 < bits i)) :
  ∃ N, LeastP (fromN (newN seed)) N ∧
   (∀ e, foundN ((List.range nb).map bits) (toldN (newN seed)) N = .no e → (e = 1 ∨ e = 3) ∧ seek_Find seed nb bits = some (((0, (fun _ => ((fun _ => 0), 0))), (fun _ => 0)), e)) ∧
   (∀ acc g, foundN ((List.range nb).map bits) (toldN (newN seed)) N = .yes acc g → ∃ l x, seek_Find seed nb bits = some (((nb + 1, l), x), 0) ∧ AccOk acc (nb + 1) l ∧ IsN x g ∧
    GroupP (nb + 1) (accN acc) (accA acc) g) := by
 have hnew := (drbg_New_spec seed).2 hseed
 have hs0 := newN_ok seed
 obtain ⟨x, N, f1, f2, f3⟩ := seek_first_spec hs0 (by decide)
 have hN3 : 3 ≤ N := by have := f3.ge; unfold fromN at this; omega
 obtain ⟨y, y1, y2, y3⟩ := seek_chain_loop (by omega : nb ≤ 8) hbits (toldN_ok hs0) f2 f3.pr hN3
 refine ⟨N, f3, ?_⟩
 have y1' : loopF R_seek_chain_m_0 (((), ((), (0, ((1, upd (fun _ => ((fun _ => 0), 0)) 0 (x, 0)), ((nb, bits), ((nb : Int), (0, ()))))))), (toldN (newN seed), ((x, 0), ()))) = some y := y1
 have hne : (List.range nb).map bits ≠ [] := by
  intro h
  have := congrArg List.length h
  simp at this; omega
 unfold foundN
 cases hc : chainM ((List.range nb).map bits) (toldN (newN seed)) [(N, 0)] with
 | inl e =>
  obtain ⟨e1, e2⟩ := y2 e hc
  have e3 := chainM_ne (acc := [(N, 0)]) f3.pr hc
  refine ⟨fun e' h => ?_, fun acc g h => (by cases h)⟩
  cases h
  refine ⟨e3, ?_⟩
  have hch : seek_chain_m nb bits (newN seed) = some (Y_seek_chain_m_0 0 (fun _ => ((fun _ => 0), 0)) e y.2.1) := by
   rw [seek_chain_m_eq, seek_chain_m', f1]
   simp only [Y_seek_first_m_0, y1', e2, bne_t e1, cond_true]
  rw [seek_Find_eq, seek_Find', hnew]
  simp (disch := omega) only [Y_drbg_New_m_1, WW, hch, Y_seek_chain_m_0, bne_t e1]
 | inr acc =>
  obtain ⟨nl, l, k1, k2, hacc, rfl⟩ := y3 acc hc
  have hch : seek_chain_m nb bits (newN seed) = some (Y_seek_chain_m_0 (nb + 1) (fun j => l (0 + j)) 0 y.2.1) := by
   rw [seek_chain_m_eq, seek_chain_m', f1]
   simp only [Y_seek_first_m_0, y1', k1, k2, show ((0 : Int) != 0) = false from rfl, cond_false]
  have hlen := hacc.len
  obtain ⟨d1, d2, d3, d4⟩ := chainM_div (acc := [(N, 0)]) (by simp) f3.pr hc hne
  have eP : lastN acc 1 = (acc.getD nb (0, 0)).1 := by unfold lastN; rw [hlen]; rfl
  have eQ : lastN acc 2 = (acc.getD (nb - 1) (0, 0)).1 := by unfold lastN; rw [hlen, show nb + 1 - 2 = nb - 1 by omega]
  obtain ⟨lP, aP⟩ := hacc.link nb (by omega)
  obtain ⟨lQ, aQ⟩ := hacc.link (nb - 1) (by omega)
  obtain ⟨pQ, q3⟩ := hacc.pr (nb - 1) (by omega)
  rw [← eP] at lP
  rw [← eQ] at lQ pQ q3
  obtain ⟨w1, w2⟩ := seek_Spawn_spec lP lQ d1 (by omega) (by omega) d2
  have hg2 : ∀ {gx : Nat → Int} {g : Nat}, IsN gx g → (GroupP (nb + 1) (accN acc) (accA acc) g → group_Check ((nb + 1, fun j => l (0 + j)), gx) = some 0) ∧ (¬ GroupP (nb + 1) (accN acc) (accA acc) g → group_Check ((nb + 1, fun j => l (0 + j)), gx) = some 4) := by
   intro gx g hg
   have e0 : (fun j => l (0 + j)) = l := by funext j; rw [Nat.zero_add]
   have hA : (accA acc) = fun i => accA acc i := rfl
   have h := group_Check_spec (k := nb + 1) (l := l) (N := accN acc) (G := g) (fun i hi => (hacc.link i hi).1) hg
   rw [e0]
   have hP : GroupP (nb + 1) (accN acc) (fun i => (l i).2) g ↔ GroupP (nb + 1) (accN acc) (accA acc) g := by
    have hs : ∀ i, i < nb + 1 → (l i).2 = accA acc i := fun i hi => (hacc.link i hi).2
    unfold GroupP ChainP
    constructor
    ·rintro ⟨a1, ⟨b1, b2, b3, b4, b5, b6, b7⟩, a3⟩
     exact ⟨a1, ⟨b1, b2, b3, b4, b5, by rw [← hs 0 (by omega)]; exact b6, fun i hi => by rw [← hs (i + 1) hi]; exact b7 i hi⟩, a3⟩
    ·rintro ⟨a1, ⟨b1, b2, b3, b4, b5, b6, b7⟩, a3⟩
     refine ⟨a1, ⟨b1, b2, b3, b4, b5, ?_, fun i hi => ?_⟩, a3⟩
     ·show (l 0).2 = 0
      rw [hs 0 (by omega)]; exact b6
     ·show StepP _ _ (l (i + 1)).2
      rw [hs (i + 1) hi]; exact b7 i hi
   exact ⟨fun hp => h.1 (hP.2 hp), fun hp => h.2 fun hq => hp (hP.1 hq)⟩
  have c1 : IntKind.i64.wrap (((nb + 1 : Nat) : Int) - 1) = ((nb : Nat) : Int) := by rw [wrap_i64 (by omega)]; omega
  have c2 : IntKind.i64.wrap (((nb + 1 : Nat) : Int) - 2) = ((nb - 1 : Nat) : Int) := by rw [wrap_i64 (by omega)]; omega
  dsimp only
  cases hsp : spawnN (lastN acc 1) ((lastN acc 1 - 1) / lastN acc 2) 99 2 with
  | none =>
   simp only
   refine ⟨fun e h => ?_, fun acc g h => (by cases h)⟩
   cases h
   refine ⟨.inr rfl, ?_⟩
   rw [seek_Find_eq, seek_Find', hnew]
   simp (disch := omega) only [Y_drbg_New_m_1, WW, hch, Y_seek_chain_m_0, c1, c2, Nat.zero_add, w1 hsp]
  | some g =>
   obtain ⟨gx, g1, g2⟩ := w2 g hsp
   obtain ⟨q1, q2⟩ := hg2 g2
   simp only
   by_cases hgp0 : GroupP acc.length (accN acc) (accA acc) g
   ·rw [if_pos hgp0]
    have hgp : GroupP (nb + 1) (accN acc) (accA acc) g := hlen ▸ hgp0
    refine ⟨fun e h => (by cases h), fun acc' g' h => ?_⟩
    cases h
    refine ⟨fun j => l (0 + j), gx, ?_, ?_, g2, hgp⟩
    ·rw [seek_Find_eq, seek_Find', hnew]
     have q1' := q1 hgp
     simp (disch := omega) only [Nat.zero_add] at q1'
     simp (disch := omega) only [Y_drbg_New_m_1, WW, hch, Y_seek_chain_m_0, c1, c2, Nat.zero_add, g1, q1']
    ·have e0 : (fun j => l (0 + j)) = l := by funext j; rw [Nat.zero_add]
     rw [e0]; exact hacc
   ·rw [if_neg hgp0]
    have hgp : ¬ GroupP (nb + 1) (accN acc) (accA acc) g := fun h => hgp0 (hlen.symm ▸ h)
    refine ⟨fun e h => ?_, fun acc g h => (by cases h)⟩
    cases h
    refine ⟨.inr rfl, ?_⟩
    rw [seek_Find_eq, seek_Find', hnew]
    have q2' := q2 hgp
    simp (disch := omega) only [Nat.zero_add] at q2'
    simp (disch := omega) only [Y_drbg_New_m_1, WW, hch, Y_seek_chain_m_0, c1, c2, Nat.zero_add, g1, q2']
end Go.Pl

namespace Go.Pl
open Go Go.Den Go.Num
theorem r01_Int_l (n : Nat) (hn : (OfNat.ofNat n : Nat) < 9223372036854775808) : ∃ a, r01_Int (no_index (OfNat.ofNat n : Int)) = some a ∧ IsN a (OfNat.ofNat n) := by
 obtain ⟨a, h1, h2⟩ := r01_Int_spec (n := ((OfNat.ofNat n : Nat) : Int)) (by omega)
 exact ⟨a, h1, h2⟩
theorem r01_Int_c {n : Nat} (hn : n < 9223372036854775808) : ∃ a, r01_Int (n : Int) = some a ∧ IsN a n := by
 obtain ⟨a, h1, h2⟩ := r01_Int_spec (n := (n : Int)) (by omega)
 rw [Int.toNat_natCast] at h2
 exact ⟨a, h1, h2⟩
theorem r37_number_spec {s : SrcT} {n : Nat} (h2 : n ≤ 30) (b : Int) (hb : b < 9223372036854775808) : ∃ x, r37_number (tellN s n) b = some x ∧ IsN x (numN s n b) := by
 have hsz : (tellN s n).size = n := tellN_size (by omega)
 have hlen : (bl (tellN s n)).length = n := by rw [← bl_size, hsz]
 unfold numN
 generalize tellN s n = y at *
 obtain ⟨x, x1, x2⟩ := loop_for (R := R_r37_number_0) (fun k (x : Nat → Int) => T_r37_number_0 y b (k : Int) (fun _ => 0) x)
  (fun x => Y_r37_number_0_0 b (fun _ => 0) x) (fun k x => IsN x (numB ((bl y).take k))) n
  (fun k hk x hx => by
   have hl := numB_lt ((bl y).take k)
   have hp : 256 ^ ((bl y).take k).length ≤ 256 ^ 30 := Nat.pow_le_pow_right (by decide) (by rw [List.length_take]; omega)
   have hbl : ((bl y).getD k 0).toNat < 256 := UInt8.toNat_lt _
   have hbl' : (y.data.toList.getD k 0).toNat < 256 := hbl
   obtain ⟨u, u1, u2⟩ := r01_Up_spec hx 8 (by decide)
   obtain ⟨c, c1, c2⟩ := r01_Int_c (n := (y.data.toList.getD k 0).toNat) (by omega)
   obtain ⟨r, r1, r2⟩ := r01_Add_spec u2 c2
   have e8 : (2 : Nat) ^ 8 = 256 := rfl
   have u1' : r01_Up x 8 = some u := u1
   refine ⟨r, ?_, ?_⟩
   ·simp (disch := omega) only [R_r37_number_0, T_r37_number_0, WW, CC, u1', c1, r1]
   ·rw [take_snoc (by omega), numB_snoc]
    refine r2.of_eq ?_
    rw [e8, Nat.mod_eq_of_lt (a := numB (List.take k (bl y)) * 256) (by omega)]
    exact Nat.mod_eq_of_lt (by omega))
  (fun x hx => by simp (disch := omega) only [R_r37_number_0, T_r37_number_0, WW]) (fun _ => 0) IsN.zero
 rw [List.take_of_length_le (by omega)] at x2
 have x1' : loopF R_r37_number_0 ((y, (b, ((), ((), (0, ()))))), ((fun _ => 0), ((fun _ => 0), ()))) = some (Y_r37_number_0_0 b (fun _ => 0) x) := x1
 rw [r37_number_eq, r37_number', x1']
 by_cases hb1 : b < 1
 ·rw [if_pos hb1]
  refine ⟨fun _ => 0, ?_, IsN.zero⟩
  simp (disch := omega) only [WW]
 ·rw [if_neg hb1]
  have hm : IntKind.i64.wrap (256 - (if 60 < b then 60 else b)) = ((256 - min b.toNat 60 : Nat) : Int) := by
   rw [wrap_i64 (by split <;> omega)]
   split <;> omega
  obtain ⟨u, u1, u2⟩ := r01_Up_spec x2 (256 - min b.toNat 60) (by omega)
  obtain ⟨d, d1, d2⟩ := r01_Down_spec u2 (256 - min b.toNat 60) (by omega)
  rw [low_bits (b := min b.toNat 60) (by omega)] at d2
  refine ⟨d, ?_, d2⟩
  simp (disch := omega) only [WW, hm, u1, d1]
theorem r37_First_spec {a : Nat} (ha : a ≤ 65521) : ∃ n : Nat, r37_First (a : Int) = some ((n : Int), 0) ∧ LeastP a n := by
 have hfound : ∀ m : Nat, a ≤ m → m < 65536 → Pr m → R_r37_First_0 (T_r37_First_0 (a : Int) (m : Int)) = some (.inr (Y_r37_First_0_0 (m : Int) 0)) := by
  intro m h1 h2 h3
  obtain ⟨b, hb, hb2⟩ := r04_Small_spec (m : Int)
  have : b = true := hb2.2 ⟨by have := h3.1; omega, by omega, by rw [Int.toNat_natCast]; exact h3⟩
  subst this
  simp (disch := omega) only [R_r37_First_0, T_r37_First_0, WW, hb]
 obtain ⟨y, h1, n, rfl, h2⟩ := loop_seek (R := R_r37_First_0) (S := Unit) (fun k _ => T_r37_First_0 (a : Int) ((a + k : Nat) : Int)) (fun k _ => ∀ j, a ≤ j → j < a + k → ¬ Pr j)
  (fun y => ∃ n : Nat, y = Y_r37_First_0_0 (n : Int) 0 ∧ LeastP a n) (65521 - a)
  (fun k hk _ hP => by
   obtain ⟨b, hb, hb2⟩ := r04_Small_spec ((a + k : Nat) : Int)
   by_cases hp : Pr (a + k)
   ·exact .inr ⟨_, hfound (a + k) (by omega) (by omega) hp, a + k, rfl, by omega, by omega, hp, hP⟩
   ·have : b = false := by
     cases hbb : b
     ·rfl
     ·have := (hb2.1 hbb).2.2
      rw [Int.toNat_natCast] at this
      exact absurd this hp
    subst this
    refine .inl ⟨(), ?_, ?_⟩
    ·simp (disch := omega) only [R_r37_First_0, T_r37_First_0, WW, CC, hb]
     rfl
    ·intro j h1 h2
     by_cases hj : j = a + k
     ·rw [hj]; exact hp
     ·exact hP j h1 (by omega))
  (fun _ hP => by
   have e : a + (65521 - a) = 65521 := by omega
   exact ⟨_, hfound (a + (65521 - a)) (by omega) (by omega) (by rw [e]; exact prime_65521'), a + (65521 - a), rfl, by omega, by omega, by rw [e]; exact prime_65521', hP⟩)
  () (fun j h1 h2 => by omega)
 refine ⟨n, ?_, h2⟩
 have h1' : loopF R_r37_First_0 (((a : Int), ((a : Int), ())), ()) = some (Y_r37_First_0_0 (n : Int) 0) := h1
 rw [r37_First_eq, r37_First', if_neg (by omega), h1']
theorem r37_at_spec {f : Nat → Int} {K F : Nat} (hk : K < 9223372036854775808) (hf : IsN f F) (h : K * F + 1 < 2 ^ 256) : ∃ r, r37_at (K : Int) f = some r ∧ IsN r (K * F + 1) := by
 obtain ⟨k, k1, k2⟩ := r01_Int_c hk
 obtain ⟨lo, hi, h1, h2, h3⟩ := r02_Mul_spec k2 hf
 obtain ⟨o, o1, o2⟩ : ∃ o, r01_Int 1 = some o ∧ IsN o 1 := r01_Int_l 1 (by decide)
 obtain ⟨s, s1, s2⟩ := r01_Add_spec h2 o2
 refine ⟨s, by rw [r37_at_eq, r37_at', k1]; simp only [h1, o1, s1], s2.of_eq ?_⟩
 rw [Nat.mod_eq_of_lt (by omega), Nat.mod_eq_of_lt (by omega)]
theorem r37_least_spec {f : Nat → Int} {F b : Nat} (hf : IsN f F) (hF : 3 ≤ F) (hb : blen F + 2 ≤ b) (hb2 : b ≤ 64) : r37_least f (b : Int) = some (leastK F b : Int) := by
 have hlt := lt_blen F
 have hp : 2 ^ blen F ≤ 2 ^ (b - 2) := Nat.pow_le_pow_right (by decide) (by omega)
 have hp2 : 2 ^ (b - 1) = 2 * 2 ^ (b - 2) := by rw [← Nat.pow_succ']; congr 1; omega
 have hp3 : 2 ^ (b - 2) ≤ 2 ^ 62 := Nat.pow_le_pow_right (by decide) (by omega)
 have he2 : 2 ≤ 2 ^ (b - 1) / F := (Nat.le_div_iff_mul_le (by omega)).2 (by omega)
 have he3 : 2 ^ (b - 1) / F ≤ 2 ^ (b - 1) / 3 := Nat.div_le_div_left hF (by decide)
 obtain ⟨o, o1, o2⟩ : ∃ o, r01_Int 1 = some o ∧ IsN o 1 := r01_Int_l 1 (by decide)
 obtain ⟨u, u1, u2⟩ := r01_Up_spec o2 (b - 1) (by omega)
 have u2' : IsN u (2 ^ (b - 1)) := u2.of_eq (by show 1 * _ % _ = _; rw [Nat.one_mul, Nat.mod_eq_of_lt (by omega)])
 obtain ⟨q, r, d1, d2, d3⟩ := r02_Div_spec u2' hf (by omega)
 have hlow := r01_Low_spec d2
 have hdm := Nat.div_add_mod (2 ^ (b - 1)) F
 have hml := Nat.mod_lt (2 ^ (b - 1)) (show 0 < F by omega)
 generalize hE : 2 ^ (b - 1) / F = E at *
 rw [if_pos (by omega)] at hlow
 have hEm : (E - E % 2) * F ≤ F * E := by rw [Nat.mul_comm F]; exact Nat.mul_le_mul_right _ (by omega)
 have hw : IntKind.i64.wrap ((b : Int) - 1) = ((b - 1 : Nat) : Int) := by rw [wrap_i64 (by omega)]; omega
 have hok := leastK_ok (by omega : 0 < F) hb
 have hev : IntKind.i64.wrap ((E : Int) - Int.tmod (E : Int) 2) = ((E - E % 2 : Nat) : Int) := by
  rw [tmod_nn (by omega), wrap_i64 (by omega)]; omega
 have hmax : (if (2 : Int) < ((E - E % 2 : Nat) : Int) then ((E - E % 2 : Nat) : Int) else 2) = ((E - E % 2 : Nat) : Int) := by split <;> omega
 have exit : ∀ {K : Nat}, K < 9223372036854775808 → K * F + 1 < 2 ^ 256 → b ≤ blen (K * F + 1) → R_r37_least_0 (T_r37_least_0 (b : Int) (K : Int) f) = some (.inr (Y_r37_least_0_0 (K : Int))) := by
  intro K hk h1 h2
  obtain ⟨a, a1, a2⟩ := r37_at_spec hk hf h1
  simp (disch := omega) only [R_r37_least_0, T_r37_least_0, a1, r01_Len_spec a2, WW]
 have next : ∀ {K : Nat}, K < 9223372036854775800 → K * F + 1 < 2 ^ 256 → blen (K * F + 1) < b → R_r37_least_0 (T_r37_least_0 (b : Int) (K : Int) f) = some (.inl (T_r37_least_0 (b : Int) ((K + 2 : Nat) : Int) f)) := by
  intro K hk h1 h2
  obtain ⟨a, a1, a2⟩ := r37_at_spec (by omega) hf h1
  simp (disch := omega) only [R_r37_least_0, T_r37_least_0, a1, r01_Len_spec a2, WW, CC]
 have hle : (E - E % 2) ≤ (E - E % 2) * F := Nat.le_mul_of_pos_right _ (by omega)
 have hFb : F < 2 ^ 62 := by omega
 have L : loopF R_r37_least_0 (((b : Int), ((), (((E - E % 2 : Nat) : Int), ()))), (f, ())) = some (Y_r37_least_0_0 (leastK F b : Int)) := by
  unfold leastK at hok ⊢
  simp only [hE] at hok ⊢
  by_cases hc : blen ((E - E % 2) * F + 1) < b
  ·rw [if_pos hc] at hok ⊢
   refine (loopF_next (next (by omega) (by omega) hc)).trans (loopF_exit (exit (by omega) ?_ hok.long))
   have := hok.le
   omega
  ·rw [if_neg hc]
   exact loopF_exit (exit (by omega) (by omega) (by omega))
 rw [r37_least_eq, r37_least', o1]
 simp only [hw, u1, d1, hlow, hev, hmax, L]
theorem r37_witness_spec {n f : Nat → Int} {N F : Nat} (hn : IsN n N) (hf : IsN f F) (hF : Pr F) :
  (∀ a, witL N F = some a → r37_witness n f = some (a : Int)) ∧ (witL N F = none → r37_witness n f = some 0) := by
 generalize hR : witL N F = R
 obtain ⟨y, y1, y2⟩ := loop_seek (R := R_r37_witness_0) (S := Unit) (fun k _ => T_r37_witness_0 ((2 + k : Nat) : Int) n f) (fun k _ => ∀ j : Nat, 2 ≤ j → j < 2 + k → ¬ StepP N F j)
  (fun y => (∀ a, R = some a → y = Y_r37_witness_0_0 (a : Int)) ∧ (R = none → y = Y_r37_witness_0_1)) 99
  (fun k hk _ hP => by
   by_cases hs : StepP N F ((2 + k : Nat) : Int)
   ·have hw := witL_some (N := N) (F := F) (a := 2 + k) (by omega) (by omega) hs (fun j h1 h2 => hP j h1 h2)
    rw [hw] at hR
    refine .inr ⟨Y_r37_witness_0_0 ((2 + k : Nat) : Int), ?_, ⟨fun a h => (by rw [← hR] at h; cases h; rfl), fun h => (by rw [← hR] at h; cases h)⟩⟩
    simp (disch := omega) only [R_r37_witness_0, T_r37_witness_0, WW, r04_Step_spec hn hf, decide_eq_true hs]
   ·refine .inl ⟨(), ?_, fun j h1 h2 => ?_⟩
    ·simp (disch := omega) only [R_r37_witness_0, T_r37_witness_0, WW, CC, r04_Step_spec hn hf, decide_eq_false hs]
     rfl
    ·by_cases hj : j = 2 + k
     ·rw [hj]; exact hs
     ·exact hP j h1 (by omega))
  (fun _ hP => by
   have hw := witL_none (N := N) (F := F) (fun j h1 h2 => hP j h1 (by omega))
   rw [hw] at hR
   refine ⟨Y_r37_witness_0_1, ?_, ⟨fun a h => (by rw [← hR] at h; cases h), fun _ => rfl⟩⟩
   simp (disch := omega) only [R_r37_witness_0, T_r37_witness_0, WW])
  () (fun j h1 h2 => by omega)
 have y1' : loopF R_r37_witness_0 (((), ((), (2, ()))), (n, (f, ()))) = some y := y1
 have hlow := r01_Low_spec hn
 have hprime : ∀ a, R = some a → Pr N := fun a h => by
  rw [h] at hR
  exact (witL_of hR).2.2.prime hF
 have red : ∃ z, loopF R_r37_witness_0 (((), ((), (2, ()))), (n, (f, ()))) = some z ∧ z = y ∧ ((r37_witness n f = match (generalizing := false) z with
   | .inl y1 => some y1.1.1
   | .inr _ => some 0) ∨ (r37_witness n f = some 0 ∧ ¬ Pr N)) := by
  clear y2 y1
  refine ⟨y, y1', rfl, ?_⟩
  rw [r37_witness_eq, r37_witness', hlow]
  by_cases h63 : N < 9223372036854775808
  ·rw [if_pos h63]
   by_cases h32 : N < 4294967296
   ·obtain ⟨b, b1, b2⟩ := r04_Plain_spec (N : Int)
    cases b
    ·right
     refine ⟨?_, ?_⟩
     ·simp (disch := omega) only [WW, b1]
     ·intro hp
      have := b2.2 ⟨by have := hp.1; omega, by omega, by rw [Int.toNat_natCast]; exact hp⟩
      cases this
    ·left
     simp (disch := omega) only [WW, b1, y1']
     cases y <;> rfl
   ·left
    simp (disch := omega) only [WW, y1']
    cases y <;> rfl
  ·rw [if_neg h63]
   left
   simp (disch := omega) only [WW, y1']
   cases y <;> rfl
 obtain ⟨z, _, hz, red⟩ := red
 constructor
 ·intro a h
  have hp := hprime a h
  rcases red with h1 | ⟨_, h2⟩
  ·rw [h1]
   have e := hz.trans (y2.1 a h)
   subst e; rfl
  ·exact absurd hp h2
 ·intro h
  rcases red with h1 | ⟨h1, _⟩
  ·rw [h1]
   have e := hz.trans (y2.2 h)
   subst e; rfl
  ·exact h1
end Go.Pl

namespace Go.Pl
open Go Go.Den Go.Num
theorem cmpI_ge {n m : Nat} (h : m ≤ n) : decide (cmpI n m < 0) = false := by
 apply dec_f
 unfold cmpI
 split
 ·omega
 ·split <;> omega
theorem r37_Next_spec {f a : Nat → Int} {F A b : Nat} (hf : IsN f F) (ha : IsN a A) (hF : Pr F) (hF3 : 3 ≤ F) (hA : A < 2 ^ 60) (hb : blen F + 2 ≤ b) (hb2 : b ≤ 2 * blen F - 2) (hb3 : b ≤ 60) :
  (nextM F b A = none → ∃ n, r37_Next f (b : Int) a = some (((fun _ => 0), 0), 3) ∧ n = (3 : Int)) ∧
  ∀ N w, nextM F b A = some (N, w) → ∃ n, r37_Next f (b : Int) a = some ((n, (w : Int)), 0) ∧ IsN n N := by
 have hodd := odd_of_prime hF hF3
 have hlt := lt_blen F
 have hp : 2 ^ blen F ≤ 2 ^ 58 := Nat.pow_le_pow_right (by decide) (by omega)
 have hp1 : 2 ^ (b - 1) ≤ 2 ^ 59 := Nat.pow_le_pow_right (by decide) (by omega)
 have hok := leastK_ok hF.pos hb
 have hle := hok.le
 have hlk : leastK F b ≤ leastK F b * F := Nat.le_mul_of_pos_right _ hF.pos
 have l1 := r37_least_spec hf hF3 hb (by omega)
 have hK0 : leastK F b + (A - A % 2) < 2 ^ 62 := by omega
 have hk1 : IntKind.i64.wrap ((leastK F b : Int) + (A : Int)) = ((leastK F b + A : Nat) : Int) := by rw [wrap_i64 (by omega)]; omega
 have hk2 : IntKind.i64.wrap (((leastK F b + A : Nat) : Int) - Int.tmod (A : Int) 2) = ((leastK F b + (A - A % 2) : Nat) : Int) := by
  rw [tmod_nn (by omega), wrap_i64 (by omega)]; omega
 generalize hK : leastK F b + (A - A % 2) = K0 at *
 have hfl : blen A ≤ 64 := blen_le (by omega)
 have hnm : nextM F b A = searchN F b 1024 K0 := by rw [nextM, hK]
 generalize hR : searchN F b 1024 K0 = R at *
 obtain ⟨y, y1, y2⟩ := loop_seek (R := R_r37_Next_0) (S := Unit) (fun i _ => T_r37_Next_0 (b : Int) (K0 : Int) (i : Int) f ((fun _ => 0), 0))
  (fun i _ => searchN F b (1024 - i) (K0 + 2 * i) = R)
  (fun y => (R = none → y = Y_r37_Next_0_0 3 ((fun _ => 0), 0) ∨ y = Y_r37_Next_0_1 ((fun _ => 0), 0)) ∧ ∀ N w, R = some (N, w) → ∃ n, y = Y_r37_Next_0_0 0 (n, (w : Int)) ∧ IsN n N) 1024
  (fun i hi _ k2 => by
   have hr : 1024 - i = (1024 - (i + 1)) + 1 := by omega
   rw [hr, searchN_succ] at k2
   have hKb : (K0 + 2 * i) * F < 2 ^ 63 * 2 ^ 58 := Nat.mul_lt_mul'' (by omega) (by omega)
   obtain ⟨n, n1, n2⟩ := r37_at_spec (K := K0 + 2 * i) (by omega) hf (by omega)
   have e1 : IntKind.i64.wrap ((K0 : Int) + ((2 * i : Nat) : Int)) = ((K0 + 2 * i : Nat) : Int) := by rw [wrap_i64 (by omega)]; omega
   by_cases hc : b < blen ((K0 + 2 * i) * F + 1)
   ·rw [if_pos hc] at k2
    refine .inr ⟨Y_r37_Next_0_0 3 ((fun _ => 0), 0), ?_, ⟨fun _ => .inl rfl, fun N w h => (by rw [← k2] at h; cases h)⟩⟩
    simp (disch := omega) only [R_r37_Next_0, T_r37_Next_0, l_mul, e1, n1, r01_Len_spec n2, WW]
   ·rw [if_neg hc] at k2
    obtain ⟨w1, w2⟩ := r37_witness_spec n2 hf hF
    cases hw : witL ((K0 + 2 * i) * F + 1) F with
    | some w =>
     rw [hw] at k2
     simp only at k2
     have hwp := (witL_of hw).1
     refine .inr ⟨Y_r37_Next_0_0 0 (n, (w : Int)), ?_, ⟨fun h => (by rw [← k2] at h; cases h), fun N w' h => (by rw [← k2] at h; cases h; exact ⟨n, rfl, n2⟩)⟩⟩
     simp (disch := omega) only [R_r37_Next_0, T_r37_Next_0, l_mul, e1, n1, r01_Len_spec n2, WW, w1 w hw]
    | none =>
     rw [hw] at k2
     simp only at k2
     refine .inl ⟨(), ?_, k2⟩
     simp (disch := omega) only [R_r37_Next_0, T_r37_Next_0, l_mul, e1, n1, r01_Len_spec n2, WW, w2 hw, add_l])
  (fun _ k2 => by
   rw [Nat.sub_self] at k2
   refine ⟨Y_r37_Next_0_1 ((fun _ => 0), 0), ?_, ⟨fun _ => .inr rfl, fun N w h => (by rw [← k2] at h; cases h)⟩⟩
   simp (disch := omega) only [R_r37_Next_0, T_r37_Next_0, WW])
  () hR
 have y1' : loopF R_r37_Next_0 (((b : Int), ((), ((), ((K0 : Int), (0, ()))))), (f, (((fun _ => 0), 0), ()))) = some y := y1
 obtain ⟨o, o1, o2⟩ : ∃ o, r01_Int 3 = some o ∧ IsN o 3 := r01_Int_l 3 (by decide)
 have hcmp : decide (cmpI F 3 < 0) = false := cmpI_ge (by omega)
 have hlow := r01_Low_spec ha
 rw [if_pos (by omega)] at hlow
 have hl2 : 2 ≤ blen F := by omega
 have hk3 : leastK F b + A - A % 2 = K0 := by omega
 have red : ∃ z, z = y ∧ r37_Next f (b : Int) a = match (generalizing := false) z with
   | .inl y1 => some (y1.2.1, y1.1.2.1)
   | .inr _ => some (((fun _ => 0), 0), 3) := by
  clear y2 y1
  refine ⟨y, rfl, ?_⟩
  rw [r37_Next_eq, r37_Next', r01_Len_spec hf]
  simp only [hf.lowbit, hodd, o1, r01_Cmp_spec hf o2, hcmp, cond_false]
  simp (disch := omega) only [WW, CC, r01_Len_spec ha, hlow, l1, hk1, hk2, hk3, y1']
  cases y <;> rfl
 obtain ⟨z, hz, red⟩ := red
 rw [hnm, red]
 constructor
 ·intro h
  refine ⟨3, ?_, rfl⟩
  rcases y2.1 h with e | e <;> (rw [hz, e])
 ·intro N w h
  obtain ⟨n, e, n2⟩ := y2.2 N w h
  exact ⟨n, by rw [hz, e], n2⟩
theorem r37_Next_all {f a : Nat → Int} {F A : Nat} {b : Int} (hf : IsN f F) (ha : IsN a A) (hF : Pr F) (hF3 : 3 ≤ F) (hA : A < 2 ^ 60) (hb : b ≤ 60 ∨ 250 < b) :
  (∀ e, nextZ F b A = .inl e → e ≠ 0 ∧ r37_Next f b a = some (((fun _ => 0), 0), e)) ∧
  ∀ N w, nextZ F b A = .inr (N, w) → ∃ n, r37_Next f b a = some ((n, (w : Int)), 0) ∧ IsN n N := by
 have hodd := odd_of_prime hF hF3
 have hlt := lt_blen F
 have hfl : blen A ≤ 64 := blen_le (by omega)
 have h256 : blen F ≤ 256 := blen_le hf.1
 obtain ⟨o, o1, o2⟩ : ∃ o, r01_Int 3 = some o ∧ IsN o 3 := r01_Int_l 3 (by decide)
 have hcmp : decide (cmpI F 3 < 0) = false := cmpI_ge (by omega)
 unfold nextZ
 by_cases hc : b < blen F + 2 ∨ b > 2 * (blen F : Int) - 2 ∨ b > 250
 ·rw [if_pos hc]
  refine ⟨fun e he => ?_, fun N w h => by cases h⟩
  cases he
  refine ⟨by decide, ?_⟩
  rw [r37_Next_eq, r37_Next', r01_Len_spec hf]
  have e1 : IntKind.i64.wrap ((blen F : Int) + 2) = (blen F : Int) + 2 := wrap_i64 (by omega)
  have e2 : IntKind.i64.wrap (2 * (blen F : Int)) = 2 * (blen F : Int) := wrap_i64 (by omega)
  have e3 : IntKind.i64.wrap (2 * (blen F : Int) - 2) = 2 * (blen F : Int) - 2 := wrap_i64 (by omega)
  simp only [hf.lowbit, hodd, o1, r01_Cmp_spec hf o2, hcmp, cond_false, r01_Len_spec ha, e1, e2, e3]
  rw [beq_f (by decide), cond_false, dec_f (by omega), cond_false]
  by_cases c1 : b < blen F + 2
  ·rw [dec_t c1, cond_true]
  ·rw [dec_f c1, cond_false]
   by_cases c2 : b > 2 * (blen F : Int) - 2
   ·rw [dec_t c2, cond_true]
   ·rw [dec_f c2, cond_false, dec_t (by omega), cond_true]
 ·rw [if_neg hc]
  obtain ⟨B, rfl⟩ : ∃ B : Nat, b = (B : Int) := ⟨b.toNat, by omega⟩
  rw [Int.toNat_natCast]
  obtain ⟨s1, s2⟩ := r37_Next_spec hf ha hF hF3 hA (b := B) (by omega) (by omega) (by omega)
  cases hm : nextM F B A with
  | none =>
   refine ⟨fun e he => ?_, fun N w h => by cases h⟩
   cases he
   obtain ⟨_, h1, _⟩ := s1 hm
   exact ⟨by decide, h1⟩
  | some x =>
   obtain ⟨N', w'⟩ := x
   refine ⟨fun e he => (by cases he), fun N w h => ?_⟩
   cases h
   exact s2 _ _ hm
theorem r37_Spawn_spec {p q : Nat → Int} {P Q : Nat} (hp : IsN p P) (hq : IsN q Q) (hodd : P % 2 = 1) (h5 : 5 ≤ P) (hQ : 0 < Q) (hd : (P - 1) % Q = 0) :
  (spawnN P ((P - 1) / Q) 99 2 = none → r37_Spawn p q = some ((fun _ => 0), 3)) ∧
  ∀ g, spawnN P ((P - 1) / Q) 99 2 = some g → ∃ x, r37_Spawn p q = some (x, 0) ∧ IsN x g := by
 obtain ⟨o, o1, o2⟩ : ∃ o, r01_Int 1 = some o ∧ IsN o 1 := r01_Int_l 1 (by decide)
 obtain ⟨f, f1, f2⟩ : ∃ o, r01_Int 5 = some o ∧ IsN o 5 := r01_Int_l 5 (by decide)
 obtain ⟨s, s1, s2⟩ := r01_Sub_spec hp o2
 have s2' : IsN s (P - 1) := s2.of_eq (by have := hp.1; omega)
 obtain ⟨e, l, d1, d2, d3⟩ := r02_Div_spec s2' hq hQ
 rw [hd] at d3
 have hc : decide (cmpI P 5 < 0) = false := cmpI_ge (by omega)
 generalize hE : (P - 1) / Q = E at *
 generalize hR : spawnN P E 99 2 = R
 obtain ⟨y, y1, y2⟩ := loop_seek (R := R_r37_Spawn_0) (S := Unit) (fun i _ => T_r37_Spawn_0 ((2 + i : Nat) : Int) p (fun _ => 0) e)
  (fun i _ => spawnN P E (99 - i) (2 + i) = R)
  (fun y => (R = none → y = Y_r37_Spawn_0_1 (fun _ => 0)) ∧ ∀ g, R = some g → ∃ x, y = Y_r37_Spawn_0_0 0 x ∧ IsN x g) 99
  (fun i hi _ hk => by
   have hr : 99 - i = (99 - (i + 1)) + 1 := by omega
   rw [hr, spawnN_succ] at hk
   obtain ⟨h, h1, h2⟩ := r01_Int_c (n := 2 + i) (by omega)
   obtain ⟨z, z1, z2⟩ := r03_Exp_spec h2 d2 hp (by omega)
   have hz := z2.eqb o2
   by_cases hc : (2 + i) ^ E % P = 1
   ·rw [if_pos hc] at hk
    refine .inl ⟨(), ?_, hk⟩
    simp (disch := omega) only [R_r37_Spawn_0, T_r37_Spawn_0, h1, z1, o1, hz, decide_eq_true hc, WW, CC]
    rfl
   ·rw [if_neg hc] at hk
    refine .inr ⟨Y_r37_Spawn_0_0 0 z, ?_, ⟨fun h => (by rw [← hk] at h; cases h), fun g h => (by rw [← hk] at h; cases h; exact ⟨z, rfl, z2⟩)⟩⟩
    simp (disch := omega) only [R_r37_Spawn_0, T_r37_Spawn_0, h1, z1, o1, hz, decide_eq_false hc, WW, CC])
  (fun _ hk => by
   rw [Nat.sub_self] at hk
   refine ⟨Y_r37_Spawn_0_1 (fun _ => 0), ?_, ⟨fun _ => rfl, fun g h => (by rw [← hk] at h; cases h)⟩⟩
   simp (disch := omega) only [R_r37_Spawn_0, T_r37_Spawn_0, WW])
  () hR
 have y1' : loopF R_r37_Spawn_0 (((), ((), ((), (2, ())))), (p, ((fun _ => 0), (e, ())))) = some y := y1
 have hz0 := d3.isZero
 have hq0 := hq.isZero
 have red : ∃ z, z = y ∧ r37_Spawn p q = match (generalizing := false) z with
   | .inl y1 => some (y1.2.1, y1.1.2.1)
   | .inr _ => some ((fun _ => 0), 3) := by
  clear y2 y1
  refine ⟨y, rfl, ?_⟩
  rw [r37_Spawn_eq, r37_Spawn', hp.lowbit, hodd]
  have hb1 : (((1 : Nat) : Int) == 0) = false := rfl
  simp only [hb1, cond_false, f1, r01_Cmp_spec hp f2, hc, hq0, decide_eq_false (show ¬ Q = 0 by omega), o1, s1, d1, hz0, decide_true, Bool.not_true, y1']
  cases y <;> rfl
 obtain ⟨z, hz, red⟩ := red
 rw [red]
 constructor
 ·intro h; rw [hz, y2.1 h]
 ·intro g h
  obtain ⟨x, e, hx⟩ := y2.2 g h
  exact ⟨x, by rw [hz, e], hx⟩
abbrev R37S := (Nat × (Nat → ((Nat → Int) × Int))) × SrcT
theorem r37_chain_loop {nb : Nat} {bits : Nat → Int} (hnb : nb ≤ 8) (hbits : ∀ i, i < nb → -9223372036854775808 ≤ bits i ∧ bits i < 9223372036854775808 ∧ (bits i ≤ 60 ∨ 250 < bits i)) {s : SrcT} {x : Nat → Int} {N : Nat} (hs : SrcOk s 1) (hx : IsN x N) (hN : Pr N) (hN3 : 3 ≤ N) :
  ∃ y, loopF R_r37_Find_0 (T_r37_Find_0 nb bits 1 (upd (fun _ => ((fun _ => 0), 0)) 0 (x, 0)) 0 0 (fun _ => ((fun _ => 0), 0)) (fun _ => 0) s) = some y ∧
   (∀ e, chainM ((List.range nb).map bits) s [(N, 0)] = .inl e → e ≠ 0 ∧ y = Y_r37_Find_0_0 e 0 (fun _ => ((fun _ => 0), 0)) (fun _ => 0)) ∧
   (∀ acc, chainM ((List.range nb).map bits) s [(N, 0)] = .inr acc → ∃ l, y = Y_r37_Find_0_1 (nb + 1) l 0 (fun _ => ((fun _ => 0), 0)) (fun _ => 0) ∧ AccOk acc (nb + 1) l) := by
 generalize hB : (List.range nb).map bits = B
 have hdrop : ∀ k, k < nb → B.drop k = bits k :: B.drop (k + 1) := by
  intro k hk
  have hl : B.length = nb := by rw [← hB]; simp
  rw [List.drop_eq_getElem_cons (by omega)]
  congr 1
  simp only [← hB, List.getElem_map, List.getElem_range]
 have hdropn : B.drop nb = [] := List.drop_of_length_le (by rw [← hB]; simp)
 generalize hR : chainM B s [(N, 0)] = R
 have hacc0 : AccOk [(N, 0)] 1 (upd (fun _ => ((fun _ => 0), 0)) 0 (x, 0)) := by
  refine ⟨rfl, by decide, ?_, ?_⟩
  ·intro i hi
   obtain rfl : i = 0 := by omega
   exact ⟨hx, rfl⟩
  ·intro i hi
   obtain rfl : i = 0 := by omega
   exact ⟨hN, hN3⟩
 exact loop_seek (R := R_r37_Find_0) (fun k (S : R37S) => T_r37_Find_0 nb bits S.1.1 S.1.2 (k : Int) 0 (fun _ => ((fun _ => 0), 0)) (fun _ => 0) S.2)
  (fun k S => SrcOk S.2 (k + 1) ∧ ∃ acc, AccOk acc S.1.1 S.1.2 ∧ S.1.1 = k + 1 ∧ chainM (B.drop k) S.2 acc = R)
  (fun y => (∀ e, R = .inl e → e ≠ 0 ∧ y = Y_r37_Find_0_0 e 0 (fun _ => ((fun _ => 0), 0)) (fun _ => 0)) ∧ (∀ acc, R = .inr acc → ∃ l, y = Y_r37_Find_0_1 (nb + 1) l 0 (fun _ => ((fun _ => 0), 0)) (fun _ => 0) ∧ AccOk acc (nb + 1) l)) nb
  (fun k hk S hP => by
   obtain ⟨⟨nl, l⟩, s⟩ := S
   simp only at hP
   obtain ⟨hs, acc, hacc, hnl, hch⟩ := hP
   have hnl2 : nl = k + 1 := hnl
   subst hnl2
   rw [hdrop k hk, chainM] at hch
   obtain ⟨hl1, hl2, hl3⟩ := hacc.last
   rw [show k + 1 - 1 = k from rfl] at hl1
   generalize hwas : (acc.getLastD (0, 0)).1 = was at *
   obtain ⟨b1, b2, b3⟩ := hbits k hk
   have hw256 : blen was ≤ 256 := blen_le hl1.1
   have hby : r34_Bytes s 8 (ByteArray.mk #[]) = some (toldN s, tellN s 8, 0) := r34_Bytes_spec hs (by omega) (n := 8) (by decide) (by decide)
   by_cases hlow : bits k - blen was - 2 < -9223372036854775808
   ·have hz : ∀ A, nextZ was (bits k) A = .inl 1 := by
     intro A; unfold nextZ; rw [if_pos (.inl (by omega))]
    rw [hz] at hch
    simp only at hch
    obtain ⟨x', x1, x2⟩ := r37_number_spec (s := s) (n := 8) (by decide) (IntKind.i64.wrap (IntKind.i64.wrap (bits k - blen was) - 2)) (by rw [wrap_i64']; split <;> omega)
    have hlt := numN_lt s 8 (IntKind.i64.wrap (IntKind.i64.wrap (bits k - blen was) - 2))
    obtain ⟨e1, e2⟩ := (r37_Next_all hl1 x2 hl2 hl3 (by omega) b3).1 1 (hz _)
    refine .inr ⟨Y_r37_Find_0_0 1 0 (fun _ => ((fun _ => 0), 0)) (fun _ => 0), ?_, ⟨fun e h => (by rw [← hch] at h; cases h; exact ⟨by decide, rfl⟩), fun a h => (by rw [← hch] at h; cases h)⟩⟩
    simp (disch := omega) only [R_r37_Find_0, T_r37_Find_0, WW, CC, show k + 1 - 1 = k from rfl, Nat.zero_add, r01_Len_spec hl1, hby, x1, e2]
   ·have hw1 : IntKind.i64.wrap (IntKind.i64.wrap (bits k - blen was) - 2) = bits k - blen was - 2 := by
     rw [wrap_i64 (x := bits k - blen was) (by omega), wrap_i64 (by omega)]
    obtain ⟨x', x1, x2⟩ := r37_number_spec (s := s) (n := 8) (by decide) (bits k - blen was - 2) (by omega)
    have hlt := numN_lt s 8 (bits k - blen was - 2)
    obtain ⟨s1, s2⟩ := r37_Next_all hl1 x2 hl2 hl3 (by omega) b3
    have c1 : Nat.ble ((k + 1 + 1) * 40) 140737488355328 = true := Nat.ble_eq_true_of_le (by omega)
    have c2 : Nat.ble (k + 1 + 1) 9223372036854775807 = true := Nat.ble_eq_true_of_le (by omega)
    cases hz : nextZ was (bits k) (numN s 8 (bits k - blen was - 2)) with
    | inl e =>
     rw [hz] at hch
     simp only at hch
     obtain ⟨e1, e2⟩ := s1 e hz
     refine .inr ⟨Y_r37_Find_0_0 e 0 (fun _ => ((fun _ => 0), 0)) (fun _ => 0), ?_, ⟨fun e' h => (by rw [← hch] at h; cases h; exact ⟨e1, rfl⟩), fun a h => (by rw [← hch] at h; cases h)⟩⟩
     simp (disch := omega) only [R_r37_Find_0, T_r37_Find_0, WW, CC, show k + 1 - 1 = k from rfl, Nat.zero_add, r01_Len_spec hl1, hw1, hby, x1, e2, bne_t e1]
    | inr z =>
     obtain ⟨N', w⟩ := z
     rw [hz] at hch
     simp only at hch
     obtain ⟨n, n1, n2⟩ := s2 N' w hz
     obtain ⟨p1, p2, p3, p4, p5⟩ := nextZ_of hl2 hz
     refine .inl ⟨((k + 1 + 1, glue (k + 1) l (fun j => upd (fun _ => ((fun _ => 0), 0)) 0 (n, (w : Int)) (0 + j))), toldN s), ?_, toldN_ok hs, _, hacc.push n2 p1 (by omega), rfl, hch⟩
     simp (disch := omega) only [R_r37_Find_0, T_r37_Find_0, WW, CC, show k + 1 - 1 = k from rfl, Nat.zero_add, r01_Len_spec hl1, hw1, hby, x1, n1, c1, c2, Bool.and_true])
  (fun S hP => by
   obtain ⟨⟨nl, l⟩, s⟩ := S
   simp only at hP
   obtain ⟨hs, acc, hacc, hnl, hch⟩ := hP
   have hnl2 : nl = nb + 1 := hnl
   subst hnl2
   rw [hdropn, chainM] at hch
   refine ⟨Y_r37_Find_0_1 (nb + 1) l 0 (fun _ => ((fun _ => 0), 0)) (fun _ => 0), by simp (disch := omega) only [R_r37_Find_0, T_r37_Find_0, WW], ⟨fun e h => (by rw [← hch] at h; cases h), fun acc' h => ?_⟩⟩
   rw [← hch] at h; cases h
   exact ⟨l, rfl, hacc⟩)
  ((1, upd (fun _ => ((fun _ => 0), 0)) 0 (x, 0)), s) ⟨hs, _, hacc0, rfl, by rw [List.drop_zero]; exact hR⟩
end Go.Pl
