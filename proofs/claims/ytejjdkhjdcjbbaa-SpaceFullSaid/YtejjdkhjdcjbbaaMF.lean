/-
 Bytes, and their digests.
-/
import Derived.Test.YtejjdkhjdcjbbaaMA
import Derived.Test.YtejjdkhjdcjbbaaPspace
import Derived.Test.YtejjdkhjdcjbbaaPr22
import Derived.Test.YtejjdkhjdcjbbaaL22
set_option linter.unusedVariables false
set_option linter.unusedSimpArgs false
namespace Go.Pl
open Go Go.Den
abbrev bl (s : ByteArray) : List UInt8 := s.data.toList
theorem bl_size (s : ByteArray) : s.size = (bl s).length := rfl
theorem bl_ext {s t : ByteArray} (h : bl s = bl t) : s = t := by
 cases s; cases t
 simp only [bl] at h
 rw [Array.ext' h]
theorem sEq_refl (s : ByteArray) : sEq s s = true := by simp [sEq]
theorem bl_bytesOf (n : Nat) (f : Nat → Int) : bl (bytesOf n f) = (List.range n).map fun i => UInt8.ofNat (f i).toNat := rfl
end Go.Pl

namespace Go.Pl
open Go Go.Den
def lessT (a b : ByteArray) : Bool := Op.bytesLess (bl a) (bl b)
theorem less_irr : ∀ l : List UInt8, Op.bytesLess l l = false
 | [] => rfl
 | a :: l => by
  have : ¬ a < a := UInt8.lt_irrefl a
  simp [Op.bytesLess, less_irr l]
theorem less_tr : ∀ {a b c : List UInt8}, Op.bytesLess a b = true → Op.bytesLess b c = true → Op.bytesLess a c = true
 | _, [], _, h, _ => by cases ‹List UInt8› <;> simp [Op.bytesLess] at h
 | _, _ :: _, [], _, h => by simp [Op.bytesLess] at h
 | [], _ :: _, _ :: _, _, _ => rfl
 | x :: a, y :: b, z :: c, h1, h2 => by
  simp only [Op.bytesLess, Bool.or_eq_true, Bool.and_eq_true, decide_eq_true_eq, beq_iff_eq] at h1 h2 ⊢
  rcases h1 with h1 | ⟨rfl, h1⟩
  ·rcases h2 with h2 | ⟨rfl, h2⟩
   ·exact .inl (UInt8.lt_trans h1 h2)
   ·exact .inl h1
  ·rcases h2 with h2 | ⟨rfl, h2⟩
   ·exact .inl h2
   ·exact .inr ⟨rfl, less_tr h1 h2⟩
theorem cmp_less : ∀ (a b : List UInt8), (Lib.compareBytes a b < 0 ↔ Op.bytesLess a b = true) ∧ (Lib.compareBytes a b = 0 ↔ a = b)
 | [], [] => by simp [Lib.compareBytes, Op.bytesLess]
 | [], _ :: _ => by simp [Lib.compareBytes, Op.bytesLess]
 | _ :: _, [] => by simp [Lib.compareBytes, Op.bytesLess]
 | x :: a, y :: b => by
  obtain ⟨h1, h2⟩ := cmp_less a b
  simp only [Lib.compareBytes, Op.bytesLess, Bool.or_eq_true, Bool.and_eq_true, decide_eq_true_eq, beq_iff_eq, List.cons.injEq]
  by_cases hxy : x < y
  ·have hne : x ≠ y := fun e => UInt8.lt_irrefl y (e ▸ hxy)
   simp [hxy, hne]
  ·by_cases hyx : y < x
   ·have hne : x ≠ y := fun e => UInt8.lt_irrefl y (e ▸ hyx)
    simp [hxy, hyx, hne]
   ·have : x = y := UInt8.le_antisymm (UInt8.not_lt.1 hyx) (UInt8.not_lt.1 hxy)
    subst this
    simp [hxy, h1, h2]
theorem less_tot {a b : List UInt8} (h : Op.bytesLess a b = false) (hne : a ≠ b) : Op.bytesLess b a = true := by
 induction a generalizing b with
 | nil => cases b with
  | nil => exact absurd rfl hne
  | cons y b => simp [Op.bytesLess] at h
 | cons x a ih => cases b with
  | nil => rfl
  | cons y b =>
   simp only [Op.bytesLess, Bool.or_eq_false_iff, Bool.and_eq_false_iff, decide_eq_false_iff_not, beq_eq_false_iff_ne] at h
   simp only [Op.bytesLess, Bool.or_eq_true, Bool.and_eq_true, decide_eq_true_eq, beq_iff_eq]
   by_cases hyx : y < x
   ·exact .inl hyx
   ·have : x = y := UInt8.le_antisymm (UInt8.not_lt.1 hyx) (UInt8.not_lt.1 h.1)
    subst this
    rcases h.2 with h | h
    ·exact absurd rfl h
    ·exact .inr ⟨rfl, ih h (fun e => hne (e ▸ rfl))⟩
theorem lessT_irr (a : ByteArray) : lessT a a = false := less_irr _
theorem lessT_tr {a b c : ByteArray} (h1 : lessT a b = true) (h2 : lessT b c = true) : lessT a c = true := less_tr h1 h2
theorem lessT_tot {a b : ByteArray} (h : lessT a b = false) (hne : a ≠ b) : lessT b a = true := less_tot h (fun e => hne (bl_ext e))
theorem less_toList (a b : ByteArray) : Op.bytesLess (ByteArray.toList a) (ByteArray.toList b) = lessT a b := by
 rw [ByteArray.toList_eq, ByteArray.toList_eq]; rfl
theorem sEq_dec (a b : ByteArray) : sEq a b = true ↔ a = b := by
 refine ⟨fun h => ?_, fun h => h ▸ sEq_refl _⟩
 simp only [sEq, ByteArray.toList_eq, beq_iff_eq] at h
 exact bl_ext h
theorem find1_spec (a b : ByteArray) : ∃ r, space_Space_find_1 a b = some r ∧ (r < 0 ↔ lessT a b = true) ∧ (r = 0 ↔ a = b) := by
 obtain ⟨h1, h2⟩ := cmp_less (bl a) (bl b)
 refine ⟨Lib.compareBytes (bl a) (bl b), by rw [space_Space_find_1_eq, space_Space_find_1', strCompare_eq]; rfl, h1, h2.trans ⟨bl_ext, fun e => e ▸ rfl⟩⟩
def cnt {α : Type} (p : α → Bool) (f : Nat → α) : Nat → Nat
 | 0 => 0
 | n + 1 => cnt p f n + if p (f n) then 1 else 0
theorem cnt_le {α : Type} (p : α → Bool) (f : Nat → α) : ∀ n, cnt p f n ≤ n
 | 0 => Nat.le_refl _
 | n + 1 => by have := cnt_le p f n; simp only [cnt]; split <;> omega
theorem cnt_congr {α : Type} {p : α → Bool} {f g : Nat → α} : ∀ {n}, (∀ i, i < n → p (f i) = p (g i)) → cnt p f n = cnt p g n
 | 0, _ => rfl
 | n + 1, h => by simp only [cnt]; rw [cnt_congr (n := n) (fun i hi => h i (by omega)), h n (by omega)]
theorem cnt_split {α : Type} {p : α → Bool} {f : Nat → α} {k : Nat} : ∀ {n}, k ≤ n → (∀ i, i < k → p (f i) = true) → (∀ i, k ≤ i → i < n → p (f i) = false) → cnt p f n = k
 | 0, h, _, _ => by simp only [cnt]; omega
 | n + 1, h, h1, h2 => by
  simp only [cnt]
  by_cases hk : k ≤ n
  ·rw [cnt_split (n := n) hk h1 (fun i a b => h2 i a (by omega)), h2 n hk (by omega)]; rfl
  ·obtain rfl : k = n + 1 := by omega
   rw [cnt_split (n := n) (k := n) (Nat.le_refl _) (fun i a => h1 i (by omega)) (fun i a b => by omega), h1 n (by omega)]; rfl
theorem cnt_pos {α : Type} {p : α → Bool} {f : Nat → α} : ∀ {n}, 0 < cnt p f n ↔ ∃ i, i < n ∧ p (f i) = true
 | 0 => by simp [cnt]
 | n + 1 => by
  simp only [cnt]
  have ih := cnt_pos (p := p) (f := f) (n := n)
  constructor
  ·intro h
   by_cases hn : p (f n) = true
   ·exact ⟨n, by omega, hn⟩
   ·rw [if_neg hn] at h
    obtain ⟨i, h1, h2⟩ := ih.1 (by omega)
    exact ⟨i, by omega, h2⟩
  ·rintro ⟨i, h1, h2⟩
   by_cases hi : i = n
   ·subst hi; rw [if_pos h2]; omega
   ·have := ih.2 ⟨i, by omega, h2⟩; omega
theorem insF_eq (f : Nat → ByteArray) (i : Nat) (x : ByteArray) (j : Nat) : insF f i x j = if j < i then f j else if j = i then x else f (j - 1) := by
 unfold insF
 by_cases h1 : j < i
 ·have : Nat.blt j i = true := Nat.ble_eq_true_of_le h1
  rw [this, if_pos h1]; rfl
 ·have : Nat.blt j i = false := by
   cases hb : Nat.blt j i with
   | false => rfl
   | true => exact absurd (Nat.le_of_ble_eq_true hb) h1
  rw [this, if_neg h1]
  by_cases h2 : j = i
  ·have : Nat.beq j i = true := by rw [h2]; exact Nat.beq_refl i
   rw [this, if_pos h2]; rfl
  ·have : Nat.beq j i = false := by
    cases hb : Nat.beq j i with
    | false => rfl
    | true => exact absurd (Nat.eq_of_beq_eq_true hb) h2
   rw [this, if_neg h2]; rfl
theorem cnt_ins (p : ByteArray → Bool) (f : Nat → ByteArray) (x : ByteArray) {i : Nat} : ∀ {n}, i ≤ n → cnt p (insF f i x) (n + 1) = cnt p f n + if p x then 1 else 0 := by
 intro n
 induction n with
 | zero =>
  intro h
  obtain rfl : i = 0 := by omega
  simp only [cnt, insF_eq, Nat.lt_irrefl, if_false, if_true]
 | succ n ih =>
  intro h
  by_cases hi : i = n + 1
  ·subst hi
   have h1 : cnt p (insF f (n + 1) x) (n + 1) = cnt p f (n + 1) := cnt_congr fun j hj => by rw [insF_eq, if_pos hj]
   have e : cnt p (insF f (n + 1) x) (n + 1 + 1) = cnt p (insF f (n + 1) x) (n + 1) + if p (insF f (n + 1) x (n + 1)) then 1 else 0 := rfl
   rw [e, h1, insF_eq, if_neg (Nat.lt_irrefl _), if_pos rfl]
  ·have e : cnt p (insF f i x) (n + 1 + 1) = cnt p (insF f i x) (n + 1) + if p (insF f i x (n + 1)) then 1 else 0 := rfl
   have h1 : ¬ n + 1 < i := by omega
   have h2 : ¬ n + 1 = i := by omega
   rw [e, ih (by omega), insF_eq, if_neg h1, if_neg h2]
   simp only [cnt, Nat.add_sub_cancel]
   omega
def SortedT (n : Nat) (f : Nat → ByteArray) : Prop := ∀ i j, i < j → j < n → lessT (f i) (f j) = true
def before (n : Nat) (f : Nat → ByteArray) (x : ByteArray) : Nat := cnt (fun y => lessT y x) f n
def there (n : Nat) (f : Nat → ByteArray) (x : ByteArray) : Bool := decide (0 < cnt (fun y => sEq y x) f n)
theorem there_iff {n : Nat} {f : Nat → ByteArray} {x : ByteArray} : there n f x = true ↔ ∃ i, i < n ∧ f i = x := by
 simp only [there, decide_eq_true_eq, cnt_pos, sEq_dec]
end Go.Pl

namespace Go.Pl
open Go Go.Den
theorem loopF_inv' {X Y : Type} {R : X → Option (X ⊕ Y)} {P : X → Prop} {Q : Y → Prop} (m : X → Nat)
  (h : ∀ x, P x → (∃ x', R x = some (.inl x') ∧ P x' ∧ m x' < m x) ∨ ∃ y, R x = some (.inr y) ∧ Q y) : ∀ x, P x → ∃ y, loopF R x = some y ∧ Q y := by
 have key : ∀ n x, m x ≤ n → P x → ∃ y, loopF R x = some y ∧ Q y := by
  intro n
  induction n with
  | zero =>
   intro x hm hp
   rcases h x hp with ⟨x', _, _, h3⟩ | ⟨y, h1, h2⟩
   ·omega
   ·exact ⟨y, loopF_exit h1, h2⟩
  | succ n ih =>
   intro x hm hp
   rcases h x hp with ⟨x', h1, h2, h3⟩ | ⟨y, h1, h2⟩
   ·rw [loopF_next h1]; exact ih x' (by omega) h2
   ·exact ⟨y, loopF_exit h1, h2⟩
 exact fun x hp => key _ x (Nat.le_refl _) hp
theorem bsearch_spec {n : Nat} {f : Nat → ByteArray} (hs : SortedT n f) (hn : n < 1000000) (x : ByteArray) :
  slices_BinarySearchFunc___string_string_string_ n f x = some (((before n f x : Nat) : Int), there n f x) := by
 obtain ⟨y, h1, i, rfl, h2, h3, h4⟩ := loopF_inv' (R := R_slices_BinarySearchFunc___string_string_string__0)
  (P := fun s => ∃ i j : Nat, s = T_slices_BinarySearchFunc___string_string_string__0 n f x (n : Int) (i : Int) (j : Int) ∧ i ≤ j ∧ j ≤ n ∧ (∀ t, t < i → lessT (f t) x = true) ∧ ∀ t, j ≤ t → t < n → lessT (f t) x = false)
  (Q := fun y => ∃ i : Nat, y = Y_slices_BinarySearchFunc___string_string_string__0_0 n f x (n : Int) (i : Int) ∧ i ≤ n ∧ (∀ t, t < i → lessT (f t) x = true) ∧ ∀ t, i ≤ t → t < n → lessT (f t) x = false)
  (fun s => (s.1.2.2.2.2.2.1 - s.1.2.2.2.2.1).toNat) (by
   rintro s ⟨i, j, rfl, h1, h2, h3, h4⟩
   by_cases hij : i < j
   ·obtain ⟨r, r1, r2, r3⟩ := find1_spec (f ((i + j) / 2)) x
    have hw : shrI .u64 ((i + j : Nat) : Int) 1 = (((i + j) / 2 : Nat) : Int) := shrU (s := 1) (by omega)
    refine .inl ?_
    by_cases hr : r < 0
    ·refine ⟨T_slices_BinarySearchFunc___string_string_string__0 n f x (n : Int) (((i + j) / 2 + 1 : Nat) : Int) (j : Int), ?_, ⟨_, _, rfl, by omega, h2, ?_, h4⟩, ?_⟩
     ·simp (disch := omega) only [R_slices_BinarySearchFunc___string_string_string__0, T_slices_BinarySearchFunc___string_string_string__0, hw, WW, CC, r1]
     ·intro t ht
      by_cases htm : t = (i + j) / 2
      ·subst htm; exact r2.1 hr
      ·exact lessT_tr (hs t ((i + j) / 2) (by omega) (by omega)) (r2.1 hr)
     ·show (((j : Int) - (((i + j) / 2 + 1 : Nat) : Int)).toNat) < ((j : Int) - (i : Int)).toNat
      omega
    ·refine ⟨T_slices_BinarySearchFunc___string_string_string__0 n f x (n : Int) (i : Int) (((i + j) / 2 : Nat) : Int), ?_, ⟨_, _, rfl, by omega, by omega, h3, ?_⟩, ?_⟩
     ·simp (disch := omega) only [R_slices_BinarySearchFunc___string_string_string__0, T_slices_BinarySearchFunc___string_string_string__0, hw, WW, CC, r1]
     ·intro t ht htn
      have hm : lessT (f ((i + j) / 2)) x = false := by
       cases hb : lessT (f ((i + j) / 2)) x with
       | false => rfl
       | true => exact absurd (r2.2 hb) hr
      by_cases htm : t = (i + j) / 2
      ·subst htm; exact hm
      ·cases hb : lessT (f t) x with
       | false => rfl
       | true => rw [lessT_tr (hs ((i + j) / 2) t (by omega) htn) hb] at hm; exact absurd hm (by decide)
     ·show (((((i + j) / 2 : Nat) : Int) - (i : Int)).toNat) < ((j : Int) - (i : Int)).toNat
      omega
   ·obtain rfl : i = j := by omega
    refine .inr ⟨Y_slices_BinarySearchFunc___string_string_string__0_0 n f x (n : Int) (i : Int), ?_, i, rfl, h2, h3, h4⟩
    simp (disch := omega) only [R_slices_BinarySearchFunc___string_string_string__0, T_slices_BinarySearchFunc___string_string_string__0, WW])
  (T_slices_BinarySearchFunc___string_string_string__0 n f x (n : Int) ((0 : Nat) : Int) (n : Int)) ⟨0, n, rfl, Nat.zero_le _, Nat.le_refl _, fun t ht => absurd ht (Nat.not_lt_zero _), fun t a b => by omega⟩
 have hb : before n f x = i := cnt_split h2 h3 h4
 have h1' : loopF R_slices_BinarySearchFunc___string_string_string__0 (((n, f), (x, ((), ((n : Int), (0, ((n : Int), ())))))), ()) = some (Y_slices_BinarySearchFunc___string_string_string__0_0 n f x (n : Int) (i : Int)) := h1
 rw [slices_BinarySearchFunc___string_string_string__eq, slices_BinarySearchFunc___string_string_string_', h1', hb]
 by_cases hin : i < n
 ·obtain ⟨r, r1, r2, r3⟩ := find1_spec (f i) x
  simp (disch := omega) only [Y_slices_BinarySearchFunc___string_string_string__0_0, WW, r1]
  congr 2
  rw [Bool.eq_iff_iff, there_iff, beq_iff_eq, r3]
  refine ⟨fun h => ⟨i, hin, h⟩, ?_⟩
  rintro ⟨j, hj, e⟩
  by_cases hji : j = i
  ·rw [← hji]; exact e
  ·by_cases hlt : j < i
   ·have := h3 j hlt
    rw [e, lessT_irr] at this; exact absurd this (by decide)
   ·have := hs i j (by omega) hj
    rw [e, h4 i (Nat.le_refl _) hin] at this; exact absurd this (by decide)
 ·simp (disch := omega) only [Y_slices_BinarySearchFunc___string_string_string__0_0, WW]
  congr 2
  symm
  cases hb : there n f x with
  | false => rfl
  | true =>
   obtain ⟨j, hj, e⟩ := there_iff.1 hb
   have := h3 j (by omega)
   rw [e, lessT_irr] at this; exact absurd this (by decide)
end Go.Pl

namespace Go.Pl
open Go Go.Den
abbrev mf (l : List (Int × Int)) (x : Int) : Int := Option.getD (mfind (.int .i64) (.int .i64) l x) (0 : Int)
theorem mfind_cons (e : Int × Int) (l : List (Int × Int)) (x : Int) : mfind (.int .i64) (.int .i64) (e :: l) x = if x = e.1 then some e.2 else mfind (.int .i64) (.int .i64) l x := by
 show (bif (x == e.1) then some e.2 else mfind (.int .i64) (.int .i64) l x) = _
 by_cases h : x = e.1
 ·rw [beq_t h, if_pos h]; rfl
 ·rw [beq_f h, if_neg h]; rfl
theorem mset_cons (e : Int × Int) (l : List (Int × Int)) (x y : Int) : mset (.int .i64) (.int .i64) (e :: l) x y = if x = e.1 then (x, y) :: l else e :: mset (.int .i64) (.int .i64) l x y := by
 show (bif (x == e.1) then (x, y) :: l else e :: mset (.int .i64) (.int .i64) l x y) = _
 by_cases h : x = e.1
 ·rw [beq_t h, if_pos h]; rfl
 ·rw [beq_f h, if_neg h]; rfl
theorem mfind_mset (l : List (Int × Int)) (x y z : Int) : mfind (.int .i64) (.int .i64) (mset (.int .i64) (.int .i64) l x y) z = if z = x then some y else mfind (.int .i64) (.int .i64) l z := by
 induction l with
 | nil => exact mfind_cons (x, y) [] z
 | cons e l ih =>
  rw [mset_cons]
  by_cases h1 : x = e.1
  ·rw [if_pos h1, mfind_cons, mfind_cons]
   by_cases h2 : z = x
   ·rw [if_pos h2, if_pos h2]
   ·rw [if_neg h2, if_neg h2, if_neg (fun h => h2 (h.trans h1.symm))]
  ·rw [if_neg h1, mfind_cons, mfind_cons, ih]
   by_cases h2 : z = e.1
   ·rw [if_pos h2, if_neg (fun h => h1 (h.symm.trans h2)), if_pos h2]
   ·rw [if_neg h2, if_neg h2]
theorem mf_mset (l : List (Int × Int)) (x y z : Int) : mf (mset (.int .i64) (.int .i64) l x y) z = if z = x then y else mf l z := by
 simp only [mf, mfind_mset]; split <;> rfl
theorem key_spec (s : ByteArray) : wire_Key s = some (decide (1 ≤ s.size ∧ s.size ≤ 8)) := by
 rw [wire_Key_eq, wire_Key']
 by_cases h : 1 ≤ s.size
 ·rw [dec_t (by omega), cond_t]
  congr 1
  rw [decide_eq_decide]; omega
 ·rw [dec_f (by omega), cond_f, dec_f (by omega)]
theorem find_m_spec {n : Nat} {f : Nat → ByteArray} (hs : SortedT n f) (hn : n < 1000000) (x : ByteArray) (a b : Int) (u : List (Int × Int)) :
  space_Space_find_m x a b n f u = some (((((before n f x : Nat) : Int), (there n f x, ())), ((a, (b, ((n, f), u))), ()))) := by
 have e : (fun j => f (0 + j)) = f := funext fun j => by rw [Nat.zero_add]
 rw [space_Space_find_m_eq, space_Space_find_m', e, bsearch_spec hs hn]
theorem Find_m_spec {n : Nat} {f : Nat → ByteArray} (hs : SortedT n f) (hn : n < 1000000) (x : ByteArray) (a b : Int) (u : List (Int × Int)) :
  space_Space_Find_m x a b n f u = some ((((if there n f x then ((before n f x : Nat) : Int) else 0), (there n f x, ())), ((a, (b, ((n, f), u))), ()))) := by
 rw [space_Space_Find_m_eq, space_Space_Find_m', find_m_spec hs hn]
 cases there n f x <;> rfl
abbrev R22 : Type := (Int × (Int × ((Nat × (Nat → ByteArray)) × (Nat × (Nat → Int)))))
theorem rFind_spec (s : R22) (hn : s.2.2.1.1 < 1000000) (x : ByteArray) :
  r22_Find s x = some (if there s.2.2.1.1 s.2.2.1.2 x then (((before s.2.2.1.1 s.2.2.1.2 x : Nat) : Int), true) else (0, false)) := by
 obtain ⟨a, b, ⟨n, f⟩, n1, g⟩ := s
 simp only at hn ⊢
 obtain ⟨q, h1, rfl⟩ := loop_for (R := R_r22_Find_0) (S := Unit) (fun k _ => T_r22_Find_0 x ((before k f x : Nat) : Int) (there k f x) (k : Int) a b n f n1 g)
  (fun _ => Y_r22_Find_0_0 ((before n f x : Nat) : Int) (there n f x)) (fun k s => s = ()) n
  (fun k hk _ _ => by
   refine ⟨(), ?_, rfl⟩
   have hb := cnt_le (fun y => lessT y x) f k
   have e1 : before (k + 1) f x = before k f x + if lessT (f k) x then 1 else 0 := rfl
   have e2 : there (k + 1) f x = (there k f x || sEq (f k) x) := by
    rw [Bool.eq_iff_iff]
    simp only [there, cnt, Bool.or_eq_true, decide_eq_true_eq]
    split
    ·next h => simp [h]
    ·next h => simp [h]
   have hb' : before k f x ≤ k := hb
   rw [e1, e2]
   cases h1 : lessT (f k) x <;> cases h2 : there k f x <;>
    simp (disch := omega) only [R_r22_Find_0, T_r22_Find_0, less_toList, h1, h2, WW, CC, Bool.false_or, Bool.true_or, if_true, if_false, Bool.false_eq_true, Nat.add_zero])
  (fun _ _ => by simp (disch := omega) only [R_r22_Find_0, T_r22_Find_0, WW]) () rfl
 have h1' : loopF R_r22_Find_0 ((x, ((), (0, (false, (0, ()))))), ((a, (b, ((n, f), (n1, g)))), ())) = some (Y_r22_Find_0_0 ((before n f x : Nat) : Int) (there n f x)) := h1
 rw [r22_Find_eq, r22_Find', h1']
 cases there n f x <;> rfl
theorem rUsed_spec (s : R22) (hn : s.2.2.2.1 < 1000000) (e : Int) :
  r22_Used s e = some ((cnt (fun y => y == e) s.2.2.2.2 s.2.2.2.1 : Nat) : Int) := by
 obtain ⟨a, b, ⟨n, f⟩, n1, g⟩ := s
 simp only at hn ⊢
 obtain ⟨q, h1, rfl⟩ := loop_for (R := R_r22_Used_0) (S := Unit) (fun k _ => T_r22_Used_0 e ((cnt (fun y => y == e) g k : Nat) : Int) (k : Int) a b n f n1 g)
  (fun _ => Y_r22_Used_0_0 ((cnt (fun y => y == e) g n1 : Nat) : Int)) (fun k s => s = ()) n1
  (fun k hk _ _ => by
   refine ⟨(), ?_, rfl⟩
   have hb := cnt_le (fun y => y == e) g k
   have e1 : cnt (fun y => y == e) g (k + 1) = cnt (fun y => y == e) g k + if (g k == e) then 1 else 0 := rfl
   rw [e1]
   cases h1 : (g k == e) <;>
    simp (disch := omega) only [R_r22_Used_0, T_r22_Used_0, h1, WW, CC, if_true, if_false, Bool.false_eq_true, Nat.add_zero])
  (fun _ _ => by simp (disch := omega) only [R_r22_Used_0, T_r22_Used_0, WW]) () rfl
 have h1' : loopF R_r22_Used_0 ((e, ((), (0, (0, ())))), ((a, (b, ((n, f), (n1, g)))), ())) = some (Y_r22_Used_0_0 ((cnt (fun y => y == e) g n1 : Nat) : Int)) := h1
 rw [r22_Used_eq, r22_Used', h1']
theorem rQuota_spec (s : R22) (e : Int) (h : 1 ≤ s.1 ∧ s.1 ≤ 7 ∧ 1 ≤ s.2.1 ∧ s.2.1 ≤ 4) : r22_Quota s e = some (quotaV s.1 s.2.1 e) := by
 obtain ⟨a, b, ⟨n, f⟩, n1, g⟩ := s
 simp only at h ⊢
 have hw : IntKind.i64.wrap (a + b) = a + b := wrap_i64 (by omega)
 rw [r22_Quota_eq, r22_Quota', quotaV]
 simp only [hw]
 by_cases h1 : e < 1
 ·rw [dec_f (by omega), cond_f, dec_f (by omega), cond_f, if_pos (.inl h1)]
 ·rw [dec_t (by omega), cond_t]
  by_cases h2 : e ≤ a
  ·rw [dec_t h2, cond_t, if_neg (by omega), if_pos h2]
  ·rw [dec_f h2, cond_f, dec_t (by omega), cond_t]
   by_cases h3 : e ≤ a + b
   ·rw [dec_t h3, cond_t, if_neg (by omega), if_neg h2]
   ·rw [dec_f h3, cond_f, if_pos (.inr (by omega))]
end Go.Pl

namespace Go.Pl
open Go Go.Den
theorem before_lt {n : Nat} {f : Nat → ByteArray} (hs : SortedT n f) (x : ByteArray) : ∀ i, i < n → (i < before n f x ↔ lessT (f i) x = true) := by
 intro i hi
 have key : ∃ k, k ≤ n ∧ (∀ t, t < k → lessT (f t) x = true) ∧ (∀ t, k ≤ t → t < n → lessT (f t) x = false) := by
  clear hi i
  induction n with
  | zero => exact ⟨0, Nat.le_refl _, fun t h => absurd h (Nat.not_lt_zero _), fun t a b => absurd b (Nat.not_lt_zero _)⟩
  | succ n ih =>
   obtain ⟨k, h1, h2, h3⟩ := ih fun i j a b => hs i j a (by omega)
   cases hb : lessT (f n) x with
   | true =>
    refine ⟨n + 1, Nat.le_refl _, fun t ht => ?_, fun t a b => by omega⟩
    by_cases htn : t = n
    ·rw [htn]; exact hb
    ·exact lessT_tr (hs t n (by omega) (by omega)) hb
   | false =>
    refine ⟨k, by omega, h2, fun t a b => ?_⟩
    by_cases htn : t = n
    ·rw [htn]; exact hb
    ·exact h3 t a (by omega)
 obtain ⟨k, h1, h2, h3⟩ := key
 have hb : before n f x = k := cnt_split h1 h2 h3
 rw [hb]
 refine ⟨fun h => h2 i h, fun h => ?_⟩
 apply Classical.byContradiction
 intro hc
 rw [h3 i (by omega) hi] at h
 exact absurd h (by decide)
theorem sorted_ins {n : Nat} {f : Nat → ByteArray} (hs : SortedT n f) {x : ByteArray} (hx : there n f x = false) : SortedT (n + 1) (insF f (before n f x) x) := by
 have hle : before n f x ≤ n := cnt_le _ _ _
 have hlt := before_lt hs x
 have hne : ∀ i, i < n → f i ≠ x := fun i hi e => by
  rw [there_iff.2 ⟨i, hi, e⟩] at hx; exact absurd hx (by decide)
 have hgt : ∀ i, i < n → before n f x ≤ i → lessT x (f i) = true := fun i hi h => by
  cases hb : lessT (f i) x with
  | false => exact lessT_tot hb (hne i hi)
  | true => have := (hlt i hi).2 hb; omega
 intro i j hij hj
 rw [insF_eq, insF_eq]
 generalize before n f x = k at *
 by_cases h1 : j < k
 ·rw [if_pos h1, if_pos (by omega)]; exact hs i j hij (by omega)
 ·rw [if_neg h1]
  by_cases h2 : j = k
  ·subst h2
   rw [if_pos rfl, if_pos hij]
   exact (hlt i (by omega)).1 hij
  ·rw [if_neg h2]
   by_cases h3 : i < k
   ·rw [if_pos h3]
    exact hs i (j - 1) (by omega) (by omega)
   ·rw [if_neg h3]
    by_cases h4 : i = k
    ·rw [if_pos h4]; exact hgt (j - 1) (by omega) (by omega)
    ·rw [if_neg h4]; exact hs (i - 1) (j - 1) (by omega) (by omega)
structure Agree (a b : Int) (n : Nat) (f : Nat → ByteArray) (u : List (Int × Int)) (s : R22) : Prop where
 e1 : s.1 = a
 e2 : s.2.1 = b
 sz : 1 ≤ a ∧ a ≤ 7 ∧ 1 ≤ b ∧ b ≤ 4
 len : s.2.2.1.1 = n
 len2 : s.2.2.2.1 = n
 sorted : SortedT n f
 same : ∀ p : ByteArray → Bool, cnt p s.2.2.1.2 n = cnt p f n
 uses : ∀ e, mf u e = ((cnt (fun y => y == e) s.2.2.2.2 n : Nat) : Int)
theorem Agree.before {a b : Int} {n : Nat} {f : Nat → ByteArray} {u : List (Int × Int)} {s : R22} (h : Agree a b n f u s) (x : ByteArray) : Pl.before n s.2.2.1.2 x = Pl.before n f x := h.same _
theorem Agree.there {a b : Int} {n : Nat} {f : Nat → ByteArray} {u : List (Int × Int)} {s : R22} (h : Agree a b n f u s) (x : ByteArray) : Pl.there n s.2.2.1.2 x = Pl.there n f x := by unfold Pl.there; rw [h.same]
theorem cnt_app {α : Type} (p : α → Bool) (m : Nat → α) (z x : α) (n : Nat) :
  cnt p (fun j => glue (0 + n) (glue 0 (fun _ => z) m) (fun j => (upd (fun _ => z) 0 x) (0 + j)) (0 + j)) (n + 1) = cnt p m n + if p x then 1 else 0 := by
 have hf : ∀ j, glue (0 + n) (glue 0 (fun _ => z) m) (fun j => (upd (fun _ => z) 0 x) (0 + j)) (0 + j) = if j < n then m j else (upd (fun _ => z) 0 x) (j - n) := by
  intro j
  rw [Nat.zero_add, Nat.zero_add]
  unfold glue
  by_cases h : j < n
  ·have : Nat.blt j n = true := Nat.ble_eq_true_of_le h
   rw [this, if_pos h]
   have h0 : Nat.blt j 0 = false := rfl
   rw [h0]; rfl
  ·have : Nat.blt j n = false := by
    cases hb : Nat.blt j n with
    | false => rfl
    | true => exact absurd (Nat.le_of_ble_eq_true hb) h
   rw [this, if_neg h]
   show (upd (fun _ => z) 0 x) (0 + (j - n)) = _
   rw [Nat.zero_add]
 simp only [cnt, hf]
 rw [if_neg (Nat.lt_irrefl _), Nat.sub_self, upd_same]
 congr 1
 exact cnt_congr fun i hi => by rw [if_pos hi]
theorem open_both {a b : Int} {n : Nat} {f : Nat → ByteArray} {u : List (Int × Int)} {s : R22} (H : Agree a b n f u s) (hn : n < 1000) (x : ByteArray) (e : Int) :
  ∃ (i : Int) (fr : Bool) (er : Int) (n' : Nat) (f' : Nat → ByteArray) (u' : List (Int × Int)) (s' : R22),
   space_Space_Open_m x e a b n f u = some ((i, (fr, (er, ()))), ((a, (b, ((n', f'), u'))), ())) ∧ r22_Open s x e = some (s', i, fr, er) ∧ Agree a b n' f' u' s' ∧ n' ≤ n + 1 := by
 obtain ⟨a', b', ⟨m, g⟩, m1, g1⟩ := s
 have e1 : a' = a := H.e1
 have e2 : b' = b := H.e2
 have e3 : m = n := H.len
 have e4 : m1 = n := H.len2
 subst e1 e2 e3 e4
 have hF := rFind_spec (a', (b', ((m1, g), (m1, g1)))) (by show m1 < 1000000; omega) x
 have hU := rUsed_spec (a', (b', ((m1, g), (m1, g1)))) (by show m1 < 1000000; omega) e
 have hQ := rQuota_spec (a', (b', ((m1, g), (m1, g1)))) e H.sz
 have hM := find_m_spec H.sorted (show m1 < 1000000 by omega) x a' b' u
 have hu : mf u e = ((cnt (fun y => y == e) g1 m1 : Nat) : Int) := H.uses e
 have hbf : before m1 g x = before m1 f x := H.before x
 have hth : there m1 g x = there m1 f x := H.there x
 have hq0 : (0 : Int) ≤ quotaV a' b' e := by
  have h := H.sz
  have h28 : b' * a' ≤ 28 := by
   have : b' * a' ≤ 4 * 7 := Int.mul_le_mul (by omega) (by omega) (by omega) (by omega)
   omega
  have h0 : 0 ≤ b' * a' := Int.mul_nonneg (by omega) (by omega)
  unfold quotaV
  split
  ·omega
  ·split
   ·rw [wrap_i64 (x := b' * a') (by omega), wrap_i64 (by omega)]; omega
   ·omega
 simp only at hF hU hQ
 rw [hbf, hth] at hF
 rw [space_Space_Open_m_eq, space_Space_Open_m', key_spec, r22_Open_eq, r22_Open']
 by_cases hk : 1 ≤ x.size ∧ x.size ≤ 8
 ·simp (disch := omega) only [WW, hk.1, hk.2, and_self]
  rw [hQ]
  by_cases hz : quotaV a' b' e = 0
  ·refine ⟨0, false, 1, m1, f, u, _, ?_, ?_, H, by omega⟩
   ·rw [beq_t hz]; rfl
   ·simp only; rw [beq_t hz]; rfl
  ·simp only [beq_f hz, cond_f, hF, hM]
   cases ht : there m1 f x with
   | true =>
    exact ⟨((before m1 f x : Nat) : Int), false, 0, m1, f, u, _, rfl, rfl, H, by omega⟩
   | false =>
    simp only [cond_f, if_false, Bool.false_eq_true, hU, hQ]
    have hu' : Option.getD (mfind (.int .i64) (.int .i64) u e) (0 : Int) = ((cnt (fun y => y == e) g1 m1 : Nat) : Int) := hu
    rw [hu']
    have hcl := cnt_le (fun y => y == e) g1 m1
    by_cases hge : ((cnt (fun y => y == e) g1 m1 : Nat) : Int) ≥ quotaV a' b' e
    ·exact ⟨0, false, 7, m1, f, u, _, by rw [dec_t hge]; rfl, by rw [dec_t hge]; rfl, H, by omega⟩
    ·have hble : ∀ a b : Nat, a ≤ b → Nat.ble a b = true := fun a b h => Nat.ble_eq_true_of_le h
     have hbl : before m1 f x ≤ m1 := cnt_le _ _ _
     simp (disch := omega) only [dec_f hge, cond_f, WW, hble, Bool.and_true, CC]
     have hA : Agree a' b' (m1 + 1) (insF f (before m1 f x) x) (mset (.int .i64) (.int .i64) u e ((cnt (fun y => y == e) g1 m1 + 1 : Nat) : Int))
       (a', (b', ((m1 + 1), (fun j => (glue (0 + m1) (glue 0 (fun _ => ByteArray.empty) g) (fun j => (upd (fun _ => ByteArray.empty) 0 x) (0 + j))) (0 + j))), ((m1 + 1), (fun j => (glue (0 + m1) (glue 0 (fun _ => 0) g1) (fun j => (upd (fun _ => 0) 0 e) (0 + j))) (0 + j))))) := by
      refine ⟨rfl, rfl, H.sz, rfl, rfl, sorted_ins H.sorted ht, fun p => ?_, fun z => ?_⟩
      ·show cnt p _ (m1 + 1) = _
       rw [cnt_app, cnt_ins p f x hbl, show cnt p g m1 = cnt p f m1 from H.same p]
      ·show mf _ z = ((cnt _ _ (m1 + 1) : Nat) : Int)
       rw [cnt_app, mf_mset]
       by_cases hz : z = e
       ·rw [if_pos hz, hz, if_pos (by simp)]
       ·rw [if_neg hz, if_neg (by simp; exact fun h => hz h.symm)]
        exact H.uses z
     have hFn := rFind_spec (a', (b', ((m1 + 1), (fun j => (glue (0 + m1) (glue 0 (fun _ => ByteArray.empty) g) (fun j => (upd (fun _ => ByteArray.empty) 0 x) (0 + j))) (0 + j))), ((m1 + 1), (fun j => (glue (0 + m1) (glue 0 (fun _ => 0) g1) (fun j => (upd (fun _ => 0) 0 e) (0 + j))) (0 + j))))) (by show m1 + 1 < 1000000; omega) x
     have hb2 := hA.before x
     have ht2 := hA.there x
     simp only at hFn hb2 ht2
     have hb3 : before (m1 + 1) (insF f (before m1 f x) x) x = before m1 f x := by
      unfold before
      rw [cnt_ins _ f x (cnt_le _ _ _), lessT_irr]; rfl
     have ht3 : there (m1 + 1) (insF f (before m1 f x) x) x = true := there_iff.2 ⟨before m1 f x, by omega, by rw [insF_eq, if_neg (Nat.lt_irrefl _), if_pos rfl]⟩
     rw [hb2, ht2, hb3, ht3] at hFn
     refine ⟨((before m1 f x : Nat) : Int), true, 0, m1 + 1, _, _, _, rfl, ?_, hA, Nat.le_refl _⟩
     rw [show 0 + m1 + 1 = m1 + 1 by omega, hFn]
     rfl
 ·refine ⟨0, false, 1, m1, f, u, _, by rw [dec_f hk]; rfl, ?_, H, by omega⟩
  by_cases h1 : x.size < 1
  ·rw [dec_t (by omega)]; rfl
  ·rw [dec_f (by omega), dec_t (by omega)]; rfl
end Go.Pl

namespace Go.Pl
open Go Go.Den
theorem same_spec {n : Nat} {f g : Nat → ByteArray} (hn : n < 1000000) (h : ∀ i, i < n → f i = g i) : r22_Same n f n g = some true := by
 obtain ⟨q, h1, rfl⟩ := loop_for (R := R_r22_Same_0) (S := Unit) (fun k _ => T_r22_Same_0 n f n g (k : Int))
  (fun _ => Y_r22_Same_0_1) (fun k s => s = ()) n
  (fun k hk _ _ => by
   refine ⟨(), ?_, rfl⟩
   have e : sEq (f k) (g k) = true := by rw [h k hk]; exact sEq_refl _
   simp (disch := omega) only [R_r22_Same_0, T_r22_Same_0, WW, CC, e])
  (fun _ _ => by simp (disch := omega) only [R_r22_Same_0, T_r22_Same_0, WW]) () rfl
 have h1' : loopF R_r22_Same_0 (((n, f), ((n, g), (0, ()))), ()) = some Y_r22_Same_0_1 := h1
 rw [r22_Same_eq, r22_Same', bne_f rfl, cond_f, h1']
theorem short_spec (n : Nat) (l : Nat → (ByteArray × Int)) (hn : n < 9223372036854775808) : ∃ b, l22_short n l = some b ∧ (b = true → n ≤ 60) := by
 obtain ⟨y, h1, h2⟩ := loop_seek (R := R_l22_short_0) (S := Unit) (fun k _ => T_l22_short_0 n l (k : Int)) (fun k _ => k ≤ 60) (fun y => y = Y_l22_short_0_0 false ∨ y = Y_l22_short_0_1 n l) (min n 60)
  (fun k hk _ _ => by
   by_cases hs : (((ByteArray.size (l k).1) : Nat) : Int) > 40
   ·refine .inr ⟨Y_l22_short_0_0 false, ?_, .inl rfl⟩
    simp (disch := omega) only [R_l22_short_0, T_l22_short_0, WW, CC, dec_t hs]
   ·refine .inl ⟨(), ?_, by omega⟩
    simp (disch := omega) only [R_l22_short_0, T_l22_short_0, WW, CC, dec_f hs])
  (fun _ _ => by
   refine ⟨Y_l22_short_0_1 n l, ?_, .inr rfl⟩
   by_cases h : n ≤ 60
   ·rw [Nat.min_eq_left h]; simp (disch := omega) only [R_l22_short_0, T_l22_short_0, WW]
   ·rw [Nat.min_eq_right (by omega)]; simp (disch := omega) only [R_l22_short_0, T_l22_short_0, WW]) () (Nat.zero_le _)
 have h1' : loopF R_l22_short_0 (((n, l), (0, ())), ()) = some y := h1
 rw [l22_short_eq, l22_short', h1']
 rcases h2 with rfl | rfl
 ·exact ⟨false, rfl, fun h => absurd h (by decide)⟩
 ·exact ⟨_, rfl, fun h => by have h3 : ((n : Nat) : Int) ≤ 60 := of_decide_eq_true h; omega⟩
end Go.Pl

namespace Go.Pl
open Go Go.Den
def openR (x : ByteArray) (e a b : Int) (n : Nat) (f : Nat → ByteArray) (u : List (Int × Int)) : (Int × (Bool × (Int × Unit))) × ((Int × (Int × ((Nat × (Nat → ByteArray)) × (List (Int × Int))))) × Unit) :=
 if ¬ (1 ≤ x.size ∧ x.size ≤ 8) ∨ quotaV a b e = 0 then ((0, (false, (1, ()))), ((a, (b, ((n, f), u))), ()))
 else if there n f x then ((((before n f x : Nat) : Int), (false, (0, ()))), ((a, (b, ((n, f), u))), ()))
 else if mf u e ≥ quotaV a b e then ((0, (false, (7, ()))), ((a, (b, ((n, f), u))), ()))
 else ((((before n f x : Nat) : Int), (true, (0, ()))), ((a, (b, ((n + 1, insF f (before n f x) x), mset (.int .i64) (.int .i64) u e (IntKind.i64.wrap (mf u e + 1))))), ()))
theorem Open_m_spec {n : Nat} {f : Nat → ByteArray} (hs : SortedT n f) (hn : n < 1000) (x : ByteArray) (e a b : Int) (u : List (Int × Int)) :
  space_Space_Open_m x e a b n f u = some (openR x e a b n f u) := by
 have hM := find_m_spec hs (show n < 1000000 by omega) x a b u
 have hbl : before n f x ≤ n := cnt_le _ _ _
 have hble : ∀ a b : Nat, a ≤ b → Nat.ble a b = true := fun a b h => Nat.ble_eq_true_of_le h
 rw [space_Space_Open_m_eq, space_Space_Open_m', key_spec, openR]
 by_cases hk : 1 ≤ x.size ∧ x.size ≤ 8
 ·by_cases hz : quotaV a b e = 0
  ·rw [if_pos (.inr hz), dec_t hk]
   simp only [beq_t hz, WW]
  ·rw [if_neg (by intro h; rcases h with h | h; exact h hk; exact hz h), dec_t hk]
   simp only [beq_f hz, WW, hM]
   cases ht : there n f x with
   | true => rfl
   | false =>
    by_cases hge : mf u e ≥ quotaV a b e
    ·simp only [dec_t hge, WW, if_pos hge]; rfl
    ·have hge' : ¬ (Option.getD (mfind (.int .i64) (.int .i64) u e) (0 : Int) ≥ quotaV a b e) := hge
     simp (disch := omega) only [dec_f hge', WW, hble, Bool.and_true, if_neg hge, if_false, Bool.false_eq_true]
 ·rw [if_pos (.inl hk), dec_f hk]; rfl
theorem openR_sorted {n : Nat} {f : Nat → ByteArray} (hs : SortedT n f) (x : ByteArray) (e a b : Int) (u : List (Int × Int)) :
  SortedT (openR x e a b n f u).2.1.2.2.1.1 (openR x e a b n f u).2.1.2.2.1.2 ∧ (openR x e a b n f u).2.1.2.2.1.1 ≤ n + 1 ∧ (openR x e a b n f u).2.1.1 = a ∧ (openR x e a b n f u).2.1.2.1 = b := by
 unfold openR
 split
 ·exact ⟨hs, Nat.le_succ _, rfl, rfl⟩
 ·split
  ·exact ⟨hs, Nat.le_succ _, rfl, rfl⟩
  ·next ht =>
   split
   ·exact ⟨hs, Nat.le_succ _, rfl, rfl⟩
   ·refine ⟨sorted_ins hs ?_, Nat.le_refl _, rfl, rfl⟩
    cases h : there n f x with
    | false => rfl
    | true => exact absurd h ht
end Go.Pl

set_option maxRecDepth 100000
namespace Go.Pl
open Go Go.Den
theorem New_ok {a b : Int} (h : 1 ≤ a ∧ a ≤ 7 ∧ 1 ≤ b ∧ b ≤ 4) : space_New_m a b = some (Y_space_New_m_1 0 a b 0 (fun _ => ByteArray.empty) []) := by
 rw [space_New_m_eq, space_New_m', dec_f (by omega), cond_f, dec_f (by omega), cond_f, dec_f (by omega), cond_f, dec_f (by omega), cond_f]
theorem New_bad {a b : Int} (h : ¬ (1 ≤ a ∧ a ≤ 7 ∧ 1 ≤ b ∧ b ≤ 4)) : space_New_m a b = some (Y_space_New_m_0 1) := by
 rw [space_New_m_eq, space_New_m']
 by_cases h1 : a < 1
 ·rw [dec_t h1]; rfl
 ·rw [dec_f h1, cond_f]
  by_cases h2 : a > 7
  ·rw [dec_t h2]; rfl
  ·rw [dec_f h2, cond_f]
   by_cases h3 : b < 1
   ·rw [dec_t h3]; rfl
   ·rw [dec_f h3, cond_f, dec_t (by omega)]; rfl
def kA : ByteArray := ByteArray.mk #[97]
def kB : ByteArray := ByteArray.mk #[98]
def f0 : Nat → ByteArray := fun _ => ByteArray.empty
def f1 : Nat → ByteArray := insF f0 0 kB
def f2 : Nat → ByteArray := insF f1 0 kA
def u1 : List (Int × Int) := [(5, 1)]
def u2 : List (Int × Int) := [(5, 2)]
theorem sorted0 (f : Nat → ByteArray) : SortedT 0 f := fun i j _ h => absurd h (Nat.not_lt_zero _)
theorem sorted1 : SortedT 1 f1 := fun i j h1 h2 => by omega
theorem lessAB : lessT kA kB = true := by decide +kernel
theorem sorted2 : SortedT 2 f2 := fun i j h1 h2 => by
 obtain rfl : i = 0 := by omega
 obtain rfl : j = 1 := by omega
 exact lessAB
theorem q5 : quotaV 4 2 5 = 4 := by decide +kernel
theorem q1 : quotaV 4 2 1 = 32 := by decide +kernel
theorem open1 : openR kB 5 4 2 0 f0 [] = ((0, (true, (0, ()))), ((4, (2, ((1, f1), u1))), ())) := by
 rw [openR, if_neg (by decide +kernel), if_neg (by decide +kernel), if_neg (by decide +kernel)]
 rfl
theorem open2 : openR kA 5 4 2 1 f1 u1 = ((0, (true, (0, ()))), ((4, (2, ((2, f2), u2))), ())) := by
 rw [openR, if_neg (by decide +kernel), if_neg (by decide +kernel), if_neg (by decide +kernel)]
 have e : before 1 f1 kA = 0 := by decide +kernel
 rw [e]
 rfl
theorem open3 : openR kB 1 4 2 2 f2 u2 = ((1, (false, (0, ()))), ((4, (2, ((2, f2), u2))), ())) := by
 rw [openR, if_neg (by decide +kernel), if_pos (by decide +kernel)]
 have e : before 2 f2 kB = 1 := by decide +kernel
 rw [e]
 rfl
theorem awake22 : l22_awake = some true := by
 rw [l22_awake_eq, l22_awake', New_ok (by decide)]
 have h1 : space_Space_Open_m (ByteArray.mk #[98]) 5 4 2 0 (fun _ => ByteArray.empty) [] = some ((0, (true, (0, ()))), ((4, (2, ((1, f1), u1))), ())) := by
  rw [← open1]; exact Open_m_spec (sorted0 f0) (by decide) kB 5 4 2 []
 have h2 : space_Space_Open_m (ByteArray.mk #[97]) 5 4 2 1 f1 u1 = some ((0, (true, (0, ()))), ((4, (2, ((2, f2), u2))), ())) := by
  rw [← open2]; exact Open_m_spec sorted1 (by decide) kA 5 4 2 u1
 have h3 : space_Space_Open_m (ByteArray.mk #[98]) 1 4 2 2 f2 u2 = some ((1, (false, (0, ()))), ((4, (2, ((2, f2), u2))), ())) := by
  rw [← open3]; exact Open_m_spec sorted2 (by decide) kB 1 4 2 u2
 have h4 : space_Space_Find_m (ByteArray.mk #[98]) 4 2 2 f2 u2 = some ((1, (true, ())), ((4, (2, ((2, f2), u2))), ())) := by
  have e := Find_m_spec sorted2 (by decide) kB 4 2 u2
  rw [show there 2 f2 kB = true by decide +kernel, show before 2 f2 kB = 1 by decide +kernel] at e
  exact e
 have h5 : space_Space_Used_m 5 4 2 2 f2 u2 = some ((2, ()), ((4, (2, ((2, f2), u2))), ())) := by rw [space_Space_Used_m_eq]; rfl
 have h6 : space_Space_Used_m 1 4 2 2 f2 u2 = some ((0, ()), ((4, (2, ((2, f2), u2))), ())) := by rw [space_Space_Used_m_eq]; rfl
 have h7 : space_Space_Keys_m 4 2 2 f2 u2 = some (((2, (fun j => f2 (0 + j))), ()), ((4, (2, ((2, f2), u2))), ())) := by rw [space_Space_Keys_m_eq]; rfl
 have h8 : r22_Same 2 (fun j => f2 (0 + j)) 2 (fun j => (upd (upd (fun _ => ByteArray.empty) 0 (ByteArray.mk #[97])) 1 (ByteArray.mk #[98])) (0 + j)) = some true :=
  same_spec (by decide) fun i hi => by
   by_cases h : i = 0
   ·subst h; rfl
   ·obtain rfl : i = 1 := by omega
    rfl
 simp only [Y_space_New_m_1, WW, h1, h2, h3, h4, h5, h6, h7, h8, q5, q1, bne_self_eq_false, beq_self_eq_true]
end Go.Pl

namespace Go.Pl
open Go Go.Den
def sumU (used : Nat → Int) : Nat → Nat
 | 0 => 0
 | n + 1 => sumU used n + (used n).toNat
def uOk (a b : Int) (used : Nat → Int) (n : Nat) : Prop := ∀ j, j < n → 0 ≤ used j ∧ used j ≤ quotaV a b ((j + 1 : Nat) : Int)
def kOk (keys : Nat → ByteArray) (n : Nat) : Prop := ∀ i, i < n → (1 ≤ (keys i).size ∧ (keys i).size ≤ 8) ∧ (i = 0 ∨ lessT (keys (i - 1)) (keys i) = true)
def usedAt (used : Nat → Int) (n : Nat) (e : Int) : Int := if 1 ≤ e ∧ e ≤ (n : Int) then used (e - 1).toNat else 0
theorem usedAt_succ (used : Nat → Int) (n : Nat) (e : Int) : usedAt used (n + 1) e = if e = ((n + 1 : Nat) : Int) then used n else usedAt used n e := by
 unfold usedAt
 by_cases h : e = ((n + 1 : Nat) : Int)
 ·rw [if_pos h, if_pos (by omega)]; congr 1; omega
 ·rw [if_neg h]
  by_cases h2 : 1 ≤ e ∧ e ≤ (n : Int)
  ·rw [if_pos h2, if_pos (by omega)]
  ·rw [if_neg h2, if_neg (by omega)]
theorem uOk_succ {a b : Int} {used : Nat → Int} {n : Nat} : uOk a b used (n + 1) ↔ uOk a b used n ∧ 0 ≤ used n ∧ used n ≤ quotaV a b ((n + 1 : Nat) : Int) := by
 constructor
 ·intro h; exact ⟨fun j hj => h j (by omega), h n (by omega)⟩
 ·rintro ⟨h1, h2⟩ j hj
  by_cases e : j = n
  ·subst e; exact h2
  ·exact h1 j (by omega)
theorem kOk_sorted {keys : Nat → ByteArray} : ∀ {n}, kOk keys n → SortedT n keys := by
 intro n h i j hij hj
 induction j with
 | zero => omega
 | succ j ih =>
  have h1 : lessT (keys j) (keys (j + 1)) = true := by
   rcases (h (j + 1) hj).2 with h | h
   ·omega
   ·exact h
  by_cases e : i = j
  ·subst e; exact h1
  ·exact lessT_tr (ih (by omega) (by omega)) h1
theorem quota_le {a b : Int} (h : 1 ≤ a ∧ a ≤ 7 ∧ 1 ≤ b ∧ b ≤ 4) (e : Int) : 0 ≤ quotaV a b e ∧ quotaV a b e ≤ 112 := by
 have hp : 1 ≤ b * a ∧ b * a ≤ 28 := by
  have : 1 * 1 ≤ b * a := Int.mul_le_mul (by omega) (by omega) (by omega) (by omega)
  have : b * a ≤ 4 * 7 := Int.mul_le_mul (by omega) (by omega) (by omega) (by omega)
  omega
 unfold quotaV
 split
 ·omega
 ·split
  ·generalize b * a = p at *
   rw [wrap_i64 (x := p) (by omega), wrap_i64 (by omega)]; omega
  ·omega
theorem of_used {a b : Int} (hz : 1 ≤ a ∧ a ≤ 7 ∧ 1 ≤ b ∧ b ≤ 4) (nk : Nat) (keys : Nat → ByteArray) (nu : Nat) (used : Nat → Int) (hn : nu ≤ 12) :
  ∃ y, loopF R_space_Of_m_0_v1 (T_space_Of_m_0_v1 nk keys 0 nu used (nu : Int) 0 a b 0 (fun _ => ByteArray.empty) []) = some y ∧
   ((y = Y_space_Of_m_0_v1_0 1 ∧ ¬ uOk a b used nu) ∨ (uOk a b used nu ∧ ∃ u, y = Y_space_Of_m_0_v1_1 nk keys ((sumU used nu : Nat) : Int) a b 0 (fun _ => ByteArray.empty) u ∧ ∀ e, mf u e = usedAt used nu e)) := by
 refine loop_seek (R := R_space_Of_m_0_v1) (S := List (Int × Int)) (fun k u => T_space_Of_m_0_v1 nk keys ((sumU used k : Nat) : Int) nu used (nu : Int) (k : Int) a b 0 (fun _ => ByteArray.empty) u)
  (fun k u => uOk a b used k ∧ sumU used k ≤ 112 * k ∧ ∀ e, mf u e = usedAt used k e) _ nu
  (fun k hk u hu => ?_) (fun u hu => ?_) [] ⟨fun j hj => absurd hj (Nat.not_lt_zero _), Nat.zero_le _, fun e => by unfold usedAt; rw [if_neg (by omega)]; rfl⟩
 ·obtain ⟨h1, h2, h3⟩ := hu
  have hq := quota_le hz ((k + 1 : Nat) : Int)
  by_cases g1 : used k < 0
  ·refine .inr ⟨_, ?_, .inl ⟨rfl, fun h => by have := h k hk; omega⟩⟩
   simp (disch := omega) only [R_space_Of_m_0_v1, T_space_Of_m_0_v1, WW, CC]
  ·by_cases g2 : used k > quotaV a b ((k + 1 : Nat) : Int)
   ·refine .inr ⟨_, ?_, .inl ⟨rfl, fun h => by have := h k hk; omega⟩⟩
    simp (disch := omega) only [R_space_Of_m_0_v1, T_space_Of_m_0_v1, WW, CC]
   ·obtain ⟨v, hv⟩ : ∃ v : Nat, used k = (v : Int) := ⟨(used k).toNat, by omega⟩
    refine .inl ⟨mset (.int .i64) (.int .i64) u ((k + 1 : Nat) : Int) (used k), ?_, uOk_succ.2 ⟨h1, by omega, by omega⟩, by simp only [sumU]; omega, fun e => ?_⟩
    ·have g1' : ¬ ((v : Nat) : Int) < 0 := by omega
     have g2' : ¬ ((v : Nat) : Int) > quotaV a b ((k + 1 : Nat) : Int) := by omega
     have hs : sumU used (k + 1) = sumU used k + v := by simp only [sumU, hv, Int.toNat_natCast]
     simp (disch := omega) only [R_space_Of_m_0_v1, T_space_Of_m_0_v1, hv, WW, CC, hs]
    ·rw [mf_mset, usedAt_succ, h3]
 ·obtain ⟨h1, h2, h3⟩ := hu
  refine ⟨_, ?_, .inr ⟨h1, u, rfl, h3⟩⟩
  simp (disch := omega) only [R_space_Of_m_0_v1, T_space_Of_m_0_v1, WW, CC]
theorem of_keys (a b : Int) (nk : Nat) (keys : Nat → ByteArray) (hn : nk ≤ 20) (sum : Int) (u : List (Int × Int)) :
  ∃ y, loopF R_space_Of_m_2_v1 (T_space_Of_m_2_v1 nk keys sum nk keys (nk : Int) 0 a b 0 (fun _ => ByteArray.empty) u) = some y ∧
   ((y = Y_space_Of_m_2_v1_0 1 ∧ ¬ kOk keys nk) ∨ (kOk keys nk ∧ y = Y_space_Of_m_2_v1_1 nk keys sum a b 0 (fun _ => ByteArray.empty) u)) := by
 refine loop_seek (R := R_space_Of_m_2_v1) (S := Unit) (fun k _ => T_space_Of_m_2_v1 nk keys sum nk keys (nk : Int) (k : Int) a b 0 (fun _ => ByteArray.empty) u)
  (fun k _ => kOk keys k) _ nk
  (fun k hk _ hu => ?_) (fun _ hu => ?_) () (fun j hj => absurd hj (Nat.not_lt_zero _))
 ·have hks := key_spec (keys k)
  by_cases g1 : 1 ≤ (keys k).size ∧ (keys k).size ≤ 8
  ·rw [dec_t g1] at hks
   have step : (k = 0 ∨ lessT (keys (k - 1)) (keys k) = true) → kOk keys (k + 1) := fun h i hi => by
    by_cases e : i = k
    ·subst e; exact ⟨g1, h⟩
    ·exact hu i (by omega)
   by_cases g2 : k = 0
   ·refine .inl ⟨(), ?_, step (.inl g2)⟩
    subst g2
    simp (disch := omega) only [R_space_Of_m_2_v1, T_space_Of_m_2_v1, WW, CC, hks]
   ·cases g3 : lessT (keys (k - 1)) (keys k) with
    | true =>
     refine .inl ⟨(), ?_, step (.inr g3)⟩
     simp (disch := omega) only [R_space_Of_m_2_v1, T_space_Of_m_2_v1, WW, CC, hks, less_toList, g3]
    | false =>
     refine .inr ⟨_, ?_, .inl ⟨rfl, fun h => ?_⟩⟩
     ·simp (disch := omega) only [R_space_Of_m_2_v1, T_space_Of_m_2_v1, WW, CC, hks, less_toList, g3]
     ·rcases (h k hk).2 with h | h
      ·exact g2 h
      ·rw [g3] at h; exact absurd h (by decide)
  ·rw [dec_f g1] at hks
   refine .inr ⟨_, ?_, .inl ⟨rfl, fun h => g1 (h k hk).1⟩⟩
   simp (disch := omega) only [R_space_Of_m_2_v1, T_space_Of_m_2_v1, WW, CC, hks]
 ·refine ⟨_, ?_, .inr ⟨hu, rfl⟩⟩
  simp (disch := omega) only [R_space_Of_m_2_v1, T_space_Of_m_2_v1, WW, CC]
def mayOf (a b : Int) (nk : Nat) (keys : Nat → ByteArray) (nu : Nat) (used : Nat → Int) : Prop :=
 (1 ≤ a ∧ a ≤ 7 ∧ 1 ≤ b ∧ b ≤ 4) ∧ (nu : Int) = a + b ∧ uOk a b used nu ∧ kOk keys nk ∧ sumU used nu = nk
theorem Of_m_spec (a b : Int) (nk : Nat) (keys : Nat → ByteArray) (nu : Nat) (used : Nat → Int) (hk : nk ≤ 20) (hn : nu ≤ 12) :
  (¬ mayOf a b nk keys nu used ∧ space_Of_m a b nk keys nu used = some (Y_space_Of_m_0 1)) ∨
  (mayOf a b nk keys nu used ∧ ∃ u, space_Of_m a b nk keys nu used = some (Y_space_Of_m_1 0 a b nk keys u) ∧ ∀ e, mf u e = usedAt used nu e) := by
 have e0 : ((0 : Int) != 0) = false := rfl
 have e1 : ((1 : Int) != 0) = true := rfl
 rw [space_Of_m_eq, space_Of_m']
 by_cases hz : 1 ≤ a ∧ a ≤ 7 ∧ 1 ≤ b ∧ b ≤ 4
 ·rw [New_ok hz, wrap_i64 (x := a + b) (by omega)]
  simp only [Y_space_New_m_1, e0, cond_f]
  by_cases h1 : (nu : Int) = a + b
  ·rw [bne_f h1]
   simp only [cond_f]
   obtain ⟨y, l1, l2⟩ := of_used hz nk keys nu used hn
   have l1' : loopF R_space_Of_m_0_v1 (((nk, keys), ((), (0, ((nu, used), ((nu : Int), (0, ())))))), ((a, (b, ((0, (fun _ => ByteArray.empty)), []))), ())) = some y := l1
   rw [l1']
   rcases l2 with ⟨rfl, l3⟩ | ⟨l3, u, rfl, l4⟩
   ·exact .inl ⟨fun h => l3 h.2.2.1, rfl⟩
   ·simp only [Y_space_Of_m_0_v1_1]
    obtain ⟨y2, m1, m2⟩ := of_keys a b nk keys hk ((sumU used nu : Nat) : Int) u
    have m1' : loopF R_space_Of_m_2_v1 (((nk, keys), ((), (((sumU used nu : Nat) : Int), ((nk, keys), ((nk : Int), (0, ())))))), ((a, (b, ((0, (fun _ => ByteArray.empty)), u))), ())) = some y2 := m1
    rw [m1']
    rcases m2 with ⟨rfl, m3⟩ | ⟨m3, rfl⟩
    ·exact .inl ⟨fun h => m3 h.2.2.2.1, rfl⟩
    ·simp only [Y_space_Of_m_2_v1_1]
     by_cases hs : sumU used nu = nk
     ·rw [hs, bne_f rfl]
      refine .inr ⟨⟨hz, h1, l3, m3, hs⟩, u, ?_, l4⟩
      rw [Nat.ble_eq_true_of_le (by omega)]; rfl
     ·rw [bne_t (by omega)]
      exact .inl ⟨fun h => hs h.2.2.2.2, rfl⟩
  ·rw [bne_t h1]
   exact .inl ⟨fun h => h1 h.2.1, rfl⟩
 ·rw [New_bad hz]
  exact .inl ⟨fun h => hz h.1, rfl⟩
end Go.Pl
