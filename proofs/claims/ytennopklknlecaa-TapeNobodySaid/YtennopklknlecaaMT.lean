/-
  Bytes and tapes.
-/
import Derived.Test.YtennopklknlecaaMA
import Derived.Test.YtennopklknlecaaME
import Derived.Test.YtennopklknlecaaPtape
import Derived.Test.YtennopklknlecaaPr10
set_option linter.unusedVariables false
set_option linter.unusedSimpArgs false
namespace Go.Pl
open Go Go.Den

/-- a text's bytes -/
abbrev bl (s : ByteArray) : List UInt8 := s.data.toList
theorem bl_size (s : ByteArray) : s.size = (bl s).length := rfl
theorem bl_ext {s t : ByteArray} (h : bl s = bl t) : s = t := by
  cases s; cases t
  simp only [bl] at h
  rw [Array.ext' h]
theorem bl_extract (s : ByteArray) (a b : Nat) : bl (s.extract a b) = ((bl s).drop a).take (b - a) := by
  simp only [bl, ByteArray.data_extract, Array.toList_extract, List.extract_eq_take_drop]
theorem bl_front (s : ByteArray) (n : Nat) : bl (s.extract 0 n) = (bl s).take n := by rw [bl_extract, List.drop_zero, Nat.sub_zero]
theorem bl_rest (s : ByteArray) (n : Nat) : bl (s.extract n s.size) = (bl s).drop n := by
  rw [bl_extract, List.take_of_length_le]
  rw [List.length_drop, bl_size]; exact Nat.le_refl _
theorem sEq_refl (s : ByteArray) : sEq s s = true := by simp [sEq]
theorem sEq_of {s t : ByteArray} (h : bl s = bl t) : sEq s t = true := by rw [bl_ext h]; exact sEq_refl t
theorem bl_bytesOf (n : Nat) (f : Nat → Int) : bl (bytesOf n f) = (List.range n).map fun i => UInt8.ofNat (f i).toNat := rfl

/-- a number out of bytes, the lowest first -/
def valB : List UInt8 → Nat
  | [] => 0
  | b :: l => b.toNat + 256 * valB l
/-- a number out of bytes, the highest first -/
def numB (l : List UInt8) : Nat := valB l.reverse
theorem numB_snoc (l : List UInt8) (b : UInt8) : numB (l ++ [b]) = numB l * 256 + b.toNat := by
  simp only [numB, List.reverse_append, List.reverse_cons, List.reverse_nil, List.nil_append, List.singleton_append, valB]
  omega
theorem valB_lt : ∀ l : List UInt8, valB l < 256 ^ l.length
  | [] => by decide
  | b :: l => by
    have h1 := valB_lt l
    have h2 := b.toNat_lt
    simp only [valB, List.length_cons, Nat.pow_succ]
    have : (b.toNat + 256 * valB l) < 256 * (valB l + 1) := by omega
    have h3 : 256 * (valB l + 1) ≤ 256 * 256 ^ l.length := Nat.mul_le_mul_left _ h1
    omega
theorem numB_lt (l : List UInt8) : numB l < 256 ^ l.length := by
  have := valB_lt l.reverse
  rw [List.length_reverse] at this; exact this
theorem valB_digit : ∀ (l : List UInt8) (i : Nat) (h : i < l.length), valB l / 256 ^ i % 256 = l[i].toNat
  | b :: l, 0, _ => by
    have := b.toNat_lt
    simp only [valB, Nat.pow_zero, Nat.div_one, List.getElem_cons_zero]; omega
  | b :: l, i + 1, h => by
    have := b.toNat_lt
    have h1 := valB_digit l i (by simpa using h)
    simp only [valB, List.getElem_cons_succ]
    rw [Nat.pow_succ, Nat.mul_comm (256 ^ i), ← Nat.div_div_eq_div_mul, show (b.toNat + 256 * valB l) / 256 = valB l by omega]
    exact h1
theorem numB_digit (l : List UInt8) (i : Nat) (h : i < l.length) : numB l / 256 ^ i % 256 = (l.getD (l.length - 1 - i) 0).toNat := by
  have := valB_digit l.reverse i (by rw [List.length_reverse]; exact h)
  rw [List.getElem_reverse] at this
  rw [numB, this, List.getD_eq_getElem?_getD, List.getElem?_eq_getElem (by omega)]; rfl
theorem numB_testBit (l : List UInt8) (i k : Nat) (h : i < l.length) (hk : k < 8) : (numB l).testBit (8 * i + k) = (l.getD (l.length - 1 - i) 0).toNat.testBit k := by
  rw [← numB_digit l i h, show (256 : Nat) = 2 ^ 8 from rfl, ← Nat.pow_mul, Nat.testBit_mod_two_pow, Nat.testBit_div_two_pow, decide_eq_true hk, Bool.true_and, Nat.add_comm]
theorem take_snoc {l : List UInt8} {k : Nat} (h : k < l.length) : l.take (k + 1) = l.take k ++ [l.getD k 0] := by
  rw [List.take_add_one, List.getElem?_eq_getElem h, List.getD_eq_getElem?_getD, List.getElem?_eq_getElem h]; rfl
/-- eight bits more -/
theorem up_byte {a : Nat → Int} {v : Nat} {b : Nat} (ha : IsN a v) (hv : v < 2 ^ 248) (hb : b < 256) : ∃ r, nat_Up a 8 = some r ∧ IsN (upd r 0 (bitsOp .or .u64 (r 0) (b : Int))) (v * 256 + b) := by
  obtain ⟨r, r1, r2⟩ := nat_Up_spec ha 8
  have e8 : (2 : Nat) ^ Int.toNat 8 = 256 := rfl
  rw [e8] at r2
  have r3 : IsN r (v * 256) := r2.of_eq (Nat.mod_eq_of_lt (by omega))
  refine ⟨r, r1, ?_⟩
  obtain ⟨x0, x1, x2, x3, e0, e1, e2, e3, h0, h1, h2, h3, hs⟩ := r3.get
  have hm : x0 % 256 = 0 := by omega
  have hor : x0 ||| b = x0 + b := by
    have := Nat.two_pow_add_eq_or_of_lt (i := 8) (b := b) hb (x0 / 256)
    rw [show 2 ^ 8 * (x0 / 256) = x0 by omega] at this
    exact this.symm
  have e : bitsOp .or .u64 (r 0) (b : Int) = ((x0 + b : Nat) : Int) := by rw [e0, orU h0 (by omega), hor]
  rw [e]
  have := IsN.mk (a := upd r 0 ((x0 + b : Nat) : Int)) (x0 := x0 + b) (x1 := x1) (x2 := x2) (x3 := x3) rfl e1 e2 e3 (by omega) h1 h2 h3
  exact this.of_eq (by omega)
theorem low_bits {v k b : Nat} (h : k + b = 256) : v * 2 ^ k % 2 ^ 256 / 2 ^ k = v % 2 ^ b := by
  rw [← h, Nat.pow_add, Nat.mul_comm (2 ^ k), Nat.mul_mod_mul_right, Nat.mul_div_cancel _ (Nat.pow_pos (by decide))]
end Go.Pl

set_option linter.unusedVariables false
set_option linter.unusedSimpArgs false
namespace Go.Pl
open Go Go.Den Go.Num

/-! ## What is drawn of bytes -/
/-- one draw: of so many bytes each, so many bits, below q -/
def drawL (n bits q : Nat) : Nat → List UInt8 → Option (Nat × List UInt8)
  | 0, _ => none
  | f + 1, l => if n ≤ l.length then (if numB (l.take n) % 2 ^ bits < q then some (numB (l.take n) % 2 ^ bits, l.drop n) else drawL n bits q f (l.drop n)) else none
def drawsL (n bits q : Nat) : Nat → List UInt8 → Option (List Nat × List UInt8)
  | 0, l => some ([], l)
  | k + 1, l => match drawL n bits q (l.length + 1) l with
    | none => none
    | some (x, l') => match drawsL n bits q k l' with
      | none => none
      | some (xs, l'') => some (x :: xs, l'')
theorem drawL_len {n bits q : Nat} (hn : 0 < n) : ∀ {f : Nat} {l : List UInt8} {x : Nat} {l' : List UInt8}, drawL n bits q f l = some (x, l') → l'.length < l.length ∧ ∃ a, l' = l.drop a ∧ a ≤ l.length ∧ 0 < a := by
  intro f
  induction f with
  | zero => intro l x l' h; cases h
  | succ f ih =>
    intro l x l' h
    simp only [drawL] at h
    split at h
    · rename_i hnl
      split at h
      · cases h; exact ⟨by rw [List.length_drop]; omega, n, rfl, hnl, hn⟩
      · obtain ⟨h1, a, h2, h3, h4⟩ := ih h
        rw [List.length_drop] at h1 h3
        exact ⟨by omega, n + a, by rw [h2, List.drop_drop], by omega, by omega⟩
    · cases h
theorem drawL_fuel {n bits q : Nat} (hn : 0 < n) : ∀ {f g : Nat} {l : List UInt8}, l.length < f → l.length < g → drawL n bits q f l = drawL n bits q g l := by
  intro f
  induction f with
  | zero => intro g l h; omega
  | succ f ih =>
    intro g l h1 h2
    cases g with
    | zero => omega
    | succ g =>
      simp only [drawL]
      split
      · split
        · rfl
        · exact ih (by rw [List.length_drop]; omega) (by rw [List.length_drop]; omega)
      · rfl
theorem drawsL_snoc {n bits q : Nat} : ∀ (k : Nat) (l : List UInt8), drawsL n bits q (k + 1) l = match drawsL n bits q k l with
    | none => none
    | some (xs, l') => match drawL n bits q (l'.length + 1) l' with
      | none => none
      | some (x, l'') => some (xs ++ [x], l'') := by
  intro k
  induction k with
  | zero =>
    intro l
    simp only [drawsL]
    cases drawL n bits q (l.length + 1) l with
    | none => rfl
    | some p => rfl
  | succ k ih =>
    intro l
    rw [drawsL, drawsL]
    cases drawL n bits q (l.length + 1) l with
    | none => rfl
    | some p =>
      obtain ⟨x, l'⟩ := p
      simp only [ih l']
      cases drawsL n bits q k l' with
      | none => rfl
      | some p2 =>
        obtain ⟨xs, l2⟩ := p2
        simp only
        cases drawL n bits q (l2.length + 1) l2 with
        | none => rfl
        | some p3 => rfl
theorem drawsL_len {n bits q : Nat} (hn : 0 < n) : ∀ {k : Nat} {l : List UInt8} {xs : List Nat} {l' : List UInt8}, drawsL n bits q k l = some (xs, l') → xs.length = k ∧ ∃ a, l' = l.drop a ∧ a ≤ l.length := by
  intro k
  induction k with
  | zero => intro l xs l' h; cases h; exact ⟨rfl, 0, rfl, Nat.zero_le _⟩
  | succ k ih =>
    intro l xs l' h
    simp only [drawsL] at h
    split at h
    · cases h
    · rename_i x l1 h1
      split at h
      · cases h
      · rename_i ys l2 h2
        cases h
        obtain ⟨_, a, rfl, ha, _⟩ := drawL_len hn h1
        obtain ⟨hl, b, rfl, hb⟩ := ih h2
        rw [List.length_drop] at hb
        exact ⟨by simp [hl], a + b, by rw [List.drop_drop], by omega⟩
/-- a prefix fails: the whole fails -/
theorem drawsL_none {n bits q : Nat} : ∀ {k j : Nat} {l : List UInt8}, k ≤ j → drawsL n bits q k l = none → drawsL n bits q j l = none := by
  intro k j l h hk
  induction j with
  | zero => have : k = 0 := by omega
            subst this; exact hk
  | succ j ih =>
    by_cases e : k = j + 1
    · subst e; exact hk
    · rw [drawsL_snoc, ih (by omega)]

/-! ## The program's -/
abbrev TapeT := Bool × ByteArray
theorem tape_Bytes_low {n : Int} (h : n < 0) (t : TapeT) : tape_Tape_Bytes_m n t = some (((ByteArray.mk #[]), (1, ())), (t, ())) := by
  rw [tape_Tape_Bytes_m_eq]; unfold tape_Tape_Bytes_m'
  cases t.1 <;> simp (disch := omega) only [wrap_i64n, wrapun, dec_t, dec_f, inb_t, cond_true, cond_false, Int.toNat_natCast, beq_t, beq_f, bne_t, bne_f, Bool.not_true, Bool.not_false, Int.reduceToNat, ft_b, tf_b, tt_b, ff_b, decide_true, decide_false]
theorem tape_Bytes_more {n : Int} {b : ByteArray} (h : ¬ n < 0) (h2 : n > ((bl b).length : Int)) : tape_Tape_Bytes_m n (true, b) = some (((ByteArray.mk #[]), (5, ())), ((true, b), ())) := by
  rw [tape_Tape_Bytes_m_eq]; unfold tape_Tape_Bytes_m'
  rw [← bl_size] at h2
  simp (disch := omega) only [wrap_i64n, wrapun, dec_t, dec_f, inb_t, cond_true, cond_false, Int.toNat_natCast, beq_t, beq_f, bne_t, bne_f, Bool.not_true, Bool.not_false, Int.reduceToNat, ft_b, tf_b, tt_b, ff_b, decide_true, decide_false]
theorem tape_Bytes_spec {n : Nat} {b : ByteArray} (h : n ≤ (bl b).length) : tape_Tape_Bytes_m (n : Int) (true, b) = some (((b.extract 0 n), (0, ())), ((true, b.extract n b.size), ())) := by
  rw [tape_Tape_Bytes_m_eq]; unfold tape_Tape_Bytes_m'
  rw [← bl_size] at h
  simp (disch := omega) only [add_c, add_l, l_add, mul_c, mul_l, l_mul, sub_c, sub_l, l_sub, div_c, div_l, mod_c, mod_l, tdiv_c, tdiv_l, tmod_c, tmod_l, wrap_i64n, wrapun, dec_t, dec_f, inb_t, cond_true, cond_false, Int.toNat_natCast, beq_t, beq_f, bne_t, bne_f, Bool.not_true, Bool.not_false, Int.reduceToNat, ft_b, tf_b, tt_b, ff_b, decide_true, decide_false, Bool.and_true]
theorem tape_Left_spec (t : TapeT) : tape_Tape_Left (some t) = some (((bl t.2).length : Nat) : Int) := by
  rw [tape_Tape_Left_eq]; rfl
theorem tape_try_spec {s : ByteArray} {bits : Nat} (hs : (bl s).length ≤ 32) (hb : bits ≤ 256) : ∃ z, tape_try s (bits : Int) = some z ∧ IsN z (numB (bl s) % 2 ^ bits) := by
  rw [tape_try_eq]; unfold tape_try'
  simp only [bl_size]
  generalize ho : loopF R_tape_try_0 _ = o
  obtain ⟨z, hy, hQ⟩ := loop_for (R := R_tape_try_0) (fun k (out : Nat → Int) => T_tape_try_0 s (bits : Int) (((bl s).length : Nat) : Int) (k : Int) (fun _ => 0) out) (fun out => Y_tape_try_0_0 (bits : Int) (fun _ => 0) out)
    (fun k out => IsN out (numB ((bl s).take k))) (bl s).length
    (fun k hk out hP => by
      have hlt := numB_lt ((bl s).take k)
      rw [List.length_take, Nat.min_eq_left (by omega)] at hlt
      have h31 : (256 : Nat) ^ k ≤ 2 ^ 248 := by
        rw [show (256 : Nat) = 2 ^ 8 from rfl, ← Nat.pow_mul]
        exact Nat.pow_le_pow_right (by decide) (by omega)
      have hb8 := ((bl s).getD k 0).toNat_lt
      obtain ⟨r, r1, r2⟩ := up_byte hP (Nat.lt_of_lt_of_le hlt h31) (b := ((bl s).getD k 0).toNat) (by omega)
      refine ⟨_, ?_, r2.of_eq (by rw [take_snoc hk, numB_snoc])⟩
      unfold R_tape_try_0
      have hk2 : k < s.size := hk
      have hb9 : (s.data.toList.getD k 0).toNat < 256 := hb8
      simp (disch := omega) only [add_c, add_l, l_add, mul_c, mul_l, l_mul, sub_c, sub_l, l_sub, div_c, div_l, mod_c, mod_l, tdiv_c, tdiv_l, tmod_c, tmod_l, wrap_i64n, wrapun, dec_t, dec_f, inb_t, cond_true, cond_false, Int.toNat_natCast, beq_t, beq_f, bne_t, bne_f, Bool.not_true, Bool.not_false, Int.reduceToNat, ft_b, tf_b, tt_b, ff_b, decide_true, decide_false, r1])
    (fun out hP => by
      unfold R_tape_try_0
      simp (disch := omega) only [add_c, add_l, l_add, mul_c, mul_l, l_mul, sub_c, sub_l, l_sub, div_c, div_l, mod_c, mod_l, tdiv_c, tdiv_l, tmod_c, tmod_l, wrap_i64n, wrapun, dec_t, dec_f, inb_t, cond_true, cond_false, Int.toNat_natCast, beq_t, beq_f, bne_t, bne_f, Bool.not_true, Bool.not_false, Int.reduceToNat, ft_b, tf_b, tt_b, ff_b, decide_true, decide_false]) (fun _ => 0) IsN.zero
  obtain rfl := ho.symm.trans hy
  rw [List.take_of_length_le (Nat.le_refl _)] at hQ
  obtain ⟨u, u1, u2⟩ := nat_Up_spec hQ ((256 - bits : Nat) : Int)
  obtain ⟨d, d1, d2⟩ := nat_Down_spec u2 ((256 - bits : Nat) : Int)
  rw [Int.toNat_natCast] at u2 d2
  refine ⟨d, ?_, d2.of_eq (low_bits (by omega))⟩
  simp (disch := omega) only [add_c, add_l, l_add, mul_c, mul_l, l_mul, sub_c, sub_l, l_sub, div_c, div_l, mod_c, mod_l, tdiv_c, tdiv_l, tmod_c, tmod_l, wrap_i64n, wrapun, dec_t, dec_f, inb_t, cond_true, cond_false, Int.toNat_natCast, beq_t, beq_f, bne_t, bne_f, Bool.not_true, Bool.not_false, Int.reduceToNat, ft_b, tf_b, tt_b, ff_b, decide_true, decide_false, u1, d1]

section
variable {qa : Nat → Int} {Q : Nat}
theorem draw_loop (hq : IsN qa Q) {bits n : Nat} (hbits : bits ≤ 256) (hn : n = (bits + 7) / 8) (hn0 : 0 < n) : ∀ (f : Nat) (b : ByteArray), (bl b).length < f →
    match drawL n bits Q f (bl b) with
    | some (x, l') => ∃ z b', loopF R_tape_Tape_draw_m_0 (T_tape_Tape_draw_m_0 (bits : Int) (true, b) qa (fun _ => 0)) = some (Y_tape_Tape_draw_m_0_0 0 (true, b') z) ∧ IsN z x ∧ bl b' = l'
    | none => ∃ b', loopF R_tape_Tape_draw_m_0 (T_tape_Tape_draw_m_0 (bits : Int) (true, b) qa (fun _ => 0)) = some (Y_tape_Tape_draw_m_0_0 5 (true, b') (fun _ => 0)) := by
  intro f
  induction f with
  | zero => intro b h; omega
  | succ f ih =>
    intro b hf
    rw [drawL]
    by_cases h1 : n ≤ (bl b).length
    · rw [if_pos h1]
      have hB := tape_Bytes_spec h1
      obtain ⟨z, z1, z2⟩ := tape_try_spec (s := b.extract 0 n) (bits := bits) (by rw [bl_front, List.length_take]; omega) hbits
      rw [bl_front] at z2
      by_cases h2 : numB ((bl b).take n) % 2 ^ bits < Q
      · rw [if_pos h2]
        refine ⟨z, b.extract n b.size, loopF_exit ?_, z2, bl_rest b n⟩
        have hc : cmpI (numB ((bl b).take n) % 2 ^ bits) Q = -1 := by unfold cmpI; rw [if_pos h2]
        unfold R_tape_Tape_draw_m_0
        simp (disch := omega) only [add_c, add_l, l_add, mul_c, mul_l, l_mul, sub_c, sub_l, l_sub, div_c, div_l, mod_c, mod_l, tdiv_c, tdiv_l, tmod_c, tmod_l, wrap_i64n, wrapun, dec_t, dec_f, inb_t, cond_true, cond_false, Int.toNat_natCast, beq_t, beq_f, bne_t, bne_f, Bool.not_true, Bool.not_false, Int.reduceToNat, ft_b, tf_b, tt_b, ff_b, decide_true, decide_false, ← hn, hB, z1, nat_Cmp_spec z2 hq, hc]
      · rw [if_neg h2]
        have hc : 0 ≤ cmpI (numB ((bl b).take n) % 2 ^ bits) Q := by unfold cmpI; rw [if_neg h2]; split <;> decide
        have hstep : R_tape_Tape_draw_m_0 (T_tape_Tape_draw_m_0 (bits : Int) (true, b) qa (fun _ => 0)) = some (.inl (T_tape_Tape_draw_m_0 (bits : Int) (true, b.extract n b.size) qa (fun _ => 0))) := by
          unfold R_tape_Tape_draw_m_0
          simp (disch := omega) only [add_c, add_l, l_add, mul_c, mul_l, l_mul, sub_c, sub_l, l_sub, div_c, div_l, mod_c, mod_l, tdiv_c, tdiv_l, tmod_c, tmod_l, wrap_i64n, wrapun, dec_t, dec_f, inb_t, cond_true, cond_false, Int.toNat_natCast, beq_t, beq_f, bne_t, bne_f, Bool.not_true, Bool.not_false, Int.reduceToNat, ft_b, tf_b, tt_b, ff_b, decide_true, decide_false, ← hn, hB, z1, nat_Cmp_spec z2 hq]
        have := ih (b.extract n b.size) (by rw [bl_rest, List.length_drop]; omega)
        rw [bl_rest] at this
        rw [loopF_next hstep]
        exact this
    · rw [if_neg h1]
      have hB := tape_Bytes_more (n := (n : Int)) (b := b) (by omega) (by omega)
      refine ⟨b, loopF_exit ?_⟩
      unfold R_tape_Tape_draw_m_0
      simp (disch := omega) only [add_c, add_l, l_add, mul_c, mul_l, l_mul, sub_c, sub_l, l_sub, div_c, div_l, mod_c, mod_l, tdiv_c, tdiv_l, tmod_c, tmod_l, wrap_i64n, wrapun, dec_t, dec_f, inb_t, cond_true, cond_false, Int.toNat_natCast, beq_t, beq_f, bne_t, bne_f, Bool.not_true, Bool.not_false, Int.reduceToNat, ft_b, tf_b, tt_b, ff_b, decide_true, decide_false, ← hn, hB]
theorem draw_m_spec (hq : IsN qa Q) (hQ : 0 < Q) (b : ByteArray) :
    match drawL ((blen Q + 7) / 8) (blen Q) Q ((bl b).length + 1) (bl b) with
    | some (x, l') => ∃ z b', tape_Tape_draw_m qa (true, b) = some ((z, (0, ())), ((true, b'), ())) ∧ IsN z x ∧ bl b' = l'
    | none => ∃ b', tape_Tape_draw_m qa (true, b) = some (((fun _ => 0), (5, ())), ((true, b'), ())) := by
  have hb := blen_le hq.1
  have hb0 : 0 < blen Q := by
    rcases Nat.eq_zero_or_pos (blen Q) with h | h
    · have := lt_blen Q; rw [h] at this; omega
    · exact h
  have h := draw_loop hq hb rfl (show 0 < (blen Q + 7) / 8 by omega) ((bl b).length + 1) b (by omega)
  rw [tape_Tape_draw_m_eq]; unfold tape_Tape_draw_m'
  simp only [nat_Len_spec hq]
  split
  · rename_i x l' hd
    rw [hd] at h
    obtain ⟨z, b', h1, h2, h3⟩ := h
    refine ⟨z, b', ?_, h2, h3⟩
    have h1' : loopF R_tape_Tape_draw_m_0 (((), ((), ((), ((blen Q : Int), ())))), ((true, b), (qa, ((fun _ => 0), ())))) = _ := h1
    simp only [h1']
  · rename_i hd
    rw [hd] at h
    obtain ⟨b', h1⟩ := h
    refine ⟨b', ?_⟩
    have h1' : loopF R_tape_Tape_draw_m_0 (((), ((), ((), ((blen Q : Int), ())))), ((true, b), (qa, ((fun _ => 0), ())))) = _ := h1
    simp only [h1']
end
/-- numbers in a row -/
def IsNs (f : Nat → Nat → Int) (xs : List Nat) : Prop := ∀ j, j < xs.length → IsN (f j) (xs.getD j 0)
theorem IsNs.snoc {f : Nat → Nat → Int} {xs : List Nat} (h : IsNs f xs) {z : Nat → Int} {x : Nat} (hz : IsN z x) {n : Nat} (hn : n = xs.length) {g : Nat → Nat → Int} (hg : g 0 = z) : IsNs (glue n f g) (xs ++ [x]) := by
  subst hn
  intro j hj
  rw [List.length_append, List.length_singleton] at hj
  rw [List.getD_eq_getElem?_getD]
  by_cases e : j < xs.length
  · rw [glue_lt' e, List.getElem?_append_left e, ← List.getD_eq_getElem?_getD]; exact h j e
  · obtain rfl : j = xs.length := by omega
    rw [glue_at', List.getElem?_append_right (Nat.le_refl _), Nat.sub_self, hg]; exact hz
where
  glue_lt' {α : Type} {n i : Nat} {f g : Nat → α} (h : i < n) : glue n f g i = f i := by
    unfold glue; rw [show Nat.blt i n = true by rw [Nat.blt_eq]; exact h]; rfl
  glue_at' {α : Type} {n : Nat} {f g : Nat → α} : glue n f g n = g 0 := by
    unfold glue
    have : Nat.blt n n = false := by rw [← Bool.not_eq_true, Nat.blt_eq]; omega
    rw [this, Nat.sub_self]; rfl
section
variable {g : GroupT} {P Q G : Nat}
abbrev dN (Q : Nat) : Nat := (blen Q + 7) / 8
theorem dN_pos (h : 0 < Q) : 0 < dN Q := by
  have hb0 : 0 < blen Q := by
    rcases Nat.eq_zero_or_pos (blen Q) with h1 | h1
    · have := lt_blen Q; rw [h1] at this; omega
    · exact h1
  show 0 < (blen Q + 7) / 8
  omega
theorem Draws_m_spec (h : IsGroup g P Q G) {k : Nat} (hk : k ≤ 64) (b : ByteArray) :
    match drawsL (dN Q) (blen Q) Q k (bl b) with
    | some (xs, l') => ∃ f b', tape_Tape_Draws_m (some g) (k : Int) (true, b) = some (((k, f), (0, ())), ((true, b'), ())) ∧ IsNs f xs ∧ bl b' = l'
    | none => tape_Tape_Draws_m (some g) (k : Int) (true, b) = some (((0, fun _ => fun _ => 0), (5, ())), ((true, b), ())) := by
  have hQ := h.qpos
  have hn := dN_pos hQ
  obtain ⟨r, r1, hr⟩ := group_Field_spec h
  obtain ⟨qa, q1, q2⟩ := group_Q_spec h
  rw [tape_Tape_Draws_m_eq]; unfold tape_Tape_Draws_m'
  simp (disch := omega) only [add_c, add_l, l_add, mul_c, mul_l, l_mul, sub_c, sub_l, l_sub, div_c, div_l, mod_c, mod_l, tdiv_c, tdiv_l, tmod_c, tmod_l, wrap_i64n, wrapun, dec_t, dec_f, inb_t, cond_true, cond_false, Int.toNat_natCast, beq_t, beq_f, bne_t, bne_f, Bool.not_true, Bool.not_false, Int.reduceToNat, ft_b, tf_b, tt_b, ff_b, decide_true, decide_false, r1]
  obtain ⟨y, y1, y2⟩ := loop_seek (R := R_tape_Tape_Draws_m_0) (fun i (s : (Nat → Nat → Int) × ByteArray) => T_tape_Tape_Draws_m_0 g i s.1 (k : Int) (i : Int) (true, b) (true, s.2))
    (fun i s => ∃ xs, drawsL (dN Q) (blen Q) Q i (bl b) = some (xs, bl s.2) ∧ IsNs s.1 xs ∧ xs.length = i)
    (fun y => match y with
      | .inl y1 => y1 = (((), ((0, fun _ => fun _ => 0), (5, ()))), ((true, b), ())) ∧ drawsL (dN Q) (blen Q) Q k (bl b) = none
      | .inr y1 => ∃ (s : (Nat → Nat → Int) × ByteArray) (xs : List Nat), y1 = (((), ((), ((k, s.1), ()))), ((true, b), ((true, s.2), ()))) ∧ drawsL (dN Q) (blen Q) Q k (bl b) = some (xs, bl s.2) ∧ IsNs s.1 xs) k
    (fun i hi s hP => by
      obtain ⟨f, c⟩ := s
      obtain ⟨xs, p1, p2, p3⟩ := hP
      simp only at p1 p2
      have hd := draw_m_spec q2 hQ c
      have hsn := drawsL_snoc (n := dN Q) (bits := blen Q) (q := Q) i (bl b)
      rw [p1] at hsn
      simp only at hsn
      cases hdr : drawL ((blen Q + 7) / 8) (blen Q) Q ((bl c).length + 1) (bl c) with
      | none =>
        rw [hdr] at hd hsn
        obtain ⟨b', d1⟩ := hd
        refine .inr ⟨.inl (((), ((0, fun _ => fun _ => 0), (5, ()))), ((true, b), ())), ?_, rfl, drawsL_none (k := i + 1) (by omega) hsn⟩
        unfold R_tape_Tape_Draws_m_0
        simp (disch := omega) only [add_c, add_l, l_add, mul_c, mul_l, l_mul, sub_c, sub_l, l_sub, div_c, div_l, mod_c, mod_l, tdiv_c, tdiv_l, tmod_c, tmod_l, wrap_i64n, wrapun, dec_t, dec_f, inb_t, cond_true, cond_false, Int.toNat_natCast, beq_t, beq_f, bne_t, bne_f, Bool.not_true, Bool.not_false, Int.reduceToNat, ft_b, tf_b, tt_b, ff_b, decide_true, decide_false, q1, d1]
      | some p =>
        obtain ⟨x, l'⟩ := p
        rw [hdr] at hd hsn
        obtain ⟨z, b', d1, d2, d3⟩ := hd
        have b1 : Nat.ble ((i + 1) * 32) 140737488355328 = true := Nat.ble_eq_true_of_le (by omega)
        have b2 : Nat.ble (i + 1) 9223372036854775807 = true := Nat.ble_eq_true_of_le (by omega)
        refine .inl ⟨(glue i f (fun j => upd (fun _ => fun _ => 0) 0 z (0 + j)), b'), ?_, xs ++ [x], ?_, ?_, by simp [p3]⟩
        · unfold R_tape_Tape_Draws_m_0
          simp (disch := omega) only [add_c, add_l, l_add, mul_c, mul_l, l_mul, sub_c, sub_l, l_sub, div_c, div_l, mod_c, mod_l, tdiv_c, tdiv_l, tmod_c, tmod_l, wrap_i64n, wrapun, dec_t, dec_f, inb_t, cond_true, cond_false, Int.toNat_natCast, beq_t, beq_f, bne_t, bne_f, Bool.not_true, Bool.not_false, Int.reduceToNat, ft_b, tf_b, tt_b, ff_b, decide_true, decide_false, q1, d1, b1, b2, Bool.and_true]
        · rw [hsn, ← d3]
        · exact IsNs.snoc (g := fun j => upd (fun _ => fun _ => 0) 0 z (0 + j)) p2 d2 p3.symm (by simp only [Nat.add_zero, upd_same]))
    (fun s hP => by
      obtain ⟨xs, p1, p2, p3⟩ := hP
      refine ⟨.inr (((), ((), ((k, s.1), ()))), ((true, b), ((true, s.2), ()))), ?_, s, xs, rfl, p1, p2⟩
      unfold R_tape_Tape_Draws_m_0
      simp (disch := omega) only [add_c, add_l, l_add, mul_c, mul_l, l_mul, sub_c, sub_l, l_sub, div_c, div_l, mod_c, mod_l, tdiv_c, tdiv_l, tmod_c, tmod_l, wrap_i64n, wrapun, dec_t, dec_f, inb_t, cond_true, cond_false, Int.toNat_natCast, beq_t, beq_f, bne_t, bne_f, Bool.not_true, Bool.not_false, Int.reduceToNat, ft_b, tf_b, tt_b, ff_b, decide_true, decide_false]) ((fun _ => fun _ => 0), b) ⟨[], rfl, fun j hj => by simp at hj, rfl⟩
  have y1' : loopF R_tape_Tape_Draws_m_0 (((), (g, ((), ((0, fun _ => fun _ => 0), ((k : Int), (0, ())))))), ((true, b), ((true, b), ()))) = some y := y1
  simp only [y1']
  rcases y with y | y
  · obtain ⟨rfl, h⟩ := y2
    rw [h]
  · obtain ⟨s, xs, rfl, h1, h2⟩ := y2
    rw [h1]
    refine ⟨_, _, rfl, fun j hj => ?_, rfl⟩
    have := h2 j hj
    simpa only [Nat.zero_add] using this
theorem Draw_m_spec (h : IsGroup g P Q G) (b : ByteArray) :
    match drawL (dN Q) (blen Q) Q ((bl b).length + 1) (bl b) with
    | some (x, l') => ∃ z b', tape_Tape_Draw_m (some g) (true, b) = some ((z, (0, ())), ((true, b'), ())) ∧ IsN z x ∧ bl b' = l'
    | none => tape_Tape_Draw_m (some g) (true, b) = some (((fun _ => 0), (5, ())), ((true, b), ())) := by
  have hd := Draws_m_spec h (k := 1) (by decide) b
  rw [tape_Tape_Draw_m_eq]; unfold tape_Tape_Draw_m'
  simp only [drawsL] at hd
  cases hdr : drawL (dN Q) (blen Q) Q ((bl b).length + 1) (bl b) with
  | none =>
    rw [hdr] at hd
    have hd' : tape_Tape_Draws_m (some g) 1 (true, b) = some (((0, fun _ => fun _ => 0), (5, ())), ((true, b), ())) := hd
    simp (disch := omega) only [add_c, add_l, l_add, mul_c, mul_l, l_mul, sub_c, sub_l, l_sub, div_c, div_l, mod_c, mod_l, tdiv_c, tdiv_l, tmod_c, tmod_l, wrap_i64n, wrapun, dec_t, dec_f, inb_t, cond_true, cond_false, Int.toNat_natCast, beq_t, beq_f, bne_t, bne_f, Bool.not_true, Bool.not_false, Int.reduceToNat, ft_b, tf_b, tt_b, ff_b, decide_true, decide_false, hd']
  | some p =>
    obtain ⟨x, l'⟩ := p
    rw [hdr] at hd
    obtain ⟨f, b', d1, d2, d3⟩ := hd
    have d1' : tape_Tape_Draws_m (some g) 1 (true, b) = some (((1, f), (0, ())), ((true, b'), ())) := d1
    refine ⟨f 0, b', ?_, d2 0 (by simp), d3⟩
    simp (disch := omega) only [add_c, add_l, l_add, mul_c, mul_l, l_mul, sub_c, sub_l, l_sub, div_c, div_l, mod_c, mod_l, tdiv_c, tdiv_l, tmod_c, tmod_l, wrap_i64n, wrapun, dec_t, dec_f, inb_t, cond_true, cond_false, Int.toNat_natCast, beq_t, beq_f, bne_t, bne_f, Bool.not_true, Bool.not_false, Int.reduceToNat, ft_b, tf_b, tt_b, ff_b, decide_true, decide_false, d1']
end

/-! ## The document's -/
theorem r10_Try_spec {s : ByteArray} {qa : Nat → Int} {Q : Nat} (hq : IsN qa Q) (hs : (bl s).length ≤ 32) : ∃ z, r10_Try s qa = some z ∧ IsN z (numB (bl s) % 2 ^ blen Q) := by
  rw [r10_Try_eq]; unfold r10_Try'
  have hb := blen_le hq.1
  have hbit : ∀ (c k : Nat), c < 256 → (bitsOp .and .i64 (shrI .i64 (c : Int) (k : Int)) 1 == 1) = c.testBit k := by
    intro c k hc
    have h1 : c / 2 ^ k ≤ c := Nat.div_le_self _ _
    rw [shrS (by omega), show (1 : Int) = ((1 : Nat) : Int) from rfl, andS (by omega) (by decide), Nat.and_one_is_mod, Nat.testBit_eq_decide_div_mod_eq]
    rw [Bool.eq_iff_iff]
    simp only [beq_iff_eq, decide_eq_true_eq]
    omega
  generalize ho : loopF R_r10_Try_0 _ = o
  obtain ⟨b, hy, hQ⟩ := loop_for (R := R_r10_Try_0) (fun i (b : Nat → Bool) => T_r10_Try_0 s (i : Int) qa (fun _ => 0) b) (fun b => Y_r10_Try_0_0 (fun _ => 0) b)
    (fun i b => ∀ j, b j = (decide (j < 8 * i) && decide (j < blen Q) && (numB (bl s)).testBit j)) (bl s).length
    (fun i hi b hP => by
      have hi2 : i < s.size := hi
      have e : s.size = (bl s).length := rfl
      have hc := ((bl s).getD ((bl s).length - 1 - i) 0).toNat_lt
      generalize hcc : ((bl s).getD ((bl s).length - 1 - i) 0).toNat = c at hc
      obtain ⟨b', hb', hPb⟩ := loop_seek (R := R_r10_Try_2) (fun k (b : Nat → Bool) => T_r10_Try_2 s (i : Int) (c : Int) (k : Int) qa (fun _ => 0) b)
        (fun k b => ∀ j, b j = (decide (j < 8 * i + k) && decide (j < blen Q) && (numB (bl s)).testBit j))
        (fun y => ∃ b, y = Y_r10_Try_2_0 s (i : Int) qa (fun _ => 0) b ∧ ∀ j, b j = (decide (j < 8 * (i + 1)) && decide (j < blen Q) && (numB (bl s)).testBit j)) 8
        (fun k hk b hPk => by
          by_cases hlt : 8 * i + k < blen Q
          · refine .inl ⟨upd b (8 * i + k) (c.testBit k), ?_, fun j => ?_⟩
            · unfold R_r10_Try_2
              simp (disch := omega) only [add_c, add_l, l_add, mul_c, mul_l, l_mul, sub_c, sub_l, l_sub, div_c, div_l, mod_c, mod_l, tdiv_c, tdiv_l, tmod_c, tmod_l, wrap_i64n, wrapun, dec_t, dec_f, inb_t, cond_true, cond_false, Int.toNat_natCast, beq_t, beq_f, bne_t, bne_f, Bool.not_true, Bool.not_false, Int.reduceToNat, ft_b, tf_b, tt_b, ff_b, decide_true, decide_false, r01_Len_spec hq, hbit c k (by omega)]
            · by_cases ej : j = 8 * i + k
              · subst ej
                rw [upd_same, numB_testBit (bl s) i k hi hk, hcc, decide_eq_true (by omega), decide_eq_true (by omega)]; rfl
              · rw [upd_ne ej, hPk j]
                by_cases h1 : j < 8 * i + k
                · rw [decide_eq_true h1, decide_eq_true (show j < 8 * i + (k + 1) by omega)]
                · rw [decide_eq_false h1, decide_eq_false (show ¬ j < 8 * i + (k + 1) by omega)]
          · refine .inr ⟨_, ?_, b, rfl, fun j => ?_⟩
            · unfold R_r10_Try_2
              simp (disch := omega) only [add_c, add_l, l_add, mul_c, mul_l, l_mul, sub_c, sub_l, l_sub, div_c, div_l, mod_c, mod_l, tdiv_c, tdiv_l, tmod_c, tmod_l, wrap_i64n, wrapun, dec_t, dec_f, inb_t, cond_true, cond_false, Int.toNat_natCast, beq_t, beq_f, bne_t, bne_f, Bool.not_true, Bool.not_false, Int.reduceToNat, ft_b, tf_b, tt_b, ff_b, decide_true, decide_false, r01_Len_spec hq]
            · rw [hPk j]
              by_cases h1 : j < blen Q
              · rw [decide_eq_true (show j < 8 * i + k by omega), decide_eq_true (show j < 8 * (i + 1) by omega)]
              · rw [decide_eq_false h1, Bool.and_false, Bool.and_false])
        (fun b hPk => by
          refine ⟨_, ?_, b, rfl, fun j => by rw [hPk j]; rfl⟩
          unfold R_r10_Try_2
          simp (disch := omega) only [add_c, add_l, l_add, mul_c, mul_l, l_mul, sub_c, sub_l, l_sub, div_c, div_l, mod_c, mod_l, tdiv_c, tdiv_l, tmod_c, tmod_l, wrap_i64n, wrapun, dec_t, dec_f, inb_t, cond_true, cond_false, Int.toNat_natCast, beq_t, beq_f, bne_t, bne_f, Bool.not_true, Bool.not_false, Int.reduceToNat, ft_b, tf_b, tt_b, ff_b, decide_true, decide_false]) b (fun j => by rw [Nat.add_zero]; exact hP j)
      obtain ⟨b2, rfl, hb2⟩ := hPb
      refine ⟨b2, ?_, hb2⟩
      have hb'' : loopF R_r10_Try_2 ((s, ((), ((), ((), ((i : Int), ((c : Int), (0, ()))))))), (qa, ((fun _ => 0), (b, ())))) = some (Y_r10_Try_2_0 s (i : Int) qa (fun _ => 0) b2) := hb'
      unfold R_r10_Try_0
      have hcc' : (s.data.toList.getD (s.size - 1 - i) 0).toNat = c := hcc
      simp (disch := omega) only [add_c, add_l, l_add, mul_c, mul_l, l_mul, sub_c, sub_l, l_sub, div_c, div_l, mod_c, mod_l, tdiv_c, tdiv_l, tmod_c, tmod_l, wrap_i64n, wrapun, dec_t, dec_f, inb_t, cond_true, cond_false, Int.toNat_natCast, beq_t, beq_f, bne_t, bne_f, Bool.not_true, Bool.not_false, Int.reduceToNat, ft_b, tf_b, tt_b, ff_b, decide_true, decide_false, hcc', hb''])
    (fun b hP => by
      unfold R_r10_Try_0
      have e : s.size = (bl s).length := rfl
      simp (disch := omega) only [add_c, add_l, l_add, mul_c, mul_l, l_mul, sub_c, sub_l, l_sub, div_c, div_l, mod_c, mod_l, tdiv_c, tdiv_l, tmod_c, tmod_l, wrap_i64n, wrapun, dec_t, dec_f, inb_t, cond_true, cond_false, Int.toNat_natCast, beq_t, beq_f, bne_t, bne_f, Bool.not_true, Bool.not_false, Int.reduceToNat, ft_b, tf_b, tt_b, ff_b, decide_true, decide_false]) (fun _ => false) (fun j => by simp)
  obtain rfl := ho.symm.trans hy
  obtain ⟨z, z1, z2⟩ := r01_Nat_spec b
  simp only [z1]
  have hnl := numB_lt (bl s)
  have h32 : numB (bl s) < 2 ^ (8 * (bl s).length) := by rw [Nat.pow_mul]; exact hnl
  have hval : natOf b 256 = numB (bl s) % 2 ^ blen Q := by
    refine natOf_bits (Nat.lt_of_lt_of_le (Nat.mod_lt _ (Nat.pow_pos (by decide))) (Nat.pow_le_pow_right (by decide) hb)) fun j hj => ?_
    rw [hQ j, Nat.testBit_mod_two_pow]
    by_cases h1 : j < 8 * (bl s).length
    · rw [decide_eq_true h1, Bool.true_and]
    · rw [decide_eq_false h1, Nat.testBit_lt_two_pow (Nat.lt_of_lt_of_le h32 (Nat.pow_le_pow_right (by decide) (by omega)))]
      simp
  exact ⟨z, rfl, z2.of_eq hval⟩
section
variable {qa : Nat → Int} {Q : Nat}
theorem r10_draw_loop (hq : IsN qa Q) (hQ : 0 < Q) {s : ByteArray} (hs : (bl s).length < 4611686018427387904) : ∀ (f a : Nat), a ≤ (bl s).length → (bl s).length - a < f →
    match drawL (dN Q) (blen Q) Q f ((bl s).drop a) with
    | some (x, l') => ∃ z, loopF R_r10_Draw_0 (T_r10_Draw_0 s (dN Q : Nat) (a : Int) qa (fun _ => 0)) = some (Y_r10_Draw_0_0 (((bl s).length - l'.length : Nat) : Int) z) ∧ IsN z x
    | none => loopF R_r10_Draw_0 (T_r10_Draw_0 s (dN Q : Nat) (a : Int) qa (fun _ => 0)) = some (Y_r10_Draw_0_1 (fun _ => 0)) := by
  have hb := blen_le hq.1
  have hn := dN_pos hQ
  have hn2 : dN Q ≤ 32 := by show (blen Q + 7) / 8 ≤ 32; omega
  have e : s.size = (bl s).length := rfl
  intro f
  induction f with
  | zero => intro a h1 h2; omega
  | succ f ih =>
    intro a h1 h2
    rw [drawL]
    generalize dN Q = n at *
    by_cases h3 : n ≤ ((bl s).drop a).length
    · rw [if_pos h3]
      rw [List.length_drop] at h3
      have hext : bl (s.extract a (a + n)) = ((bl s).drop a).take n := by rw [bl_extract, Nat.add_sub_cancel_left]
      obtain ⟨z, z1, z2⟩ := r10_Try_spec (s := s.extract a (a + n)) hq (by rw [hext, List.length_take]; omega)
      rw [hext] at z2
      by_cases h4 : numB (((bl s).drop a).take n) % 2 ^ blen Q < Q
      · rw [if_pos h4]
        have hc : cmpI (numB (((bl s).drop a).take n) % 2 ^ blen Q) Q = -1 := by unfold cmpI; rw [if_pos h4]
        refine ⟨z, loopF_exit ?_, z2⟩
        unfold R_r10_Draw_0
        simp (disch := omega) only [add_c, add_l, l_add, mul_c, mul_l, l_mul, sub_c, sub_l, l_sub, div_c, div_l, mod_c, mod_l, tdiv_c, tdiv_l, tmod_c, tmod_l, wrap_i64n, wrapun, dec_t, dec_f, inb_t, cond_true, cond_false, Int.toNat_natCast, beq_t, beq_f, bne_t, bne_f, Bool.not_true, Bool.not_false, Int.reduceToNat, ft_b, tf_b, tt_b, ff_b, decide_true, decide_false, Bool.and_true, z1, r01_Cmp_spec z2 hq, hc, List.drop_drop, List.length_drop]
        rw [show (bl s).length - ((bl s).length - (a + n)) = a + n by omega]
      · rw [if_neg h4]
        have hc : 0 ≤ cmpI (numB (((bl s).drop a).take n) % 2 ^ blen Q) Q := by unfold cmpI; rw [if_neg h4]; split <;> decide
        have hstep : R_r10_Draw_0 (T_r10_Draw_0 s (n : Int) (a : Int) qa (fun _ => 0)) = some (.inl (T_r10_Draw_0 s (n : Int) ((a + n : Nat) : Int) qa (fun _ => 0))) := by
          unfold R_r10_Draw_0
          simp (disch := omega) only [add_c, add_l, l_add, mul_c, mul_l, l_mul, sub_c, sub_l, l_sub, div_c, div_l, mod_c, mod_l, tdiv_c, tdiv_l, tmod_c, tmod_l, wrap_i64n, wrapun, dec_t, dec_f, inb_t, cond_true, cond_false, Int.toNat_natCast, beq_t, beq_f, bne_t, bne_f, Bool.not_true, Bool.not_false, Int.reduceToNat, ft_b, tf_b, tt_b, ff_b, decide_true, decide_false, Bool.and_true, z1, r01_Cmp_spec z2 hq]
        have := ih (a + n) (by omega) (by omega)
        rw [loopF_next hstep, List.drop_drop]
        exact this
    · rw [if_neg h3]
      rw [List.length_drop] at h3
      refine loopF_exit ?_
      unfold R_r10_Draw_0
      simp (disch := omega) only [add_c, add_l, l_add, mul_c, mul_l, l_mul, sub_c, sub_l, l_sub, div_c, div_l, mod_c, mod_l, tdiv_c, tdiv_l, tmod_c, tmod_l, wrap_i64n, wrapun, dec_t, dec_f, inb_t, cond_true, cond_false, Int.toNat_natCast, beq_t, beq_f, bne_t, bne_f, Bool.not_true, Bool.not_false, Int.reduceToNat, ft_b, tf_b, tt_b, ff_b, decide_true, decide_false]
theorem r10_Draw_spec (hq : IsN qa Q) (hQ : 0 < Q) {s : ByteArray} (hs : (bl s).length < 4611686018427387904) :
    match drawL (dN Q) (blen Q) Q ((bl s).length + 1) (bl s) with
    | some (x, l') => ∃ z, r10_Draw s qa = some (z, (((bl s).length - l'.length : Nat) : Int)) ∧ IsN z x
    | none => r10_Draw s qa = some ((fun _ => 0), 0) := by
  have hb := blen_le hq.1
  have h := r10_draw_loop hq hQ hs ((bl s).length + 1) 0 (by omega) (by omega)
  rw [List.drop_zero] at h
  rw [r10_Draw_eq]; unfold r10_Draw'
  have e : ((dN Q : Nat) : Int) = (((blen Q + 7) / 8 : Nat) : Int) := rfl
  rw [e] at h
  split
  · rename_i x l' hd
    rw [hd] at h
    obtain ⟨z, z1, z2⟩ := h
    refine ⟨z, ?_, z2⟩
    have z1' : loopF R_r10_Draw_0 ((s, ((), ((), ((((blen Q + 7) / 8 : Nat) : Int), (0, ()))))), (qa, ((fun _ => 0), ()))) = _ := z1
    simp (disch := omega) only [add_c, add_l, l_add, mul_c, mul_l, l_mul, sub_c, sub_l, l_sub, div_c, div_l, mod_c, mod_l, tdiv_c, tdiv_l, tmod_c, tmod_l, wrap_i64n, wrapun, dec_t, dec_f, inb_t, cond_true, cond_false, Int.toNat_natCast, beq_t, beq_f, bne_t, bne_f, Bool.not_true, Bool.not_false, Int.reduceToNat, ft_b, tf_b, tt_b, ff_b, decide_true, decide_false, r01_Len_spec hq, z1']
  · rename_i hd
    rw [hd] at h
    have h' : loopF R_r10_Draw_0 ((s, ((), ((), ((((blen Q + 7) / 8 : Nat) : Int), (0, ()))))), (qa, ((fun _ => 0), ()))) = _ := h
    simp (disch := omega) only [add_c, add_l, l_add, mul_c, mul_l, l_mul, sub_c, sub_l, l_sub, div_c, div_l, mod_c, mod_l, tdiv_c, tdiv_l, tmod_c, tmod_l, wrap_i64n, wrapun, dec_t, dec_f, inb_t, cond_true, cond_false, Int.toNat_natCast, beq_t, beq_f, bne_t, bne_f, Bool.not_true, Bool.not_false, Int.reduceToNat, ft_b, tf_b, tt_b, ff_b, decide_true, decide_false, r01_Len_spec hq, h']
theorem r10_Draws_spec (hq : IsN qa Q) (hQ : 0 < Q) {s : ByteArray} (hs : (bl s).length < 4611686018427387904) {k : Nat} (hk : k ≤ 64) :
    match drawsL (dN Q) (blen Q) Q k (bl s) with
    | some (xs, l') => ∃ f, r10_Draws s qa (k : Int) = some ((k, f), (((bl s).length - l'.length : Nat) : Int), true) ∧ IsNs f xs
    | none => r10_Draws s qa (k : Int) = some ((0, fun _ => fun _ => 0), 0, false) := by
  have hn := dN_pos hQ
  have e : s.size = (bl s).length := rfl
  rw [r10_Draws_eq]; unfold r10_Draws'
  obtain ⟨y, y1, y2⟩ := loop_seek (R := R_r10_Draws_0) (fun i (t : (Nat → Nat → Int) × Nat) => T_r10_Draws_0 s (k : Int) i t.1 (t.2 : Int) (i : Int) qa)
    (fun i t => ∃ xs, drawsL (dN Q) (blen Q) Q i (bl s) = some (xs, (bl s).drop t.2) ∧ IsNs t.1 xs ∧ xs.length = i ∧ t.2 ≤ (bl s).length)
    (fun y => match y with
      | .inl y1 => y1 = (((0, fun _ => fun _ => 0), (0, (false, ()))), ()) ∧ drawsL (dN Q) (blen Q) Q k (bl s) = none
      | .inr y1 => ∃ (t : (Nat → Nat → Int) × Nat) (xs : List Nat), y1 = (((k, t.1), ((t.2 : Int), ())), ()) ∧ drawsL (dN Q) (blen Q) Q k (bl s) = some (xs, (bl s).drop t.2) ∧ IsNs t.1 xs ∧ t.2 ≤ (bl s).length) k
    (fun i hi t hP => by
      obtain ⟨f, a⟩ := t
      obtain ⟨xs, p1, p2, p3, p4⟩ := hP
      simp only at p1 p2 p4
      have hrest : bl (s.extract a s.size) = (bl s).drop a := bl_rest s a
      have hd := r10_Draw_spec hq hQ (s := s.extract a s.size) (by rw [hrest, List.length_drop]; omega)
      rw [hrest] at hd
      have hsn := drawsL_snoc (n := dN Q) (bits := blen Q) (q := Q) i (bl s)
      rw [p1] at hsn
      simp only at hsn
      cases hdr : drawL (dN Q) (blen Q) Q (((bl s).drop a).length + 1) ((bl s).drop a) with
      | none =>
        rw [hdr] at hd hsn
        refine .inr ⟨.inl (((0, fun _ => fun _ => 0), (0, (false, ()))), ()), ?_, rfl, drawsL_none (k := i + 1) (by omega) hsn⟩
        unfold R_r10_Draws_0
        simp (disch := omega) only [add_c, add_l, l_add, mul_c, mul_l, l_mul, sub_c, sub_l, l_sub, div_c, div_l, mod_c, mod_l, tdiv_c, tdiv_l, tmod_c, tmod_l, wrap_i64n, wrapun, dec_t, dec_f, inb_t, cond_true, cond_false, Int.toNat_natCast, beq_t, beq_f, bne_t, bne_f, Bool.not_true, Bool.not_false, Int.reduceToNat, ft_b, tf_b, tt_b, ff_b, decide_true, decide_false, Bool.and_true, hd]
      | some p =>
        obtain ⟨x, l'⟩ := p
        rw [hdr] at hd hsn
        obtain ⟨z, d1, d2⟩ := hd
        obtain ⟨_, c, rfl, hc, hc0⟩ := drawL_len hn hdr
        rw [List.drop_drop] at d1 hsn
        simp only [List.length_drop] at d1 hc
        have hu : (bl s).length - a - ((bl s).length - (a + c)) = c := by omega
        rw [hu] at d1
        have b1 : Nat.ble ((i + 1) * 32) 140737488355328 = true := Nat.ble_eq_true_of_le (by omega)
        have b2 : Nat.ble (i + 1) 9223372036854775807 = true := Nat.ble_eq_true_of_le (by omega)
        refine .inl ⟨(glue i f (fun j => upd (fun _ => fun _ => 0) 0 z (0 + j)), a + c), ?_, xs ++ [x], hsn, ?_, by simp [p3], by omega⟩
        · unfold R_r10_Draws_0
          simp (disch := omega) only [add_c, add_l, l_add, mul_c, mul_l, l_mul, sub_c, sub_l, l_sub, div_c, div_l, mod_c, mod_l, tdiv_c, tdiv_l, tmod_c, tmod_l, wrap_i64n, wrapun, dec_t, dec_f, inb_t, cond_true, cond_false, Int.toNat_natCast, beq_t, beq_f, bne_t, bne_f, Bool.not_true, Bool.not_false, Int.reduceToNat, ft_b, tf_b, tt_b, ff_b, decide_true, decide_false, Bool.and_true, d1, b1, b2]
        · exact IsNs.snoc (g := fun j => upd (fun _ => fun _ => 0) 0 z (0 + j)) p2 d2 p3.symm (by simp only [Nat.add_zero, upd_same]))
    (fun t hP => by
      obtain ⟨xs, p1, p2, p3, p4⟩ := hP
      refine ⟨.inr (((k, t.1), ((t.2 : Int), ())), ()), ?_, t, xs, rfl, p1, p2, p4⟩
      unfold R_r10_Draws_0
      simp (disch := omega) only [add_c, add_l, l_add, mul_c, mul_l, l_mul, sub_c, sub_l, l_sub, div_c, div_l, mod_c, mod_l, tdiv_c, tdiv_l, tmod_c, tmod_l, wrap_i64n, wrapun, dec_t, dec_f, inb_t, cond_true, cond_false, Int.toNat_natCast, beq_t, beq_f, bne_t, bne_f, Bool.not_true, Bool.not_false, Int.reduceToNat, ft_b, tf_b, tt_b, ff_b, decide_true, decide_false]) ((fun _ => fun _ => 0), 0) ⟨[], rfl, fun j hj => by simp at hj, rfl, Nat.zero_le _⟩
  have y1' : loopF R_r10_Draws_0 ((s, ((k : Int), ((), ((0, fun _ => fun _ => 0), (0, (0, ())))))), (qa, ())) = some y := y1
  simp only [y1']
  rcases y with y | y
  · obtain ⟨rfl, h⟩ := y2
    rw [h]
  · obtain ⟨t, xs, rfl, h1, h2, h3⟩ := y2
    rw [h1]
    refine ⟨fun j => t.1 (0 + j), ?_, fun j hj => ?_⟩
    · rw [List.length_drop, show (bl s).length - ((bl s).length - t.2) = t.2 by omega]
    · have := h2 j hj
      simpa only [Nat.zero_add] using this
end
end Go.Pl
