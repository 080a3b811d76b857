/-
  More of groups.
-/
import Derived.Test.YtennopklknlecaaMD
import Derived.Test.YtennopklknlecaaMA
set_option linter.unusedVariables false
set_option linter.unusedSimpArgs false
namespace Go.Pl
open Go Go.Den Go.Num

theorem blen_le_iff {n L : Nat} : blen n ≤ L ↔ n < 2 ^ L :=
  ⟨fun h => Nat.lt_of_lt_of_le (lt_blen n) (Nat.pow_le_pow_right (by decide) h), blen_le⟩
/-- light parameters: few links, each below 2^62 -/
theorem r07_Light_spec {k : Nat} {l : Nat → (Nat → Int) × Int} {ga : Nat → Int} {N : Nat → Nat} (h63 : k ≤ 9223372036854775807) (hl : ∀ i, i < k → IsN (l i).1 (N i)) :
    ∃ b, r07_Light ((k, l), ga) = some b ∧ (b = true ↔ k ≤ 10 ∧ ∀ i, i < k → N i < 2 ^ 62) := by
  rw [r07_Light_eq]; unfold r07_Light'
  by_cases h1 : k ≤ 10
  · obtain ⟨y, y1, y2⟩ := loop_seek (R := R_r07_Light_0) (S := Unit) (fun i _ => (((), ((i : Int), ())), (((k, l), ga), ())))
      (fun i _ => ∀ j, j < i → N j < 2 ^ 62)
      (fun y => match y with | .inl y1 => y1.1.1 = false ∧ ¬ ∀ i, i < k → N i < 2 ^ 62 | .inr _ => ∀ i, i < k → N i < 2 ^ 62) k
      (fun i hi _ hP => by
        unfold R_r07_Light_0
        have hb : blen (N i) ≤ 256 := blen_le (hl i hi).1
        have hbl : blen (N i) ≤ 62 ↔ N i < 2 ^ 62 := blen_le_iff
        by_cases h2 : N i < 2 ^ 62
        · have := hbl.2 h2
          refine .inl ⟨(), ?_, ?_⟩
          · simp (disch := omega) only [add_c, add_l, l_add, mul_c, mul_l, l_mul, sub_c, sub_l, l_sub, div_c, div_l, mod_c, mod_l, tdiv_c, tdiv_l, tmod_c, tmod_l, wrap_i64n, wrapun, dec_t, dec_f, inb_t, cond_true, cond_false, Int.toNat_natCast, beq_t, beq_f, bne_t, bne_f, Bool.not_true, Bool.not_false, Int.reduceToNat, ft_b, tf_b, tt_b, ff_b, decide_true, decide_false, r01_Len_spec (hl i hi)]
          · intro j hj
            rcases Nat.lt_succ_iff_lt_or_eq.1 hj with h3 | rfl
            · exact hP j h3
            · exact h2
        · have : ¬ blen (N i) ≤ 62 := fun h => h2 (hbl.1 h)
          refine .inr ⟨.inl ((false, ()), ()), ?_, rfl, fun h => h2 (h i hi)⟩
          simp (disch := omega) only [add_c, add_l, l_add, mul_c, mul_l, l_mul, sub_c, sub_l, l_sub, div_c, div_l, mod_c, mod_l, tdiv_c, tdiv_l, tmod_c, tmod_l, wrap_i64n, wrapun, dec_t, dec_f, inb_t, cond_true, cond_false, Int.toNat_natCast, beq_t, beq_f, bne_t, bne_f, Bool.not_true, Bool.not_false, Int.reduceToNat, ft_b, tf_b, tt_b, ff_b, decide_true, decide_false, r01_Len_spec (hl i hi)])
      (fun _ hP => by
        unfold R_r07_Light_0
        refine ⟨.inr ((), ()), ?_, hP⟩
        simp (disch := omega) only [add_c, add_l, l_add, mul_c, mul_l, l_mul, sub_c, sub_l, l_sub, div_c, div_l, mod_c, mod_l, tdiv_c, tdiv_l, tmod_c, tmod_l, wrap_i64n, wrapun, dec_t, dec_f, inb_t, cond_true, cond_false, Int.toNat_natCast, beq_t, beq_f, bne_t, bne_f, Bool.not_true, Bool.not_false, Int.reduceToNat, ft_b, tf_b, tt_b, ff_b, decide_true, decide_false]) () (fun j hj => absurd hj (by omega))
    have y1' : loopF R_r07_Light_0 (((), (0, ())), (((k, l), ga), ())) = some y := y1
    rcases y with ⟨⟨b, u⟩, v⟩ | y
    · have hb : b = false := y2.1
      subst hb
      refine ⟨false, ?_, ?_⟩
      · simp (disch := omega) only [wrap_i64n, wrapun, dec_t, dec_f, inb_t, cond_true, cond_false, Int.toNat_natCast, beq_t, beq_f, bne_t, bne_f, Bool.not_true, Bool.not_false, Int.reduceToNat, ft_b, tf_b, tt_b, ff_b, decide_true, decide_false, y1']
      · exact ⟨fun h => (by cases h), fun h => absurd h.2 y2.2⟩
    · refine ⟨true, ?_, ?_⟩
      · simp (disch := omega) only [wrap_i64n, wrapun, dec_t, dec_f, inb_t, cond_true, cond_false, Int.toNat_natCast, beq_t, beq_f, bne_t, bne_f, Bool.not_true, Bool.not_false, Int.reduceToNat, ft_b, tf_b, tt_b, ff_b, decide_true, decide_false, y1']
      · exact ⟨fun _ => ⟨h1, y2⟩, fun _ => rfl⟩
  · refine ⟨false, ?_, ?_⟩
    · simp (disch := omega) only [wrap_i64n, wrapun, dec_t, dec_f, inb_t, cond_true, cond_false, Int.toNat_natCast, beq_t, beq_f, bne_t, bne_f, Bool.not_true, Bool.not_false, Int.reduceToNat, ft_b, tf_b, tt_b, ff_b, decide_true, decide_false]
    · exact ⟨fun h => (by cases h), fun h => absurd h.1 h1⟩

theorem isGroup_qlt {g : GroupT} {P Q G : Nat} (h : IsGroup g P Q G) : Q < 2 ^ 256 := by
  obtain ⟨z, _, z2⟩ := group_Q_spec h
  exact z2.1
end Go.Pl

set_option linter.unusedVariables false
set_option linter.unusedSimpArgs false
namespace Go.Pl
open Go Go.Den Go.Num
section
variable {g : GroupT} {P Q G : Nat}
/-- a power that is one by Q is in the group -/
theorem IsGroup.pow_in (h : IsGroup g P Q G) (e : Nat) : (G ^ e % P) ≠ 0 ∧ G ^ e % P < P ∧ (G ^ e % P) ^ Q % P = 1 := by
  have hQ : 0 < Q := h.qpos
  have h1 : (G ^ e % P) ^ Q % P = 1 := by
    rw [← Nat.pow_mod, ← Nat.pow_mul, Nat.mul_comm, Nat.pow_mul, Nat.pow_mod, h.order, Nat.one_pow]
    exact Nat.mod_eq_of_lt h.pp.1
  refine ⟨fun h0 => ?_, Nat.mod_lt _ h.ppos, h1⟩
  rw [h0, Nat.zero_pow hQ] at h1
  simp at h1
theorem power_Multi_odd (h : IsGroup g P Q G) {n k : Nat} (hnk : n ≠ k) {bases exps : Nat → Nat → Int} : power_Multi (some g) n bases k exps = some ((fun _ => 0), 1) := by
  rw [power_Multi_eq]; unfold power_Multi'
  obtain ⟨r, r1, hr⟩ := group_Ring_spec h
  simp only [r1, mont_Prod_odd hr hnk]
theorem power_Multi_many (h : IsGroup g P Q G) {n : Nat} (hn : 64 < n) {bases exps : Nat → Nat → Int} : power_Multi (some g) n bases n exps = some ((fun _ => 0), 1) := by
  rw [power_Multi_eq]; unfold power_Multi'
  obtain ⟨r, r1, hr⟩ := group_Ring_spec h
  simp only [r1, mont_Prod_many hr hn]
end
theorem l09_of_gen {n : Int} {f : Int → Option (Nat → Int)} (hf : f n = r01_Int n) (hn : n < 9223372036854775808) : ∃ a, f n = some a ∧ IsN a n.toNat := by
  obtain ⟨a, h1, h2⟩ := r01_Int_spec hn
  exact ⟨a, hf.trans h1, h2⟩
theorem two_nats {a b : Nat → Int} {x y : Nat} (ha : IsN a x) (hb : IsN b y) : ∀ i, i < 2 → IsN ((fun j => upd (upd (fun _ => fun _ => 0) 0 a) 1 b (0 + j)) i) ((fun i => if i = 0 then x else y) i) := fun i hi => by
  rcases (show i = 0 ∨ i = 1 by omega) with rfl | rfl
  · exact ha
  · exact hb
end Go.Pl
