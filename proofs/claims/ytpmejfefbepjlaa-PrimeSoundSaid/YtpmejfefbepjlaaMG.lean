/-
  The statements of layer 4, plainly.
-/
import Derived.Test.YtpmejfefbepjlaaMF
import Derived.Test.YtpmejfefbepjlaaME
import Derived.Test.YtpmejfefbepjlaaPl
set_option linter.unusedVariables false
set_option linter.unusedSimpArgs false
namespace Go.Pl
open Go Go.Den Go.Num

theorem l04_of_spec {n : Int} (hn : n < 9223372036854775808) : ∃ a, l04_of n = some a ∧ IsN a n.toNat := by
  rw [l04_of_eq]; unfold l04_of'
  obtain ⟨a, h1, h2⟩ := r01_Int_spec hn
  simp only [h1]
  exact ⟨a, rfl, h2⟩

theorem prime_by {n r : Nat} (hn : 2 ≤ n) (hr : n < (r + 1) * (r + 1)) (h : ∀ d, d < r + 1 → 2 ≤ d → n % d ≠ 0) : Pr n :=
  prime_of_tried hn fun d h2 hd => h d (by
    apply Classical.byContradiction
    intro hc
    have : (r + 1) * (r + 1) ≤ d * d := Nat.mul_le_mul (by omega) (by omega)
    omega) h2
theorem prime_65521 : Pr 65521 := prime_by (r := 255) (by decide) (by decide) (by decide +kernel)
theorem prime_5 : Pr 5 := prime_by (r := 2) (by decide) (by decide) (by decide)

theorem l04_awake_spec : l04_awake = some true := by
  rw [l04_awake_eq]; unfold l04_awake'
  obtain ⟨a4, a4a, a4b⟩ := l04_of_spec (n := 4) (by decide)
  obtain ⟨a5, a5a, a5b⟩ := l04_of_spec (n := 5) (by decide)
  obtain ⟨a11, a11a, a11b⟩ := l04_of_spec (n := 11) (by decide)
  have hst : StepP (Int.toNat 11) (Int.toNat 5) 2 := by decide
  obtain ⟨w, e, w1, w2⟩ := prime_Witness_spec a11b a5b
  have hw : w = 2 ∧ e = 0 := by
    rcases w2 with ⟨h1, h2, h3, h4, h5⟩ | ⟨h1, h2, h3⟩
    · refine ⟨?_, h1⟩
      apply Classical.byContradiction
      intro hc
      exact h5 2 (by omega) (by omega) hst
    · exact absurd hst (h3 2 (by omega) (by omega))
  obtain ⟨rfl, rfl⟩ := hw
  obtain ⟨b1, s1, s2⟩ := prime_Small_spec 65521
  obtain rfl : b1 = true := s2.2 ⟨by decide, by decide, prime_65521⟩
  obtain ⟨b2, t1, t2⟩ := prime_Small_spec 65535
  obtain rfl : b2 = false := by
    cases b2
    · rfl
    · exact absurd (by decide : 65535 % 3 = 0) ((t2.1 rfl).2.2.tried 3 (by decide) (by decide))
  have hs := prime_Step_spec a11b a5b 2
  rw [decide_eq_true hst] at hs
  have c1 := (prime_Check_spec (k := 2) (l := fun j => upd (upd (fun _ => ((fun _ => 0), 0)) 0 (a5, 0)) 1 (a11, 2) (0 + j)) (N := fun i => if i = 0 then 5 else 11) (fun i hi => by
      rcases (show i = 0 ∨ i = 1 by omega) with rfl | rfl
      · exact a5b
      · exact a11b)).1 ⟨by decide, by decide, by decide, by decide, prime_5, rfl, fun i hi => by
        obtain rfl : i = 0 := by omega
        exact hst⟩
  have c2 := (prime_Check_spec (k := 1) (l := fun j => upd (fun _ => ((fun _ => 0), 0)) 0 (a4, 0) (0 + j)) (N := fun i => 4) (fun i hi => by
      obtain rfl : i = 0 := by omega
      exact a4b)).2 (fun h => h.2.2.2.2.1.tried 2 (by decide) (by decide) (by decide))
  simp (disch := omega) only [wrap_i64n, wrapun, dec_t, dec_f, inb_t, cond_true, cond_false, Int.toNat_natCast, beq_t, beq_f, bne_t, bne_f, Bool.not_true, Bool.not_false, Int.reduceToNat, ft_b, tf_b, tt_b, ff_b, decide_true, decide_false, a4a, a5a, a11a, w1, s1, t1, hs, c1, c2]

theorem bool_of_iff {a b : Bool} {p : Prop} (h1 : a = true ↔ p) (h2 : b = true ↔ p) : a = b := by
  rw [Bool.eq_iff_iff, h1, h2]

theorem l04_PrimeSmall_true {n : Int} (hn : Go.Den.Good (.int .i64) n) : l04_PrimeSmall' n = some () := by
  unfold l04_PrimeSmall'
  obtain ⟨a, a1, a2⟩ := prime_Small_spec n
  obtain ⟨b, b1, b2⟩ := r04_Small_spec n
  obtain rfl := bool_of_iff a2 b2
  simp only [a1, b1, beq_self_eq_true, wrap_i64n, wrapun, dec_t, dec_f, inb_t, cond_true, cond_false, Int.toNat_natCast, beq_t, beq_f, bne_t, bne_f, Bool.not_true, Bool.not_false, Int.reduceToNat, ft_b, tf_b, tt_b, ff_b, decide_true, decide_false, l04_awake_spec]

set_option maxRecDepth 100000 in
theorem l04_PrimeSteps_true {n f w : Int} (hn : Go.Den.Good (.int .u32) n) (hf : Go.Den.Good (.int .u32) f) (hw : Go.Den.Good (.int .i64) w) : l04_PrimeSteps' n f w = some () := by
  have hn' : 0 ≤ n ∧ n ≤ 4294967295 := hn
  have hf' : 0 ≤ f ∧ f ≤ 4294967295 := hf
  obtain ⟨N, rfl⟩ : ∃ N : Nat, n = (N : Int) := ⟨n.toNat, by omega⟩
  obtain ⟨F, rfl⟩ : ∃ F : Nat, f = (F : Int) := ⟨f.toNat, by omega⟩
  unfold l04_PrimeSteps'
  rw [wrapun (by omega), wrapun (by omega)]
  have a1 := IsN.small (x := N) (by omega)
  have b1 := IsN.small (x := F) (by omega)
  generalize upd (fun _ => 0) 0 (N : Int) = a at *
  generalize upd (fun _ => 0) 0 (F : Int) = b at *
  obtain ⟨v, e, w1, w2⟩ := prime_Witness_spec a1 b1
  have s1 := prime_Step_spec a1 b1 w
  have s2 := r04_Step_spec a1 b1 w
  have L : ∃ y, loopF R_l04_PrimeSteps_0 (T_l04_PrimeSteps_0 (N : Int) v e 0 ((2 + 0 : Nat) : Int) a b) = some y ∧ ∃ least : Int, y = Y_l04_PrimeSteps_0_0 (N : Int) v e least a b ∧ (N < 65536 → v = least) :=
    loop_seek (R := R_l04_PrimeSteps_0) (fun k (s : Int) => T_l04_PrimeSteps_0 (N : Int) v e s ((2 + k : Nat) : Int) a b)
      (fun k s => (s = 0 ∧ (N < 65536 → ∀ j : Int, 2 ≤ j → j < (2 + k : Nat) → ¬ StepP N F j)) ∨ (s = v ∧ s ≠ 0 ∧ N < 65536))
      (fun y => ∃ least : Int, y = Y_l04_PrimeSteps_0_0 (N : Int) v e least a b ∧ (N < 65536 → v = least)) 99
      (fun k hk s hP => by
        rcases hP with ⟨rfl, hP⟩ | ⟨rfl, h0, hlt⟩
        · by_cases hlt : N < 65536
          · left
            have hs := r04_Step_spec a1 b1 ((2 + k : Nat) : Int)
            by_cases hst : StepP N F ((2 + k : Nat) : Int)
            · refine ⟨((2 + k : Nat) : Int), ?_, .inr ⟨?_, by omega, hlt⟩⟩
              · unfold R_l04_PrimeSteps_0
                simp (disch := first | omega | assumption) only [add_c, add_l, l_add, mul_c, mul_l, l_mul, sub_c, sub_l, l_sub, div_c, div_l, mod_c, mod_l, tdiv_c, tdiv_l, tmod_c, tmod_l, wrap_i64n, wrapun, dec_t, dec_f, inb_t, cond_true, cond_false, Int.toNat_natCast, beq_t, beq_f, bne_t, bne_f, Bool.not_true, Bool.not_false, Int.reduceToNat, ft_b, tf_b, tt_b, ff_b, decide_true, decide_false, hs, Nat.add_assoc]
              · rcases w2 with ⟨g1, g2, g3, g4, g5⟩ | ⟨g1, g2, g3⟩
                · apply Classical.byContradiction
                  intro hc
                  by_cases hlt2 : v < ((2 + k : Nat) : Int)
                  · exact hP hlt v g2 hlt2 g4
                  · exact g5 _ (by omega) (by omega) hst
                · exact absurd hst (g3 _ (by omega) (by omega))
            · refine ⟨0, ?_, .inl ⟨rfl, fun _ j h1 h2 => ?_⟩⟩
              · unfold R_l04_PrimeSteps_0
                simp (disch := first | omega | assumption) only [add_c, add_l, l_add, mul_c, mul_l, l_mul, sub_c, sub_l, l_sub, div_c, div_l, mod_c, mod_l, tdiv_c, tdiv_l, tmod_c, tmod_l, wrap_i64n, wrapun, dec_t, dec_f, inb_t, cond_true, cond_false, Int.toNat_natCast, beq_t, beq_f, bne_t, bne_f, Bool.not_true, Bool.not_false, Int.reduceToNat, ft_b, tf_b, tt_b, ff_b, decide_true, decide_false, hs, Nat.add_assoc]
              · by_cases e : j = ((2 + k : Nat) : Int)
                · rw [e]; exact hst
                · exact hP hlt j h1 (by omega)
          · right
            refine ⟨_, ?_, 0, rfl, fun h => absurd h hlt⟩
            unfold R_l04_PrimeSteps_0
            simp (disch := omega) only [add_c, add_l, l_add, mul_c, mul_l, l_mul, sub_c, sub_l, l_sub, div_c, div_l, mod_c, mod_l, tdiv_c, tdiv_l, tmod_c, tmod_l, wrap_i64n, wrapun, dec_t, dec_f, inb_t, cond_true, cond_false, Int.toNat_natCast, beq_t, beq_f, bne_t, bne_f, Bool.not_true, Bool.not_false, Int.reduceToNat, ft_b, tf_b, tt_b, ff_b, decide_true, decide_false]
        · right
          refine ⟨_, ?_, s, rfl, fun _ => rfl⟩
          unfold R_l04_PrimeSteps_0
          simp (disch := omega) only [add_c, add_l, l_add, mul_c, mul_l, l_mul, sub_c, sub_l, l_sub, div_c, div_l, mod_c, mod_l, tdiv_c, tdiv_l, tmod_c, tmod_l, wrap_i64n, wrapun, dec_t, dec_f, inb_t, cond_true, cond_false, Int.toNat_natCast, beq_t, beq_f, bne_t, bne_f, Bool.not_true, Bool.not_false, Int.reduceToNat, ft_b, tf_b, tt_b, ff_b, decide_true, decide_false])
      (fun s hP => by
        rcases hP with ⟨rfl, hP⟩ | ⟨rfl, h0, hlt⟩
        · refine ⟨_, ?_, 0, rfl, fun hlt => ?_⟩
          · unfold R_l04_PrimeSteps_0
            simp (disch := omega) only [add_c, add_l, l_add, mul_c, mul_l, l_mul, sub_c, sub_l, l_sub, div_c, div_l, mod_c, mod_l, tdiv_c, tdiv_l, tmod_c, tmod_l, wrap_i64n, wrapun, dec_t, dec_f, inb_t, cond_true, cond_false, Int.toNat_natCast, beq_t, beq_f, bne_t, bne_f, Bool.not_true, Bool.not_false, Int.reduceToNat, ft_b, tf_b, tt_b, ff_b, decide_true, decide_false]
          · rcases w2 with ⟨g1, g2, g3, g4, g5⟩ | ⟨g1, g2, g3⟩
            · exact absurd g4 (hP hlt v g2 (by omega))
            · exact g2
        · refine ⟨_, ?_, s, rfl, fun _ => rfl⟩
          unfold R_l04_PrimeSteps_0
          simp (disch := omega) only [add_c, add_l, l_add, mul_c, mul_l, l_mul, sub_c, sub_l, l_sub, div_c, div_l, mod_c, mod_l, tdiv_c, tdiv_l, tmod_c, tmod_l, wrap_i64n, wrapun, dec_t, dec_f, inb_t, cond_true, cond_false, Int.toNat_natCast, beq_t, beq_f, bne_t, bne_f, Bool.not_true, Bool.not_false, Int.reduceToNat, ft_b, tf_b, tt_b, ff_b, decide_true, decide_false]) 0 (.inl ⟨rfl, fun _ j h1 h2 => by omega⟩)
  obtain ⟨y, y1, least, rfl, y3⟩ := L
  have y1' : loopF R_l04_PrimeSteps_0 (T_l04_PrimeSteps_0 (N : Int) v e 0 2 a b) = some (Y_l04_PrimeSteps_0_0 (N : Int) v e least a b) := y1
  simp only [T_l04_PrimeSteps_0] at y1'
  rcases w2 with ⟨rfl, g2, g3, g4, g5⟩ | ⟨rfl, rfl, g3⟩
  · have s3 := r04_Step_spec a1 b1 v
    by_cases hlt : N < 65536
    · obtain rfl := y3 hlt
      simp (disch := first | omega | assumption) only [wrap_i64n, wrapun, dec_t, dec_f, inb_t, cond_true, cond_false, Int.toNat_natCast, beq_t, beq_f, bne_t, bne_f, Bool.not_true, Bool.not_false, Int.reduceToNat, ft_b, tf_b, tt_b, ff_b, decide_true, decide_false, w1, s1, s2, beq_self_eq_true, y1', s3, l04_awake_spec]
    · simp (disch := first | omega | assumption) only [wrap_i64n, wrapun, dec_t, dec_f, inb_t, cond_true, cond_false, Int.toNat_natCast, beq_t, beq_f, bne_t, bne_f, Bool.not_true, Bool.not_false, Int.reduceToNat, ft_b, tf_b, tt_b, ff_b, decide_true, decide_false, w1, s1, s2, beq_self_eq_true, y1', s3, l04_awake_spec]
  · by_cases hlt : N < 65536
    · obtain rfl := y3 hlt
      simp (disch := first | omega | assumption) only [wrap_i64n, wrapun, dec_t, dec_f, inb_t, cond_true, cond_false, Int.toNat_natCast, beq_t, beq_f, bne_t, bne_f, Bool.not_true, Bool.not_false, Int.reduceToNat, ft_b, tf_b, tt_b, ff_b, decide_true, decide_false, w1, s1, s2, beq_self_eq_true, y1', l04_awake_spec]
    · simp (disch := first | omega | assumption) only [wrap_i64n, wrapun, dec_t, dec_f, inb_t, cond_true, cond_false, Int.toNat_natCast, beq_t, beq_f, bne_t, bne_f, Bool.not_true, Bool.not_false, Int.reduceToNat, ft_b, tf_b, tt_b, ff_b, decide_true, decide_false, w1, s1, s2, beq_self_eq_true, y1', l04_awake_spec]

/-- chains that are handed in -/
theorem good_links {n : Nat} {l : Nat → (Nat → Int) × Int} (h : Go.Den.Good (.sl (.pair (.arr 4 (.int .u64)) (.int .i64))) (.fz n l)) : ∃ f : Nat → Nat, ∀ i, i < n → IsN (l i).1 (f i) := by
  have key : ∀ i, ∃ x, i < n → IsN (l i).1 x := by
    intro i
    by_cases hi : i < n
    · obtain ⟨x, hx⟩ := good_nat (h.2 i hi).1
      exact ⟨x, fun _ => hx⟩
    · exact ⟨0, fun h => absurd h hi⟩
  exact ⟨fun i => (key i).choose, fun i hi => (key i).choose_spec hi⟩

theorem l04_PrimeChecks_true {n : Nat} {l : Nat → (Nat → Int) × Int} (h : Go.Den.Good (.sl (.pair (.arr 4 (.int .u64)) (.int .i64))) (.fz n l)) : l04_PrimeChecks' n l = some () := by
  obtain ⟨N, hN⟩ := good_links h
  unfold l04_PrimeChecks'
  by_cases h10 : 10 < n
  · simp (disch := omega) only [wrap_i64n, wrapun, dec_t, dec_f, inb_t, cond_true, cond_false, Int.toNat_natCast, beq_t, beq_f, bne_t, bne_f, Bool.not_true, Bool.not_false, Int.reduceToNat, ft_b, tf_b, tt_b, ff_b, decide_true, decide_false, l04_awake_spec]
  · have L : ∃ y, loopF R_l04_PrimeChecks_0 (T_l04_PrimeChecks_0 n l ((0 : Nat) : Int)) = some y ∧ (y = Y_l04_PrimeChecks_0_0 true ∨ y = Y_l04_PrimeChecks_0_1 n l) :=
      loop_seek (R := R_l04_PrimeChecks_0) (S := Unit) (fun i _ => T_l04_PrimeChecks_0 n l (i : Int)) (fun _ _ => True) (fun y => y = Y_l04_PrimeChecks_0_0 true ∨ y = Y_l04_PrimeChecks_0_1 n l) n
        (fun i hi _ _ => by
          by_cases hb : 62 < blen (N i)
          · right
            refine ⟨_, ?_, .inl rfl⟩
            unfold R_l04_PrimeChecks_0
            simp (disch := omega) only [add_c, add_l, l_add, mul_c, mul_l, l_mul, sub_c, sub_l, l_sub, div_c, div_l, mod_c, mod_l, tdiv_c, tdiv_l, tmod_c, tmod_l, wrap_i64n, wrapun, dec_t, dec_f, inb_t, cond_true, cond_false, Int.toNat_natCast, beq_t, beq_f, bne_t, bne_f, Bool.not_true, Bool.not_false, Int.reduceToNat, ft_b, tf_b, tt_b, ff_b, decide_true, decide_false, r01_Len_spec (hN i hi), l04_awake_spec]
          · left
            refine ⟨(), ?_, trivial⟩
            unfold R_l04_PrimeChecks_0
            simp (disch := omega) only [add_c, add_l, l_add, mul_c, mul_l, l_mul, sub_c, sub_l, l_sub, div_c, div_l, mod_c, mod_l, tdiv_c, tdiv_l, tmod_c, tmod_l, wrap_i64n, wrapun, dec_t, dec_f, inb_t, cond_true, cond_false, Int.toNat_natCast, beq_t, beq_f, bne_t, bne_f, Bool.not_true, Bool.not_false, Int.reduceToNat, ft_b, tf_b, tt_b, ff_b, decide_true, decide_false, r01_Len_spec (hN i hi)])
        (fun _ _ => by
          refine ⟨_, ?_, .inr rfl⟩
          unfold R_l04_PrimeChecks_0
          simp (disch := omega) only [add_c, add_l, l_add, mul_c, mul_l, l_mul, sub_c, sub_l, l_sub, div_c, div_l, mod_c, mod_l, tdiv_c, tdiv_l, tmod_c, tmod_l, wrap_i64n, wrapun, dec_t, dec_f, inb_t, cond_true, cond_false, Int.toNat_natCast, beq_t, beq_f, bne_t, bne_f, Bool.not_true, Bool.not_false, Int.reduceToNat, ft_b, tf_b, tt_b, ff_b, decide_true, decide_false]) () trivial
    obtain ⟨y, y1, y2⟩ := L
    have y1' : loopF R_l04_PrimeChecks_0 (T_l04_PrimeChecks_0 n l 0) = some y := y1
    simp only [T_l04_PrimeChecks_0] at y1'
    rcases y2 with rfl | rfl
    · simp (disch := omega) only [wrap_i64n, wrapun, dec_t, dec_f, inb_t, cond_true, cond_false, Int.toNat_natCast, beq_t, beq_f, bne_t, bne_f, Bool.not_true, Bool.not_false, Int.reduceToNat, ft_b, tf_b, tt_b, ff_b, decide_true, decide_false, y1']
    · obtain ⟨b, b1, b2⟩ := r04_Check_spec hN
      by_cases hc : ChainP n N (fun i => (l i).2)
      · obtain rfl := b2.2 hc
        simp (disch := omega) only [wrap_i64n, wrapun, dec_t, dec_f, inb_t, cond_true, cond_false, Int.toNat_natCast, beq_t, beq_f, bne_t, bne_f, Bool.not_true, Bool.not_false, Int.reduceToNat, ft_b, tf_b, tt_b, ff_b, decide_true, decide_false, y1', (prime_Check_spec hN).1 hc, b1, l04_awake_spec, beq_self_eq_true]
      · obtain rfl : b = false := by
          cases b
          · rfl
          · exact absurd (b2.1 rfl) hc
        simp (disch := omega) only [wrap_i64n, wrapun, dec_t, dec_f, inb_t, cond_true, cond_false, Int.toNat_natCast, beq_t, beq_f, bne_t, bne_f, Bool.not_true, Bool.not_false, Int.reduceToNat, ft_b, tf_b, tt_b, ff_b, decide_true, decide_false, y1', (prime_Check_spec hN).2 hc, b1, l04_awake_spec, beq_self_eq_true]

theorem l04_PrimeSound_true {n : Nat} {l : Nat → (Nat → Int) × Int} (h : Go.Den.Good (.sl (.pair (.arr 4 (.int .u64)) (.int .i64))) (.fz n l)) : l04_PrimeSound' n l = some () := by
  obtain ⟨N, hN⟩ := good_links h
  unfold l04_PrimeSound'
  by_cases h1 : n < 1
  · simp (disch := omega) only [wrap_i64n, wrapun, dec_t, dec_f, inb_t, cond_true, cond_false, Int.toNat_natCast, beq_t, beq_f, bne_t, bne_f, Bool.not_true, Bool.not_false, Int.reduceToNat, ft_b, tf_b, tt_b, ff_b, decide_true, decide_false, l04_awake_spec]
  · by_cases h3 : 3 < n
    · simp (disch := omega) only [wrap_i64n, wrapun, dec_t, dec_f, inb_t, cond_true, cond_false, Int.toNat_natCast, beq_t, beq_f, bne_t, bne_f, Bool.not_true, Bool.not_false, Int.reduceToNat, ft_b, tf_b, tt_b, ff_b, decide_true, decide_false, l04_awake_spec]
    · by_cases hc : ChainP n N (fun i => (l i).2)
      · have L : ∃ y, loopF R_l04_PrimeSound_0 (T_l04_PrimeSound_0 n l ((0 : Nat) : Int)) = some y ∧ y = Y_l04_PrimeSound_0_1 :=
          loop_seek (R := R_l04_PrimeSound_0) (S := Unit) (fun i _ => T_l04_PrimeSound_0 n l (i : Int)) (fun _ _ => True) (fun y => y = Y_l04_PrimeSound_0_1) n
            (fun i hi _ _ => by
              left
              refine ⟨(), ?_, trivial⟩
              have hp := hc.prime i hi
              obtain ⟨b, b1, b2⟩ := r04_Plain_spec ((N i : Nat) : Int)
              rw [Int.toNat_natCast] at b2
              unfold R_l04_PrimeSound_0
              by_cases c1 : N i < 9223372036854775808
              · by_cases c2 : N i < 4294967296
                · obtain rfl := b2.2 ⟨by have := hp.1; omega, by omega, hp⟩
                  simp (disch := omega) only [add_c, add_l, l_add, mul_c, mul_l, l_mul, sub_c, sub_l, l_sub, div_c, div_l, mod_c, mod_l, tdiv_c, tdiv_l, tmod_c, tmod_l, wrap_i64n, wrapun, dec_t, dec_f, inb_t, cond_true, cond_false, Int.toNat_natCast, beq_t, beq_f, bne_t, bne_f, Bool.not_true, Bool.not_false, Int.reduceToNat, ft_b, tf_b, tt_b, ff_b, decide_true, decide_false, r01_Low_spec (hN i hi), if_pos c1, b1]
                · simp (disch := omega) only [add_c, add_l, l_add, mul_c, mul_l, l_mul, sub_c, sub_l, l_sub, div_c, div_l, mod_c, mod_l, tdiv_c, tdiv_l, tmod_c, tmod_l, wrap_i64n, wrapun, dec_t, dec_f, inb_t, cond_true, cond_false, Int.toNat_natCast, beq_t, beq_f, bne_t, bne_f, Bool.not_true, Bool.not_false, Int.reduceToNat, ft_b, tf_b, tt_b, ff_b, decide_true, decide_false, r01_Low_spec (hN i hi), if_pos c1]
              · simp (disch := omega) only [add_c, add_l, l_add, mul_c, mul_l, l_mul, sub_c, sub_l, l_sub, div_c, div_l, mod_c, mod_l, tdiv_c, tdiv_l, tmod_c, tmod_l, wrap_i64n, wrapun, dec_t, dec_f, inb_t, cond_true, cond_false, Int.toNat_natCast, beq_t, beq_f, bne_t, bne_f, Bool.not_true, Bool.not_false, Int.reduceToNat, ft_b, tf_b, tt_b, ff_b, decide_true, decide_false, r01_Low_spec (hN i hi), if_neg c1])
            (fun _ _ => by
              refine ⟨_, ?_, rfl⟩
              unfold R_l04_PrimeSound_0
              simp (disch := omega) only [add_c, add_l, l_add, mul_c, mul_l, l_mul, sub_c, sub_l, l_sub, div_c, div_l, mod_c, mod_l, tdiv_c, tdiv_l, tmod_c, tmod_l, wrap_i64n, wrapun, dec_t, dec_f, inb_t, cond_true, cond_false, Int.toNat_natCast, beq_t, beq_f, bne_t, bne_f, Bool.not_true, Bool.not_false, Int.reduceToNat, ft_b, tf_b, tt_b, ff_b, decide_true, decide_false]) () trivial
        obtain ⟨y, y1, rfl⟩ := L
        have y1' : loopF R_l04_PrimeSound_0 (T_l04_PrimeSound_0 n l 0) = some Y_l04_PrimeSound_0_1 := y1
        simp only [T_l04_PrimeSound_0] at y1'
        simp (disch := omega) only [wrap_i64n, wrapun, dec_t, dec_f, inb_t, cond_true, cond_false, Int.toNat_natCast, beq_t, beq_f, bne_t, bne_f, Bool.not_true, Bool.not_false, Int.reduceToNat, ft_b, tf_b, tt_b, ff_b, decide_true, decide_false, (prime_Check_spec hN).1 hc, y1', l04_awake_spec]
      · simp (disch := omega) only [wrap_i64n, wrapun, dec_t, dec_f, inb_t, cond_true, cond_false, Int.toNat_natCast, beq_t, beq_f, bne_t, bne_f, Bool.not_true, Bool.not_false, Int.reduceToNat, ft_b, tf_b, tt_b, ff_b, decide_true, decide_false, (prime_Check_spec hN).2 hc, l04_awake_spec]

theorem l04_PrimeFermat_true {n : Nat} {l : Nat → (Nat → Int) × Int} {a : Nat → Int} (h : Go.Den.Good (.sl (.pair (.arr 4 (.int .u64)) (.int .i64))) (.fz n l)) (ha : Go.Den.Good (.arr 4 (.int .u64)) a) : l04_PrimeFermat' n l a = some () := by
  obtain ⟨N, hN⟩ := good_links h
  obtain ⟨x, hx⟩ := good_nat ha
  unfold l04_PrimeFermat'
  by_cases h1 : n < 1
  · simp (disch := omega) only [wrap_i64n, wrapun, dec_t, dec_f, inb_t, cond_true, cond_false, Int.toNat_natCast, beq_t, beq_f, bne_t, bne_f, Bool.not_true, Bool.not_false, Int.reduceToNat, ft_b, tf_b, tt_b, ff_b, decide_true, decide_false, l04_awake_spec]
  · by_cases h3 : 4 < n
    · simp (disch := omega) only [wrap_i64n, wrapun, dec_t, dec_f, inb_t, cond_true, cond_false, Int.toNat_natCast, beq_t, beq_f, bne_t, bne_f, Bool.not_true, Bool.not_false, Int.reduceToNat, ft_b, tf_b, tt_b, ff_b, decide_true, decide_false, l04_awake_spec]
    · have hlast := hN (n - 1) (by omega)
      by_cases hb : 62 < blen (N (n - 1))
      · simp (disch := omega) only [add_c, add_l, l_add, mul_c, mul_l, l_mul, sub_c, sub_l, l_sub, div_c, div_l, mod_c, mod_l, tdiv_c, tdiv_l, tmod_c, tmod_l, wrap_i64n, wrapun, dec_t, dec_f, inb_t, cond_true, cond_false, Int.toNat_natCast, beq_t, beq_f, bne_t, bne_f, Bool.not_true, Bool.not_false, Int.reduceToNat, ft_b, tf_b, tt_b, ff_b, decide_true, decide_false, r01_Len_spec hlast, l04_awake_spec]
      · by_cases hc : ChainP n N (fun i => (l i).2)
        · have hp := hc.prime (n - 1) (by omega)
          generalize N (n - 1) = P at *
          have hpos := hp.pos
          obtain ⟨r, r1, r2⟩ := r02_Rem_spec0 hx hlast hpos
          by_cases h0 : x % P = 0
          · simp (disch := omega) only [add_c, add_l, l_add, mul_c, mul_l, l_mul, sub_c, sub_l, l_sub, div_c, div_l, mod_c, mod_l, tdiv_c, tdiv_l, tmod_c, tmod_l, wrap_i64n, wrapun, dec_t, dec_f, inb_t, cond_true, cond_false, Int.toNat_natCast, beq_t, beq_f, bne_t, bne_f, Bool.not_true, Bool.not_false, Int.reduceToNat, ft_b, tf_b, tt_b, ff_b, decide_true, decide_false, r01_Len_spec hlast, (prime_Check_spec hN).1 hc, r1, r2.isZero, l04_awake_spec]
          · obtain ⟨two, t1, t2⟩ := l04_of_spec (n := 2) (by decide)
            have t2' : IsN two 2 := t2
            by_cases h2 : P ≤ 2
            · have hcm : cmpI P 2 ≤ 0 := by
                unfold cmpI; split
                · decide
                · rw [if_neg (by omega)]; decide
              simp (disch := first | omega | assumption) only [add_c, add_l, l_add, mul_c, mul_l, l_mul, sub_c, sub_l, l_sub, div_c, div_l, mod_c, mod_l, tdiv_c, tdiv_l, tmod_c, tmod_l, wrap_i64n, wrapun, dec_t, dec_f, inb_t, cond_true, cond_false, Int.toNat_natCast, beq_t, beq_f, bne_t, bne_f, Bool.not_true, Bool.not_false, Int.reduceToNat, ft_b, tf_b, tt_b, ff_b, decide_true, decide_false, r01_Len_spec hlast, (prime_Check_spec hN).1 hc, r1, r2.isZero, t1, r01_Cmp_spec hlast t2', dec_t hcm, l04_awake_spec]
            · have hcm : ¬ cmpI P 2 ≤ 0 := by
                unfold cmpI; rw [if_neg (by omega), if_pos (by omega)]; decide
              obtain ⟨e, e1, e2⟩ := r01_Sub_spec hlast t2'
              have hPl := hlast.1
              have e3 : IsN e (P - 2) := e2.of_eq (by omega)
              obtain ⟨z, z1, z2⟩ := r03_Exp_spec r2 e3 hlast hpos
              obtain ⟨g, g1, g2⟩ := r02_Gcd_spec r2 hlast
              obtain ⟨o, o1, o2⟩ := l04_of_spec (n := 1) (by decide)
              have o2' : IsN o 1 := o2
              have hnd : ¬ P ∣ x % P := fun hd => h0 (by rw [← Nat.mod_mod]; exact Nat.mod_eq_zero_of_dvd hd)
              have hfer := fermat_one hp hnd
              have hinv : (x % P) ^ (P - 2) % P < P ∧ (x % P) ^ (P - 2) % P * (x % P) % P = 1 := by
                refine ⟨Nat.mod_lt _ hpos, ?_⟩
                rw [Nat.mod_mul_mod, ← Nat.pow_succ]
                show (x % P) ^ (P - 2 + 1) % P = 1
                rw [show P - 2 + 1 = P - 1 by omega]
                exact hfer
              have hg : Nat.gcd (x % P) P = 1 := by rw [Nat.gcd_comm]; exact hp.coprime hnd
              simp (disch := first | omega | assumption) only [add_c, add_l, l_add, mul_c, mul_l, l_mul, sub_c, sub_l, l_sub, div_c, div_l, mod_c, mod_l, tdiv_c, tdiv_l, tmod_c, tmod_l, wrap_i64n, wrapun, dec_t, dec_f, inb_t, cond_true, cond_false, Int.toNat_natCast, beq_t, beq_f, bne_t, bne_f, Bool.not_true, Bool.not_false, Int.reduceToNat, ft_b, tf_b, tt_b, ff_b, decide_true, decide_false, r01_Len_spec hlast, (prime_Check_spec hN).1 hc, r1, r2.isZero, t1, r01_Cmp_spec hlast t2', dec_f hcm, e1, z1, r02_Inv_spec z2 r2 hlast, dec_t hinv, g1, o1, g2.eqb o2', l04_awake_spec]
        · simp (disch := omega) only [add_c, add_l, l_add, mul_c, mul_l, l_mul, sub_c, sub_l, l_sub, div_c, div_l, mod_c, mod_l, tdiv_c, tdiv_l, tmod_c, tmod_l, wrap_i64n, wrapun, dec_t, dec_f, inb_t, cond_true, cond_false, Int.toNat_natCast, beq_t, beq_f, bne_t, bne_f, Bool.not_true, Bool.not_false, Int.reduceToNat, ft_b, tf_b, tt_b, ff_b, decide_true, decide_false, r01_Len_spec hlast, (prime_Check_spec hN).2 hc, l04_awake_spec]
end Go.Pl
