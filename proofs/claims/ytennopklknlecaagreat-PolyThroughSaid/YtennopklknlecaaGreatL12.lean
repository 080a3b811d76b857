/-
  What the statements of a layer share.
-/
import Derived.Test.YtennopklknlecaaGreatDenD
import Derived.Test.YtennopklknlecaaGreatPlA
import Derived.Test.YtennopklknlecaaGreatPpoly
import Derived.Test.YtennopklknlecaaGreatPpolyEval
import Derived.Test.YtennopklknlecaaGreatEqA
import Derived.Test.YtennopklknlecaaGreatEpoly
import Derived.Test.YtennopklknlecaaGreatEpolyEval
import Derived.Test.YtennopklknlecaaGreatMP
import Derived.Test.YtennopklknlecaaGreatMD
import Derived.Test.YtennopklknlecaaGreatPr12
set_option linter.unusedVariables false
set_option linter.unusedSimpArgs false
set_option maxRecDepth 100000
set_option maxHeartbeats 0
namespace Go.Pl
end Go.Pl
open Go Go.Den Go.Pl
namespace Go.Pl
noncomputable def l12_small' (which : Int) : Option ((Option (((PtrV ((Nat → Int) × (Int × ((Nat → Int) × (Nat → Int))))) × (PtrV ((Nat → Int) × (Int × ((Nat → Int) × (Nat → Int)))))) × (Nat → Int))) × Int × Bool) :=
 match (r07_Pick which) with
 | none => none
 | some r => (
 match (group_New ((r.1.1, r.1.2), r.2)) with
 | none => none
 | some r1 => (
 match r1.1 with
 | none => (
 match (r07_Q ((r.1.1, r.1.2), r.2)) with
 | none => none
 | some r4 => (
 match (r01_Low r4) with
 | none => none
 | some r5 => (
 some (none, r5.1, (r1.2 == 0)))))
 | some p => (
 match (r07_Q ((r.1.1, r.1.2), r.2)) with
 | none => none
 | some r2 => (
 match (r01_Low r2) with
 | none => none
 | some r3 => (
 some ((some p), r3.1, (r1.2 == 0)))))))
noncomputable def l12_small : (Int) → Option ((Option (((PtrV ((Nat → Int) × (Int × ((Nat → Int) × (Nat → Int))))) × (PtrV ((Nat → Int) × (Int × ((Nat → Int) × (Nat → Int)))))) × (Nat → Int))) × Int × Bool) := veil l12_small'
theorem l12_small_eq : l12_small = l12_small' := veil_eq _
noncomputable def l12_of' (n : Int) : Option ((Nat → Int)) :=
 match (r01_Int n) with
 | none => none
 | some r => (
 some r)
noncomputable def l12_of : (Int) → Option ((Nat → Int)) := veil l12_of'
theorem l12_of_eq : l12_of = l12_of' := veil_eq _
noncomputable def l12_awake'  : Option (Bool) :=
 match (l12_small 0) with
 | none => none
 | some r => (
 match r.1 with
 | none => (
 match (l12_of 0) with
 | none => none
 | some r27 => (
 match (l12_of 1) with
 | none => none
 | some r28 => (
 match (l12_of 2) with
 | none => none
 | some r29 => (
 match (l12_of 0) with
 | none => none
 | some r30 => (
 match (l12_of 1) with
 | none => none
 | some r31 => (
 match (l12_of 4) with
 | none => none
 | some r32 => (
 match (poly_Through none 3 (fun j => (upd (upd (upd (fun _ => (fun _ => 0)) 0 r27) 1 r28) 2 r29) (0 + j)) 3 (fun j => (upd (upd (upd (fun _ => (fun _ => 0)) 0 r30) 1 r31) 2 r32) (0 + j))) with
 | none => none
 | some y2 => (
 let nr3 := y2.1.1.1
 let r33 := y2.1.1.2
 let r34 := y2.1.2.1
 match (l12_of 1) with
 | none => none
 | some r35 => (
 match (l12_of 2) with
 | none => none
 | some r36 => (
 match (l12_of 1) with
 | none => none
 | some r37 => (
 match (l12_of 1) with
 | none => none
 | some r38 => (
 match (l12_of 1) with
 | none => none
 | some r39 => (
 match (poly_Div none 3 (fun j => (upd (upd (upd (fun _ => (fun _ => 0)) 0 r35) 1 r36) 2 r37) (0 + j)) 2 (fun j => (upd (upd (fun _ => (fun _ => 0)) 0 r38) 1 r39) (0 + j))) with
 | none => none
 | some y3 => (
 let nr4 := y3.1.1.1
 let r40 := y3.1.1.2
 let nr5 := y3.1.2.1.1
 let r41 := y3.1.2.1.2
 let r42 := y3.1.2.2.1
 bif r.2.2 then (
 bif (r34 == 0) then (
 match (l12_of 0) with
 | none => none
 | some r43 => (
 match (l12_of 0) with
 | none => none
 | some r44 => (
 match (l12_of 1) with
 | none => none
 | some r45 => (
 match (r08_Same nr3 (fun j => r33 (0 + j)) 3 (fun j => (upd (upd (upd (fun _ => (fun _ => 0)) 0 r43) 1 r44) 2 r45) (0 + j))) with
 | none => none
 | some r46 => (
 bif r46 then (
 bif (r42 == 0) then (
 match (l12_of 1) with
 | none => none
 | some r47 => (
 match (l12_of 1) with
 | none => none
 | some r48 => (
 match (r08_Same nr4 (fun j => r40 (0 + j)) 2 (fun j => (upd (upd (fun _ => (fun _ => 0)) 0 r47) 1 r48) (0 + j))) with
 | none => none
 | some r49 => (
 bif r49 then (
 bif (((nr5 : Nat) : Int) == 0) then (
 match (l12_of 5) with
 | none => none
 | some r50 => (
 match (poly_Eval none nr3 (fun j => r33 (0 + j)) r50) with
 | none => none
 | some r51 => (
 match (l12_of 25) with
 | none => none
 | some r52 => (
 some (eqF (.arr 4 (.int .u64)) r51 r52)))))
 else (
 some false))
 else (
 some false)))))
 else (
 some false))
 else (
 some false))))))
 else (
 some false))
 else (
 some false)))))))))))))))
 | some p => (
 match (l12_of 0) with
 | none => none
 | some r1 => (
 match (l12_of 1) with
 | none => none
 | some r2 => (
 match (l12_of 2) with
 | none => none
 | some r3 => (
 match (l12_of 0) with
 | none => none
 | some r4 => (
 match (l12_of 1) with
 | none => none
 | some r5 => (
 match (l12_of 4) with
 | none => none
 | some r6 => (
 match (poly_Through (some p) 3 (fun j => (upd (upd (upd (fun _ => (fun _ => 0)) 0 r1) 1 r2) 2 r3) (0 + j)) 3 (fun j => (upd (upd (upd (fun _ => (fun _ => 0)) 0 r4) 1 r5) 2 r6) (0 + j))) with
 | none => none
 | some y => (
 let nr := y.1.1.1
 let r7 := y.1.1.2
 let r8 := y.1.2.1
 match (l12_of 1) with
 | none => none
 | some r9 => (
 match (l12_of 2) with
 | none => none
 | some r10 => (
 match (l12_of 1) with
 | none => none
 | some r11 => (
 match (l12_of 1) with
 | none => none
 | some r12 => (
 match (l12_of 1) with
 | none => none
 | some r13 => (
 match (poly_Div (some p) 3 (fun j => (upd (upd (upd (fun _ => (fun _ => 0)) 0 r9) 1 r10) 2 r11) (0 + j)) 2 (fun j => (upd (upd (fun _ => (fun _ => 0)) 0 r12) 1 r13) (0 + j))) with
 | none => none
 | some y1 => (
 let nr1 := y1.1.1.1
 let r14 := y1.1.1.2
 let nr2 := y1.1.2.1.1
 let r15 := y1.1.2.1.2
 let r16 := y1.1.2.2.1
 bif r.2.2 then (
 bif (r8 == 0) then (
 match (l12_of 0) with
 | none => none
 | some r17 => (
 match (l12_of 0) with
 | none => none
 | some r18 => (
 match (l12_of 1) with
 | none => none
 | some r19 => (
 match (r08_Same nr (fun j => r7 (0 + j)) 3 (fun j => (upd (upd (upd (fun _ => (fun _ => 0)) 0 r17) 1 r18) 2 r19) (0 + j))) with
 | none => none
 | some r20 => (
 bif r20 then (
 bif (r16 == 0) then (
 match (l12_of 1) with
 | none => none
 | some r21 => (
 match (l12_of 1) with
 | none => none
 | some r22 => (
 match (r08_Same nr1 (fun j => r14 (0 + j)) 2 (fun j => (upd (upd (fun _ => (fun _ => 0)) 0 r21) 1 r22) (0 + j))) with
 | none => none
 | some r23 => (
 bif r23 then (
 bif (((nr2 : Nat) : Int) == 0) then (
 match (l12_of 5) with
 | none => none
 | some r24 => (
 match (poly_Eval (some p) nr (fun j => r7 (0 + j)) r24) with
 | none => none
 | some r25 => (
 match (l12_of 25) with
 | none => none
 | some r26 => (
 some (eqF (.arr 4 (.int .u64)) r25 r26)))))
 else (
 some false))
 else (
 some false)))))
 else (
 some false))
 else (
 some false))))))
 else (
 some false))
 else (
 some false))))))))))))))))
noncomputable def l12_awake : Option (Bool) := veil l12_awake'
theorem l12_awake_eq : l12_awake = l12_awake' := veil_eq _
noncomputable def l12_is' (nf : Nat) (f : Nat → (Nat → Int)) (nwant : Nat) (want : Nat → Int) : Option (Bool) :=
 match (r08_Nats nwant want) with
 | none => none
 | some r => (
 match (r08_Same nf f r.1 r.2) with
 | none => none
 | some r1 => (
 some r1))
noncomputable def l12_is : (Nat) → (Nat → (Nat → Int)) → (Nat) → (Nat → Int) → Option (Bool) := veil l12_is'
theorem l12_is_eq : l12_is = l12_is' := veil_eq _
end Go.Pl

set_option linter.unusedVariables false
set_option linter.unusedSimpArgs false
set_option maxRecDepth 100000
set_option maxHeartbeats 0
namespace Go.Pl
end Go.Pl
open Go Go.Den Go.Pl
namespace Go.Proofs.YtennopklknlecaaGreat
noncomputable def c_l12_small : Con := conV false [(.int .i64)] [(.ptr (.pair (.pair (.ptr (.pair (.arr 4 (.int .u64)) (.pair (.int .u64) (.pair (.arr 4 (.int .u64)) (.arr 4 (.int .u64)))))) (.ptr (.pair (.arr 4 (.int .u64)) (.pair (.int .u64) (.pair (.arr 4 (.int .u64)) (.arr 4 (.int .u64))))))) (.arr 4 (.int .u64)))), (.int .i64), .bool] fun x => l12_small x.1
noncomputable def x_l12_small : Cx := { ti := ti, con := [(14, c_r07_Pick), (15, c_group_New), (17, c_r07_Q), (16, c_r01_Low)], fns := [], un := 6 }
theorem xok_l12_small : CxOk Tryz.prog x_l12_small := CxOk.of mixed ti_ok (List.forall_mem_cons.2 ⟨con_r07_Pick, List.forall_mem_cons.2 ⟨con_group_New, List.forall_mem_cons.2 ⟨con_r07_Q, List.forall_mem_cons.2 ⟨con_r01_Low, List.forall_mem_nil _⟩⟩⟩⟩) (List.forall_mem_nil _)
theorem fn_l12_small : FnOk Tryz.prog 5 Tryz.f5 [] := ⟨Tryz.func5, Tryz.call5, lps_nil⟩
theorem e_l12_small (which : Int) : bodyK x_l12_small [] (denF x_l12_small 8) Tryz.f5 (domV [(.int .i64)] (which, ())) [] 0 (kOut [(.ptr (.pair (.pair (.ptr (.pair (.arr 4 (.int .u64)) (.pair (.int .u64) (.pair (.arr 4 (.int .u64)) (.arr 4 (.int .u64)))))) (.ptr (.pair (.arr 4 (.int .u64)) (.pair (.int .u64) (.pair (.arr 4 (.int .u64)) (.arr 4 (.int .u64))))))) (.arr 4 (.int .u64)))), (.int .i64), .bool]) = l12_small' which := by kernel_rfl
theorem con_l12_small : ConOk Tryz.prog 5 c_l12_small := con_ok xok_l12_small 8 fn_l12_small false [(.int .i64)] [(.ptr (.pair (.pair (.ptr (.pair (.arr 4 (.int .u64)) (.pair (.int .u64) (.pair (.arr 4 (.int .u64)) (.arr 4 (.int .u64)))))) (.ptr (.pair (.arr 4 (.int .u64)) (.pair (.int .u64) (.pair (.arr 4 (.int .u64)) (.arr 4 (.int .u64))))))) (.arr 4 (.int .u64)))), (.int .i64), .bool] _ (by decide) (fun x => by rw [l12_small_eq]; exact e_l12_small x.1)
noncomputable def c_l12_of : Con := conV true [(.int .i64)] [(.arr 4 (.int .u64))] fun x => l12_of x.1
noncomputable def x_l12_of : Cx := { ti := ti, con := [(33, c_r01_Int)], fns := [], un := 6 }
theorem xok_l12_of : CxOk Tryz.prog x_l12_of := CxOk.of mixed ti_ok (List.forall_mem_cons.2 ⟨con_r01_Int, List.forall_mem_nil _⟩) (List.forall_mem_nil _)
theorem fn_l12_of : FnOk Tryz.prog 10 Tryz.f10 [] := ⟨Tryz.func10, Tryz.call10, lps_nil⟩
theorem e_l12_of (n : Int) : bodyK x_l12_of [] (denF x_l12_of 8) Tryz.f10 (domV [(.int .i64)] (n, ())) [] 0 (kOut [(.arr 4 (.int .u64))]) = l12_of' n := by kernel_rfl
theorem con_l12_of : ConOk Tryz.prog 10 c_l12_of := con_ok xok_l12_of 8 fn_l12_of true [(.int .i64)] [(.arr 4 (.int .u64))] _ (by decide) (fun x => by rw [l12_of_eq]; exact e_l12_of x.1)
noncomputable def c_l12_awake : Con := conV true [] [.bool] fun x => l12_awake 
noncomputable def x_l12_awake : Cx := { ti := ti, con := [(5, c_l12_small), (10, c_l12_of), (6, c_poly_Through), (11, c_poly_Div), (12, c_r08_Same), (13, c_poly_Eval)], fns := [], un := 6 }
theorem xok_l12_awake : CxOk Tryz.prog x_l12_awake := CxOk.of mixed ti_ok (List.forall_mem_cons.2 ⟨con_l12_small, List.forall_mem_cons.2 ⟨con_l12_of, List.forall_mem_cons.2 ⟨con_poly_Through, List.forall_mem_cons.2 ⟨con_poly_Div, List.forall_mem_cons.2 ⟨con_r08_Same, List.forall_mem_cons.2 ⟨con_poly_Eval, List.forall_mem_nil _⟩⟩⟩⟩⟩⟩) (List.forall_mem_nil _)
theorem fn_l12_awake : FnOk Tryz.prog 4 Tryz.f4 [] := ⟨Tryz.func4, Tryz.call4, lps_nil⟩
theorem e_l12_awake  : bodyK x_l12_awake [] (denF x_l12_awake 8) Tryz.f4 (domV [] (())) [] 0 (kOut [.bool]) = l12_awake'  := by kernel_rfl
theorem con_l12_awake : ConOk Tryz.prog 4 c_l12_awake := con_ok xok_l12_awake 8 fn_l12_awake true [] [.bool] _ (by decide) (fun x => by rw [l12_awake_eq]; exact e_l12_awake )
noncomputable def c_l12_is : Con := conV true [(.sl (.arr 4 (.int .u64))), (.sl (.int .i64))] [.bool] fun x => l12_is x.1.1 x.1.2 x.2.1.1 x.2.1.2
noncomputable def x_l12_is : Cx := { ti := ti, con := [(27, c_r08_Nats), (12, c_r08_Same)], fns := [], un := 6 }
theorem xok_l12_is : CxOk Tryz.prog x_l12_is := CxOk.of mixed ti_ok (List.forall_mem_cons.2 ⟨con_r08_Nats, List.forall_mem_cons.2 ⟨con_r08_Same, List.forall_mem_nil _⟩⟩) (List.forall_mem_nil _)
theorem fn_l12_is : FnOk Tryz.prog 8 Tryz.f8 [] := ⟨Tryz.func8, Tryz.call8, lps_nil⟩
theorem e_l12_is (nf : Nat) (f : Nat → (Nat → Int)) (nwant : Nat) (want : Nat → Int) : bodyK x_l12_is [] (denF x_l12_is 8) Tryz.f8 (domV [(.sl (.arr 4 (.int .u64))), (.sl (.int .i64))] ((nf, f), (nwant, want), ())) [] 0 (kOut [.bool]) = l12_is' nf f nwant want := by kernel_rfl
theorem con_l12_is : ConOk Tryz.prog 8 c_l12_is := con_ok xok_l12_is 8 fn_l12_is true [(.sl (.arr 4 (.int .u64))), (.sl (.int .i64))] [.bool] _ (by decide) (fun x => by rw [l12_is_eq]; exact e_l12_is x.1.1 x.1.2 x.2.1.1 x.2.1.2)
end Go.Proofs.YtennopklknlecaaGreat

set_option linter.unusedVariables false
set_option linter.unusedSimpArgs false
namespace Go.Pl
open Go Go.Den Go.Num

/-- a row of whole numbers -/
def IsR (n : Nat) (f : Nat → Int) (c : Nat → Nat) : Prop := ∀ i, i < n → f i = (c i : Int)
theorem rowI_snoc {n : Nat} {f : Nat → Int} {c : Nat → Nat} {z : Int} (hf : IsR n f c) (hz : z = (c n : Int)) : IsR (n + 1) (glue n f (fun j => upd (fun _ => 0) 0 z (0 + j))) c := by
  intro i hi
  by_cases e : i = n
  · subst e; rw [gl_eq, Nat.add_zero, upd_same]; exact hz
  · rw [gl_lt (by omega)]; exact hf i (by omega)
/-- a polynomial of whole numbers without coefficients at the end that are 0 -/
structure IsPolI (n : Nat) (f : Nat → Int) (c : Nat → Nat) : Prop where
  is : IsR n f c
  zero : ∀ k, n ≤ k → c k = 0
  top : n = 0 ∨ c (n - 1) ≠ 0
theorem IsPol.sizeI {Q n m : Nat} {f : Nat → (Nat → Int)} {w : Nat → Int} {c : Nat → Nat} (a : IsPol Q n f c) (b : IsPolI m w c) : n = m := by
  rcases Nat.lt_trichotomy n m with h1 | h1 | h1
  · rcases b.top with h2 | h2
    · omega
    · exact absurd (a.zero _ (by omega)) h2
  · exact h1
  · rcases a.top with h2 | h2
    · omega
    · exact absurd (b.zero _ (by omega)) h2
theorem r08_All_spec {n : Nat} (hn : n ≤ 100000) {l : Nat → (Nat → Int)} {A : Nat → Nat} (hl : ∀ i, i < n → IsN (l i) (A i)) {q : Nat} (hq : 0 < q) (hq2 : q < 9223372036854775808) : ∃ f, r08_All n l (q : Int) = some (n, f) ∧ IsR n f (fun i => A i % q) := by
  rw [r08_All_eq]; unfold r08_All'
  obtain ⟨z, hy, hP⟩ := loop_for (R := R_r08_All_0) (fun i (out : Nat → Int) => T_r08_All_0 n l (q : Int) i out (i : Int)) (fun out => Y_r08_All_0_0 n out) (fun i out => IsR i out (fun i => A i % q)) n
    (fun i hi out hP => by
      have b1 : Nat.ble ((i + 1) * 8) 140737488355328 = true := Nat.ble_eq_true_of_le (by omega)
      have b2 : Nat.ble (i + 1) 9223372036854775807 = true := Nat.ble_eq_true_of_le (by omega)
      refine ⟨_, ?_, rowI_snoc hP rfl⟩
      unfold R_r08_All_0
      simp (disch := omega) only [add_c, add_l, l_add, mul_c, mul_l, l_mul, sub_c, sub_l, l_sub, div_c, div_l, mod_c, mod_l, tdiv_c, tdiv_l, tmod_c, tmod_l, wrap_i64n, wrapun, dec_t, dec_f, inb_t, cond_true, cond_false, Int.toNat_natCast, beq_t, beq_f, bne_t, bne_f, Bool.not_true, Bool.not_false, Int.reduceToNat, ft_b, tf_b, tt_b, ff_b, decide_true, decide_false, r08_By_spec (hl i hi) hq hq2, b1, b2, Bool.and_self])
    (fun out hP => by
      unfold R_r08_All_0
      simp (disch := omega) only [add_c, add_l, l_add, mul_c, mul_l, l_mul, sub_c, sub_l, l_sub, div_c, div_l, mod_c, mod_l, tdiv_c, tdiv_l, tmod_c, tmod_l, wrap_i64n, wrapun, dec_t, dec_f, inb_t, cond_true, cond_false, Int.toNat_natCast, beq_t, beq_f, bne_t, bne_f, Bool.not_true, Bool.not_false, Int.reduceToNat, ft_b, tf_b, tt_b, ff_b, decide_true, decide_false]) (fun _ => 0) (fun i hi => absurd hi (Nat.not_lt_zero i))
  have hy' : loopF R_r08_All_0 (((n, l), ((q : Int), ((0, fun _ => 0), (0, ())))), ()) = some (Y_r08_All_0_0 n z) := hy
  exact ⟨fun j => z (0 + j), by simp only [hy'], fun i hi => by have := hP i hi; simpa only [Nat.zero_add] using this⟩
theorem r08_Nats_spec {n : Nat} (hn : n ≤ 100000) {l : Nat → Int} {c : Nat → Nat} (hl : IsR n l c) (hc : ∀ i, i < n → c i < 9223372036854775808) : ∃ f, r08_Nats n l = some (n, f) ∧ ∀ i, i < n → IsN (f i) (c i) := by
  rw [r08_Nats_eq]; unfold r08_Nats'
  obtain ⟨z, hy, hP⟩ := loop_for (R := R_r08_Nats_0) (fun i (out : Nat → (Nat → Int)) => T_r08_Nats_0 n l i out (i : Int)) (fun out => Y_r08_Nats_0_0 n out) (fun i out => ∀ j, j < i → IsN (out j) (c j)) n
    (fun i hi out hP => by
      have h1 := hc i hi
      obtain ⟨o, o1, o2⟩ := r01_Int_spec (n := (c i : Int)) (by omega)
      rw [Int.toNat_natCast] at o2
      have b1 : Nat.ble ((i + 1) * 32) 140737488355328 = true := Nat.ble_eq_true_of_le (by omega)
      have b2 : Nat.ble (i + 1) 9223372036854775807 = true := Nat.ble_eq_true_of_le (by omega)
      refine ⟨_, ?_, row_snoc hP o2⟩
      unfold R_r08_Nats_0
      simp (disch := omega) only [add_c, add_l, l_add, mul_c, mul_l, l_mul, sub_c, sub_l, l_sub, div_c, div_l, mod_c, mod_l, tdiv_c, tdiv_l, tmod_c, tmod_l, wrap_i64n, wrapun, dec_t, dec_f, inb_t, cond_true, cond_false, Int.toNat_natCast, beq_t, beq_f, bne_t, bne_f, Bool.not_true, Bool.not_false, Int.reduceToNat, ft_b, tf_b, tt_b, ff_b, decide_true, decide_false, hl i hi, o1, b1, b2, Bool.and_self])
    (fun out hP => by
      unfold R_r08_Nats_0
      simp (disch := omega) only [add_c, add_l, l_add, mul_c, mul_l, l_mul, sub_c, sub_l, l_sub, div_c, div_l, mod_c, mod_l, tdiv_c, tdiv_l, tmod_c, tmod_l, wrap_i64n, wrapun, dec_t, dec_f, inb_t, cond_true, cond_false, Int.toNat_natCast, beq_t, beq_f, bne_t, bne_f, Bool.not_true, Bool.not_false, Int.reduceToNat, ft_b, tf_b, tt_b, ff_b, decide_true, decide_false]) (fun _ => fun _ => 0) (fun i hi => absurd hi (Nat.not_lt_zero i))
  have hy' : loopF R_r08_Nats_0 (((n, l), ((0, fun _ => fun _ => 0), (0, ()))), ()) = some (Y_r08_Nats_0_0 n z) := hy
  exact ⟨fun j => z (0 + j), by simp only [hy'], fun i hi => by have := hP i hi; simpa only [Nat.zero_add] using this⟩
theorem same_rows {n : Nat} (hn : n ≤ 100000) {a b : Nat → (Nat → Int)} {c : Nat → Nat} (ha : ∀ i, i < n → IsN (a i) (c i)) (hb : ∀ i, i < n → IsN (b i) (c i)) : r08_Same n a n b = some true := by
  rw [r08_Same_eq]; unfold r08_Same'
  obtain ⟨y, y1, _⟩ := loop_for (R := R_r08_Same_0) (fun i (s : Unit) => T_r08_Same_0 n a n b (i : Int)) (fun _ => Y_r08_Same_0_1) (fun _ _ => True) n
    (fun i hi s _ => by
      refine ⟨(), ?_, trivial⟩
      unfold R_r08_Same_0
      have := (ha i hi).eqb (hb i hi)
      simp (disch := omega) only [add_c, add_l, l_add, mul_c, mul_l, l_mul, sub_c, sub_l, l_sub, div_c, div_l, mod_c, mod_l, tdiv_c, tdiv_l, tmod_c, tmod_l, wrap_i64n, wrapun, dec_t, dec_f, inb_t, cond_true, cond_false, Int.toNat_natCast, beq_t, beq_f, bne_t, bne_f, Bool.not_true, Bool.not_false, Int.reduceToNat, ft_b, tf_b, tt_b, ff_b, decide_true, decide_false, this])
    (fun s _ => by
      unfold R_r08_Same_0
      simp (disch := omega) only [add_c, add_l, l_add, mul_c, mul_l, l_mul, sub_c, sub_l, l_sub, div_c, div_l, mod_c, mod_l, tdiv_c, tdiv_l, tmod_c, tmod_l, wrap_i64n, wrapun, dec_t, dec_f, inb_t, cond_true, cond_false, Int.toNat_natCast, beq_t, beq_f, bne_t, bne_f, Bool.not_true, Bool.not_false, Int.reduceToNat, ft_b, tf_b, tt_b, ff_b, decide_true, decide_false]) () trivial
  have y1' : loopF R_r08_Same_0 (((n, a), ((n, b), (0, ()))), ()) = some Y_r08_Same_0_1 := y1
  simp (disch := omega) only [wrap_i64n, wrapun, dec_t, dec_f, inb_t, cond_true, cond_false, Int.toNat_natCast, beq_t, beq_f, bne_t, bne_f, Bool.not_true, Bool.not_false, Int.reduceToNat, ft_b, tf_b, tt_b, ff_b, decide_true, decide_false, y1']
section
variable {q : Nat}
theorem r12_trim_loop_Add {c : Nat → Nat} {N : Nat} (hN : N ≤ 100000) {f : Nat → Int} (hf : IsR N f c) : ∀ (n : Nat), n ≤ N → (∀ k, n ≤ k → k < N → c k = 0) → ∃ m, m ≤ n ∧ loopF R_r12_Add_52_0 (T_r12_Add_52_0 N f (n : Int)) = some (Y_r12_Add_52_0_0 N f (m : Int)) ∧ (∀ k, m ≤ k → k < N → c k = 0) ∧ (m = 0 ∨ c (m - 1) ≠ 0)
  | 0, _, h => ⟨0, Nat.le_refl _, loopF_exit (by unfold R_r12_Add_52_0; simp (disch := omega) only [add_c, add_l, l_add, mul_c, mul_l, l_mul, sub_c, sub_l, l_sub, div_c, div_l, mod_c, mod_l, tdiv_c, tdiv_l, tmod_c, tmod_l, wrap_i64n, wrapun, dec_t, dec_f, inb_t, cond_true, cond_false, Int.toNat_natCast, beq_t, beq_f, bne_t, bne_f, Bool.not_true, Bool.not_false, Int.reduceToNat, ft_b, tf_b, tt_b, ff_b, decide_true, decide_false]), h, .inl rfl⟩
  | n + 1, hn, h => by
    have e1 : IntKind.i64.wrap (((n + 1 : Nat) : Int) - 1) = ((n : Nat) : Int) := by rw [wrap_i64 (by omega)]; omega
    have hv := hf n (by omega)
    by_cases hc : c n = 0
    · obtain ⟨m, m1, m2, m3, m4⟩ := r12_trim_loop_Add hN hf n (by omega) (fun k hk hk2 => by
        by_cases e : k = n
        · rw [e]; exact hc
        · exact h k (by omega) hk2)
      refine ⟨m, by omega, ?_, m3, m4⟩
      rw [← m2]
      refine loopF_next ?_
      unfold R_r12_Add_52_0
      simp (disch := omega) only [wrap_i64n, wrapun, dec_t, dec_f, inb_t, cond_true, cond_false, Int.toNat_natCast, beq_t, beq_f, bne_t, bne_f, Bool.not_true, Bool.not_false, Int.reduceToNat, ft_b, tf_b, tt_b, ff_b, decide_true, decide_false, e1, Nat.zero_add, hv]
    · refine ⟨n + 1, Nat.le_refl _, loopF_exit ?_, h, .inr hc⟩
      unfold R_r12_Add_52_0
      simp (disch := omega) only [wrap_i64n, wrapun, dec_t, dec_f, inb_t, cond_true, cond_false, Int.toNat_natCast, beq_t, beq_f, bne_t, bne_f, Bool.not_true, Bool.not_false, Int.reduceToNat, ft_b, tf_b, tt_b, ff_b, decide_true, decide_false, e1, Nat.zero_add, hv]
theorem r12_trim_loop_Mul {c : Nat → Nat} {N : Nat} (hN : N ≤ 100000) {f : Nat → Int} (hf : IsR N f c) : ∀ (n : Nat), n ≤ N → (∀ k, n ≤ k → k < N → c k = 0) → ∃ m, m ≤ n ∧ loopF R_r12_Mul_52_0 (T_r12_Mul_52_0 N f (n : Int)) = some (Y_r12_Mul_52_0_0 N f (m : Int)) ∧ (∀ k, m ≤ k → k < N → c k = 0) ∧ (m = 0 ∨ c (m - 1) ≠ 0)
  | 0, _, h => ⟨0, Nat.le_refl _, loopF_exit (by unfold R_r12_Mul_52_0; simp (disch := omega) only [add_c, add_l, l_add, mul_c, mul_l, l_mul, sub_c, sub_l, l_sub, div_c, div_l, mod_c, mod_l, tdiv_c, tdiv_l, tmod_c, tmod_l, wrap_i64n, wrapun, dec_t, dec_f, inb_t, cond_true, cond_false, Int.toNat_natCast, beq_t, beq_f, bne_t, bne_f, Bool.not_true, Bool.not_false, Int.reduceToNat, ft_b, tf_b, tt_b, ff_b, decide_true, decide_false]), h, .inl rfl⟩
  | n + 1, hn, h => by
    have e1 : IntKind.i64.wrap (((n + 1 : Nat) : Int) - 1) = ((n : Nat) : Int) := by rw [wrap_i64 (by omega)]; omega
    have hv := hf n (by omega)
    by_cases hc : c n = 0
    · obtain ⟨m, m1, m2, m3, m4⟩ := r12_trim_loop_Mul hN hf n (by omega) (fun k hk hk2 => by
        by_cases e : k = n
        · rw [e]; exact hc
        · exact h k (by omega) hk2)
      refine ⟨m, by omega, ?_, m3, m4⟩
      rw [← m2]
      refine loopF_next ?_
      unfold R_r12_Mul_52_0
      simp (disch := omega) only [wrap_i64n, wrapun, dec_t, dec_f, inb_t, cond_true, cond_false, Int.toNat_natCast, beq_t, beq_f, bne_t, bne_f, Bool.not_true, Bool.not_false, Int.reduceToNat, ft_b, tf_b, tt_b, ff_b, decide_true, decide_false, e1, Nat.zero_add, hv]
    · refine ⟨n + 1, Nat.le_refl _, loopF_exit ?_, h, .inr hc⟩
      unfold R_r12_Mul_52_0
      simp (disch := omega) only [wrap_i64n, wrapun, dec_t, dec_f, inb_t, cond_true, cond_false, Int.toNat_natCast, beq_t, beq_f, bne_t, bne_f, Bool.not_true, Bool.not_false, Int.reduceToNat, ft_b, tf_b, tt_b, ff_b, decide_true, decide_false, e1, Nat.zero_add, hv]

theorem r12_at_spec {n : Nat} (hn : n ≤ 100000) {f : Nat → Int} {c : Nat → Nat} (hf : IsR n f c) (k : Nat) : r12_at n f (k : Int) = some ((pad c n k : Nat) : Int) := by
  rw [r12_at_eq]; unfold r12_at' pad
  by_cases h : k < n
  · rw [if_pos h]
    simp (disch := omega) only [wrap_i64n, wrapun, dec_t, dec_f, inb_t, cond_true, cond_false, Int.toNat_natCast, beq_t, beq_f, bne_t, bne_f, Bool.not_true, Bool.not_false, Int.reduceToNat, ft_b, tf_b, tt_b, ff_b, decide_true, decide_false, hf k h]
  · rw [if_neg h]
    simp (disch := omega) only [wrap_i64n, wrapun, dec_t, dec_f, inb_t, cond_true, cond_false, Int.toNat_natCast, beq_t, beq_f, bne_t, bne_f, Bool.not_true, Bool.not_false, Int.reduceToNat, ft_b, tf_b, tt_b, ff_b, decide_true, decide_false]
    rfl
theorem r12_Add_spec (hq : 0 < q) (hq2 : q < 2147483648) {na nb : Nat} (hna : na ≤ 10000) (hnb : nb ≤ 10000) {a b : Nat → Int} {A B : Nat → Nat} (ha : IsR na a A) (hb : IsR nb b B) (hA : ∀ i, i < na → A i < q) (hB : ∀ i, i < nb → B i < q) :
    ∃ m w, r12_Add na a nb b (q : Int) = some (((m, w), ()), ()) ∧ m ≤ max na nb ∧ IsPolI m w (fun k => (pad A na k + pad B nb k) % q) := by
  rw [r12_Add_eq]; unfold r12_Add'
  obtain ⟨N, hN⟩ : ∃ N, N = max na nb := ⟨_, rfl⟩
  have hmax : (if ((na : Nat) : Int) < ((nb : Nat) : Int) then ((nb : Nat) : Int) else ((na : Nat) : Int)) = (N : Int) := by
    rw [hN]; split <;> omega
  have pl : ∀ k, pad A na k < q := fun k => by
    unfold pad; split
    · exact hA k (by assumption)
    · exact hq
  have pl2 : ∀ k, pad B nb k < q := fun k => by
    unfold pad; split
    · exact hB k (by assumption)
    · exact hq
  obtain ⟨z, hy, hP⟩ := loop_for (R := R_r12_Add_0) (fun i (out : Nat → Int) => T_r12_Add_0 na a nb b (q : Int) i out (i : Int)) (fun out => Y_r12_Add_0_0 N out) (fun i out => IsR i out (fun k => (pad A na k + pad B nb k) % q)) N
    (fun i hi out hP => by
      have b1 : Nat.ble ((i + 1) * 8) 140737488355328 = true := Nat.ble_eq_true_of_le (by omega)
      have b2 : Nat.ble (i + 1) 9223372036854775807 = true := Nat.ble_eq_true_of_le (by omega)
      have l1 := pl i
      have l2 := pl2 i
      refine ⟨glue i out (fun j => upd (fun _ => 0) 0 (((pad A na i + pad B nb i) % q : Nat) : Int) (0 + j)), ?_, rowI_snoc (c := fun k => (pad A na k + pad B nb k) % q) hP rfl⟩
      unfold R_r12_Add_0
      simp (disch := omega) only [add_c, add_l, l_add, mul_c, mul_l, l_mul, sub_c, sub_l, l_sub, div_c, div_l, mod_c, mod_l, tdiv_c, tdiv_l, tmod_c, tmod_l, wrap_i64n, wrapun, dec_t, dec_f, inb_t, cond_true, cond_false, Int.toNat_natCast, beq_t, beq_f, bne_t, bne_f, Bool.not_true, Bool.not_false, Int.reduceToNat, ft_b, tf_b, tt_b, ff_b, decide_true, decide_false, hmax, r12_at_spec (show na ≤ 100000 by omega) ha, r12_at_spec (show nb ≤ 100000 by omega) hb, r08_Add_spec hq (show pad A na i < 4611686018427387904 by omega) (show pad B nb i < 4611686018427387904 by omega), b1, b2, Bool.and_self])
    (fun out hP => by
      unfold R_r12_Add_0
      simp (disch := omega) only [add_c, add_l, l_add, mul_c, mul_l, l_mul, sub_c, sub_l, l_sub, div_c, div_l, mod_c, mod_l, tdiv_c, tdiv_l, tmod_c, tmod_l, wrap_i64n, wrapun, dec_t, dec_f, inb_t, cond_true, cond_false, Int.toNat_natCast, beq_t, beq_f, bne_t, bne_f, Bool.not_true, Bool.not_false, Int.reduceToNat, ft_b, tf_b, tt_b, ff_b, decide_true, decide_false, hmax]) (fun _ => 0) (fun i hi => absurd hi (Nat.not_lt_zero i))
  have hy' : loopF R_r12_Add_0 (((na, a), ((nb, b), ((q : Int), ((0, fun _ => 0), (0, ()))))), ()) = some (Y_r12_Add_0_0 N z) := hy
  obtain ⟨m, m1, m2, m3, m4⟩ := r12_trim_loop_Add (show N ≤ 100000 by omega) hP N (Nat.le_refl _) (fun k hk hk2 => by omega)
  have m2' : loopF R_r12_Add_52_0 (((N, z), ((N : Int), ())), ()) = some (Y_r12_Add_52_0_0 N z (m : Int)) := m2
  refine ⟨m, z, ?_, by omega, fun i hi => hP i (by omega), fun k hk => ?_, m4⟩
  · simp (disch := omega) only [wrap_i64n, wrapun, dec_t, dec_f, inb_t, cond_true, cond_false, Int.toNat_natCast, beq_t, beq_f, bne_t, bne_f, Bool.not_true, Bool.not_false, Int.reduceToNat, ft_b, tf_b, tt_b, ff_b, decide_true, decide_false, hy', m2', Bool.and_self, Nat.sub_zero]
  · by_cases h : k < N
    · exact m3 k hk h
    · rw [pad_zero (by omega), pad_zero (by omega), Nat.zero_mod]
theorem mulN_succ (A B : Nat → Nat) (i nb t : Nat) : mulN A B (i + 1) nb t = mulN A B i nb t + A i * (if i ≤ t then pad B nb (t - i) else 0) := rfl
theorem r12_Mul_spec (hq : 1 < q) (hq2 : q < 2147483648) {na nb : Nat} (hna : na ≤ 10000) (hnb : nb ≤ 10000) {a b : Nat → Int} {A B : Nat → Nat} (ha : IsR na a A) (hb : IsR nb b B) :
    ∃ m w, r12_Mul na a nb b (q : Int) = some (((m, w), ()), ()) ∧ m ≤ na + nb ∧ IsPolI m w (fun k => mulN A B na nb k % q) := by
  rw [r12_Mul_eq]; unfold r12_Mul'
  by_cases h1 : na = 0
  · refine ⟨0, fun _ => 0, by simp (disch := omega) only [add_c, add_l, l_add, mul_c, mul_l, l_mul, sub_c, sub_l, l_sub, div_c, div_l, mod_c, mod_l, tdiv_c, tdiv_l, tmod_c, tmod_l, wrap_i64n, wrapun, dec_t, dec_f, inb_t, cond_true, cond_false, Int.toNat_natCast, beq_t, beq_f, bne_t, bne_f, Bool.not_true, Bool.not_false, Int.reduceToNat, ft_b, tf_b, tt_b, ff_b, decide_true, decide_false], by omega, fun i hi => absurd hi (Nat.not_lt_zero i), fun k _ => ?_, .inl rfl⟩
    subst h1
    simp only [mulN, dotN, Nat.zero_mod]
  by_cases h2 : nb = 0
  · refine ⟨0, fun _ => 0, by simp (disch := omega) only [add_c, add_l, l_add, mul_c, mul_l, l_mul, sub_c, sub_l, l_sub, div_c, div_l, mod_c, mod_l, tdiv_c, tdiv_l, tmod_c, tmod_l, wrap_i64n, wrapun, dec_t, dec_f, inb_t, cond_true, cond_false, Int.toNat_natCast, beq_t, beq_f, bne_t, bne_f, Bool.not_true, Bool.not_false, Int.reduceToNat, ft_b, tf_b, tt_b, ff_b, decide_true, decide_false], by omega, fun i hi => absurd hi (Nat.not_lt_zero i), fun k _ => ?_, .inl rfl⟩
    subst h2
    have : ∀ n, mulN A B n 0 k = 0 := by
      intro n
      induction n with
      | zero => rfl
      | succ n ih => rw [mulN_succ, ih]; unfold pad; simp
    rw [this, Nat.zero_mod]
  have e0 : IntKind.i64.wrap (((na : Nat) : Int) + ((nb : Nat) : Int)) = ((na + nb : Nat) : Int) := by rw [wrap_i64 (by omega)]; omega
  have e1 : IntKind.i64.wrap (((na + nb : Nat) : Int) - 1) = ((na + nb - 1 : Nat) : Int) := by rw [wrap_i64 (by omega)]; omega
  obtain ⟨N, hN⟩ : ∃ N, N = na + nb - 1 := ⟨_, rfl⟩
  obtain ⟨z, hy, hP⟩ := loop_for (R := R_r12_Mul_0) (fun i (out : Nat → Int) => T_r12_Mul_0 na a nb b (q : Int) N out (i : Int)) (fun out => Y_r12_Mul_0_0 N out) (fun i out => ∀ t, t < N → out t = ((mulN A B i nb t % q : Nat) : Int)) na
    (fun i hi out hP => by
      obtain ⟨z2, hy2, hP2⟩ := loop_for (R := R_r12_Mul_2) (fun k (out : Nat → Int) => T_r12_Mul_2 na a nb b (q : Int) N out (i : Int) (k : Int)) (fun out => Y_r12_Mul_2_0 na a nb b (q : Int) N out (i : Int)) (fun k out => ∀ t, t < N → out t = (((mulN A B i nb t + A i * (if i ≤ t ∧ t - i < k then pad B nb (t - i) else 0)) % q : Nat) : Int)) nb
        (fun k hk out2 hP2 => by
          have hs : i + k < N := by omega
          have hv := hP2 (i + k) hs
          rw [if_neg (by omega), Nat.mul_zero, Nat.add_zero] at hv
          have l1 : mulN A B i nb (i + k) % q < q := Nat.mod_lt _ (by omega)
          have l2 : A i * B k % q < q := Nat.mod_lt _ (by omega)
          refine ⟨upd out2 (i + k) (((mulN A B i nb (i + k) % q + A i * B k % q) % q : Nat) : Int), ?_, fun t ht => ?_⟩
          · unfold R_r12_Mul_2
            simp (disch := omega) only [add_c, add_l, l_add, mul_c, mul_l, l_mul, sub_c, sub_l, l_sub, div_c, div_l, mod_c, mod_l, tdiv_c, tdiv_l, tmod_c, tmod_l, wrap_i64n, wrapun, dec_t, dec_f, inb_t, cond_true, cond_false, Int.toNat_natCast, beq_t, beq_f, bne_t, bne_f, Bool.not_true, Bool.not_false, Int.reduceToNat, ft_b, tf_b, tt_b, ff_b, decide_true, decide_false, Nat.zero_add, ha i hi, hb k hk, hv, r08_Mul_spec (show 0 < q by omega) (show q < 9223372036854775808 by omega), r08_Add_spec (show 0 < q by omega) (show mulN A B i nb (i + k) % q < 4611686018427387904 by omega) (show A i * B k % q < 4611686018427387904 by omega)]
          · by_cases e : t = i + k
            · subst e
              rw [upd_same, if_pos (by omega), show i + k - i = k by omega]
              unfold pad
              rw [if_pos hk, ← Nat.add_mod]
            · rw [upd_ne e, hP2 t ht]
              by_cases c1 : i ≤ t ∧ t - i < k
              · rw [if_pos c1, if_pos (by omega)]
              · rw [if_neg c1, if_neg (by omega)])
        (fun out2 hP2 => by
          unfold R_r12_Mul_2
          simp (disch := omega) only [add_c, add_l, l_add, mul_c, mul_l, l_mul, sub_c, sub_l, l_sub, div_c, div_l, mod_c, mod_l, tdiv_c, tdiv_l, tmod_c, tmod_l, wrap_i64n, wrapun, dec_t, dec_f, inb_t, cond_true, cond_false, Int.toNat_natCast, beq_t, beq_f, bne_t, bne_f, Bool.not_true, Bool.not_false, Int.reduceToNat, ft_b, tf_b, tt_b, ff_b, decide_true, decide_false]) out (fun t ht => by
          rw [if_neg (by omega), Nat.mul_zero, Nat.add_zero]; exact hP t ht)
      have hy2' : loopF R_r12_Mul_2 (((na, a), ((nb, b), ((q : Int), ((N, out), ((i : Int), (0, ())))))), ()) = some (Y_r12_Mul_2_0 na a nb b (q : Int) N z2 (i : Int)) := hy2
      refine ⟨z2, ?_, fun t ht => ?_⟩
      · unfold R_r12_Mul_0
        simp (disch := omega) only [add_c, add_l, l_add, mul_c, mul_l, l_mul, sub_c, sub_l, l_sub, div_c, div_l, mod_c, mod_l, tdiv_c, tdiv_l, tmod_c, tmod_l, wrap_i64n, wrapun, dec_t, dec_f, inb_t, cond_true, cond_false, Int.toNat_natCast, beq_t, beq_f, bne_t, bne_f, Bool.not_true, Bool.not_false, Int.reduceToNat, ft_b, tf_b, tt_b, ff_b, decide_true, decide_false, hy2']
      · rw [hP2 t ht, mulN_succ]
        congr 3
        by_cases c1 : i ≤ t
        · rw [if_pos c1]
          by_cases c2 : t - i < nb
          · rw [if_pos ⟨c1, c2⟩]
          · rw [if_neg fun h => c2 h.2, pad_zero (by omega)]
        · rw [if_neg c1, if_neg fun h => c1 h.1])
    (fun out hP => by
      unfold R_r12_Mul_0
      simp (disch := omega) only [add_c, add_l, l_add, mul_c, mul_l, l_mul, sub_c, sub_l, l_sub, div_c, div_l, mod_c, mod_l, tdiv_c, tdiv_l, tmod_c, tmod_l, wrap_i64n, wrapun, dec_t, dec_f, inb_t, cond_true, cond_false, Int.toNat_natCast, beq_t, beq_f, bne_t, bne_f, Bool.not_true, Bool.not_false, Int.reduceToNat, ft_b, tf_b, tt_b, ff_b, decide_true, decide_false]) (fun _ => 0) (fun t ht => by simp only [mulN, dotN, Nat.zero_mod]; rfl)
  have hy' : loopF R_r12_Mul_0 (((na, a), ((nb, b), ((q : Int), ((N, fun _ => 0), (0, ()))))), ()) = some (Y_r12_Mul_0_0 N z) := hy
  obtain ⟨m, m1, m2, m3, m4⟩ := r12_trim_loop_Mul (c := fun k => mulN A B na nb k % q) (show N ≤ 100000 by omega) (fun t ht => hP t ht) N (Nat.le_refl _) (fun k hk hk2 => by omega)
  have m2' : loopF R_r12_Mul_52_0 (((N, z), ((N : Int), ())), ()) = some (Y_r12_Mul_52_0_0 N z (m : Int)) := m2
  refine ⟨m, z, ?_, by omega, fun i hi => hP i (by omega), fun k hk => ?_, m4⟩
  · have b9 : decide (((8 : Nat) : Int) * ((N : Nat) : Int) ≤ 281474976710656) = true := dec_t (by omega)
    simp only [e0, e1, ← hN]
    simp (disch := omega) only [wrap_i64n, wrapun, dec_t, dec_f, inb_t, cond_true, cond_false, Int.toNat_natCast, beq_t, beq_f, bne_t, bne_f, Bool.not_true, Bool.not_false, Int.reduceToNat, ft_b, tf_b, tt_b, ff_b, decide_true, decide_false, b9, Bool.and_self, hy', m2', Nat.sub_zero]
  · by_cases h : k < N
    · exact m3 k hk h
    · have hz : ∀ n, n ≤ na → mulN A B n nb k = 0 := by
        intro n
        induction n with
        | zero => intro _; rfl
        | succ n ih =>
          intro hn
          rw [mulN_succ, ih (by omega)]
          by_cases c1 : n ≤ k
          · rw [if_pos c1, pad_zero (by omega), Nat.mul_zero]
          · rw [if_neg c1, Nat.mul_zero]
      rw [hz na (Nat.le_refl _), Nat.zero_mod]
end
end Go.Pl

set_option linter.unusedVariables false
set_option linter.unusedSimpArgs false
namespace Go.Pl
open Go Go.Den Go.Num

theorem l12_of_spec {n : Int} (hn : n < 9223372036854775808) : ∃ a, l12_of n = some a ∧ IsN a n.toNat := by
  obtain ⟨a, a1, a2⟩ := r01_Int_spec hn
  refine ⟨a, ?_, a2⟩
  rw [l12_of_eq]; unfold l12_of'
  simp only [a1]
theorem l12_small_pick {which : Int} {k : Nat} {l : ChainT} {ga : Nat → Int} {g : GroupT} {P Q G : Nat} (p1 : r07_Pick which = some ((k, l), ga)) (hg : IsPick k l ga g P Q G) (hQ : Q < 2147483648) : l12_small which = some (some g, (Q : Int), true) := by
  rw [l12_small_eq]; unfold l12_small'
  simp (disch := omega) only [wrap_i64n, wrapun, dec_t, dec_f, inb_t, cond_true, cond_false, Int.toNat_natCast, beq_t, beq_f, bne_t, bne_f, Bool.not_true, Bool.not_false, Int.reduceToNat, ft_b, tf_b, tt_b, ff_b, decide_true, decide_false, p1, hg.made, hg.rQ, r01_Low_spec hg.q, if_pos (show Q < 9223372036854775808 by omega)]
theorem l12_small_spec (which : Int) : ∃ (k : Nat) (l : ChainT) (ga : Nat → Int) (g : GroupT) (P Q G : Nat), l12_small which = some (some g, (Q : Int), true) ∧ IsPick k l ga g P Q G ∧ Q < 2147483648 := by
  obtain ⟨k, l, ga, g, P, Q, G, p1, hg, hP, hQ⟩ := r07_Pick_spec which
  exact ⟨k, l, ga, g, P, Q, G, l12_small_pick p1 hg hQ, hg, hQ⟩
theorem l12_is_spec {Q n m : Nat} (hQ : Q < 9223372036854775808) {f : Nat → (Nat → Int)} {w : Nat → Int} {c : Nat → Nat} (hn : n ≤ 100000) (a : IsPol Q n f c) (b : IsPolI m w c) : l12_is n (fun j => f (0 + j)) m w = some true := by
  obtain rfl := a.sizeI b
  obtain ⟨z, z1, z2⟩ := r08_Nats_spec hn b.is (fun i _ => by have := a.lt i; omega)
  rw [l12_is_eq]; unfold l12_is'
  simp only [z1, same_rows hn (a := fun j => f (0 + j)) (fun i hi => by rw [Nat.zero_add]; exact a.is i hi) z2]
/-- as many places as coefficients: there is one polynomial -/
theorem pol_unique {Q : Nat} (hQ : Pr Q) {N : Nat} (hN : N ≤ 1000) {c d : Nat → Nat} (hc : ∀ k, N ≤ k → c k = 0) (hd : ∀ k, N ≤ k → d k = 0) (lc : ∀ k, c k < Q) (ld : ∀ k, d k < Q) {X : Nat → Int} (hX : ∀ i j, i < j → j < N → ¬ Cg Q (X j) (X i)) (h : ∀ j, j < N → Cg Q (E c (X j)) (E d (X j))) : ∀ k, c k = d k := by
  intro k
  by_cases hk : k < N
  · have := all_roots hQ N (fun i => cI c i + -1 * cI d i) X (fun i j hi hj hij hdv => by
      rcases Nat.lt_or_gt_of_ne hij with h1 | h1
      · exact hX i j h1 hj (Cg.symm hdv)
      · exact hX j i h1 hi hdv) (fun j hj => by
      rw [ev_add, ev_mul, ← E_eq hc hN, ← E_eq hd hN]
      have := h j hj
      unfold Cg at this
      rwa [show E c (X j) + -1 * E d (X j) = E c (X j) - E d (X j) by omega]) k hk
    have h2 : Cg Q (c k : Int) (d k : Int) := by
      unfold Cg
      simp only [cI] at this
      rwa [show (c k : Int) - d k = c k + -1 * d k by omega]
    exact Cg.eq h2 (lc k) (ld k)
  · rw [hc k (by omega), hd k (by omega)]
theorem Mu_two (c : Nat → Nat) (d : Nat → Nat) (hd : ∀ k, 2 ≤ k → d k = 0) (t : Nat) (ht : t < 999) : Mu c d t = (c t : Int) * d 0 + (if t = 0 then 0 else (c (t - 1) : Int) * d 1) := by
  unfold Mu mulC
  rw [sumI_congr (d := fun i => (if i = t then (c t : Int) * d 0 else 0) + (if i + 1 = t then (c (t - 1) : Int) * d 1 else 0)) fun i _ => by
    simp only [cI, upC]
    by_cases h1 : i = t
    · subst h1
      rw [if_pos (Nat.le_refl _), if_pos rfl, if_neg (by omega), Nat.sub_self]; omega
    · by_cases h2 : i + 1 = t
      · subst h2
        rw [if_pos (by omega), if_neg (by omega), if_pos rfl, show i + 1 - i = 1 by omega, show i + 1 - 1 = i by omega]; omega
      · rw [if_neg h1, if_neg h2]
        by_cases h3 : i ≤ t
        · rw [if_pos h3, hd _ (by omega)]; simp
        · rw [if_neg h3]; simp]
  rw [sumI_add, sumI_single (j := t) (by omega) fun i hi => if_neg hi]
  simp only [if_true]
  refine congrArg (fun z => (c t : Int) * d 0 + z) ?_
  by_cases h0 : t = 0
  · subst h0
    rw [if_pos rfl]
    exact sumI_zero fun i _ => if_neg (by omega)
  · rw [if_neg h0, sumI_single (j := t - 1) (by omega) fun i hi => if_neg (by omega), if_pos (by omega)]
theorem l12_awake_spec : l12_awake = some true := by
  rw [l12_awake_eq]; unfold l12_awake'
  obtain ⟨g, hg⟩ := least_pick
  have hgg := hg.group
  have hpr : Pr 1966023127 := hgg.pq
  have hs : l12_small 0 = some (some g, ((1966023127 : Nat) : Int), true) := by
    refine l12_small_pick (k := 3) (l := leastL) (ga := leastG) ?_ hg (by decide)
    rw [r07_Pick_eq]; unfold r07_Pick'
    have : bitsOp .and .i64 0 1 = 0 := by decide
    simp (disch := omega) only [wrap_i64n, wrapun, dec_t, dec_f, inb_t, cond_true, cond_false, Int.toNat_natCast, beq_t, beq_f, bne_t, bne_f, Bool.not_true, Bool.not_false, Int.reduceToNat, ft_b, tf_b, tt_b, ff_b, decide_true, decide_false, this, r07_Least_eq2]
  obtain ⟨a0, a0a, a0b⟩ := l12_of_spec (n := 0) (by decide)
  obtain ⟨a1, a1a, a1b⟩ := l12_of_spec (n := 1) (by decide)
  obtain ⟨a2, a2a, a2b⟩ := l12_of_spec (n := 2) (by decide)
  obtain ⟨a4, a4a, a4b⟩ := l12_of_spec (n := 4) (by decide)
  obtain ⟨a5, a5a, a5b⟩ := l12_of_spec (n := 5) (by decide)
  obtain ⟨b25, b25a, b25b⟩ := l12_of_spec (n := 25) (by decide)
  have three : ∀ i, i < 3 → i = 0 ∨ i = 1 ∨ i = 2 := fun i hi => by omega
  -- through (0, 0), (1, 1), (2, 4)
  have ht := poly_Through_spec hgg hpr (n := 3) (by decide) (xs := fun j => upd (upd (upd (fun _ => fun _ => 0) 0 a0) 1 a1) 2 a2 (0 + j)) (ys := fun j => upd (upd (upd (fun _ => fun _ => 0) 0 a0) 1 a1) 2 a4 (0 + j)) (X := fun i => i) (Y := fun i => i * i) (fun i hi => by
    rcases three i hi with rfl | rfl | rfl
    · exact a0b
    · exact a1b
    · exact a2b) (fun i hi => by
    rcases three i hi with rfl | rfl | rfl
    · exact a0b
    · exact a1b
    · exact a4b)
  rcases ht with ⟨m, z, c, t1, t2, t3, t4, t5⟩ | ⟨_, i, j, hij, hj, hc⟩
  rotate_left
  · exact absurd (Cg.eq hc (by omega) (by omega)) (by omega)
  have hcd : ∀ k, c k = (fun k => if k = 2 then 1 else 0) k := pol_unique hpr (N := 3) (by decide) (X := fun i => (i : Int)) (fun k hk => t2.zero k (by omega)) (fun k hk => if_neg (by omega)) t2.lt (fun k => by split <;> decide) t5 (fun j hj => (t4 j hj).trans (Cg.of_eq (by
    rw [E_eq (n := 3) (fun k hk => if_neg (by omega)) (by decide)]
    simp only [ev, sumI, cI, if_true]
    rcases three j hj with rfl | rfl | rfl <;> rfl)))
  have hm : m = 3 := by
    have h2 := hcd 2
    simp only [if_true] at h2
    rcases Nat.lt_or_ge 2 m with h | h
    · omega
    · rw [t2.zero 2 h] at h2; cases h2
  subst hm
  have s1 : r08_Same 3 (fun j => z (0 + j)) 3 (fun j => upd (upd (upd (fun _ => fun _ => 0) 0 a0) 1 a0) 2 a1 (0 + j)) = some true := same_rows (by decide) (c := c) (fun i hi => by rw [Nat.zero_add]; exact t2.is i hi) (fun i hi => by
    rw [hcd i]
    rcases three i hi with rfl | rfl | rfl
    · exact a0b
    · exact a0b
    · exact a1b)
  obtain ⟨e, w, e1, e2, e3, e4⟩ := poly_Eval_spec hgg (n := 3) (by decide) (f := fun j => z (0 + j)) (A := c) (fun i hi => by rw [Nat.zero_add]; exact t2.is i hi) a5b
  have hw : w = 25 := Cg.eq (e4.trans (Cg.of_eq (by
    rw [ev_congr (d := cI fun k => if k = 2 then 1 else 0) fun i _ => by simp only [cI, hcd]]
    rfl))) e3 (by decide)
  -- (1 + 2x + xx) / (1 + x)
  have hd := poly_Div_spec hgg (na := 3) (nb := 2) (by decide) (by decide) (a := fun j => upd (upd (upd (fun _ => fun _ => 0) 0 a1) 1 a2) 2 a1 (0 + j)) (b := fun j => upd (upd (fun _ => fun _ => 0) 0 a1) 1 a1 (0 + j)) (A := fun i => if i = 1 then 2 else 1) (B := fun _ => 1) (fun i hi => by
    rcases three i hi with rfl | rfl | rfl
    · exact a1b
    · exact a2b
    · exact a1b) (fun i hi => by
    rcases (show i = 0 ∨ i = 1 by omega) with rfl | rfl
    · exact a1b
    · exact a1b)
  rcases hd with ⟨_, h0⟩ | ⟨nq, q, cq, nr, r, cr, nd, d, d1, d2, d3, d4, d5, d6, d7, d8⟩
  · exact absurd (h0 0 (by decide)) (by decide)
  have hq := fun t (ht : t < 999) => (Mu_two cq (fun k => if k < 2 then 1 % 1966023127 else 0) (fun k hk => if_neg (by omega)) t ht)
  have hr1 : ∀ t, 1 ≤ t → cr t = 0 := fun t ht => d3.zero t (by omega)
  have st : ∀ t, 1 ≤ t → t < 999 → Cg 1966023127 ((cq t : Int) + cq (t - 1)) ((if t < 3 then (if t = 1 then 2 else 1) % 1966023127 else 0 : Nat) : Int) := fun t h1 h2 => by
    refine (Cg.of_eq ?_).trans (d8 t)
    rw [hq t h2, hr1 t h1, if_neg (show ¬ t = 0 by omega)]
    simp
  have hnq : nq ≤ 2 := by
    rcases Nat.lt_or_ge 2 nq with h | h
    · exfalso
      have := st nq (by omega) (by omega)
      rw [d2.zero nq (Nat.le_refl _), if_neg (by omega)] at this
      rcases d2.top with h3 | h3
      · omega
      · exact h3 ((Cg.zero (d2.lt _)).1 ((Cg.of_eq (by omega)).trans this))
    · exact h
  have c2 : cq 2 = 0 := d2.zero 2 hnq
  have c1 : cq 1 = 1 := by
    have := st 2 (by omega) (by omega)
    rw [c2, if_pos (by omega), if_neg (by omega)] at this
    exact Cg.eq ((Cg.of_eq (by simp)).trans this) (d2.lt 1) (by decide)
  have c0 : cq 0 = 1 := by
    have := st 1 (by omega) (by omega)
    rw [c1, if_pos (by omega), if_pos rfl] at this
    have h2 : Cg 1966023127 ((cq 0 : Int)) ((1 : Nat) : Int) := by
      have h3 := this.sub (Cg.refl 1966023127 1)
      refine (Cg.of_eq ?_).trans (h3.trans (Cg.of_eq ?_))
      · simp only [Nat.sub_self]; omega
      · rfl
    exact Cg.eq h2 (d2.lt 0) (by decide)
  have hnq2 : nq = 2 := by
    rcases Nat.lt_or_ge 1 nq with h | h
    · omega
    · rw [d2.zero 1 h] at c1; cases c1
  have r0 : cr 0 = 0 := by
    have := d8 0
    rw [hq 0 (by omega), c0] at this
    have h3 := this.sub (Cg.refl 1966023127 1)
    refine (Cg.zero (d3.lt 0)).1 ((Cg.of_eq ?_).trans (h3.trans (Cg.of_eq ?_)))
    · simp; omega
    · rfl
  have hnr : nr = 0 := by
    rcases d3.top with h | h
    · exact h
    · exfalso
      rcases (show nr - 1 = 0 ∨ 1 ≤ nr - 1 by omega) with h1 | h1
      · rw [h1] at h; exact h r0
      · exact h (hr1 _ h1)
  subst hnq2 hnr
  have s2 : r08_Same 2 (fun j => q (0 + j)) 2 (fun j => upd (upd (fun _ => fun _ => 0) 0 a1) 1 a1 (0 + j)) = some true := same_rows (by decide) (c := cq) (fun i hi => by rw [Nat.zero_add]; exact d2.is i hi) (fun i hi => by
    rcases (show i = 0 ∨ i = 1 by omega) with rfl | rfl
    · rw [c0]; exact a1b
    · rw [c1]; exact a1b)
  have h25 : eqF (.arr 4 (.int .u64)) e b25 = true := by
    rw [e2.eqb b25b, hw]; rfl
  simp (disch := first | omega | decide) only [wrap_i64n, wrapun, dec_t, dec_f, inb_t, cond_true, cond_false, Int.toNat_natCast, beq_t, beq_f, bne_t, bne_f, Bool.not_true, Bool.not_false, Int.reduceToNat, ft_b, tf_b, tt_b, ff_b, decide_true, decide_false, hs, a0a, a1a, a2a, a4a, a5a, b25a, t1, d1, s1, s2, e1, h25]
end Go.Pl
