/-
  What the statements of a layer share.
-/
import Derived.Test.YtoofellokbgmaaaDenD
import Derived.Test.YtoofellokbgmaaaPlA
import Derived.Test.YtoofellokbgmaaaEqA
import Derived.Test.YtoofellokbgmaaaMD
set_option linter.unusedVariables false
set_option linter.unusedSimpArgs false
set_option maxRecDepth 100000
set_option maxHeartbeats 0
namespace Go.Pl
end Go.Pl
open Go Go.Den Go.Pl
namespace Go.Pl
noncomputable def l08_of' (n : Int) : Option ((Nat → Int)) :=
  match (r01_Int n) with
  | none => none
  | some r => (
    some r)
noncomputable def l08_of : (Int) → Option ((Nat → Int)) := veil l08_of'
theorem l08_of_eq : l08_of = l08_of' := veil_eq _
noncomputable def l08_awake'  : Option (Bool) :=
  match r07_Least with
  | none => none
  | some r => (
    match (group_New ((r.1.1, r.1.2), r.2)) with
    | none => none
    | some r1 => (
      match r1.1 with
      | none => (
        match (l08_of 2) with
        | none => none
        | some r23 => (
          match (l08_of 3) with
          | none => none
          | some r24 => (
            match (l08_of 5) with
            | none => none
            | some r25 => (
              match (l08_of 7) with
              | none => none
              | some r26 => (
                match (field_Dot none 2 (fun j => (upd (upd (fun _ => (fun _ => 0)) 0 r23) 1 r24) (0 + j)) 2 (fun j => (upd (upd (fun _ => (fun _ => 0)) 0 r25) 1 r26) (0 + j))) with
                | none => none
                | some r27 => (
                  bif (r1.2 == 0) then (
                    match (l08_of 31) with
                    | none => none
                    | some r28 => (
                      bif (eqF (.arr 4 (.int .u64)) r27.1 r28) then (
                        bif (r27.2 == 0) then (
                          match (l08_of 1966023126) with
                          | none => none
                          | some r29 => (
                            match (l08_of 3) with
                            | none => none
                            | some r30 => (
                              match (field_Add none r29 r30) with
                              | none => none
                              | some r31 => (
                                match (l08_of 2) with
                                | none => none
                                | some r32 => (
                                  bif (eqF (.arr 4 (.int .u64)) r31 r32) then (
                                    match (l08_of 1) with
                                    | none => none
                                    | some r33 => (
                                      match (l08_of 2) with
                                      | none => none
                                      | some r34 => (
                                        match (field_Sub none r33 r34) with
                                        | none => none
                                        | some r35 => (
                                          match (l08_of 1966023126) with
                                          | none => none
                                          | some r36 => (
                                            bif (eqF (.arr 4 (.int .u64)) r35 r36) then (
                                              match (l08_of 9) with
                                              | none => none
                                              | some r37 => (
                                                match (field_Inv none r37) with
                                                | none => none
                                                | some r38 => (
                                                  match (l08_of 9) with
                                                  | none => none
                                                  | some r39 => (
                                                    match (field_Mul none r38 r39) with
                                                    | none => none
                                                    | some r40 => (
                                                      match (l08_of 1) with
                                                      | none => none
                                                      | some r41 => (
                                                        bif (eqF (.arr 4 (.int .u64)) r40 r41) then (
                                                          match (l08_of 5) with
                                                          | none => none
                                                          | some r42 => (
                                                            match (field_In none r42) with
                                                            | none => none
                                                            | some r43 => (
                                                              some r43)))
                                                        else (
                                                          some false)))))))
                                            else (
                                              some false))))))
                                  else (
                                    some false))))))
                        else (
                          some false))
                      else (
                        some false)))
                  else (
                    some false)))))))
      | some p => (
        match (l08_of 2) with
        | none => none
        | some r2 => (
          match (l08_of 3) with
          | none => none
          | some r3 => (
            match (l08_of 5) with
            | none => none
            | some r4 => (
              match (l08_of 7) with
              | none => none
              | some r5 => (
                match (field_Dot (some p) 2 (fun j => (upd (upd (fun _ => (fun _ => 0)) 0 r2) 1 r3) (0 + j)) 2 (fun j => (upd (upd (fun _ => (fun _ => 0)) 0 r4) 1 r5) (0 + j))) with
                | none => none
                | some r6 => (
                  bif (r1.2 == 0) then (
                    match (l08_of 31) with
                    | none => none
                    | some r7 => (
                      bif (eqF (.arr 4 (.int .u64)) r6.1 r7) then (
                        bif (r6.2 == 0) then (
                          match (l08_of 1966023126) with
                          | none => none
                          | some r8 => (
                            match (l08_of 3) with
                            | none => none
                            | some r9 => (
                              match (field_Add (some p) r8 r9) with
                              | none => none
                              | some r10 => (
                                match (l08_of 2) with
                                | none => none
                                | some r11 => (
                                  bif (eqF (.arr 4 (.int .u64)) r10 r11) then (
                                    match (l08_of 1) with
                                    | none => none
                                    | some r12 => (
                                      match (l08_of 2) with
                                      | none => none
                                      | some r13 => (
                                        match (field_Sub (some p) r12 r13) with
                                        | none => none
                                        | some r14 => (
                                          match (l08_of 1966023126) with
                                          | none => none
                                          | some r15 => (
                                            bif (eqF (.arr 4 (.int .u64)) r14 r15) then (
                                              match (l08_of 9) with
                                              | none => none
                                              | some r16 => (
                                                match (field_Inv (some p) r16) with
                                                | none => none
                                                | some r17 => (
                                                  match (l08_of 9) with
                                                  | none => none
                                                  | some r18 => (
                                                    match (field_Mul (some p) r17 r18) with
                                                    | none => none
                                                    | some r19 => (
                                                      match (l08_of 1) with
                                                      | none => none
                                                      | some r20 => (
                                                        bif (eqF (.arr 4 (.int .u64)) r19 r20) then (
                                                          match (l08_of 5) with
                                                          | none => none
                                                          | some r21 => (
                                                            match (field_In (some p) r21) with
                                                            | none => none
                                                            | some r22 => (
                                                              some r22)))
                                                        else (
                                                          some false)))))))
                                            else (
                                              some false))))))
                                  else (
                                    some false))))))
                        else (
                          some false))
                      else (
                        some false)))
                  else (
                    some false)))))))))
noncomputable def l08_awake : Option (Bool) := veil l08_awake'
theorem l08_awake_eq : l08_awake = l08_awake' := veil_eq _
end Go.Pl

set_option linter.unusedVariables false
set_option linter.unusedSimpArgs false
set_option maxRecDepth 100000
set_option maxHeartbeats 0
namespace Go.Pl
end Go.Pl
open Go Go.Den Go.Pl
namespace Go.Proofs.Ytoofellokbgmaaa
noncomputable def c_l08_of : Con := conV true [(.int .i64)] [(.arr 4 (.int .u64))] fun x => l08_of x.1
noncomputable def x_l08_of : Cx := { ti := ti, con := [(45, c_r01_Int)], fns := [], un := 6 }
theorem xok_l08_of : CxOk Try.prog x_l08_of := CxOk.of mixed ti_ok (List.forall_mem_cons.2 ⟨con_r01_Int, List.forall_mem_nil _⟩) (List.forall_mem_nil _)
theorem fn_l08_of : FnOk Try.prog 63 Try.f63 [] := ⟨Try.func63, Try.call63, lps_nil⟩
theorem e_l08_of (n : Int) : bodyK x_l08_of [] (denF x_l08_of 8) Try.f63 (domV [(.int .i64)] (n, ())) [] 0 (kOut [(.arr 4 (.int .u64))]) = l08_of' n := by kernel_rfl
theorem con_l08_of : ConOk Try.prog 63 c_l08_of := con_ok xok_l08_of 8 fn_l08_of true [(.int .i64)] [(.arr 4 (.int .u64))] _ (by decide) (fun x => by rw [l08_of_eq]; exact e_l08_of x.1)
noncomputable def c_l08_awake : Con := conV true [] [.bool] fun x => l08_awake 
noncomputable def x_l08_awake : Cx := { ti := ti, con := [(36, c_r07_Least), (17, c_group_New), (63, c_l08_of), (70, c_field_Dot), (58, c_field_Add), (59, c_field_Sub), (67, c_field_Inv), (57, c_field_Mul), (61, c_field_In)], fns := [], un := 6 }
theorem xok_l08_awake : CxOk Try.prog x_l08_awake := CxOk.of mixed ti_ok (List.forall_mem_cons.2 ⟨con_r07_Least, List.forall_mem_cons.2 ⟨con_group_New, List.forall_mem_cons.2 ⟨con_l08_of, List.forall_mem_cons.2 ⟨con_field_Dot, List.forall_mem_cons.2 ⟨con_field_Add, List.forall_mem_cons.2 ⟨con_field_Sub, List.forall_mem_cons.2 ⟨con_field_Inv, List.forall_mem_cons.2 ⟨con_field_Mul, List.forall_mem_cons.2 ⟨con_field_In, List.forall_mem_nil _⟩⟩⟩⟩⟩⟩⟩⟩⟩) (List.forall_mem_nil _)
theorem fn_l08_awake : FnOk Try.prog 69 Try.f69 [] := ⟨Try.func69, Try.call69, lps_nil⟩
theorem e_l08_awake  : bodyK x_l08_awake [] (denF x_l08_awake 8) Try.f69 (domV [] (())) [] 0 (kOut [.bool]) = l08_awake'  := by kernel_rfl
theorem con_l08_awake : ConOk Try.prog 69 c_l08_awake := con_ok xok_l08_awake 8 fn_l08_awake true [] [.bool] _ (by decide) (fun x => by rw [l08_awake_eq]; exact e_l08_awake )
end Go.Proofs.Ytoofellokbgmaaa

set_option linter.unusedVariables false
set_option linter.unusedSimpArgs false
namespace Go.Pl
open Go Go.Den Go.Num

theorem l08_of_spec {n : Int} (hn : n < 9223372036854775808) : ∃ a, l08_of n = some a ∧ IsN a n.toNat := by
  rw [l08_of_eq]; unfold l08_of'
  obtain ⟨a, h1, h2⟩ := r01_Int_spec hn
  simp only [h1]
  exact ⟨a, rfl, h2⟩

theorem l08_awake_spec : l08_awake = some true := by
  rw [l08_awake_eq]; unfold l08_awake'
  obtain ⟨g, hg⟩ := least_pick
  obtain ⟨a1, a1a, a1b⟩ := l08_of_spec (n := 1) (by decide)
  obtain ⟨a2, a2a, a2b⟩ := l08_of_spec (n := 2) (by decide)
  obtain ⟨a3, a3a, a3b⟩ := l08_of_spec (n := 3) (by decide)
  obtain ⟨a5, a5a, a5b⟩ := l08_of_spec (n := 5) (by decide)
  obtain ⟨a7, a7a, a7b⟩ := l08_of_spec (n := 7) (by decide)
  obtain ⟨a9, a9a, a9b⟩ := l08_of_spec (n := 9) (by decide)
  obtain ⟨a31, a31a, a31b⟩ := l08_of_spec (n := 31) (by decide)
  obtain ⟨ab, aba, abb⟩ := l08_of_spec (n := 1966023126) (by decide)
  obtain ⟨d, d1, d2⟩ := field_Dot_spec hg.group (n := 2) (by decide) (l := fun j => upd (upd (fun _ => fun _ => 0) 0 a2) 1 a3 (0 + j)) (m := fun j => upd (upd (fun _ => fun _ => 0) 0 a5) 1 a7 (0 + j)) (A := fun i => if i = 0 then 2 else 3) (B := fun i => if i = 0 then 5 else 7)
    (fun i hi => by
      rcases (show i = 0 ∨ i = 1 by omega) with rfl | rfl
      · exact a2b
      · exact a3b)
    (fun i hi => by
      rcases (show i = 0 ∨ i = 1 by omega) with rfl | rfl
      · exact a5b
      · exact a7b)
  obtain ⟨s, s1, s2⟩ := field_Add_spec hg.group abb a3b
  obtain ⟨t, t1, t2⟩ := field_Sub_spec hg.group a1b a2b
  obtain ⟨v, V, v1, v2, v3, v4, v5⟩ := field_Inv_spec hg.group a9b
  obtain ⟨m, m1, m2⟩ := field_Mul_spec hg.group v2 a9b
  have m3 := m2.of_eq (m := 1) (v5 (by decide))
  have hin := field_In_spec hg.group a5b
  have e1 : (dotN (fun i => if i = 0 then 2 else 3) (fun i => if i = 0 then 5 else 7) 2 % 1966023127 = Int.toNat 31) := by decide
  simp (disch := first | omega | decide) only [wrap_i64n, wrapun, dec_t, dec_f, inb_t, cond_true, cond_false, Int.toNat_natCast, beq_t, beq_f, bne_t, bne_f, Bool.not_true, Bool.not_false, Int.reduceToNat, ft_b, tf_b, tt_b, ff_b, decide_true, decide_false, a1a, a2a, a3a, a5a, a7a, a9a, a31a, aba, r07_Least_eq2, hg.made, d1, s1, t1, v1, m1, hin, d2.eqb a31b, s2.eqb a2b, t2.eqb abb, m3.eqb a1b, e1]

end Go.Pl
