/-
  One statement, plainly.
-/
import Derived.Test.YtoofellokbgmaaaDenD
import Derived.Test.YtoofellokbgmaaaPlA
import Derived.Test.YtoofellokbgmaaaL07
import Derived.Test.YtoofellokbgmaaaEqA
import Derived.Test.YtoofellokbgmaaaDenE
import Derived.Test.YtoofellokbgmaaaMD
set_option linter.unusedVariables false
set_option linter.unusedSimpArgs false
set_option maxRecDepth 100000
set_option maxHeartbeats 0
namespace Go.Pl
end Go.Pl
open Go Go.Den Go.Pl
namespace Go.Pl
noncomputable def l07_GroupNobody' (a : (Nat → Int)) : Option (Unit) :=
  match (group_Group_P none) with
  | none => none
  | some r => (
    bif (!(eqF (.arr 4 (.int .u64)) r (fun _ => 0))) then (
      none)
    else (
      match (group_Group_Q none) with
      | none => none
      | some r1 => (
        bif (!(eqF (.arr 4 (.int .u64)) r1 (fun _ => 0))) then (
          none)
        else (
          match (group_Group_G none) with
          | none => none
          | some r2 => (
            bif (!(eqF (.arr 4 (.int .u64)) r2 (fun _ => 0))) then (
              none)
            else (
              match (group_Group_Size none) with
              | none => none
              | some r3 => (
                bif (r3 != 0) then (
                  none)
                else (
                  match (group_Group_Ring none) with
                  | none => none
                  | some r4 => (
                    match r4 with
                    | none => (
                      match (group_Group_Field none) with
                      | none => none
                      | some r5 => (
                        match r5 with
                        | none => (
                          match (group_Group_P (some ((.nil, .nil), (fun _ => 0)))) with
                          | none => none
                          | some r6 => (
                            bif (!(eqF (.arr 4 (.int .u64)) r6 (fun _ => 0))) then (
                              none)
                            else (
                              match (group_Group_Q (some ((.nil, .nil), (fun _ => 0)))) with
                              | none => none
                              | some r7 => (
                                bif (!(eqF (.arr 4 (.int .u64)) r7 (fun _ => 0))) then (
                                  none)
                                else (
                                  match (group_Group_G (some ((.nil, .nil), (fun _ => 0)))) with
                                  | none => none
                                  | some r8 => (
                                    bif (!(eqF (.arr 4 (.int .u64)) r8 (fun _ => 0))) then (
                                      none)
                                    else (
                                      match (group_Group_Size (some ((.nil, .nil), (fun _ => 0)))) with
                                      | none => none
                                      | some r9 => (
                                        bif (r9 != 0) then (
                                          none)
                                        else (
                                          match (group_Group_Ring (some ((.nil, .nil), (fun _ => 0)))) with
                                          | none => none
                                          | some r10 => (
                                            match r10 with
                                            | none => (
                                              match (group_Group_Field (some ((.nil, .nil), (fun _ => 0)))) with
                                              | none => none
                                              | some r11 => (
                                                match r11 with
                                                | none => (
                                                  match (group_New ((0, (fun _ => ((fun _ => 0), 0))), a)) with
                                                  | none => none
                                                  | some r12 => (
                                                    match r12.1 with
                                                    | none => (
                                                      bif (r12.2 == 4) then (
                                                        match l07_awake with
                                                        | none => none
                                                        | some r14 => (
                                                          bif r14 then (
                                                            some ())
                                                          else (
                                                            none)))
                                                      else (
                                                        none))
                                                    | some p => (
                                                      bif (r12.2 == 4) then (
                                                        match l07_awake with
                                                        | none => none
                                                        | some r13 => (
                                                          bif r13 then (
                                                            some ())
                                                          else (
                                                            none)))
                                                      else (
                                                        none))))
                                                | some p1 => (
                                                  none)))
                                            | some p2 => (
                                              none)))))))))))
                        | some p3 => (
                          none)))
                    | some p4 => (
                      none))))))))))
end Go.Pl

set_option linter.unusedVariables false
set_option linter.unusedSimpArgs false
set_option maxRecDepth 100000
set_option maxHeartbeats 0
namespace Go.Pl
end Go.Pl
open Go Go.Den Go.Pl
namespace Go.Proofs.Ytoofellokbgmaaa
noncomputable def cN_group_Group_Ring : Con := conN [(.ptr (.pair (.pair (.ptr (.pair (.arr 4 (.int .u64)) (.pair (.int .u64) (.pair (.arr 4 (.int .u64)) (.arr 4 (.int .u64)))))) (.ptr (.pair (.arr 4 (.int .u64)) (.pair (.int .u64) (.pair (.arr 4 (.int .u64)) (.arr 4 (.int .u64))))))) (.arr 4 (.int .u64))))] [(.ptr (.pair (.arr 4 (.int .u64)) (.pair (.int .u64) (.pair (.arr 4 (.int .u64)) (.arr 4 (.int .u64))))))] fun x => group_Group_Ring x.1
theorem conN_group_Group_Ring : ConOk Try.prog 33 cN_group_Group_Ring := conN_ok xok_group_Group_Ring 8 fn_group_Group_Ring [(.ptr (.pair (.pair (.ptr (.pair (.arr 4 (.int .u64)) (.pair (.int .u64) (.pair (.arr 4 (.int .u64)) (.arr 4 (.int .u64)))))) (.ptr (.pair (.arr 4 (.int .u64)) (.pair (.int .u64) (.pair (.arr 4 (.int .u64)) (.arr 4 (.int .u64))))))) (.arr 4 (.int .u64))))] [(.ptr (.pair (.arr 4 (.int .u64)) (.pair (.int .u64) (.pair (.arr 4 (.int .u64)) (.arr 4 (.int .u64))))))] _ (fun x => by rw [group_Group_Ring_eq]; exact e_group_Group_Ring x.1)
noncomputable def cN_group_Group_Field : Con := conN [(.ptr (.pair (.pair (.ptr (.pair (.arr 4 (.int .u64)) (.pair (.int .u64) (.pair (.arr 4 (.int .u64)) (.arr 4 (.int .u64)))))) (.ptr (.pair (.arr 4 (.int .u64)) (.pair (.int .u64) (.pair (.arr 4 (.int .u64)) (.arr 4 (.int .u64))))))) (.arr 4 (.int .u64))))] [(.ptr (.pair (.arr 4 (.int .u64)) (.pair (.int .u64) (.pair (.arr 4 (.int .u64)) (.arr 4 (.int .u64))))))] fun x => group_Group_Field x.1
theorem conN_group_Group_Field : ConOk Try.prog 34 cN_group_Group_Field := conN_ok xok_group_Group_Field 8 fn_group_Group_Field [(.ptr (.pair (.pair (.ptr (.pair (.arr 4 (.int .u64)) (.pair (.int .u64) (.pair (.arr 4 (.int .u64)) (.arr 4 (.int .u64)))))) (.ptr (.pair (.arr 4 (.int .u64)) (.pair (.int .u64) (.pair (.arr 4 (.int .u64)) (.arr 4 (.int .u64))))))) (.arr 4 (.int .u64))))] [(.ptr (.pair (.arr 4 (.int .u64)) (.pair (.int .u64) (.pair (.arr 4 (.int .u64)) (.arr 4 (.int .u64))))))] _ (fun x => by rw [group_Group_Field_eq]; exact e_group_Group_Field x.1)
noncomputable def x_l07_GroupNobody : Cx := { ti := ti, con := [(26, c_group_Group_P), (28, c_group_Group_Q), (30, c_group_Group_G), (31, c_group_Group_Size), (33, cN_group_Group_Ring), (34, cN_group_Group_Field), (17, c_group_New), (23, c_l07_awake)], fns := [], un := 6 }
theorem xok_l07_GroupNobody : CxOk Try.prog x_l07_GroupNobody := CxOk.of mixed ti_ok (List.forall_mem_cons.2 ⟨con_group_Group_P, List.forall_mem_cons.2 ⟨con_group_Group_Q, List.forall_mem_cons.2 ⟨con_group_Group_G, List.forall_mem_cons.2 ⟨con_group_Group_Size, List.forall_mem_cons.2 ⟨conN_group_Group_Ring, List.forall_mem_cons.2 ⟨conN_group_Group_Field, List.forall_mem_cons.2 ⟨con_group_New, List.forall_mem_cons.2 ⟨con_l07_awake, List.forall_mem_nil _⟩⟩⟩⟩⟩⟩⟩⟩) (List.forall_mem_nil _)
theorem fn_l07_GroupNobody : FnOk Try.prog 5 Try.f5 [] := ⟨Try.func5, Try.call5, lps_nil⟩
theorem e_l07_GroupNobody (a : (Nat → Int)) : bodyK x_l07_GroupNobody [] (denF x_l07_GroupNobody 8) Try.f5 (domV [(.arr 4 (.int .u64))] (a, ())) [] 0 kTrue = l07_GroupNobody' a := by kernel_rfl
end Go.Proofs.Ytoofellokbgmaaa

set_option linter.unusedVariables false
set_option linter.unusedSimpArgs false
namespace Go.Pl
open Go Go.Den Go.Num

theorem NoGroup.G {g : Option GroupT} (h : g = none ∨ g = some ((.nil, .nil), (fun _ => 0))) : group_Group_G g = some fun _ => 0 := by
  rw [group_Group_G_eq]; unfold group_Group_G'
  rcases h with rfl | rfl <;> rfl
theorem NoGroup.Size {g : Option GroupT} (h : NoGroup g) : group_Group_Size g = some 0 := by
  rw [group_Group_Size_eq]; unfold group_Group_Size'
  have e1 : blen 0 = 0 := rfl
  have e2 : IntKind.i64.wrap (((0 : Nat) : Int) - 1) = -1 := by decide
  have e3 : (if (0 : Int) < -1 then (-1 : Int) else 0) = 0 := by decide
  have e4 : IntKind.i64.wrap (Int.tdiv 0 8) = 0 := by decide
  rcases g with _ | g <;> simp only [h.Q, nat_Len_spec IsN.zero, e1, e2, e3, e4]
theorem l07_GroupNobody_true {a : Nat → Int} (ha : Go.Den.Good (.arr 4 (.int .u64)) a) : l07_GroupNobody' a = some () := by
  obtain ⟨x, hx⟩ := good_nat ha
  have h0 : NoGroup none := .inl rfl
  have h1 : NoGroup (some ((.nil, .nil), (fun _ => 0))) := .inr ⟨_, rfl⟩
  have hz : eqF (.arr 4 (.int .u64)) (fun _ => 0) (fun _ => 0) = true := IsN.eqb IsN.zero IsN.zero
  have hn := (group_New_spec (k := 0) (l := fun _ => ((fun _ => 0), 0)) (ga := a) (N := fun _ => 0) (fun i hi => absurd hi (by omega)) hx).2 (fun h => by have := h.1; omega)
  unfold l07_GroupNobody'
  simp (disch := omega) only [h0.P, h0.Q, NoGroup.G (.inl rfl), h0.Size, h0.Ring, h0.Field, h1.P, h1.Q, NoGroup.G (.inr rfl), h1.Size, h1.Ring, h1.Field, hn, hz, wrap_i64n, wrapun, dec_t, dec_f, inb_t, cond_true, cond_false, Int.toNat_natCast, beq_t, beq_f, bne_t, bne_f, Bool.not_true, Bool.not_false, Int.reduceToNat, ft_b, tf_b, tt_b, ff_b, decide_true, decide_false, l07_awake_spec]
end Go.Pl
