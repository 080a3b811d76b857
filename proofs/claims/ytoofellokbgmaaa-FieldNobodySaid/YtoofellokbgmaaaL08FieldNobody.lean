/-
  One statement, plainly.
-/
import Derived.Test.YtoofellokbgmaaaDenD
import Derived.Test.YtoofellokbgmaaaPlA
import Derived.Test.YtoofellokbgmaaaL08
import Derived.Test.YtoofellokbgmaaaEqA
import Derived.Test.YtoofellokbgmaaaMD
set_option linter.unusedVariables false
set_option linter.unusedSimpArgs false
set_option maxRecDepth 100000
set_option maxHeartbeats 0
namespace Go.Pl
end Go.Pl
open Go Go.Den Go.Pl
namespace Go.Pl
noncomputable def l08_FieldNobody' (a : (Nat → Int)) (b : (Nat → Int)) : Option (Unit) :=
  match (field_Dot none 1 (fun j => (upd (fun _ => (fun _ => 0)) 0 a) (0 + j)) 1 (fun j => (upd (fun _ => (fun _ => 0)) 0 b) (0 + j))) with
  | none => none
  | some r => (
    match (field_In none a) with
    | none => none
    | some r1 => (
      bif r1 then (
        none)
      else (
        match (field_Add none a b) with
        | none => none
        | some r2 => (
          bif (!(eqF (.arr 4 (.int .u64)) r2 (fun _ => 0))) then (
            none)
          else (
            match (field_Sub none a b) with
            | none => none
            | some r3 => (
              bif (!(eqF (.arr 4 (.int .u64)) r3 (fun _ => 0))) then (
                none)
              else (
                match (field_Mul none a b) with
                | none => none
                | some r4 => (
                  bif (!(eqF (.arr 4 (.int .u64)) r4 (fun _ => 0))) then (
                    none)
                  else (
                    match (field_Inv none a) with
                    | none => none
                    | some r5 => (
                      bif (!(eqF (.arr 4 (.int .u64)) r5 (fun _ => 0))) then (
                        none)
                      else (
                        bif (!(eqF (.arr 4 (.int .u64)) r.1 (fun _ => 0))) then (
                          none)
                        else (
                          bif (r.2 != 1) then (
                            none)
                          else (
                            match (field_Dot (some ((.nil, .nil), (fun _ => 0))) 1 (fun j => (upd (fun _ => (fun _ => 0)) 0 a) (0 + j)) 1 (fun j => (upd (fun _ => (fun _ => 0)) 0 b) (0 + j))) with
                            | none => none
                            | some r6 => (
                              match (field_In (some ((.nil, .nil), (fun _ => 0))) a) with
                              | none => none
                              | some r7 => (
                                bif r7 then (
                                  none)
                                else (
                                  match (field_Add (some ((.nil, .nil), (fun _ => 0))) a b) with
                                  | none => none
                                  | some r8 => (
                                    bif (!(eqF (.arr 4 (.int .u64)) r8 (fun _ => 0))) then (
                                      none)
                                    else (
                                      match (field_Sub (some ((.nil, .nil), (fun _ => 0))) a b) with
                                      | none => none
                                      | some r9 => (
                                        bif (!(eqF (.arr 4 (.int .u64)) r9 (fun _ => 0))) then (
                                          none)
                                        else (
                                          match (field_Mul (some ((.nil, .nil), (fun _ => 0))) a b) with
                                          | none => none
                                          | some r10 => (
                                            bif (!(eqF (.arr 4 (.int .u64)) r10 (fun _ => 0))) then (
                                              none)
                                            else (
                                              match (field_Inv (some ((.nil, .nil), (fun _ => 0))) a) with
                                              | none => none
                                              | some r11 => (
                                                bif (!(eqF (.arr 4 (.int .u64)) r11 (fun _ => 0))) then (
                                                  none)
                                                else (
                                                  bif (!(eqF (.arr 4 (.int .u64)) r6.1 (fun _ => 0))) then (
                                                    none)
                                                  else (
                                                    bif (r6.2 != 1) then (
                                                      none)
                                                    else (
                                                      match l08_awake with
                                                      | none => none
                                                      | some r12 => (
                                                        bif r12 then (
                                                          some ())
                                                        else (
                                                          none))))))))))))))))))))))))))))
end Go.Pl

set_option linter.unusedVariables false
set_option linter.unusedSimpArgs false
set_option maxRecDepth 100000
set_option maxHeartbeats 0
namespace Go.Pl
end Go.Pl
open Go Go.Den Go.Pl
namespace Go.Proofs.Ytoofellokbgmaaa
noncomputable def x_l08_FieldNobody : Cx := { ti := ti, con := [(70, c_field_Dot), (61, c_field_In), (58, c_field_Add), (59, c_field_Sub), (57, c_field_Mul), (67, c_field_Inv), (69, c_l08_awake)], fns := [], un := 6 }
theorem xok_l08_FieldNobody : CxOk Try.prog x_l08_FieldNobody := CxOk.of mixed ti_ok (List.forall_mem_cons.2 ⟨con_field_Dot, List.forall_mem_cons.2 ⟨con_field_In, List.forall_mem_cons.2 ⟨con_field_Add, List.forall_mem_cons.2 ⟨con_field_Sub, List.forall_mem_cons.2 ⟨con_field_Mul, List.forall_mem_cons.2 ⟨con_field_Inv, List.forall_mem_cons.2 ⟨con_l08_awake, List.forall_mem_nil _⟩⟩⟩⟩⟩⟩⟩) (List.forall_mem_nil _)
theorem fn_l08_FieldNobody : FnOk Try.prog 14 Try.f14 [] := ⟨Try.func14, Try.call14, lps_nil⟩
theorem e_l08_FieldNobody (a : (Nat → Int)) (b : (Nat → Int)) : bodyK x_l08_FieldNobody [] (denF x_l08_FieldNobody 8) Try.f14 (domV [(.arr 4 (.int .u64)), (.arr 4 (.int .u64))] (a, b, ())) [] 0 kTrue = l08_FieldNobody' a b := by kernel_rfl
end Go.Proofs.Ytoofellokbgmaaa

set_option linter.unusedVariables false
set_option linter.unusedSimpArgs false
namespace Go.Pl
open Go Go.Den Go.Num

theorem l08_FieldNobody_true {a b : Nat → Int} (ha : Go.Den.Good (.arr 4 (.int .u64)) a) (hb : Go.Den.Good (.arr 4 (.int .u64)) b) : l08_FieldNobody' a b = some () := by
  obtain ⟨x, hx⟩ := good_nat ha
  obtain ⟨y, hy⟩ := good_nat hb
  have h0 : NoGroup none := .inl rfl
  have h1 : NoGroup (some ((.nil, .nil), (fun _ => 0))) := .inr ⟨_, rfl⟩
  have hz : eqF (.arr 4 (.int .u64)) (fun _ => 0) (fun _ => 0) = true := IsN.eqb IsN.zero IsN.zero
  unfold l08_FieldNobody'
  simp only [h0.Dot, h0.fIn, h0.fAdd hx hy, h0.fSub, h0.fMul, h0.fInv hx, h1.Dot, h1.fIn, h1.fAdd hx hy, h1.fSub, h1.fMul, h1.fInv hx, hz, wrap_i64n, wrapun, dec_t, dec_f, inb_t, cond_true, cond_false, Int.toNat_natCast, beq_t, beq_f, bne_t, bne_f, Bool.not_true, Bool.not_false, Int.reduceToNat, ft_b, tf_b, tt_b, ff_b, decide_true, decide_false, l08_awake_spec]
end Go.Pl
