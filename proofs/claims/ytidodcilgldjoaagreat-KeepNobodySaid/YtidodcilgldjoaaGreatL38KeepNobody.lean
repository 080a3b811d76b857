/-
  One statement, plainly.
-/
import Derived.Test.YtidodcilgldjoaaGreatDenI
import Derived.Test.YtidodcilgldjoaaGreatPlA
import Derived.Test.YtidodcilgldjoaaGreatL38
import Derived.Test.YtidodcilgldjoaaGreatPr38
import Derived.Test.YtidodcilgldjoaaGreatPserver
import Derived.Test.YtidodcilgldjoaaGreatEqA
import Derived.Test.YtidodcilgldjoaaGreatDenE
import Derived.Test.YtidodcilgldjoaaGreatEr38
import Derived.Test.YtidodcilgldjoaaGreatEserver
set_option linter.unusedVariables false
set_option linter.unusedSimpArgs false
set_option maxRecDepth 100000
set_option maxHeartbeats 0
namespace Go.Pl
end Go.Pl
open Go Go.Den Go.Pl
namespace Go.Pl
open Go.IntKind (i64 u64 u32 u8)
noncomputable def l38_KeepNobody' (x : (Int × (Int × (Int × ((Nat × NI) × (Nat × (Nat → (ByteArray × (((Int × Int) × (ByteArray × ((SlV (SlV NI)) × ((SlV NI) × Int)))) × ((SlV (Int × ((Int × Int) × ByteArray))) × ((SlV (Int × ((Int × Int) × ByteArray))) × (SlV (((Int × Int) × (ByteArray × ((SlV (SlV NI)) × ((SlV NI) × Int)))) × (((Int × Int) × (ByteArray × ((SlV (SlV NI)) × ((SlV NI) × Int)))) × (((Int × Int) × (ByteArray × ((SlV (SlV NI)) × ((SlV NI) × Int)))) × (Int × Int)))))))))))))))) : Option (Unit) :=
 match (r38_Few (x.1, (x.2.1, (x.2.2.1, ((x.2.2.2.1.1, x.2.2.2.1.2), (x.2.2.2.2.1, x.2.2.2.2.2)))))) with
 | none => none
 | some r => (
 bif (!r) then (
 match l38_awake with
 | none => none
 | some r1 => (
 bif r1 then (
 some ())
 else (
 none)))
 else (
 match (server_Server_Image none) with
 | none => none
 | some r2 => (
 match (r38_Same (r2.1, (r2.2.1, (r2.2.2.1, ((r2.2.2.2.1.1, r2.2.2.2.1.2), (r2.2.2.2.2.1, r2.2.2.2.2.2))))) (0, (0, (0, ((0, (fun _ => 0)), (0, (fun _ => (ByteArray.empty, (((0, 0), (ByteArray.empty, (.nil, (.nil, 0)))), (.nil, (.nil, .nil))))))))))) with
 | none => none
 | some r3 => (
 bif (!r3) then (
 none)
 else (
 match (server_Server_Image (some (.nil, (0, (0, (0, (0, (.nil, (none, .nil))))))))) with
 | none => none
 | some r4 => (
 match (r38_Same (r4.1, (r4.2.1, (r4.2.2.1, ((r4.2.2.2.1.1, r4.2.2.2.1.2), (r4.2.2.2.2.1, r4.2.2.2.2.2))))) (0, (0, (0, ((0, (fun _ => 0)), (0, (fun _ => (ByteArray.empty, (((0, 0), (ByteArray.empty, (.nil, (.nil, 0)))), (.nil, (.nil, .nil))))))))))) with
 | none => none
 | some r5 => (
 bif (!r5) then (
 none)
 else (
 match (group_Group_Field none) with
 | none => none
 | some r6 => (
 match r6 with
 | none => (
 match l38_awake with
 | none => none
 | some r7 => (
 bif r7 then (
 some ())
 else (
 none)))
 | some p => (
 none))))))))))
end Go.Pl

namespace Go.Proofs.YtidodcilgldjoaaGreat
noncomputable def cN_group_Group_Field : Con := conN [(.ptr (.pair (.pair (.ptr (.pair tN (.pair tU (.pair tN tN)))) (.ptr (.pair tN (.pair tU (.pair tN tN))))) tN))] [(.ptr (.pair tN (.pair tU (.pair tN tN))))] fun x => group_Group_Field x.1
theorem conN_group_Group_Field : ConOk Tryz.prog 103 cN_group_Group_Field := conN_ok xok11_ 8 fn11_ [(.ptr (.pair (.pair (.ptr (.pair tN (.pair tU (.pair tN tN)))) (.ptr (.pair tN (.pair tU (.pair tN tN))))) tN))] [(.ptr (.pair tN (.pair tU (.pair tN tN))))] _ (fun x => by rw [group_Group_Field_eq]; exact e11_ x.1)
noncomputable def x_l38_KeepNobody : Cx := { ti := ti, con := [(6, c1q_), (7, c_l38_awake), (22, c1v_), (15, c1u_), (103, cN_group_Group_Field)], fns := [(19, Tryz.f19, []), (54, Tryz.f54, [])], un := 6, frz := [59] }
theorem xok_l38_KeepNobody : CxOk Tryz.prog x_l38_KeepNobody := CxOk.of mixed ti_ok (fc ⟨con1q_, fc ⟨con_l38_awake, fc ⟨con1v_, fc ⟨con1u_, fc ⟨conN_group_Group_Field, fz⟩⟩⟩⟩⟩) (fc ⟨⟨Tryz.func19, Tryz.call19, lps_nil⟩, fc ⟨⟨Tryz.func54, Tryz.call54, lps_nil⟩, fz⟩⟩)
theorem fn_l38_KeepNobody : FnOk Tryz.prog 5 Tryz.f5 [] := ⟨Tryz.func5, Tryz.call5, lps_nil⟩
theorem e_l38_KeepNobody (x : (Int × (Int × (Int × ((Nat × NI) × (Nat × (Nat → (ByteArray × (((Int × Int) × (ByteArray × ((SlV (SlV NI)) × ((SlV NI) × Int)))) × ((SlV (Int × ((Int × Int) × ByteArray))) × ((SlV (Int × ((Int × Int) × ByteArray))) × (SlV (((Int × Int) × (ByteArray × ((SlV (SlV NI)) × ((SlV NI) × Int)))) × (((Int × Int) × (ByteArray × ((SlV (SlV NI)) × ((SlV NI) × Int)))) × (((Int × Int) × (ByteArray × ((SlV (SlV NI)) × ((SlV NI) × Int)))) × (Int × Int)))))))))))))))) : bodyK x_l38_KeepNobody [] (denF x_l38_KeepNobody 8) Tryz.f5 (domV [(.pair tI (.pair tI (.pair tI (.pair (.sl tI) (.sl (.pair .str (.pair (.pair (.pair tI tI) (.pair .str (.pair (.sl (.sl tN)) (.pair (.sl tN) tI)))) (.pair (.sl (.pair tI (.pair (.pair tI tI) .str))) (.pair (.sl (.pair tI (.pair (.pair tI tI) .str))) (.sl (.pair (.pair (.pair tI tI) (.pair .str (.pair (.sl (.sl tN)) (.pair (.sl tN) tI)))) (.pair (.pair (.pair tI tI) (.pair .str (.pair (.sl (.sl tN)) (.pair (.sl tN) tI)))) (.pair (.pair (.pair tI tI) (.pair .str (.pair (.sl (.sl tN)) (.pair (.sl tN) tI)))) (.pair tI tI))))))))))))))] (x, ())) [] 0 kTrue = l38_KeepNobody' x := by kernel_rfl
end Go.Proofs.YtidodcilgldjoaaGreat

namespace Go.Pl
open Go Go.Den Go.Num
def tImg : Ty := .pair (.int .i64) (.pair (.int .i64) (.pair (.int .i64) (.pair (.sl (.int .i64)) (.sl tRec))))
theorem l38_KeepNobody_true {x : Int × (Int × (Int × ((Nat × (Nat → Int)) × (Nat × (Nat → RecT)))))} (h : Go.Den.Good tImg (x.1, (x.2.1, (x.2.2.1, (.fz x.2.2.2.1.1 x.2.2.2.1.2, .fz x.2.2.2.2.1 x.2.2.2.2.2))))) : l38_KeepNobody' x = some () := by
  obtain ⟨_, _, _, _, h5⟩ := h
  obtain ⟨b, hb⟩ := r38_Few_tot x.1 x.2.1 x.2.2.1 x.2.2.2.1.1 x.2.2.2.1.2 x.2.2.2.2.1 x.2.2.2.2.2 (by have := h5.1; omega) (fun k hk => good_rec (h5.2 k hk))
  unfold l38_KeepNobody'
  simp only [hb]
  have n1 : NoGroup none := .inl rfl
  have i1 : server_Server_Image none = some (0, (0, (0, ((0, (fun _ => 0)), (0, (fun _ => (ByteArray.empty, (((0, 0), (ByteArray.empty, (.nil, (.nil, 0)))), (.nil, (.nil, .nil)))))))))) := by
    rw [server_Server_Image_eq]; rfl
  have i2 : server_Server_Image (some (.nil, (0, (0, (0, (0, (.nil, (none, .nil)))))))) = some (0, (0, (0, ((0, (fun _ => 0)), (0, (fun _ => (ByteArray.empty, (((0, 0), (ByteArray.empty, (.nil, (.nil, 0)))), (.nil, (.nil, .nil)))))))))) := by
    rw [server_Server_Image_eq]; rfl
  have s1 := r38_Same_plain 0 0 0 0 (fun _ => 0) (fun _ => 0) (fun _ => (ByteArray.empty, (((0, 0), (ByteArray.empty, (.nil, (.nil, 0)))), (.nil, (.nil, .nil))))) (fun _ => (ByteArray.empty, (((0, 0), (ByteArray.empty, (.nil, (.nil, 0)))), (.nil, (.nil, .nil))))) (by decide) (fun k hk => absurd hk (Nat.not_lt_zero _))
  cases b with
  | false => simp only [Bool.not_false, cond_t, awake38]
  | true => simp only [Bool.not_true, cond_f, i1, i2, s1, n1.Field, awake38, cond_t]
end Go.Pl
