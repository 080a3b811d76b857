/-
  What the statements of a layer share.
-/
import Derived.Test.YtidodcilgldjoaaGreatDenI
import Derived.Test.YtidodcilgldjoaaGreatPlA
import Derived.Test.YtidodcilgldjoaaGreatPkeep
import Derived.Test.YtidodcilgldjoaaGreatPr05
import Derived.Test.YtidodcilgldjoaaGreatPr38
import Derived.Test.YtidodcilgldjoaaGreatPsha
import Derived.Test.YtidodcilgldjoaaGreatEqA
import Derived.Test.YtidodcilgldjoaaGreatLib
import Derived.Test.YtidodcilgldjoaaGreatDenF
import Derived.Test.YtidodcilgldjoaaGreatEkeep
import Derived.Test.YtidodcilgldjoaaGreatEr05
import Derived.Test.YtidodcilgldjoaaGreatEr38
import Derived.Test.YtidodcilgldjoaaGreatEsha
import Derived.Test.YtidodcilgldjoaaGreatMA
import Derived.Test.YtidodcilgldjoaaGreatMD
import Derived.Test.YtidodcilgldjoaaGreatMF
set_option linter.unusedVariables false
set_option linter.unusedSimpArgs false
set_option maxRecDepth 100000
set_option maxHeartbeats 0
namespace Go.Pl
end Go.Pl
open Go Go.Den Go.Pl
namespace Go.Pl
open Go.IntKind (i64 u64 u32 u8)
noncomputable def l38_awake'  : Option (Bool) :=
 match (sha_Sum (ByteArray.mk #[1, 2, 1, 5, 0, 0, 0, 0, 0, 0, 0, 0, 0, 0, 0, 0])) with
 | none => none
 | some r => (
 bif (decide ((((16 + (ByteArray.size r)) : Nat) : Int) > IntKind.i64.max)) then (
 none)
 else (
 bif (decide (((((ByteArray.size ((ByteArray.mk #[1, 2, 1, 5, 0, 0, 0, 0, 0, 0, 0, 0, 0, 0, 0, 0]) ++ r)) + 1) : Nat) : Int) > IntKind.i64.max)) then (
 none)
 else (
 match (keep_Open (((ByteArray.mk #[1, 2, 1, 5, 0, 0, 0, 0, 0, 0, 0, 0, 0, 0, 0, 0]) ++ r) ++ (ByteArray.mk #[120]))) with
 | none => none
 | some r1 => (
 match r07_Least with
 | none => none
 | some r2 => (
 match (group_New ((r2.1.1, r2.1.2), r2.2)) with
 | none => none
 | some r3 => (
 match r3.1 with
 | none => (
 match (group_Group_Field none) with
 | none => none
 | some r10 => (
 match r10 with
 | none => (
 match (r38_Same (1, (2, (1, ((5, (upd (upd (upd (upd (upd (fun _ => 0) 0 0) 1 0) 2 0) 3 0) 4 0)), (0, (fun _ => (ByteArray.empty, (((0, 0), (ByteArray.empty, (.nil, (.nil, 0)))), (.nil, (.nil, .nil)))))))))) (1, (2, (1, ((5, (fun j => (glue 4 (glue 3 (glue 2 (glue 1 (glue 0 (fun _ => 0) (upd (fun _ => 0) 0 0)) (upd (fun _ => 0) 0 0)) (upd (fun _ => 0) 0 0)) (upd (fun _ => 0) 0 0)) (upd (fun _ => 0) 0 0)) (0 + j))), (0, (fun _ => (ByteArray.empty, (((0, 0), (ByteArray.empty, (.nil, (.nil, 0)))), (.nil, (.nil, .nil))))))))))) with
 | none => none
 | some r14 => (
 bif r14 then (
 match (r05_Sum (ByteArray.mk #[1, 2, 1, 5, 0, 0, 0, 0, 0, 0, 0, 0, 0, 0, 0, 0])) with
 | none => none
 | some r15 => (
 bif (decide ((((16 + (ByteArray.size r15)) : Nat) : Int) > IntKind.i64.max)) then (
 none)
 else (
 bif (sEq ((ByteArray.mk #[1, 2, 1, 5, 0, 0, 0, 0, 0, 0, 0, 0, 0, 0, 0, 0]) ++ r) ((ByteArray.mk #[1, 2, 1, 5, 0, 0, 0, 0, 0, 0, 0, 0, 0, 0, 0, 0]) ++ r15)) then (
 bif (r1.2 == 4) then (
 bif (r3.2 == 0) then (
 some false)
 else (
 some false))
 else (
 some false))
 else (
 some false))))
 else (
 some false)))
 | some p2 => (
 match (r38_Same (1, (2, (1, ((5, (upd (upd (upd (upd (upd (fun _ => 0) 0 0) 1 0) 2 0) 3 0) 4 0)), (0, (fun _ => (ByteArray.empty, (((0, 0), (ByteArray.empty, (.nil, (.nil, 0)))), (.nil, (.nil, .nil)))))))))) (1, (2, (1, ((5, (fun j => (glue 4 (glue 3 (glue 2 (glue 1 (glue 0 (fun _ => 0) (upd (fun _ => 0) 0 0)) (upd (fun _ => 0) 0 0)) (upd (fun _ => 0) 0 0)) (upd (fun _ => 0) 0 0)) (upd (fun _ => 0) 0 0)) (0 + j))), (0, (fun _ => (ByteArray.empty, (((0, 0), (ByteArray.empty, (.nil, (.nil, 0)))), (.nil, (.nil, .nil))))))))))) with
 | none => none
 | some r11 => (
 bif r11 then (
 match (r05_Sum (ByteArray.mk #[1, 2, 1, 5, 0, 0, 0, 0, 0, 0, 0, 0, 0, 0, 0, 0])) with
 | none => none
 | some r12 => (
 bif (decide ((((16 + (ByteArray.size r12)) : Nat) : Int) > IntKind.i64.max)) then (
 none)
 else (
 bif (sEq ((ByteArray.mk #[1, 2, 1, 5, 0, 0, 0, 0, 0, 0, 0, 0, 0, 0, 0, 0]) ++ r) ((ByteArray.mk #[1, 2, 1, 5, 0, 0, 0, 0, 0, 0, 0, 0, 0, 0, 0, 0]) ++ r12)) then (
 bif (r1.2 == 4) then (
 bif (r3.2 == 0) then (
 let t5 := (Option.getD (mfind (.int .i64) (.int .i64) (mset (.int .i64) (.int .i64) (mset (.int .i64) (.int .i64) (mset (.int .i64) (.int .i64) (mset (.int .i64) (.int .i64) (mset (.int .i64) (.int .i64) ([] : List (Int × Int)) 1 0) 2 0) 3 0) 4 0) 5 0) 1) (0 : Int))
 let t6 := (Option.getD (mfind (.int .i64) (.int .i64) (mset (.int .i64) (.int .i64) (mset (.int .i64) (.int .i64) (mset (.int .i64) (.int .i64) (mset (.int .i64) (.int .i64) (mset (.int .i64) (.int .i64) ([] : List (Int × Int)) 1 0) 2 0) 3 0) 4 0) 5 0) 2) (0 : Int))
 let t7 := (Option.getD (mfind (.int .i64) (.int .i64) (mset (.int .i64) (.int .i64) (mset (.int .i64) (.int .i64) (mset (.int .i64) (.int .i64) (mset (.int .i64) (.int .i64) (mset (.int .i64) (.int .i64) ([] : List (Int × Int)) 1 0) 2 0) 3 0) 4 0) 5 0) 3) (0 : Int))
 let t8 := (Option.getD (mfind (.int .i64) (.int .i64) (mset (.int .i64) (.int .i64) (mset (.int .i64) (.int .i64) (mset (.int .i64) (.int .i64) (mset (.int .i64) (.int .i64) (mset (.int .i64) (.int .i64) ([] : List (Int × Int)) 1 0) 2 0) 3 0) 4 0) 5 0) 4) (0 : Int))
 let t9 := (Option.getD (mfind (.int .i64) (.int .i64) (mset (.int .i64) (.int .i64) (mset (.int .i64) (.int .i64) (mset (.int .i64) (.int .i64) (mset (.int .i64) (.int .i64) (mset (.int .i64) (.int .i64) ([] : List (Int × Int)) 1 0) 2 0) 3 0) 4 0) 5 0) 5) (0 : Int))
 match (r38_Same (1, (2, (1, ((5, (fun j => (glue 4 (glue 3 (glue 2 (glue 1 (glue 0 (fun _ => 0) (upd (fun _ => 0) 0 t5)) (upd (fun _ => 0) 0 t6)) (upd (fun _ => 0) 0 t7)) (upd (fun _ => 0) 0 t8)) (upd (fun _ => 0) 0 t9)) (0 + j))), (0, (fun _ => (ByteArray.empty, (((0, 0), (ByteArray.empty, (.nil, (.nil, 0)))), (.nil, (.nil, .nil)))))))))) (1, (2, (1, ((5, (upd (upd (upd (upd (upd (fun _ => 0) 0 0) 1 0) 2 0) 3 0) 4 0)), (0, (fun _ => (ByteArray.empty, (((0, 0), (ByteArray.empty, (.nil, (.nil, 0)))), (.nil, (.nil, .nil))))))))))) with
 | none => none
 | some r13 => (
 some r13))
 else (
 some false))
 else (
 some false))
 else (
 some false))))
 else (
 some false)))))
 | some p => (
 match (group_Group_Field (some p)) with
 | none => none
 | some r4 => (
 match r4 with
 | none => (
 match (r38_Same (1, (2, (1, ((5, (upd (upd (upd (upd (upd (fun _ => 0) 0 0) 1 0) 2 0) 3 0) 4 0)), (0, (fun _ => (ByteArray.empty, (((0, 0), (ByteArray.empty, (.nil, (.nil, 0)))), (.nil, (.nil, .nil)))))))))) (1, (2, (1, ((5, (fun j => (glue 4 (glue 3 (glue 2 (glue 1 (glue 0 (fun _ => 0) (upd (fun _ => 0) 0 0)) (upd (fun _ => 0) 0 0)) (upd (fun _ => 0) 0 0)) (upd (fun _ => 0) 0 0)) (upd (fun _ => 0) 0 0)) (0 + j))), (0, (fun _ => (ByteArray.empty, (((0, 0), (ByteArray.empty, (.nil, (.nil, 0)))), (.nil, (.nil, .nil))))))))))) with
 | none => none
 | some r8 => (
 bif r8 then (
 match (r05_Sum (ByteArray.mk #[1, 2, 1, 5, 0, 0, 0, 0, 0, 0, 0, 0, 0, 0, 0, 0])) with
 | none => none
 | some r9 => (
 bif (decide ((((16 + (ByteArray.size r9)) : Nat) : Int) > IntKind.i64.max)) then (
 none)
 else (
 bif (sEq ((ByteArray.mk #[1, 2, 1, 5, 0, 0, 0, 0, 0, 0, 0, 0, 0, 0, 0, 0]) ++ r) ((ByteArray.mk #[1, 2, 1, 5, 0, 0, 0, 0, 0, 0, 0, 0, 0, 0, 0, 0]) ++ r9)) then (
 bif (r1.2 == 4) then (
 bif (r3.2 == 0) then (
 some false)
 else (
 some false))
 else (
 some false))
 else (
 some false))))
 else (
 some false)))
 | some p1 => (
 match (r38_Same (1, (2, (1, ((5, (upd (upd (upd (upd (upd (fun _ => 0) 0 0) 1 0) 2 0) 3 0) 4 0)), (0, (fun _ => (ByteArray.empty, (((0, 0), (ByteArray.empty, (.nil, (.nil, 0)))), (.nil, (.nil, .nil)))))))))) (1, (2, (1, ((5, (fun j => (glue 4 (glue 3 (glue 2 (glue 1 (glue 0 (fun _ => 0) (upd (fun _ => 0) 0 0)) (upd (fun _ => 0) 0 0)) (upd (fun _ => 0) 0 0)) (upd (fun _ => 0) 0 0)) (upd (fun _ => 0) 0 0)) (0 + j))), (0, (fun _ => (ByteArray.empty, (((0, 0), (ByteArray.empty, (.nil, (.nil, 0)))), (.nil, (.nil, .nil))))))))))) with
 | none => none
 | some r5 => (
 bif r5 then (
 match (r05_Sum (ByteArray.mk #[1, 2, 1, 5, 0, 0, 0, 0, 0, 0, 0, 0, 0, 0, 0, 0])) with
 | none => none
 | some r6 => (
 bif (decide ((((16 + (ByteArray.size r6)) : Nat) : Int) > IntKind.i64.max)) then (
 none)
 else (
 bif (sEq ((ByteArray.mk #[1, 2, 1, 5, 0, 0, 0, 0, 0, 0, 0, 0, 0, 0, 0, 0]) ++ r) ((ByteArray.mk #[1, 2, 1, 5, 0, 0, 0, 0, 0, 0, 0, 0, 0, 0, 0, 0]) ++ r6)) then (
 bif (r1.2 == 4) then (
 bif (r3.2 == 0) then (
 let t := (Option.getD (mfind (.int .i64) (.int .i64) (mset (.int .i64) (.int .i64) (mset (.int .i64) (.int .i64) (mset (.int .i64) (.int .i64) (mset (.int .i64) (.int .i64) (mset (.int .i64) (.int .i64) ([] : List (Int × Int)) 1 0) 2 0) 3 0) 4 0) 5 0) 1) (0 : Int))
 let t1 := (Option.getD (mfind (.int .i64) (.int .i64) (mset (.int .i64) (.int .i64) (mset (.int .i64) (.int .i64) (mset (.int .i64) (.int .i64) (mset (.int .i64) (.int .i64) (mset (.int .i64) (.int .i64) ([] : List (Int × Int)) 1 0) 2 0) 3 0) 4 0) 5 0) 2) (0 : Int))
 let t2 := (Option.getD (mfind (.int .i64) (.int .i64) (mset (.int .i64) (.int .i64) (mset (.int .i64) (.int .i64) (mset (.int .i64) (.int .i64) (mset (.int .i64) (.int .i64) (mset (.int .i64) (.int .i64) ([] : List (Int × Int)) 1 0) 2 0) 3 0) 4 0) 5 0) 3) (0 : Int))
 let t3 := (Option.getD (mfind (.int .i64) (.int .i64) (mset (.int .i64) (.int .i64) (mset (.int .i64) (.int .i64) (mset (.int .i64) (.int .i64) (mset (.int .i64) (.int .i64) (mset (.int .i64) (.int .i64) ([] : List (Int × Int)) 1 0) 2 0) 3 0) 4 0) 5 0) 4) (0 : Int))
 let t4 := (Option.getD (mfind (.int .i64) (.int .i64) (mset (.int .i64) (.int .i64) (mset (.int .i64) (.int .i64) (mset (.int .i64) (.int .i64) (mset (.int .i64) (.int .i64) (mset (.int .i64) (.int .i64) ([] : List (Int × Int)) 1 0) 2 0) 3 0) 4 0) 5 0) 5) (0 : Int))
 match (r38_Same (1, (2, (1, ((5, (fun j => (glue 4 (glue 3 (glue 2 (glue 1 (glue 0 (fun _ => 0) (upd (fun _ => 0) 0 t)) (upd (fun _ => 0) 0 t1)) (upd (fun _ => 0) 0 t2)) (upd (fun _ => 0) 0 t3)) (upd (fun _ => 0) 0 t4)) (0 + j))), (0, (fun _ => (ByteArray.empty, (((0, 0), (ByteArray.empty, (.nil, (.nil, 0)))), (.nil, (.nil, .nil)))))))))) (1, (2, (1, ((5, (upd (upd (upd (upd (upd (fun _ => 0) 0 0) 1 0) 2 0) 3 0) 4 0)), (0, (fun _ => (ByteArray.empty, (((0, 0), (ByteArray.empty, (.nil, (.nil, 0)))), (.nil, (.nil, .nil))))))))))) with
 | none => none
 | some r7 => (
 some r7))
 else (
 some false))
 else (
 some false))
 else (
 some false))))
 else (
 some false)))))))))))
noncomputable def l38_awake := veil l38_awake'
theorem l38_awake_eq : l38_awake = l38_awake' := veil_eq _
end Go.Pl

namespace Go.Proofs.YtidodcilgldjoaaGreat
abbrev I_i7_strings_Builder_WriteByte : Shape := { sl := [(0, (.c ⟨(.ptr (.pair (.sp 82) (.sl (.int .u8)))), (.rf 0 [.L])⟩)), (pv 1 (.int .u8))], ob := [(0, (.p (.p (.v (.sp 82)) (.w 5 (.int .u8) 1)) (.v .bool)))], lo := 1, nx := 2 }
abbrev O_i7_strings_Builder_WriteByte : List Shape := [{ sl := [(pv 0 (.sp 0))], ob := [(0, (.p (.p (.v (.sp 82)) (.w 5 (.int .u8) 4)) (.v .bool)))], lo := 4, nx := 5 }]
noncomputable def x_i7_strings_Builder_WriteByte : Cx := { ti := ti, con := [(122, c_copyCheck)], fns := [], un := 6, frz := [22] }
theorem xok_i7_strings_Builder_WriteByte : CxOk Tryz.prog x_i7_strings_Builder_WriteByte := CxOk.of mixed ti_ok (fc ⟨con_copyCheck, fz⟩) fz
theorem fn_i7_strings_Builder_WriteByte : FnOk Tryz.prog 72 Tryz.f72 [] := ⟨Tryz.func72, Tryz.call72, lps_nil⟩
noncomputable def c_i7_strings_Builder_WriteByte : Con := conS I_i7_strings_Builder_WriteByte O_i7_strings_Builder_WriteByte fun x => bodyK x_i7_strings_Builder_WriteByte [] (denF x_i7_strings_Builder_WriteByte 8) Tryz.f72 ((mkVals I_i7_strings_Builder_WriteByte.sl x.1).map .v) (shHp I_i7_strings_Builder_WriteByte x) I_i7_strings_Builder_WriteByte.nx (kOutS 1 O_i7_strings_Builder_WriteByte)
theorem con_i7_strings_Builder_WriteByte : ConOk Tryz.prog 72 c_i7_strings_Builder_WriteByte := conS_ok xok_i7_strings_Builder_WriteByte 8 fn_i7_strings_Builder_WriteByte 1 I_i7_strings_Builder_WriteByte O_i7_strings_Builder_WriteByte _ (by decide) (fun _ => rfl)
abbrev I_i7_keep_reader_fails : Shape := { sl := [(pc 0 (.pair .str .bool) 0), (1, (.v .bool))], ob := [(pv 0 (.pair .str .bool))], lo := 1, nx := 1 }
abbrev O_i7_keep_reader_fails : List Shape := [{ sl := [(0, (.v .bool))], ob := [(pv 0 (.pair .str .bool))], lo := 1, nx := 1 }]
noncomputable def x_i7_keep_reader_fails : Cx := { ti := ti, con := [], fns := [], un := 6, frz := [22] }
theorem xok_i7_keep_reader_fails : CxOk Tryz.prog x_i7_keep_reader_fails := CxOk.of mixed ti_ok fz fz
theorem fn_i7_keep_reader_fails : FnOk Tryz.prog 37 Tryz.f37 [] := ⟨Tryz.func37, Tryz.call37, lps_nil⟩
noncomputable def c_i7_keep_reader_fails : Con := conS I_i7_keep_reader_fails O_i7_keep_reader_fails fun x => bodyK x_i7_keep_reader_fails [] (denF x_i7_keep_reader_fails 8) Tryz.f37 ((mkVals I_i7_keep_reader_fails.sl x.1).map .v) (shHp I_i7_keep_reader_fails x) I_i7_keep_reader_fails.nx (kOutS 1 O_i7_keep_reader_fails)
theorem con_i7_keep_reader_fails : ConOk Tryz.prog 37 c_i7_keep_reader_fails := conS_ok xok_i7_keep_reader_fails 8 fn_i7_keep_reader_fails 1 I_i7_keep_reader_fails O_i7_keep_reader_fails _ (by decide) (fun _ => rfl)
abbrev I_i7_keep_reader_num : Shape := { sl := [(pc 0 (.pair .str .bool) 0), (pv 1 tI)], ob := [(pv 0 (.pair .str .bool))], lo := 1, nx := 1 }
abbrev O_i7_keep_reader_num : List Shape := [{ sl := [(pv 0 tI)], ob := [(pv 0 (.pair .str .bool))], lo := 2, nx := 2 }]
noncomputable def x_i7_keep_reader_num : Cx := { ti := ti, con := [(37, c_i7_keep_reader_fails)], fns := [(78, Tryz.f78, [])], un := 6, frz := [22] }
theorem xok_i7_keep_reader_num : CxOk Tryz.prog x_i7_keep_reader_num := CxOk.of mixed ti_ok (fc ⟨con_i7_keep_reader_fails, fz⟩) (fc ⟨⟨Tryz.func78, Tryz.call78, lps_nil⟩, fz⟩)
theorem fn_i7_keep_reader_num : FnOk Tryz.prog 32 Tryz.f32 [] := ⟨Tryz.func32, Tryz.call32, lps_nil⟩
noncomputable def c_i7_keep_reader_num : Con := conS I_i7_keep_reader_num O_i7_keep_reader_num fun x => bodyK x_i7_keep_reader_num [] (denF x_i7_keep_reader_num 8) Tryz.f32 ((mkVals I_i7_keep_reader_num.sl x.1).map .v) (shHp I_i7_keep_reader_num x) I_i7_keep_reader_num.nx (kOutS 1 O_i7_keep_reader_num)
theorem con_i7_keep_reader_num : ConOk Tryz.prog 32 c_i7_keep_reader_num := conS_ok xok_i7_keep_reader_num 8 fn_i7_keep_reader_num 1 I_i7_keep_reader_num O_i7_keep_reader_num _ (by decide) (fun _ => rfl)
abbrev I_i7_space_Of : Shape := { sl := [(pv 0 tI), (pv 1 tI), (2, (.sz .str)), (3, (.sz tI))], ob := [], lo := 0, nx := 0 }
abbrev O_i7_space_Of : List Shape := [{ sl := [(pc 0 (.pair tI (.pair tI (.pair (.sl .str) .mp))) 1), (pv 1 tI)], ob := [(1, (.p (.v tI) (.p (.v tI) (.p (.w 9 .str 3) (.m tI tI 4)))))], lo := 3, nx := 5 }]
noncomputable def x_i7_space_Of : Cx := { ti := ti, con := [(105, c_sQuota), (107, c_sClone)], fns := [(104, Tryz.f104, [])], un := 6, frz := [22] }
theorem xok_i7_space_Of : CxOk Tryz.prog x_i7_space_Of := CxOk.of mixed ti_ok (fc ⟨con_sQuota, fc ⟨con_sClone, fz⟩⟩) (fc ⟨⟨Tryz.func104, Tryz.call104, lps_nil⟩, fz⟩)
theorem fn_i7_space_Of : FnOk Tryz.prog 55 Tryz.f55 [] := ⟨Tryz.func55, Tryz.call55, lps_nil⟩
noncomputable def c_i7_space_Of : Con := conS I_i7_space_Of O_i7_space_Of fun x => bodyK x_i7_space_Of [] (denF x_i7_space_Of 8) Tryz.f55 ((mkVals I_i7_space_Of.sl x.1).map .v) (shHp I_i7_space_Of x) I_i7_space_Of.nx (kOutS 2 O_i7_space_Of)
theorem con_i7_space_Of : ConOk Tryz.prog 55 c_i7_space_Of := conS_ok xok_i7_space_Of 8 fn_i7_space_Of 2 I_i7_space_Of O_i7_space_Of _ (by decide) (fun _ => rfl)
abbrev I_i7_space_Space_Used : Shape := { sl := [(pc 0 (.pair tI (.pair tI (.pair (.sl .str) .mp))) 0), (pv 1 tI)], ob := [(0, (.p (.v tI) (.p (.v tI) (.p (.w 9 .str 1) (.m tI tI 2)))))], lo := 1, nx := 3 }
abbrev O_i7_space_Space_Used : List Shape := [{ sl := [(pv 0 tI)], ob := [(0, (.p (.v tI) (.p (.v tI) (.p (.w 9 .str 3) (.m tI tI 4)))))], lo := 3, nx := 5 }]
noncomputable def x_i7_space_Space_Used : Cx := { ti := ti, con := [], fns := [], un := 6, frz := [22] }
theorem xok_i7_space_Space_Used : CxOk Tryz.prog x_i7_space_Space_Used := CxOk.of mixed ti_ok fz fz
theorem fn_i7_space_Space_Used : FnOk Tryz.prog 64 Tryz.f64 [] := ⟨Tryz.func64, Tryz.call64, lps_nil⟩
noncomputable def c_i7_space_Space_Used : Con := conS I_i7_space_Space_Used O_i7_space_Space_Used fun x => bodyK x_i7_space_Space_Used [] (denF x_i7_space_Space_Used 8) Tryz.f64 ((mkVals I_i7_space_Space_Used.sl x.1).map .v) (shHp I_i7_space_Space_Used x) I_i7_space_Space_Used.nx (kOutS 1 O_i7_space_Space_Used)
theorem con_i7_space_Space_Used : ConOk Tryz.prog 64 c_i7_space_Space_Used := conS_ok xok_i7_space_Space_Used 8 fn_i7_space_Space_Used 1 I_i7_space_Space_Used O_i7_space_Space_Used _ (by decide) (fun _ => rfl)
abbrev I_i7_server_Server_Image : Shape := { sl := [(0, (.c ⟨(.ptr (.pair (.ptr (.pair (.pair (.ptr (.pair tN (.pair tU (.pair tN tN)))) (.ptr (.pair tN (.pair tU (.pair tN tN))))) tN)) (.pair tI (.pair tI (.pair tI (.pair tI (.pair (.ptr (.pair tI (.pair tI (.pair (.sl .str) .mp)))) (.pair .mp (.sl (.pair tI (.pair tI (.pair tI (.pair .str (.pair (.pair tI tI) (.pair .str (.pair (.sl (.sl tN)) (.sl tN))))))))))))))))), (.rf 0 [])⟩))], ob := [(0, (.p (.po (.pair (.pair (.ptr (.pair tN (.pair tU (.pair tN tN)))) (.ptr (.pair tN (.pair tU (.pair tN tN))))) tN)) (.p (.v tI) (.p (.v tI) (.p (.v tI) (.p (.v tI) (.p (.c ⟨(.ptr (.pair tI (.pair tI (.pair (.sl .str) .mp)))), (.rf 1 [])⟩) (.p (.m .str (.ptr (.pair (.pair (.pair tI tI) (.pair .str (.pair (.sl (.sl tN)) (.sl tN)))) (.pair .str (.pair (.ptr (.pair tI (.arr 7 (.arr 4 (.arr 2 (.pair (.pair tI tI) .str)))))) (.pair (.ptr (.pair tI (.arr 7 (.arr 4 (.arr 2 (.pair (.pair tI tI) .str)))))) (.arr 4 (.pair (.arr 2 (.pair (.pair (.pair tI tI) (.pair .str (.pair (.sl (.sl tN)) (.sl tN)))) tI)) (.pair (.pair (.pair (.pair tI tI) (.pair .str (.pair (.sl (.sl tN)) (.sl tN)))) tI) (.pair tI tI))))))))) 2) (.sz (.pair tI (.pair tI (.pair tI (.pair .str (.pair (.pair tI tI) (.pair .str (.pair (.sl (.sl tN)) (.sl tN))))))))))))))))), (1, (.p (.v tI) (.p (.v tI) (.p (.w 9 .str 3) (.m tI tI 4)))))], lo := 2, nx := 5 }
abbrev O_i7_server_Server_Image : List Shape := [{ sl := [(0, (.p (.v tI) (.p (.v tI) (.p (.v tI) (.p (.w 3 tI 38) (.sz (.pair .str (.pair (.pair (.pair tI tI) (.pair .str (.pair (.sl (.sl tN)) (.pair (.sl tN) tI)))) (.pair (.sl (.pair tI (.pair (.pair tI tI) .str))) (.pair (.sl (.pair tI (.pair (.pair tI tI) .str))) (.sl (.pair (.pair (.pair tI tI) (.pair .str (.pair (.sl (.sl tN)) (.pair (.sl tN) tI)))) (.pair (.pair (.pair tI tI) (.pair .str (.pair (.sl (.sl tN)) (.pair (.sl tN) tI)))) (.pair (.pair (.pair tI tI) (.pair .str (.pair (.sl (.sl tN)) (.pair (.sl tN) tI)))) (.pair tI tI)))))))))))))))], ob := [(0, (.p (.po (.pair (.pair (.ptr (.pair tN (.pair tU (.pair tN tN)))) (.ptr (.pair tN (.pair tU (.pair tN tN))))) tN)) (.p (.v tI) (.p (.v tI) (.p (.v tI) (.p (.v tI) (.p (.c ⟨(.ptr (.pair tI (.pair tI (.pair (.sl .str) .mp)))), (.rf 1 [])⟩) (.p (.m .str (.ptr (.pair (.pair (.pair tI tI) (.pair .str (.pair (.sl (.sl tN)) (.sl tN)))) (.pair .str (.pair (.ptr (.pair tI (.arr 7 (.arr 4 (.arr 2 (.pair (.pair tI tI) .str)))))) (.pair (.ptr (.pair tI (.arr 7 (.arr 4 (.arr 2 (.pair (.pair tI tI) .str)))))) (.arr 4 (.pair (.arr 2 (.pair (.pair (.pair tI tI) (.pair .str (.pair (.sl (.sl tN)) (.sl tN)))) tI)) (.pair (.pair (.pair (.pair tI tI) (.pair .str (.pair (.sl (.sl tN)) (.sl tN)))) tI) (.pair tI tI))))))))) 39) (.sz (.pair tI (.pair tI (.pair tI (.pair .str (.pair (.pair tI tI) (.pair .str (.pair (.sl (.sl tN)) (.sl tN))))))))))))))))), (1, (.p (.v tI) (.p (.v tI) (.p (.w 9 .str 40) (.m tI tI 41)))))], lo := 38, nx := 42 }]
noncomputable def x_i7_server_Server_Image : Cx := { ti := ti, con := [(64, c_i7_space_Space_Used), (107, c_sClone)], fns := [(65, Tryz.f65, [])], un := 6, frz := [22] }
theorem xok_i7_server_Server_Image : CxOk Tryz.prog x_i7_server_Server_Image := CxOk.of mixed ti_ok (fc ⟨con_i7_space_Space_Used, fc ⟨con_sClone, fz⟩⟩) (fc ⟨⟨Tryz.func65, Tryz.call65, lps_nil⟩, fz⟩)
theorem fn_i7_server_Server_Image : FnOk Tryz.prog 22 Tryz.f22 [] := ⟨Tryz.func22, Tryz.call22, lps_nil⟩
noncomputable def c_i7_server_Server_Image : Con := conS I_i7_server_Server_Image O_i7_server_Server_Image fun x => bodyK x_i7_server_Server_Image [] (denF x_i7_server_Server_Image 8) Tryz.f22 ((mkVals I_i7_server_Server_Image.sl x.1).map .v) (shHp I_i7_server_Server_Image x) I_i7_server_Server_Image.nx (kOutS 1 O_i7_server_Server_Image)
theorem con_i7_server_Server_Image : ConOk Tryz.prog 22 c_i7_server_Server_Image := conS_ok xok_i7_server_Server_Image 8 fn_i7_server_Server_Image 1 I_i7_server_Server_Image O_i7_server_Server_Image _ (by decide) (fun _ => rfl)
noncomputable def c_l38_awake : Con := conV true [] [.bool] fun x => l38_awake 
noncomputable def x_l38_awake : Cx := { ti := ti, con := [(72, c_i7_strings_Builder_WriteByte), (32, c_i7_keep_reader_num), (37, c_i7_keep_reader_fails), (42, c1b_), (13, c1d_), (24, c1l_), (17, c10_), (103, c11_), (55, c_i7_space_Of), (15, c1u_), (16, c1k_), (22, c_i7_server_Server_Image)], fns := [(8, Tryz.f8, []), (25, Tryz.f25, []), (27, Tryz.f27, []), (10, Tryz.f10, []), (33, Tryz.f33, []), (34, Tryz.f34, []), (12, Tryz.f12, []), (19, Tryz.f19, []), (54, Tryz.f54, []), (104, Tryz.f104, [])], un := 6, frz := [22] }
theorem xok_l38_awake : CxOk Tryz.prog x_l38_awake := CxOk.of mixed ti_ok (fc ⟨con_i7_strings_Builder_WriteByte, fc ⟨con_i7_keep_reader_num, fc ⟨con_i7_keep_reader_fails, fc ⟨con1b_, fc ⟨con1d_, fc ⟨con1l_, fc ⟨con10_, fc ⟨con11_, fc ⟨con_i7_space_Of, fc ⟨con1u_, fc ⟨con1k_, fc ⟨con_i7_server_Server_Image, fz⟩⟩⟩⟩⟩⟩⟩⟩⟩⟩⟩⟩) (fc ⟨⟨Tryz.func8, Tryz.call8, lps_nil⟩, fc ⟨⟨Tryz.func25, Tryz.call25, lps_nil⟩, fc ⟨⟨Tryz.func27, Tryz.call27, lps_nil⟩, fc ⟨⟨Tryz.func10, Tryz.call10, lps_nil⟩, fc ⟨⟨Tryz.func33, Tryz.call33, lps_nil⟩, fc ⟨⟨Tryz.func34, Tryz.call34, lps_nil⟩, fc ⟨⟨Tryz.func12, Tryz.call12, lps_nil⟩, fc ⟨⟨Tryz.func19, Tryz.call19, lps_nil⟩, fc ⟨⟨Tryz.func54, Tryz.call54, lps_nil⟩, fc ⟨⟨Tryz.func104, Tryz.call104, lps_nil⟩, fz⟩⟩⟩⟩⟩⟩⟩⟩⟩⟩)
theorem fn_l38_awake : FnOk Tryz.prog 7 Tryz.f7 [] := ⟨Tryz.func7, Tryz.call7, lps_nil⟩
theorem e_l38_awake  : bodyK x_l38_awake [] (denF x_l38_awake 8) Tryz.f7 (domV [] (())) [] 0 (kOut [.bool]) = l38_awake'  := by kernel_rfl
theorem con_l38_awake : ConOk Tryz.prog 7 c_l38_awake := con_ok xok_l38_awake 8 fn_l38_awake true [] [.bool] _ (by decide) (fun x => by rw [l38_awake_eq]; exact e_l38_awake )
end Go.Proofs.YtidodcilgldjoaaGreat

namespace Go.Pl
open Go Go.Den Go.Num
abbrev GivT : Type := (Int × Int) × (ByteArray × ((SlV (SlV (Nat → Int))) × ((SlV (Nat → Int)) × Int)))
abbrev VoteT : Type := Int × ((Int × Int) × ByteArray)
abbrev ToldT : Type := GivT × (GivT × (GivT × (Int × Int)))
abbrev RecT : Type := ByteArray × (GivT × ((SlV VoteT) × ((SlV VoteT) × (SlV ToldT))))
def tGiv : Ty := .pair (.pair (.int .i64) (.int .i64)) (.pair .str (.pair (.sl (.sl (.arr 4 (.int .u64)))) (.pair (.sl (.arr 4 (.int .u64))) (.int .i64))))
def tVote : Ty := .pair (.int .i64) (.pair (.pair (.int .i64) (.int .i64)) .str)
def tTold : Ty := .pair tGiv (.pair tGiv (.pair tGiv (.pair (.int .i64) (.int .i64))))
def tRec : Ty := .pair .str (.pair tGiv (.pair (.sl tVote) (.pair (.sl tVote) (.sl tTold))))
theorem good_sl {t : Ty} {x : SlV t.den} (h : Go.Den.Good (.sl t) x) (d : t.den) : x.isMs = false ∧ x.len < 9223372036854775808 ∧ ∀ i, i < x.len → Go.Den.Good t (SlV.fn d x i) := by
  cases x with
  | nil => exact ⟨rfl, by simp [SlV.len], fun i hi => absurd hi (Nat.not_lt_zero _)⟩
  | fz n f => exact ⟨rfl, by have := h.1; simp only [SlV.len]; omega, fun i hi => h.2 i hi⟩
  | ms _ _ _ _ => exact h.elim
structure GivOk (x : GivT) : Prop where
  m : x.2.2.1.isMs = false
  y : x.2.2.2.1.isMs = false
  n : x.2.2.1.len < 9223372036854775808
  k : x.2.2.2.1.len < 9223372036854775808
  r : ∀ i, i < x.2.2.1.len → (SlV.fn .nil x.2.2.1 i).isMs = false
theorem good_giv {x : GivT} (h : Go.Den.Good tGiv x) : GivOk x := by
  obtain ⟨_, _, h1, h2, _⟩ := h
  obtain ⟨a, b, c⟩ := good_sl (t := .sl (.arr 4 (.int .u64))) h1 .nil
  obtain ⟨a', b', _⟩ := good_sl (t := .arr 4 (.int .u64)) h2 (fun _ => (0 : Int))
  exact ⟨a, a', b, b', fun i hi => (good_sl (t := .arr 4 (.int .u64)) (c i hi) (fun _ => (0 : Int))).1⟩
abbrev told0 : ToldT := ((((0, 0), (ByteArray.empty, (.nil, (.nil, 0)))), (((0, 0), (ByteArray.empty, (.nil, (.nil, 0)))), (((0, 0), (ByteArray.empty, (.nil, (.nil, 0)))), (0, 0)))))
structure RecOk (r : RecT) : Prop where
  g : GivOk r.2.1
  e : r.2.2.1.isMs = false
  d : r.2.2.2.1.isMs = false
  c : r.2.2.2.2.isMs = false
  en : r.2.2.1.len < 9223372036854775808
  dn : r.2.2.2.1.len < 9223372036854775808
  cn : r.2.2.2.2.len < 9223372036854775808
  t : ∀ k, k < r.2.2.2.2.len → GivOk (SlV.fn told0 r.2.2.2.2 k).1 ∧ GivOk (SlV.fn told0 r.2.2.2.2 k).2.1 ∧ GivOk (SlV.fn told0 r.2.2.2.2 k).2.2.1
theorem good_rec {r : RecT} (h : Go.Den.Good tRec r) : RecOk r := by
  obtain ⟨_, h0, h1, h2, h3⟩ := h
  obtain ⟨a, b, _⟩ := good_sl (t := tVote) h1 (0, ((0, 0), ByteArray.empty))
  obtain ⟨a', b', _⟩ := good_sl (t := tVote) h2 (0, ((0, 0), ByteArray.empty))
  obtain ⟨a2, b2, c2⟩ := good_sl (t := tTold) h3 told0
  exact ⟨good_giv h0, a, a', a2, b, b', b2, fun k hk => ⟨good_giv (c2 k hk).1, good_giv (c2 k hk).2.1, good_giv (c2 k hk).2.2.1⟩⟩
theorem r16_Few_tot (n : Nat) (m : Nat → SlV (Nat → Int)) (hn : n < 9223372036854775808) (hm : ∀ i, i < n → (m i).isMs = false) : ∃ b, r16_Few n m 4 = some b := by
  obtain ⟨y, h1, h2⟩ := loop_seek (R := R_r16_Few_0) (S := Unit) (fun i _ => T_r16_Few_0 n m 4 (i : Int)) (fun _ _ => True) (fun y => y = Y_r16_Few_0_0 false ∨ y = Y_r16_Few_0_1 n m 4) (min n 4)
    (fun i hi _ _ => by
      have hms := hm i (by omega)
      by_cases hs : (((SlV.len (m i)) : Nat) : Int) > 8
      · refine .inr ⟨_, ?_, .inl rfl⟩
        simp (disch := omega) only [R_r16_Few_0, T_r16_Few_0, WW, CC, hms, dec_t hs]
      · refine .inl ⟨(), ?_, trivial⟩
        simp (disch := omega) only [R_r16_Few_0, T_r16_Few_0, WW, CC, hms, dec_f hs])
    (fun _ _ => by
      refine ⟨_, ?_, .inr rfl⟩
      by_cases h : n ≤ 4
      · rw [Nat.min_eq_left h]; simp (disch := omega) only [R_r16_Few_0, T_r16_Few_0, WW]
      · rw [Nat.min_eq_right (by omega)]; simp (disch := omega) only [R_r16_Few_0, T_r16_Few_0, WW]) () trivial
  have h1' : loopF R_r16_Few_0 (((n, m), (4, (0, ()))), ()) = some y := h1
  rw [r16_Few_eq, r16_Few', h1']
  rcases h2 with rfl | rfl
  · exact ⟨_, rfl⟩
  · exact ⟨_, rfl⟩
theorem fewGiven_tot (x : GivT) (h : GivOk x) : ∃ b, r38_fewGiven (x.1, (x.2.1, (((SlV.len x.2.2.1), (SlV.fn (.nil : (SlV (Nat → Int))) x.2.2.1)), (((SlV.len x.2.2.2.1), (SlV.fn ((fun _ => 0) : Nat → Int) x.2.2.2.1)), x.2.2.2.2)))) = some b := by
  obtain ⟨b, hb⟩ := r16_Few_tot x.2.2.1.len (SlV.fn .nil x.2.2.1) h.n h.r
  rw [r38_fewGiven_eq]; unfold r38_fewGiven'
  simp only [hb]
  cases decide (((x.2.1.size : Nat) : Int) ≤ 40) <;> cases b <;> exact ⟨_, rfl⟩
section
variable (i x1 x2 x3 : Int) (nx : Nat) (x4 : Nat → Int) (nx1 : Nat) (x5 : Nat → RecT) (r : ByteArray) (r1 : Int × Int) (r2 : ByteArray) (nr : Nat) (r3 : Nat → SlV (Nat → Int)) (nr1 : Nat) (r4 : Nat → (Nat → Int)) (r5 : Int) (nr2 : Nat) (r6 : Nat → VoteT) (nr3 : Nat) (r7 : Nat → VoteT) (nr4 : Nat) (r8 : Nat → ToldT)
theorem few2 (h : nr2 < 9223372036854775808) : ∃ y, loopF R_r38_Few_2 (T_r38_Few_2 i 0 x1 x2 x3 nx x4 nx1 x5 r r1 r2 nr r3 nr1 r4 r5 nr2 r6 nr3 r7 nr4 r8) = some y ∧ (y = Y_r38_Few_2_0 false ∨ y = Y_r38_Few_2_1 i x1 x2 x3 nx x4 nx1 x5 r r1 r2 nr r3 nr1 r4 r5 nr2 r6 nr3 r7 nr4 r8) := by
  exact loop_seek (R := R_r38_Few_2) (S := Unit) (fun k _ => T_r38_Few_2 i (k : Int) x1 x2 x3 nx x4 nx1 x5 r r1 r2 nr r3 nr1 r4 r5 nr2 r6 nr3 r7 nr4 r8) (fun _ _ => True) _ nr2
    (fun k hk _ _ => by
      by_cases hs : (((r6 k).2.2.size : Nat) : Int) > 40
      · refine .inr ⟨_, ?_, .inl rfl⟩
        simp (disch := omega) only [R_r38_Few_2, T_r38_Few_2, WW, CC, dec_t hs]
      · refine .inl ⟨(), ?_, trivial⟩
        simp (disch := omega) only [R_r38_Few_2, T_r38_Few_2, WW, CC, dec_f hs])
    (fun _ _ => ⟨_, by simp (disch := omega) only [R_r38_Few_2, T_r38_Few_2, WW], .inr rfl⟩) () trivial
theorem few4 (h : nr3 < 9223372036854775808) : ∃ y, loopF R_r38_Few_4 (T_r38_Few_4 i 0 x1 x2 x3 nx x4 nx1 x5 r r1 r2 nr r3 nr1 r4 r5 nr2 r6 nr3 r7 nr4 r8) = some y ∧ (y = Y_r38_Few_4_0 false ∨ y = Y_r38_Few_4_1 i x1 x2 x3 nx x4 nx1 x5 r r1 r2 nr r3 nr1 r4 r5 nr2 r6 nr3 r7 nr4 r8) := by
  exact loop_seek (R := R_r38_Few_4) (S := Unit) (fun k _ => T_r38_Few_4 i (k : Int) x1 x2 x3 nx x4 nx1 x5 r r1 r2 nr r3 nr1 r4 r5 nr2 r6 nr3 r7 nr4 r8) (fun _ _ => True) _ nr3
    (fun k hk _ _ => by
      by_cases hs : (((r7 k).2.2.size : Nat) : Int) > 40
      · refine .inr ⟨_, ?_, .inl rfl⟩
        simp (disch := omega) only [R_r38_Few_4, T_r38_Few_4, WW, CC, dec_t hs]
      · refine .inl ⟨(), ?_, trivial⟩
        simp (disch := omega) only [R_r38_Few_4, T_r38_Few_4, WW, CC, dec_f hs])
    (fun _ _ => ⟨_, by simp (disch := omega) only [R_r38_Few_4, T_r38_Few_4, WW], .inr rfl⟩) () trivial
theorem few6 (h : nr4 < 9223372036854775808) (hg : ∀ k, k < nr4 → GivOk (r8 k).1 ∧ GivOk (r8 k).2.1 ∧ GivOk (r8 k).2.2.1) : ∃ y, loopF R_r38_Few_6 (T_r38_Few_6 i 0 x1 x2 x3 nx x4 nx1 x5 r r1 r2 nr r3 nr1 r4 r5 nr2 r6 nr3 r7 nr4 r8) = some y ∧ (y = Y_r38_Few_6_0 false ∨ y = Y_r38_Few_6_1 i x1 x2 x3 nx x4 nx1 x5) := by
  exact loop_seek (R := R_r38_Few_6) (S := Unit) (fun k _ => T_r38_Few_6 i (k : Int) x1 x2 x3 nx x4 nx1 x5 r r1 r2 nr r3 nr1 r4 r5 nr2 r6 nr3 r7 nr4 r8) (fun _ _ => True) _ nr4
    (fun k hk _ _ => by
      obtain ⟨g1, g2, g3⟩ := hg k hk
      obtain ⟨b1, e1⟩ := fewGiven_tot _ g1
      obtain ⟨b2, e2⟩ := fewGiven_tot _ g2
      obtain ⟨b3, e3⟩ := fewGiven_tot _ g3
      have m1 := g1.m; have m2 := g1.y; have m3 := g2.m; have m4 := g2.y; have m5 := g3.m; have m6 := g3.y
      cases b1
      · refine .inr ⟨_, ?_, .inl rfl⟩
        simp (disch := omega) only [R_r38_Few_6, T_r38_Few_6, WW, CC, m1, m2, e1]
      cases b2
      · refine .inr ⟨_, ?_, .inl rfl⟩
        simp (disch := omega) only [R_r38_Few_6, T_r38_Few_6, WW, CC, m1, m2, e1, m3, m4, e2]
      cases b3
      · refine .inr ⟨_, ?_, .inl rfl⟩
        simp (disch := omega) only [R_r38_Few_6, T_r38_Few_6, WW, CC, m1, m2, e1, m3, m4, e2, m5, m6, e3]
      · refine .inl ⟨(), ?_, trivial⟩
        simp (disch := omega) only [R_r38_Few_6, T_r38_Few_6, WW, CC, m1, m2, e1, m3, m4, e2, m5, m6, e3])
    (fun _ _ => ⟨_, by simp (disch := omega) only [R_r38_Few_6, T_r38_Few_6, WW], .inr rfl⟩) () trivial
end
theorem few0 (x1 x2 x3 : Int) (nx : Nat) (x4 : Nat → Int) (n : Nat) (x5 : Nat → RecT) (hn : n < 9223372036854775808) (hr : ∀ k, k < n → RecOk (x5 k)) :
    ∃ y, loopF R_r38_Few_0 (T_r38_Few_0 0 x1 x2 x3 nx x4 n x5) = some y ∧ (y = Y_r38_Few_0_0 false ∨ y = Y_r38_Few_0_1) := by
  exact loop_seek (R := R_r38_Few_0) (S := Unit) (fun k _ => T_r38_Few_0 (k : Int) x1 x2 x3 nx x4 n x5) (fun _ _ => True) _ n
    (fun k hk _ _ => by
      have h := hr k hk
      have m1 := h.g.m; have m2 := h.g.y; have m3 := h.e; have m4 := h.d; have m5 := h.c
      by_cases c1 : (((x5 k).1.size : Nat) : Int) > 20
      · refine .inr ⟨_, ?_, .inl rfl⟩
        simp (disch := omega) only [R_r38_Few_0, T_r38_Few_0, WW, CC, m1, m2, m3, m4, m5, dec_t c1]
      by_cases c2 : (((SlV.len (x5 k).2.2.1) : Nat) : Int) > 20
      · refine .inr ⟨_, ?_, .inl rfl⟩
        simp (disch := omega) only [R_r38_Few_0, T_r38_Few_0, WW, CC, m1, m2, m3, m4, m5, dec_f c1, dec_t c2]
      by_cases c3 : (((SlV.len (x5 k).2.2.2.1) : Nat) : Int) > 20
      · refine .inr ⟨_, ?_, .inl rfl⟩
        simp (disch := omega) only [R_r38_Few_0, T_r38_Few_0, WW, CC, m1, m2, m3, m4, m5, dec_f c1, dec_f c2, dec_t c3]
      by_cases c4 : (((SlV.len (x5 k).2.2.2.2) : Nat) : Int) > 5
      · refine .inr ⟨_, ?_, .inl rfl⟩
        simp (disch := omega) only [R_r38_Few_0, T_r38_Few_0, WW, CC, m1, m2, m3, m4, m5, dec_f c1, dec_f c2, dec_f c3, dec_t c4]
      obtain ⟨b, e⟩ := fewGiven_tot _ h.g
      cases b
      · refine .inr ⟨_, ?_, .inl rfl⟩
        simp (disch := omega) only [R_r38_Few_0, T_r38_Few_0, WW, CC, m1, m2, m3, m4, m5, dec_f c1, dec_f c2, dec_f c3, dec_f c4, e]
      obtain ⟨y2, e2, d2⟩ := few2 (k : Int) x1 x2 x3 nx x4 n x5 (x5 k).1 (x5 k).2.1.1 (x5 k).2.1.2.1 (SlV.len (x5 k).2.1.2.2.1) (SlV.fn .nil (x5 k).2.1.2.2.1) (SlV.len (x5 k).2.1.2.2.2.1) (SlV.fn (fun _ => 0) (x5 k).2.1.2.2.2.1) (x5 k).2.1.2.2.2.2
        (SlV.len (x5 k).2.2.1) (SlV.fn (0, ((0, 0), ByteArray.empty)) (x5 k).2.2.1) (SlV.len (x5 k).2.2.2.1) (SlV.fn (0, ((0, 0), ByteArray.empty)) (x5 k).2.2.2.1) (SlV.len (x5 k).2.2.2.2) (SlV.fn told0 (x5 k).2.2.2.2) h.en
      obtain ⟨y4, e4, d4⟩ := few4 (k : Int) x1 x2 x3 nx x4 n x5 (x5 k).1 (x5 k).2.1.1 (x5 k).2.1.2.1 (SlV.len (x5 k).2.1.2.2.1) (SlV.fn .nil (x5 k).2.1.2.2.1) (SlV.len (x5 k).2.1.2.2.2.1) (SlV.fn (fun _ => 0) (x5 k).2.1.2.2.2.1) (x5 k).2.1.2.2.2.2
        (SlV.len (x5 k).2.2.1) (SlV.fn (0, ((0, 0), ByteArray.empty)) (x5 k).2.2.1) (SlV.len (x5 k).2.2.2.1) (SlV.fn (0, ((0, 0), ByteArray.empty)) (x5 k).2.2.2.1) (SlV.len (x5 k).2.2.2.2) (SlV.fn told0 (x5 k).2.2.2.2) h.dn
      obtain ⟨y6, e6, d6⟩ := few6 (k : Int) x1 x2 x3 nx x4 n x5 (x5 k).1 (x5 k).2.1.1 (x5 k).2.1.2.1 (SlV.len (x5 k).2.1.2.2.1) (SlV.fn .nil (x5 k).2.1.2.2.1) (SlV.len (x5 k).2.1.2.2.2.1) (SlV.fn (fun _ => 0) (x5 k).2.1.2.2.2.1) (x5 k).2.1.2.2.2.2
        (SlV.len (x5 k).2.2.1) (SlV.fn (0, ((0, 0), ByteArray.empty)) (x5 k).2.2.1) (SlV.len (x5 k).2.2.2.1) (SlV.fn (0, ((0, 0), ByteArray.empty)) (x5 k).2.2.2.1) (SlV.len (x5 k).2.2.2.2) (SlV.fn told0 (x5 k).2.2.2.2) h.cn h.t
      rcases d2 with rfl | rfl
      · refine .inr ⟨_, ?_, .inl rfl⟩
        simp (disch := omega) only [R_r38_Few_0, T_r38_Few_0, WW, CC, m1, m2, m3, m4, m5, dec_f c1, dec_f c2, dec_f c3, dec_f c4, e, e2, Y_r38_Few_2_0]
      rcases d4 with rfl | rfl
      · refine .inr ⟨_, ?_, .inl rfl⟩
        simp (disch := omega) only [R_r38_Few_0, T_r38_Few_0, WW, CC, m1, m2, m3, m4, m5, dec_f c1, dec_f c2, dec_f c3, dec_f c4, e, e2, Y_r38_Few_2_1, e4, Y_r38_Few_4_0]
      rcases d6 with rfl | rfl
      · refine .inr ⟨_, ?_, .inl rfl⟩
        simp (disch := omega) only [R_r38_Few_0, T_r38_Few_0, WW, CC, m1, m2, m3, m4, m5, dec_f c1, dec_f c2, dec_f c3, dec_f c4, e, e2, Y_r38_Few_2_1, e4, Y_r38_Few_4_1, e6, Y_r38_Few_6_0]
      · refine .inl ⟨(), ?_, trivial⟩
        simp (disch := omega) only [R_r38_Few_0, T_r38_Few_0, WW, CC, m1, m2, m3, m4, m5, dec_f c1, dec_f c2, dec_f c3, dec_f c4, e, e2, Y_r38_Few_2_1, e4, Y_r38_Few_4_1, e6, Y_r38_Few_6_1])
    (fun _ _ => ⟨_, by simp (disch := omega) only [R_r38_Few_0, T_r38_Few_0, WW], .inr rfl⟩) () trivial
theorem r38_Few_tot (x1 x2 x3 : Int) (nx : Nat) (x4 : Nat → Int) (n : Nat) (x5 : Nat → RecT) (hn : n < 9223372036854775808) (hr : ∀ k, k < n → RecOk (x5 k)) :
    ∃ b, r38_Few (x1, (x2, (x3, ((nx, x4), (n, x5))))) = some b := by
  obtain ⟨y, h1, h2⟩ := few0 x1 x2 x3 nx x4 n x5 hn hr
  rw [r38_Few_eq]; unfold r38_Few'
  simp only [h1]
  cases decide (((nx : Nat) : Int) > 12) <;> cases decide (((n : Nat) : Int) > 3) <;> (try exact ⟨_, rfl⟩)
  rcases h2 with rfl | rfl <;> exact ⟨_, rfl⟩
theorem r38_Same_plain (a1 a2 a3 : Int) (n : Nat) (u v : Nat → Int) (q p : Nat → RecT) (hn : n < 9223372036854775808) (h : ∀ k, k < n → u k = v k) :
    r38_Same (a1, (a2, (a3, ((n, u), (0, q))))) (a1, (a2, (a3, ((n, v), (0, p))))) = some true := by
  obtain ⟨_, h1, _⟩ := loop_for (R := R_r38_Same_0) (S := Unit) (fun k _ => T_r38_Same_0 (k : Int) a1 a2 a3 n u 0 q a1 a2 a3 n v 0 p) (fun _ => Y_r38_Same_0_1 a1 a2 a3 n u 0 q a1 a2 a3 n v 0 p) (fun _ _ => True) n
    (fun k hk _ _ => ⟨(), by
      have e := h k hk
      have e2 : (v k != v k) = false := by simp
      simp (disch := omega) only [R_r38_Same_0, T_r38_Same_0, WW, CC, e, e2], trivial⟩)
    (fun _ _ => by simp (disch := omega) only [R_r38_Same_0, T_r38_Same_0, WW]) () trivial
  have h2 : loopF R_r38_Same_2 (T_r38_Same_2 0 a1 a2 a3 n u 0 q a1 a2 a3 n v 0 p) = some Y_r38_Same_2_1 := loopF_exit (by simp (disch := omega) only [R_r38_Same_2, T_r38_Same_2, WW])
  have h1' : loopF R_r38_Same_0 (((), ((), (0, ()))), ((a1, (a2, (a3, ((n, u), (0, q))))), ((a1, (a2, (a3, ((n, v), (0, p))))), ()))) = some _ := h1
  have h2' : loopF R_r38_Same_2 (((), ((), (0, ()))), ((a1, (a2, (a3, ((n, u), (0, q))))), ((a1, (a2, (a3, ((n, v), (0, p))))), ()))) = some _ := h2
  rw [r38_Same_eq]; unfold r38_Same'
  have e : ∀ z : Int, (z != z) = false := fun z => by simp
  simp only [e, cond_f, h1', Y_r38_Same_0_1, h2', Y_r38_Same_2_1]
end Go.Pl

namespace Go.Pl
open Go Go.Den Go.Num
def s38 : ByteArray := ByteArray.mk #[1, 2, 1, 5, 0, 0, 0, 0, 0, 0, 0, 0, 0, 0, 0, 0]
def d38 : ByteArray := ByteArray.mk #[139, 194, 125, 75, 209, 181, 99, 149, 211, 121, 197, 44, 186, 182, 12, 234, 34, 239, 55, 50, 139, 16, 18, 16, 118, 0, 32, 247, 136, 116, 166, 41]
def z38 : ByteArray := ByteArray.mk #[1, 2, 1, 5, 0, 0, 0, 0, 0, 0, 0, 0, 0, 0, 0, 0, 139, 194, 125, 75, 209, 181, 99, 149, 211, 121, 197, 44, 186, 182, 12, 234, 34, 239, 55, 50, 139, 16, 18, 16, 118, 0, 32, 247, 136, 116, 166, 41, 120]
def e38 : ByteArray := ByteArray.mk #[1, 2, 1, 5, 0, 0, 0, 0, 0, 0, 0, 0, 0, 0, 0, 0, 139]
def f38 : ByteArray := ByteArray.mk #[58, 20, 245, 101, 198, 27, 42, 192, 103, 125, 213, 224, 236, 98, 88, 168, 229, 132, 12, 246, 133, 160, 60, 58, 253, 157, 219, 217, 234, 150, 154, 148]
def t38 : ByteArray := ByteArray.mk #[194, 125, 75, 209, 181, 99, 149, 211, 121, 197, 44, 186, 182, 12, 234, 34, 239, 55, 50, 139, 16, 18, 16, 118, 0, 32, 247, 136, 116, 166, 41, 120]
theorem s38_dig : digN (bl s38) = d38 := bl_ext (by decide +kernel)
theorem e38_dig : digN (bl e38) = f38 := bl_ext (by decide +kernel)
theorem z38_eq : (s38 ++ d38) ++ ByteArray.mk #[120] = z38 := bl_ext (by decide +kernel)
theorem z38_a : z38.extract 0 17 = e38 := bl_ext (by decide +kernel)
theorem z38_b : z38.extract 17 49 = t38 := bl_ext (by decide +kernel)
theorem s38_sum : sha_Sum (ByteArray.mk #[1, 2, 1, 5, 0, 0, 0, 0, 0, 0, 0, 0, 0, 0, 0, 0]) = some d38 := by
  show sha_Sum s38 = _
  rw [sha_Sum_spec (by decide), s38_dig]
theorem s38_ref : r05_Sum (ByteArray.mk #[1, 2, 1, 5, 0, 0, 0, 0, 0, 0, 0, 0, 0, 0, 0, 0]) = some d38 := by
  show r05_Sum s38 = _
  rw [r05_Sum_spec (by decide), s38_dig]
theorem z38_open : ∃ y, keep_Open ((ByteArray.mk #[1, 2, 1, 5, 0, 0, 0, 0, 0, 0, 0, 0, 0, 0, 0, 0] ++ d38) ++ ByteArray.mk #[120]) = some (y, 4) := by
  have hz : (ByteArray.mk #[1, 2, 1, 5, 0, 0, 0, 0, 0, 0, 0, 0, 0, 0, 0, 0] ++ d38) ++ ByteArray.mk #[120] = z38 := z38_eq
  rw [hz, keep_Open_eq]; unfold keep_Open'
  have e1 : IntKind.i64.wrap (((49 : Nat) : Int) - 32) = 17 := by decide
  have e2 : ((17 : Int)).toNat = 17 := rfl
  have e3 : z38.size = 49 := rfl
  have e4 : sha_Sum e38 = some f38 := by rw [sha_Sum_spec (by decide), e38_dig]
  have e5 : sEq f38 t38 = false := by
    cases h : sEq f38 t38 with
    | false => rfl
    | true => exact absurd (sEq_iff_bl.1 h) (by decide +kernel)
  have d1 : decide ((17 : Int) < 0) = false := rfl
  have d2 : (decide ((0 : Int) ≤ 17) && decide ((17 : Int) ≤ ((49 : Nat) : Int))) = true := by decide
  simp only [e3, e1, d1, cond_f, d2, cond_t, e2, z38_a, e4, z38_b, e5, Bool.not_false]
  exact ⟨_, rfl⟩
theorem awake38 : l38_awake = some true := by
  obtain ⟨g, hg⟩ := least_pick
  obtain ⟨fr, f1, _⟩ := group_Field_spec hg.group
  obtain ⟨y, hy⟩ := z38_open
  rw [l38_awake_eq]; unfold l38_awake'
  have d1 : decide ((((16 + d38.size) : Nat) : Int) > IntKind.i64.max) = false := by decide
  have d2 : decide (((((ByteArray.size ((ByteArray.mk #[1, 2, 1, 5, 0, 0, 0, 0, 0, 0, 0, 0, 0, 0, 0, 0]) ++ d38)) + 1) : Nat) : Int) > IntKind.i64.max) = false := by decide
  have d3 : ((4 : Int) == 4) = true := rfl
  have d4 : ((0 : Int) == 0) = true := rfl
  simp only [s38_sum, d1, cond_f, d2, hy, r07_Least_eq2, hg.made, f1, s38_ref, sEq_refl, cond_t, d3, d4]
  rw [r38_Same_plain _ _ _ 5 _ _ _ _ (by decide) (fun k hk => by
    match k, hk with
    | 0, _ => rfl
    | 1, _ => rfl
    | 2, _ => rfl
    | 3, _ => rfl
    | 4, _ => rfl)]
  simp only [cond_t]
  rw [r38_Same_plain _ _ _ 5 _ _ _ _ (by decide) (fun k hk => by
    match k, hk with
    | 0, _ => rfl
    | 1, _ => rfl
    | 2, _ => rfl
    | 3, _ => rfl
    | 4, _ => rfl)]
end Go.Pl
