/-
  The functions of a package are the plain ones.
-/
import Derived.Test.YtennopklknlecaaEqA
import Derived.Test.YtennopklknlecaaPr35
set_option linter.unusedVariables false
set_option linter.unusedSimpArgs false
set_option maxRecDepth 100000
set_option maxHeartbeats 0
namespace Go.Pl
end Go.Pl
open Go Go.Den Go.Pl
namespace Go.Proofs.Ytennopklknlecaa
noncomputable def c_r35_Exp : Con := conV true [(.pair (.int .i64) (.pair (.int .i64) (.int .i64))), (.arr 4 (.int .u64)), (.int .i64), (.arr 4 (.int .u64))] [(.arr 4 (.int .u64)), (.int .i64)] fun x => r35_Exp x.1 x.2.1 x.2.2.1 x.2.2.2.1
noncomputable def x_r35_Exp : Cx := { ti := ti, con := [(73, c_r01_Len), (30, c_r08_By), (82, c_r09_Exp), (31, c_r01_Int)], fns := [], un := 6 }
theorem xok_r35_Exp : CxOk Try.prog x_r35_Exp := CxOk.of mixed ti_ok (List.forall_mem_cons.2 ⟨con_r01_Len, List.forall_mem_cons.2 ⟨con_r08_By, List.forall_mem_cons.2 ⟨con_r09_Exp, List.forall_mem_cons.2 ⟨con_r01_Int, List.forall_mem_nil _⟩⟩⟩⟩) (List.forall_mem_nil _)
theorem fn_r35_Exp : FnOk Try.prog 38 Try.f38 [] := ⟨Try.func38, Try.call38, lps_nil⟩
theorem e_r35_Exp (s : (Int × (Int × Int))) (base : (Nat → Int)) (bits : Int) (e : (Nat → Int)) : bodyK x_r35_Exp [] (denF x_r35_Exp 8) Try.f38 (domV [(.pair (.int .i64) (.pair (.int .i64) (.int .i64))), (.arr 4 (.int .u64)), (.int .i64), (.arr 4 (.int .u64))] (s, base, bits, e, ())) [] 0 (kOut [(.arr 4 (.int .u64)), (.int .i64)]) = r35_Exp' s base bits e := by kernel_rfl
theorem con_r35_Exp : ConOk Try.prog 38 c_r35_Exp := con_ok xok_r35_Exp 8 fn_r35_Exp true [(.pair (.int .i64) (.pair (.int .i64) (.int .i64))), (.arr 4 (.int .u64)), (.int .i64), (.arr 4 (.int .u64))] [(.arr 4 (.int .u64)), (.int .i64)] _ (by decide) (fun x => by rw [r35_Exp_eq]; exact e_r35_Exp x.1 x.2.1 x.2.2.1 x.2.2.2.1)
abbrev S_r35_Multi_0 : Shape := { sl := [(1, (.sz (.arr 4 (.int .u64)))), (2, (.sz (.int .i64))), (3, (.sz (.arr 4 (.int .u64)))), (4, (.c ⟨(.ptr (.pair (.int .i64) (.pair (.int .i64) (.int .i64)))), (.rf 0 [])⟩)), (8, (.c ⟨(.ptr (.arr 4 (.int .u64))), (.rf 1 [])⟩)), (10, (.v (.int .i64)))], ob := [(0, (.v (.pair (.int .i64) (.pair (.int .i64) (.int .i64))))), (1, (.v (.arr 4 (.int .u64))))], lo := 2, nx := 2 }
abbrev E_r35_Multi_0 : List Ex := [(.ret, { sl := [(8, (.c ⟨(.ptr (.arr 4 (.int .u64))), (.rf 1 [])⟩)), (9, (.v (.int .i64)))], ob := [(1, (.v (.arr 4 (.int .u64))))], lo := 2, nx := 2 }), (.normal, { sl := [(1, (.sz (.arr 4 (.int .u64)))), (3, (.sz (.arr 4 (.int .u64)))), (4, (.c ⟨(.ptr (.pair (.int .i64) (.pair (.int .i64) (.int .i64)))), (.rf 0 [])⟩)), (8, (.c ⟨(.ptr (.arr 4 (.int .u64))), (.rf 1 [])⟩))], ob := [(0, (.v (.pair (.int .i64) (.pair (.int .i64) (.int .i64))))), (1, (.v (.arr 4 (.int .u64))))], lo := 2, nx := 2 })]
noncomputable def L_r35_Multi_0 : Code := loopIn (bodyOf Try.f42) 0
noncomputable def P_r35_Multi_0 : Lp := lpOf S_r35_Multi_0 E_r35_Multi_0 45 R_r35_Multi_0
noncomputable def c_r35_Multi : Con := conV true [(.pair (.int .i64) (.pair (.int .i64) (.int .i64))), (.sl (.arr 4 (.int .u64))), (.sl (.int .i64)), (.sl (.arr 4 (.int .u64)))] [(.arr 4 (.int .u64)), (.int .i64)] fun x => r35_Multi x.1 x.2.1.1 x.2.1.2 x.2.2.1.1 x.2.2.1.2 x.2.2.2.1.1 x.2.2.2.1.2
noncomputable def x_r35_Multi : Cx := { ti := ti, con := [(73, c_r01_Len), (84, c_r09_Multi), (31, c_r01_Int)], fns := [], un := 6 }
theorem xok_r35_Multi : CxOk Try.prog x_r35_Multi := CxOk.of mixed ti_ok (List.forall_mem_cons.2 ⟨con_r01_Len, List.forall_mem_cons.2 ⟨con_r09_Multi, List.forall_mem_cons.2 ⟨con_r01_Int, List.forall_mem_nil _⟩⟩⟩) (List.forall_mem_nil _)
theorem r_r35_Multi_0 (x : S_r35_Multi_0.X) : denC x_r35_Multi [] (denF x_r35_Multi 8) L_r35_Multi_0 (S_r35_Multi_0.mkS 45 x) (kRound 0 S_r35_Multi_0 E_r35_Multi_0) = R_r35_Multi_0 x := by kernel_rfl
theorem l_r35_Multi_0 : LpOk Try.prog 0 (.loop L_r35_Multi_0) P_r35_Multi_0 := lpOf_ok xok_r35_Multi 8 (lps_nil) S_r35_Multi_0 E_r35_Multi_0 45 R_r35_Multi_0 (by decide) r_r35_Multi_0
theorem fn_r35_Multi : FnOk Try.prog 42 Try.f42 [(0, P_r35_Multi_0)] := ⟨Try.func42, Try.call42, lps_of (by kernel_rfl) (lps_one l_r35_Multi_0 (by kernel_rfl) (List.forall_mem_nil _))⟩
theorem e_r35_Multi (s : (Int × (Int × Int))) (nbases : Nat) (bases : Nat → (Nat → Int)) (nbits : Nat) (bits : Nat → Int) (nexps : Nat) (exps : Nat → (Nat → Int)) : bodyK x_r35_Multi [(0, P_r35_Multi_0)] (denF x_r35_Multi 8) Try.f42 (domV [(.pair (.int .i64) (.pair (.int .i64) (.int .i64))), (.sl (.arr 4 (.int .u64))), (.sl (.int .i64)), (.sl (.arr 4 (.int .u64)))] (s, (nbases, bases), (nbits, bits), (nexps, exps), ())) [] 0 (kOut [(.arr 4 (.int .u64)), (.int .i64)]) = r35_Multi' s nbases bases nbits bits nexps exps := by kernel_rfl
theorem con_r35_Multi : ConOk Try.prog 42 c_r35_Multi := con_ok xok_r35_Multi 8 fn_r35_Multi true [(.pair (.int .i64) (.pair (.int .i64) (.int .i64))), (.sl (.arr 4 (.int .u64))), (.sl (.int .i64)), (.sl (.arr 4 (.int .u64)))] [(.arr 4 (.int .u64)), (.int .i64)] _ (by decide) (fun x => by rw [r35_Multi_eq]; exact e_r35_Multi x.1 x.2.1.1 x.2.1.2 x.2.2.1.1 x.2.2.1.2 x.2.2.2.1.1 x.2.2.2.1.2)
end Go.Proofs.Ytennopklknlecaa
