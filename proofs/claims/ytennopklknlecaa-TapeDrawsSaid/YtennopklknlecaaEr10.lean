/-
  The functions of a package are the plain ones.
-/
import Derived.Test.YtennopklknlecaaEqA
import Derived.Test.YtennopklknlecaaPr10
set_option linter.unusedVariables false
set_option linter.unusedSimpArgs false
set_option maxRecDepth 100000
set_option maxHeartbeats 0
namespace Go.Pl
end Go.Pl
open Go Go.Den Go.Pl
namespace Go.Proofs.Ytennopklknlecaa
abbrev S_r10_Try_2 : Shape := { sl := [(0, (.v .str)), (3, (.c ⟨(.ptr (.arr 4 (.int .u64))), (.rf 0 [])⟩)), (4, (.c ⟨(.ptr (.arr 4 (.int .u64))), (.rf 1 [])⟩)), (5, (.c ⟨(.ptr (.arr 256 .bool)), (.rf 2 [])⟩)), (6, (.v (.int .i64))), (7, (.v (.int .i64))), (8, (.v (.int .i64)))], ob := [(0, (.v (.arr 4 (.int .u64)))), (1, (.v (.arr 4 (.int .u64)))), (2, (.v (.arr 256 .bool)))], lo := 3, nx := 3 }
abbrev E_r10_Try_2 : List Ex := [(.normal, { sl := [(0, (.v .str)), (3, (.c ⟨(.ptr (.arr 4 (.int .u64))), (.rf 0 [])⟩)), (4, (.c ⟨(.ptr (.arr 4 (.int .u64))), (.rf 1 [])⟩)), (5, (.c ⟨(.ptr (.arr 256 .bool)), (.rf 2 [])⟩)), (6, (.v (.int .i64)))], ob := [(0, (.v (.arr 4 (.int .u64)))), (1, (.v (.arr 4 (.int .u64)))), (2, (.v (.arr 256 .bool)))], lo := 3, nx := 3 })]
noncomputable def L_r10_Try_2 : Code := loopIn (bodyOf Try.f110) 2
noncomputable def P_r10_Try_2 : Lp := lpOf S_r10_Try_2 E_r10_Try_2 49 R_r10_Try_2
abbrev S_r10_Try_0 : Shape := { sl := [(0, (.v .str)), (3, (.c ⟨(.ptr (.arr 4 (.int .u64))), (.rf 0 [])⟩)), (4, (.c ⟨(.ptr (.arr 4 (.int .u64))), (.rf 1 [])⟩)), (5, (.c ⟨(.ptr (.arr 256 .bool)), (.rf 2 [])⟩)), (6, (.v (.int .i64)))], ob := [(0, (.v (.arr 4 (.int .u64)))), (1, (.v (.arr 4 (.int .u64)))), (2, (.v (.arr 256 .bool)))], lo := 3, nx := 3 }
abbrev E_r10_Try_0 : List Ex := [(.normal, { sl := [(4, (.c ⟨(.ptr (.arr 4 (.int .u64))), (.rf 1 [])⟩)), (5, (.c ⟨(.ptr (.arr 256 .bool)), (.rf 2 [])⟩))], ob := [(1, (.v (.arr 4 (.int .u64)))), (2, (.v (.arr 256 .bool)))], lo := 3, nx := 3 })]
noncomputable def L_r10_Try_0 : Code := loopIn (bodyOf Try.f110) 0
noncomputable def P_r10_Try_0 : Lp := lpOf S_r10_Try_0 E_r10_Try_0 49 R_r10_Try_0
noncomputable def c_r10_Try : Con := conV true [.str, (.arr 4 (.int .u64))] [(.arr 4 (.int .u64))] fun x => r10_Try x.1 x.2.1
noncomputable def x_r10_Try : Cx := { ti := ti, con := [(73, c_r01_Len), (76, c_r01_Nat)], fns := [], un := 6 }
theorem xok_r10_Try : CxOk Try.prog x_r10_Try := CxOk.of mixed ti_ok (List.forall_mem_cons.2 ⟨con_r01_Len, List.forall_mem_cons.2 ⟨con_r01_Nat, List.forall_mem_nil _⟩⟩) (List.forall_mem_nil _)
theorem r_r10_Try_2 (x : S_r10_Try_2.X) : denC x_r10_Try [] (denF x_r10_Try 8) L_r10_Try_2 (S_r10_Try_2.mkS 49 x) (kRound 2 S_r10_Try_2 E_r10_Try_2) = R_r10_Try_2 x := by kernel_rfl
theorem l_r10_Try_2 : LpOk Try.prog 2 (.loop L_r10_Try_2) P_r10_Try_2 := lpOf_ok xok_r10_Try 8 (lps_nil) S_r10_Try_2 E_r10_Try_2 49 R_r10_Try_2 (by decide) r_r10_Try_2
theorem r_r10_Try_0 (x : S_r10_Try_0.X) : denC x_r10_Try [(2, P_r10_Try_2)] (denF x_r10_Try 8) L_r10_Try_0 (S_r10_Try_0.mkS 49 x) (kRound 0 S_r10_Try_0 E_r10_Try_0) = R_r10_Try_0 x := by kernel_rfl
theorem l_r10_Try_0 : LpOk Try.prog 0 (.loop L_r10_Try_0) P_r10_Try_0 := lpOf_ok xok_r10_Try 8 (lps_of (by kernel_rfl) (lps_one l_r10_Try_2 (by kernel_rfl) (List.forall_mem_nil _))) S_r10_Try_0 E_r10_Try_0 49 R_r10_Try_0 (by decide) r_r10_Try_0
theorem fn_r10_Try : FnOk Try.prog 110 Try.f110 [(2, P_r10_Try_2), (0, P_r10_Try_0)] := ⟨Try.func110, Try.call110, lps_of (by kernel_rfl) (lps_one l_r10_Try_2 (by kernel_rfl) (lps_one l_r10_Try_0 (by kernel_rfl) (List.forall_mem_nil _)))⟩
theorem e_r10_Try (s : ByteArray) (q : (Nat → Int)) : bodyK x_r10_Try [(2, P_r10_Try_2), (0, P_r10_Try_0)] (denF x_r10_Try 8) Try.f110 (domV [.str, (.arr 4 (.int .u64))] (s, q, ())) [] 0 (kOut [(.arr 4 (.int .u64))]) = r10_Try' s q := by kernel_rfl
theorem con_r10_Try : ConOk Try.prog 110 c_r10_Try := con_ok xok_r10_Try 8 fn_r10_Try true [.str, (.arr 4 (.int .u64))] [(.arr 4 (.int .u64))] _ (by decide) (fun x => by rw [r10_Try_eq]; exact e_r10_Try x.1 x.2.1)
abbrev S_r10_Draw_0 : Shape := { sl := [(0, (.v .str)), (3, (.c ⟨(.ptr (.arr 4 (.int .u64))), (.rf 0 [])⟩)), (4, (.c ⟨(.ptr (.arr 4 (.int .u64))), (.rf 1 [])⟩)), (6, (.v (.int .i64))), (7, (.v (.int .i64)))], ob := [(0, (.v (.arr 4 (.int .u64)))), (1, (.v (.arr 4 (.int .u64))))], lo := 2, nx := 2 }
abbrev E_r10_Draw_0 : List Ex := [(.ret, { sl := [(4, (.c ⟨(.ptr (.arr 4 (.int .u64))), (.rf 1 [])⟩)), (5, (.v (.int .i64)))], ob := [(1, (.v (.arr 4 (.int .u64))))], lo := 3, nx := 3 }), (.normal, { sl := [(4, (.c ⟨(.ptr (.arr 4 (.int .u64))), (.rf 1 [])⟩))], ob := [(1, (.v (.arr 4 (.int .u64))))], lo := 2, nx := 2 })]
noncomputable def L_r10_Draw_0 : Code := loopIn (bodyOf Try.f69) 0
noncomputable def P_r10_Draw_0 : Lp := lpOf S_r10_Draw_0 E_r10_Draw_0 39 R_r10_Draw_0
noncomputable def c_r10_Draw : Con := conV true [.str, (.arr 4 (.int .u64))] [(.arr 4 (.int .u64)), (.int .i64)] fun x => r10_Draw x.1 x.2.1
noncomputable def x_r10_Draw : Cx := { ti := ti, con := [(73, c_r01_Len), (110, c_r10_Try), (34, c_r01_Cmp)], fns := [], un := 6 }
theorem xok_r10_Draw : CxOk Try.prog x_r10_Draw := CxOk.of mixed ti_ok (List.forall_mem_cons.2 ⟨con_r01_Len, List.forall_mem_cons.2 ⟨con_r10_Try, List.forall_mem_cons.2 ⟨con_r01_Cmp, List.forall_mem_nil _⟩⟩⟩) (List.forall_mem_nil _)
theorem r_r10_Draw_0 (x : S_r10_Draw_0.X) : denC x_r10_Draw [] (denF x_r10_Draw 8) L_r10_Draw_0 (S_r10_Draw_0.mkS 39 x) (kRound 0 S_r10_Draw_0 E_r10_Draw_0) = R_r10_Draw_0 x := by kernel_rfl
theorem l_r10_Draw_0 : LpOk Try.prog 0 (.loop L_r10_Draw_0) P_r10_Draw_0 := lpOf_ok xok_r10_Draw 8 (lps_nil) S_r10_Draw_0 E_r10_Draw_0 39 R_r10_Draw_0 (by decide) r_r10_Draw_0
theorem fn_r10_Draw : FnOk Try.prog 69 Try.f69 [(0, P_r10_Draw_0)] := ⟨Try.func69, Try.call69, lps_of (by kernel_rfl) (lps_one l_r10_Draw_0 (by kernel_rfl) (List.forall_mem_nil _))⟩
theorem e_r10_Draw (s : ByteArray) (q : (Nat → Int)) : bodyK x_r10_Draw [(0, P_r10_Draw_0)] (denF x_r10_Draw 8) Try.f69 (domV [.str, (.arr 4 (.int .u64))] (s, q, ())) [] 0 (kOut [(.arr 4 (.int .u64)), (.int .i64)]) = r10_Draw' s q := by kernel_rfl
theorem con_r10_Draw : ConOk Try.prog 69 c_r10_Draw := con_ok xok_r10_Draw 8 fn_r10_Draw true [.str, (.arr 4 (.int .u64))] [(.arr 4 (.int .u64)), (.int .i64)] _ (by decide) (fun x => by rw [r10_Draw_eq]; exact e_r10_Draw x.1 x.2.1)
abbrev S_r10_Draws_0 : Shape := { sl := [(0, (.v .str)), (2, (.v (.int .i64))), (4, (.c ⟨(.ptr (.arr 4 (.int .u64))), (.rf 0 [])⟩)), (9, (.w 35 (.arr 4 (.int .u64)) 1)), (10, (.v (.int .i64))), (11, (.v (.int .i64)))], ob := [(0, (.v (.arr 4 (.int .u64))))], lo := 1, nx := 2 }
abbrev E_r10_Draws_0 : List Ex := [(.ret, { sl := [(6, (.sz (.arr 4 (.int .u64)))), (7, (.v (.int .i64))), (8, (.v .bool))], ob := [], lo := 3, nx := 3 }), (.normal, { sl := [(9, (.w 35 (.arr 4 (.int .u64)) 2)), (10, (.v (.int .i64)))], ob := [], lo := 2, nx := 3 })]
noncomputable def L_r10_Draws_0 : Code := loopIn (bodyOf Try.f23) 0
noncomputable def P_r10_Draws_0 : Lp := lpOf S_r10_Draws_0 E_r10_Draws_0 38 R_r10_Draws_0
noncomputable def c_r10_Draws : Con := conV false [.str, (.arr 4 (.int .u64)), (.int .i64)] [(.sl (.arr 4 (.int .u64))), (.int .i64), .bool] fun x => r10_Draws x.1 x.2.1 x.2.2.1
noncomputable def x_r10_Draws : Cx := { ti := ti, con := [(69, c_r10_Draw)], fns := [], un := 6 }
theorem xok_r10_Draws : CxOk Try.prog x_r10_Draws := CxOk.of mixed ti_ok (List.forall_mem_cons.2 ⟨con_r10_Draw, List.forall_mem_nil _⟩) (List.forall_mem_nil _)
theorem r_r10_Draws_0 (x : S_r10_Draws_0.X) : denC x_r10_Draws [] (denF x_r10_Draws 8) L_r10_Draws_0 (S_r10_Draws_0.mkS 38 x) (kRound 0 S_r10_Draws_0 E_r10_Draws_0) = R_r10_Draws_0 x := by kernel_rfl
theorem l_r10_Draws_0 : LpOk Try.prog 0 (.loop L_r10_Draws_0) P_r10_Draws_0 := lpOf_ok xok_r10_Draws 8 (lps_nil) S_r10_Draws_0 E_r10_Draws_0 38 R_r10_Draws_0 (by decide) r_r10_Draws_0
theorem fn_r10_Draws : FnOk Try.prog 23 Try.f23 [(0, P_r10_Draws_0)] := ⟨Try.func23, Try.call23, lps_of (by kernel_rfl) (lps_one l_r10_Draws_0 (by kernel_rfl) (List.forall_mem_nil _))⟩
theorem e_r10_Draws (s : ByteArray) (q : (Nat → Int)) (n : Int) : bodyK x_r10_Draws [(0, P_r10_Draws_0)] (denF x_r10_Draws 8) Try.f23 (domV [.str, (.arr 4 (.int .u64)), (.int .i64)] (s, q, n, ())) [] 0 (kOut [(.sl (.arr 4 (.int .u64))), (.int .i64), .bool]) = r10_Draws' s q n := by kernel_rfl
theorem con_r10_Draws : ConOk Try.prog 23 c_r10_Draws := con_ok xok_r10_Draws 8 fn_r10_Draws false [.str, (.arr 4 (.int .u64)), (.int .i64)] [(.sl (.arr 4 (.int .u64))), (.int .i64), .bool] _ (by decide) (fun x => by rw [r10_Draws_eq]; exact e_r10_Draws x.1 x.2.1 x.2.2.1)
end Go.Proofs.Ytennopklknlecaa
