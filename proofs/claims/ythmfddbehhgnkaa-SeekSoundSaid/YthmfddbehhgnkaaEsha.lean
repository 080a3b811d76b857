/-
  The functions of a package are the plain ones.
-/
import Derived.Test.YthmfddbehhgnkaaEqA
import Derived.Test.YthmfddbehhgnkaaDenF
import Derived.Test.YthmfddbehhgnkaaPsha
set_option linter.unusedVariables false
set_option linter.unusedSimpArgs false
set_option maxRecDepth 100000
set_option maxHeartbeats 0
namespace Go.Pl
end Go.Pl
open Go Go.Den Go.Pl
namespace Go.Proofs.Ythmfddbehhgnkaa
noncomputable def c_sha_first : Con := conV true [] [(.arr 8 (.int .u32))] fun x => sha_first 
noncomputable def x_sha_first : Cx := { ti := ti, con := [], fns := [], un := 6 }
theorem xok_sha_first : CxOk Try.prog x_sha_first := CxOk.of mixed ti_ok (List.forall_mem_nil _) (List.forall_mem_nil _)
theorem fn_sha_first : FnOk Try.prog 93 Try.f93 [] := ⟨Try.func93, Try.call93, lps_nil⟩
theorem e_sha_first  : bodyK x_sha_first [] (denF x_sha_first 8) Try.f93 (domV [] (())) [] 0 (kOut [(.arr 8 (.int .u32))]) = sha_first'  := by kernel_rfl
theorem con_sha_first : ConOk Try.prog 93 c_sha_first := con_ok xok_sha_first 8 fn_sha_first true [] [(.arr 8 (.int .u32))] _ (by decide) (fun x => by rw [sha_first_eq]; exact e_sha_first )
abbrev I_sha_New_m : Shape := { sl := [], ob := [], lo := 0, nx := 0 }
abbrev O_sha_New_m : List Shape := [{ sl := [(0, (.c ⟨(.ptr (.pair .bool (.pair (.arr 8 (.int .u32)) (.pair (.arr 64 (.int .u8)) (.int .i64))))), (.rf 0 [])⟩))], ob := [(0, (.v (.pair .bool (.pair (.arr 8 (.int .u32)) (.pair (.arr 64 (.int .u8)) (.int .i64))))))], lo := 1, nx := 1 }]
noncomputable def c_sha_New_m : Con := conS I_sha_New_m O_sha_New_m fun x => sha_New_m 
noncomputable def x_sha_New_m : Cx := { ti := ti, con := [(93, c_sha_first)], fns := [], un := 6 }
theorem xok_sha_New_m : CxOk Try.prog x_sha_New_m := CxOk.of mixed ti_ok (List.forall_mem_cons.2 ⟨con_sha_first, List.forall_mem_nil _⟩) (List.forall_mem_nil _)
theorem fn_sha_New_m : FnOk Try.prog 88 Try.f88 [] := ⟨Try.func88, Try.call88, lps_nil⟩
theorem e_sha_New_m  : bodyK x_sha_New_m [] (denF x_sha_New_m 8) Try.f88 ((mkVals I_sha_New_m.sl (show I_sha_New_m.X from ((), ())).1).map .v) (shHp I_sha_New_m ((), ())) I_sha_New_m.nx (kOutS 1 O_sha_New_m) = sha_New_m'  := by kernel_rfl
theorem con_sha_New_m : ConOk Try.prog 88 c_sha_New_m := conS_ok xok_sha_New_m 8 fn_sha_New_m 1 I_sha_New_m O_sha_New_m _ (by decide) (fun x => by rw [sha_New_m_eq]; exact e_sha_New_m )
noncomputable def c_sha_constants : Con := conV true [] [(.arr 64 (.int .u32))] fun x => sha_constants 
noncomputable def x_sha_constants : Cx := { ti := ti, con := [], fns := [], un := 6 }
theorem xok_sha_constants : CxOk Try.prog x_sha_constants := CxOk.of mixed ti_ok (List.forall_mem_nil _) (List.forall_mem_nil _)
theorem fn_sha_constants : FnOk Try.prog 95 Try.f95 [] := ⟨Try.func95, Try.call95, lps_nil⟩
theorem e_sha_constants  : bodyK x_sha_constants [] (denF x_sha_constants 8) Try.f95 (domV [] (())) [] 0 (kOut [(.arr 64 (.int .u32))]) = sha_constants'  := by kernel_rfl
theorem con_sha_constants : ConOk Try.prog 95 c_sha_constants := con_ok xok_sha_constants 8 fn_sha_constants true [] [(.arr 64 (.int .u32))] _ (by decide) (fun x => by rw [sha_constants_eq]; exact e_sha_constants )
noncomputable def c_sha_turned : Con := conV true [(.int .u32), (.int .i64)] [(.int .u32)] fun x => sha_turned x.1 x.2.1
noncomputable def x_sha_turned : Cx := { ti := ti, con := [(98, c_bits_RotateLeft32)], fns := [], un := 6 }
theorem xok_sha_turned : CxOk Try.prog x_sha_turned := CxOk.of mixed ti_ok (List.forall_mem_cons.2 ⟨con_bits_RotateLeft32, List.forall_mem_nil _⟩) (List.forall_mem_nil _)
theorem fn_sha_turned : FnOk Try.prog 97 Try.f97 [] := ⟨Try.func97, Try.call97, lps_nil⟩
theorem e_sha_turned (x : Int) (n : Int) : bodyK x_sha_turned [] (denF x_sha_turned 8) Try.f97 (domV [(.int .u32), (.int .i64)] (x, n, ())) [] 0 (kOut [(.int .u32)]) = sha_turned' x n := by kernel_rfl
theorem con_sha_turned : ConOk Try.prog 97 c_sha_turned := con_ok xok_sha_turned 8 fn_sha_turned true [(.int .u32), (.int .i64)] [(.int .u32)] _ (by decide) (fun x => by rw [sha_turned_eq]; exact e_sha_turned x.1 x.2.1)
abbrev S_sha_schedule_0 : Shape := { sl := [(1, (.c ⟨(.ptr (.arr 64 (.int .u8))), (.rf 0 [])⟩)), (2, (.c ⟨(.ptr (.arr 64 (.int .u32))), (.rf 1 [])⟩)), (3, (.c ⟨(.ptr (.arr 64 (.int .u32))), (.rf 2 [])⟩)), (10, (.v (.int .i64)))], ob := [(0, (.v (.arr 64 (.int .u8)))), (1, (.v (.arr 64 (.int .u32)))), (2, (.v (.arr 64 (.int .u32))))], lo := 3, nx := 3 }
abbrev E_sha_schedule_0 : List Ex := [(.normal, { sl := [(2, (.c ⟨(.ptr (.arr 64 (.int .u32))), (.rf 1 [])⟩)), (3, (.c ⟨(.ptr (.arr 64 (.int .u32))), (.rf 2 [])⟩))], ob := [(1, (.v (.arr 64 (.int .u32)))), (2, (.v (.arr 64 (.int .u32))))], lo := 3, nx := 3 })]
noncomputable def L_sha_schedule_0 : Code := loopIn (bodyOf Try.f96) 0
noncomputable def P_sha_schedule_0 : Lp := lpOf S_sha_schedule_0 E_sha_schedule_0 89 R_sha_schedule_0
abbrev S_sha_schedule_2 : Shape := { sl := [(2, (.c ⟨(.ptr (.arr 64 (.int .u32))), (.rf 1 [])⟩)), (3, (.c ⟨(.ptr (.arr 64 (.int .u32))), (.rf 2 [])⟩)), (5, (.v (.int .i64)))], ob := [(1, (.v (.arr 64 (.int .u32)))), (2, (.v (.arr 64 (.int .u32))))], lo := 3, nx := 3 }
abbrev E_sha_schedule_2 : List Ex := [(.normal, { sl := [(2, (.c ⟨(.ptr (.arr 64 (.int .u32))), (.rf 1 [])⟩)), (3, (.c ⟨(.ptr (.arr 64 (.int .u32))), (.rf 2 [])⟩))], ob := [(1, (.v (.arr 64 (.int .u32)))), (2, (.v (.arr 64 (.int .u32))))], lo := 3, nx := 3 })]
noncomputable def L_sha_schedule_2 : Code := loopIn (bodyOf Try.f96) 2
noncomputable def P_sha_schedule_2 : Lp := lpOf S_sha_schedule_2 E_sha_schedule_2 89 R_sha_schedule_2
noncomputable def c_sha_schedule : Con := conV true [(.arr 64 (.int .u8))] [(.arr 64 (.int .u32))] fun x => sha_schedule x.1
noncomputable def x_sha_schedule : Cx := { ti := ti, con := [(97, c_sha_turned)], fns := [], un := 6 }
theorem xok_sha_schedule : CxOk Try.prog x_sha_schedule := CxOk.of mixed ti_ok (List.forall_mem_cons.2 ⟨con_sha_turned, List.forall_mem_nil _⟩) (List.forall_mem_nil _)
theorem r_sha_schedule_0 (x : S_sha_schedule_0.X) : denC x_sha_schedule [] (denF x_sha_schedule 8) L_sha_schedule_0 (S_sha_schedule_0.mkS 89 x) (kRound 0 S_sha_schedule_0 E_sha_schedule_0) = R_sha_schedule_0 x := by kernel_rfl
theorem l_sha_schedule_0 : LpOk Try.prog 0 (.loop L_sha_schedule_0) P_sha_schedule_0 := lpOf_ok xok_sha_schedule 8 (lps_nil) S_sha_schedule_0 E_sha_schedule_0 89 R_sha_schedule_0 (by decide) r_sha_schedule_0
theorem r_sha_schedule_2 (x : S_sha_schedule_2.X) : denC x_sha_schedule [] (denF x_sha_schedule 8) L_sha_schedule_2 (S_sha_schedule_2.mkS 89 x) (kRound 2 S_sha_schedule_2 E_sha_schedule_2) = R_sha_schedule_2 x := by kernel_rfl
theorem l_sha_schedule_2 : LpOk Try.prog 2 (.loop L_sha_schedule_2) P_sha_schedule_2 := lpOf_ok xok_sha_schedule 8 (lps_nil) S_sha_schedule_2 E_sha_schedule_2 89 R_sha_schedule_2 (by decide) r_sha_schedule_2
theorem fn_sha_schedule : FnOk Try.prog 96 Try.f96 [(0, P_sha_schedule_0), (2, P_sha_schedule_2)] := ⟨Try.func96, Try.call96, lps_of (by kernel_rfl) (lps_one l_sha_schedule_0 (by kernel_rfl) (lps_one l_sha_schedule_2 (by kernel_rfl) (List.forall_mem_nil _)))⟩
theorem e_sha_schedule (b : (Nat → Int)) : bodyK x_sha_schedule [(0, P_sha_schedule_0), (2, P_sha_schedule_2)] (denF x_sha_schedule 8) Try.f96 (domV [(.arr 64 (.int .u8))] (b, ())) [] 0 (kOut [(.arr 64 (.int .u32))]) = sha_schedule' b := by kernel_rfl
theorem con_sha_schedule : ConOk Try.prog 96 c_sha_schedule := con_ok xok_sha_schedule 8 fn_sha_schedule true [(.arr 64 (.int .u8))] [(.arr 64 (.int .u32))] _ (by decide) (fun x => by rw [sha_schedule_eq]; exact e_sha_schedule x.1)
abbrev S_sha_mixed_0 : Shape := { sl := [(2, (.c ⟨(.ptr (.arr 8 (.int .u32))), (.rf 0 [])⟩)), (4, (.c ⟨(.ptr (.arr 8 (.int .u32))), (.rf 2 [])⟩)), (5, (.c ⟨(.ptr (.arr 64 (.int .u32))), (.rf 3 [])⟩)), (6, (.c ⟨(.ptr (.arr 64 (.int .u32))), (.rf 4 [])⟩)), (7, (.c ⟨(.ptr (.arr 8 (.int .u32))), (.rf 5 [])⟩)), (18, (.v (.int .i64)))], ob := [(0, (.v (.arr 8 (.int .u32)))), (2, (.v (.arr 8 (.int .u32)))), (3, (.v (.arr 64 (.int .u32)))), (4, (.v (.arr 64 (.int .u32)))), (5, (.v (.arr 8 (.int .u32))))], lo := 6, nx := 6 }
abbrev E_sha_mixed_0 : List Ex := [(.normal, { sl := [(2, (.c ⟨(.ptr (.arr 8 (.int .u32))), (.rf 0 [])⟩)), (4, (.c ⟨(.ptr (.arr 8 (.int .u32))), (.rf 2 [])⟩)), (7, (.c ⟨(.ptr (.arr 8 (.int .u32))), (.rf 5 [])⟩))], ob := [(0, (.v (.arr 8 (.int .u32)))), (2, (.v (.arr 8 (.int .u32)))), (5, (.v (.arr 8 (.int .u32))))], lo := 6, nx := 6 })]
noncomputable def L_sha_mixed_0 : Code := loopIn (bodyOf Try.f94) 0
noncomputable def P_sha_mixed_0 : Lp := lpOf S_sha_mixed_0 E_sha_mixed_0 109 R_sha_mixed_0
abbrev S_sha_mixed_2 : Shape := { sl := [(2, (.c ⟨(.ptr (.arr 8 (.int .u32))), (.rf 0 [])⟩)), (4, (.c ⟨(.ptr (.arr 8 (.int .u32))), (.rf 2 [])⟩)), (7, (.c ⟨(.ptr (.arr 8 (.int .u32))), (.rf 5 [])⟩)), (96, (.v (.int .i64)))], ob := [(0, (.v (.arr 8 (.int .u32)))), (2, (.v (.arr 8 (.int .u32)))), (5, (.v (.arr 8 (.int .u32))))], lo := 6, nx := 6 }
abbrev E_sha_mixed_2 : List Ex := [(.normal, { sl := [(4, (.c ⟨(.ptr (.arr 8 (.int .u32))), (.rf 2 [])⟩)), (7, (.c ⟨(.ptr (.arr 8 (.int .u32))), (.rf 5 [])⟩))], ob := [(2, (.v (.arr 8 (.int .u32)))), (5, (.v (.arr 8 (.int .u32))))], lo := 6, nx := 6 })]
noncomputable def L_sha_mixed_2 : Code := loopIn (bodyOf Try.f94) 2
noncomputable def P_sha_mixed_2 : Lp := lpOf S_sha_mixed_2 E_sha_mixed_2 109 R_sha_mixed_2
noncomputable def c_sha_mixed : Con := conV true [(.arr 8 (.int .u32)), (.arr 64 (.int .u8))] [(.arr 8 (.int .u32))] fun x => sha_mixed x.1 x.2.1
noncomputable def x_sha_mixed : Cx := { ti := ti, con := [(95, c_sha_constants), (96, c_sha_schedule), (97, c_sha_turned)], fns := [], un := 6 }
theorem xok_sha_mixed : CxOk Try.prog x_sha_mixed := CxOk.of mixed ti_ok (List.forall_mem_cons.2 ⟨con_sha_constants, List.forall_mem_cons.2 ⟨con_sha_schedule, List.forall_mem_cons.2 ⟨con_sha_turned, List.forall_mem_nil _⟩⟩⟩) (List.forall_mem_nil _)
theorem r_sha_mixed_0 (x : S_sha_mixed_0.X) : denC x_sha_mixed [] (denF x_sha_mixed 8) L_sha_mixed_0 (S_sha_mixed_0.mkS 109 x) (kRound 0 S_sha_mixed_0 E_sha_mixed_0) = R_sha_mixed_0 x := by kernel_rfl
theorem l_sha_mixed_0 : LpOk Try.prog 0 (.loop L_sha_mixed_0) P_sha_mixed_0 := lpOf_ok xok_sha_mixed 8 (lps_nil) S_sha_mixed_0 E_sha_mixed_0 109 R_sha_mixed_0 (by decide) r_sha_mixed_0
theorem r_sha_mixed_2 (x : S_sha_mixed_2.X) : denC x_sha_mixed [] (denF x_sha_mixed 8) L_sha_mixed_2 (S_sha_mixed_2.mkS 109 x) (kRound 2 S_sha_mixed_2 E_sha_mixed_2) = R_sha_mixed_2 x := by kernel_rfl
theorem l_sha_mixed_2 : LpOk Try.prog 2 (.loop L_sha_mixed_2) P_sha_mixed_2 := lpOf_ok xok_sha_mixed 8 (lps_nil) S_sha_mixed_2 E_sha_mixed_2 109 R_sha_mixed_2 (by decide) r_sha_mixed_2
theorem fn_sha_mixed : FnOk Try.prog 94 Try.f94 [(0, P_sha_mixed_0), (2, P_sha_mixed_2)] := ⟨Try.func94, Try.call94, lps_of (by kernel_rfl) (lps_one l_sha_mixed_0 (by kernel_rfl) (lps_one l_sha_mixed_2 (by kernel_rfl) (List.forall_mem_nil _)))⟩
theorem e_sha_mixed (v : (Nat → Int)) (b : (Nat → Int)) : bodyK x_sha_mixed [(0, P_sha_mixed_0), (2, P_sha_mixed_2)] (denF x_sha_mixed 8) Try.f94 (domV [(.arr 8 (.int .u32)), (.arr 64 (.int .u8))] (v, b, ())) [] 0 (kOut [(.arr 8 (.int .u32))]) = sha_mixed' v b := by kernel_rfl
theorem con_sha_mixed : ConOk Try.prog 94 c_sha_mixed := con_ok xok_sha_mixed 8 fn_sha_mixed true [(.arr 8 (.int .u32)), (.arr 64 (.int .u8))] [(.arr 8 (.int .u32))] _ (by decide) (fun x => by rw [sha_mixed_eq]; exact e_sha_mixed x.1 x.2.1)
abbrev S_sha_Hash_Add_m_0 : Shape := { sl := [(0, (.c ⟨(.ptr (.pair .bool (.pair (.arr 8 (.int .u32)) (.pair (.arr 64 (.int .u8)) (.int .i64))))), (.rf 0 [])⟩)), (1, (.v .str))], ob := [(0, (.v (.pair .bool (.pair (.arr 8 (.int .u32)) (.pair (.arr 64 (.int .u8)) (.int .i64))))))], lo := 1, nx := 1 }
abbrev E_sha_Hash_Add_m_0 : List Ex := [(.normal, { sl := [(0, (.c ⟨(.ptr (.pair .bool (.pair (.arr 8 (.int .u32)) (.pair (.arr 64 (.int .u8)) (.int .i64))))), (.rf 0 [])⟩))], ob := [(0, (.v (.pair .bool (.pair (.arr 8 (.int .u32)) (.pair (.arr 64 (.int .u8)) (.int .i64))))))], lo := 1, nx := 1 })]
noncomputable def L_sha_Hash_Add_m_0 : Code := loopIn (bodyOf Try.f89) 0
noncomputable def P_sha_Hash_Add_m_0 : Lp := lpOf S_sha_Hash_Add_m_0 E_sha_Hash_Add_m_0 56 R_sha_Hash_Add_m_0
abbrev I_sha_Hash_Add_m : Shape := { sl := [(0, (.c ⟨(.ptr (.pair .bool (.pair (.arr 8 (.int .u32)) (.pair (.arr 64 (.int .u8)) (.int .i64))))), (.rf 0 [])⟩)), (1, (.v .str))], ob := [(0, (.v (.pair .bool (.pair (.arr 8 (.int .u32)) (.pair (.arr 64 (.int .u8)) (.int .i64))))))], lo := 1, nx := 1 }
abbrev O_sha_Hash_Add_m : List Shape := [{ sl := [], ob := [(0, (.v (.pair .bool (.pair (.arr 8 (.int .u32)) (.pair (.arr 64 (.int .u8)) (.int .i64))))))], lo := 1, nx := 1 }]
noncomputable def c_sha_Hash_Add_m : Con := conS I_sha_Hash_Add_m O_sha_Hash_Add_m fun x => sha_Hash_Add_m x.1.2.1 x.2.1
noncomputable def x_sha_Hash_Add_m : Cx := { ti := ti, con := [(94, c_sha_mixed)], fns := [], un := 6 }
theorem xok_sha_Hash_Add_m : CxOk Try.prog x_sha_Hash_Add_m := CxOk.of mixed ti_ok (List.forall_mem_cons.2 ⟨con_sha_mixed, List.forall_mem_nil _⟩) (List.forall_mem_nil _)
theorem r_sha_Hash_Add_m_0 (x : S_sha_Hash_Add_m_0.X) : denC x_sha_Hash_Add_m [] (denF x_sha_Hash_Add_m 8) L_sha_Hash_Add_m_0 (S_sha_Hash_Add_m_0.mkS 56 x) (kRound 0 S_sha_Hash_Add_m_0 E_sha_Hash_Add_m_0) = R_sha_Hash_Add_m_0 x := by kernel_rfl
theorem l_sha_Hash_Add_m_0 : LpOk Try.prog 0 (.loop L_sha_Hash_Add_m_0) P_sha_Hash_Add_m_0 := lpOf_ok xok_sha_Hash_Add_m 8 (lps_nil) S_sha_Hash_Add_m_0 E_sha_Hash_Add_m_0 56 R_sha_Hash_Add_m_0 (by decide) r_sha_Hash_Add_m_0
theorem fn_sha_Hash_Add_m : FnOk Try.prog 89 Try.f89 [(0, P_sha_Hash_Add_m_0)] := ⟨Try.func89, Try.call89, lps_of (by kernel_rfl) (lps_one l_sha_Hash_Add_m_0 (by kernel_rfl) (List.forall_mem_nil _))⟩
theorem e_sha_Hash_Add_m (s : ByteArray) (h : (Bool × ((Nat → Int) × ((Nat → Int) × Int)))) : bodyK x_sha_Hash_Add_m [(0, P_sha_Hash_Add_m_0)] (denF x_sha_Hash_Add_m 8) Try.f89 ((mkVals I_sha_Hash_Add_m.sl (show I_sha_Hash_Add_m.X from (((), (s, ())), (h, ()))).1).map .v) (shHp I_sha_Hash_Add_m (((), (s, ())), (h, ()))) I_sha_Hash_Add_m.nx (kOutS 0 O_sha_Hash_Add_m) = sha_Hash_Add_m' s h := by kernel_rfl
theorem con_sha_Hash_Add_m : ConOk Try.prog 89 c_sha_Hash_Add_m := conS_ok xok_sha_Hash_Add_m 8 fn_sha_Hash_Add_m 0 I_sha_Hash_Add_m O_sha_Hash_Add_m _ (by decide) (fun x => by rw [sha_Hash_Add_m_eq]; exact e_sha_Hash_Add_m x.1.2.1 x.2.1)
abbrev S_sha_Hash_Sum_0 : Shape := { sl := [(0, (.pz (.pair .bool (.pair (.arr 8 (.int .u32)) (.pair (.arr 64 (.int .u8)) (.int .i64)))))), (3, (.c ⟨(.ptr (.pair .bool (.pair (.arr 8 (.int .u32)) (.pair (.arr 64 (.int .u8)) (.int .i64))))), (.rf 0 [])⟩))], ob := [(0, (.v (.pair .bool (.pair (.arr 8 (.int .u32)) (.pair (.arr 64 (.int .u8)) (.int .i64))))))], lo := 1, nx := 1 }
abbrev E_sha_Hash_Sum_0 : List Ex := [(.normal, { sl := [(0, (.pz (.pair .bool (.pair (.arr 8 (.int .u32)) (.pair (.arr 64 (.int .u8)) (.int .i64)))))), (3, (.c ⟨(.ptr (.pair .bool (.pair (.arr 8 (.int .u32)) (.pair (.arr 64 (.int .u8)) (.int .i64))))), (.rf 0 [])⟩))], ob := [(0, (.v (.pair .bool (.pair (.arr 8 (.int .u32)) (.pair (.arr 64 (.int .u8)) (.int .i64))))))], lo := 1, nx := 1 })]
noncomputable def L_sha_Hash_Sum_0 : Code := loopIn (bodyOf Try.f90) 0
noncomputable def P_sha_Hash_Sum_0 : Lp := lpOf S_sha_Hash_Sum_0 E_sha_Hash_Sum_0 69 R_sha_Hash_Sum_0
abbrev S_sha_Hash_Sum_2 : Shape := { sl := [(0, (.pz (.pair .bool (.pair (.arr 8 (.int .u32)) (.pair (.arr 64 (.int .u8)) (.int .i64)))))), (3, (.c ⟨(.ptr (.pair .bool (.pair (.arr 8 (.int .u32)) (.pair (.arr 64 (.int .u8)) (.int .i64))))), (.rf 0 [])⟩)), (4, (.c ⟨(.ptr (.arr 8 (.int .u8))), (.rf 1 [])⟩)), (27, (.v (.int .i64)))], ob := [(0, (.v (.pair .bool (.pair (.arr 8 (.int .u32)) (.pair (.arr 64 (.int .u8)) (.int .i64)))))), (1, (.v (.arr 8 (.int .u8))))], lo := 2, nx := 2 }
abbrev E_sha_Hash_Sum_2 : List Ex := [(.normal, { sl := [(3, (.c ⟨(.ptr (.pair .bool (.pair (.arr 8 (.int .u32)) (.pair (.arr 64 (.int .u8)) (.int .i64))))), (.rf 0 [])⟩)), (4, (.c ⟨(.ptr (.arr 8 (.int .u8))), (.rf 1 [])⟩))], ob := [(0, (.v (.pair .bool (.pair (.arr 8 (.int .u32)) (.pair (.arr 64 (.int .u8)) (.int .i64)))))), (1, (.v (.arr 8 (.int .u8))))], lo := 2, nx := 2 })]
noncomputable def L_sha_Hash_Sum_2 : Code := loopIn (bodyOf Try.f90) 2
noncomputable def P_sha_Hash_Sum_2 : Lp := lpOf S_sha_Hash_Sum_2 E_sha_Hash_Sum_2 69 R_sha_Hash_Sum_2
abbrev S_sha_Hash_Sum_4 : Shape := { sl := [(6, (.w 5 (.int .u8) 3)), (48, (.v (.arr 8 (.int .u32)))), (49, (.v (.int .i64)))], ob := [], lo := 3, nx := 4 }
abbrev E_sha_Hash_Sum_4 : List Ex := [(.normal, { sl := [(6, (.w 5 (.int .u8) 4))], ob := [], lo := 4, nx := 5 })]
noncomputable def L_sha_Hash_Sum_4 : Code := loopIn (bodyOf Try.f90) 4
noncomputable def P_sha_Hash_Sum_4 : Lp := lpOf S_sha_Hash_Sum_4 E_sha_Hash_Sum_4 69 R_sha_Hash_Sum_4
noncomputable def c_sha_Hash_Sum : Con := conV true [(.ptr (.pair .bool (.pair (.arr 8 (.int .u32)) (.pair (.arr 64 (.int .u8)) (.int .i64)))))] [.str] fun x => sha_Hash_Sum x.1
noncomputable def x_sha_Hash_Sum : Cx := { ti := ti, con := [(89, c_sha_Hash_Add_m)], fns := [], un := 6 }
theorem xok_sha_Hash_Sum : CxOk Try.prog x_sha_Hash_Sum := CxOk.of mixed ti_ok (List.forall_mem_cons.2 ⟨con_sha_Hash_Add_m, List.forall_mem_nil _⟩) (List.forall_mem_nil _)
theorem r_sha_Hash_Sum_0 (x : S_sha_Hash_Sum_0.X) : denC x_sha_Hash_Sum [] (denF x_sha_Hash_Sum 8) L_sha_Hash_Sum_0 (S_sha_Hash_Sum_0.mkS 69 x) (kRound 0 S_sha_Hash_Sum_0 E_sha_Hash_Sum_0) = R_sha_Hash_Sum_0 x := by kernel_rfl
theorem l_sha_Hash_Sum_0 : LpOk Try.prog 0 (.loop L_sha_Hash_Sum_0) P_sha_Hash_Sum_0 := lpOf_ok xok_sha_Hash_Sum 8 (lps_nil) S_sha_Hash_Sum_0 E_sha_Hash_Sum_0 69 R_sha_Hash_Sum_0 (by decide) r_sha_Hash_Sum_0
theorem r_sha_Hash_Sum_2 (x : S_sha_Hash_Sum_2.X) : denC x_sha_Hash_Sum [] (denF x_sha_Hash_Sum 8) L_sha_Hash_Sum_2 (S_sha_Hash_Sum_2.mkS 69 x) (kRound 2 S_sha_Hash_Sum_2 E_sha_Hash_Sum_2) = R_sha_Hash_Sum_2 x := by kernel_rfl
theorem l_sha_Hash_Sum_2 : LpOk Try.prog 2 (.loop L_sha_Hash_Sum_2) P_sha_Hash_Sum_2 := lpOf_ok xok_sha_Hash_Sum 8 (lps_nil) S_sha_Hash_Sum_2 E_sha_Hash_Sum_2 69 R_sha_Hash_Sum_2 (by decide) r_sha_Hash_Sum_2
theorem r_sha_Hash_Sum_4 (x : S_sha_Hash_Sum_4.X) : denC x_sha_Hash_Sum [] (denF x_sha_Hash_Sum 8) L_sha_Hash_Sum_4 (S_sha_Hash_Sum_4.mkS 69 x) (kRound 4 S_sha_Hash_Sum_4 E_sha_Hash_Sum_4) = R_sha_Hash_Sum_4 x := by kernel_rfl
theorem l_sha_Hash_Sum_4 : LpOk Try.prog 4 (.loop L_sha_Hash_Sum_4) P_sha_Hash_Sum_4 := lpOf_ok xok_sha_Hash_Sum 8 (lps_nil) S_sha_Hash_Sum_4 E_sha_Hash_Sum_4 69 R_sha_Hash_Sum_4 (by decide) r_sha_Hash_Sum_4
theorem fn_sha_Hash_Sum : FnOk Try.prog 90 Try.f90 [(0, P_sha_Hash_Sum_0), (2, P_sha_Hash_Sum_2), (4, P_sha_Hash_Sum_4)] := ⟨Try.func90, Try.call90, lps_of (by kernel_rfl) (lps_one l_sha_Hash_Sum_0 (by kernel_rfl) (lps_one l_sha_Hash_Sum_2 (by kernel_rfl) (lps_one l_sha_Hash_Sum_4 (by kernel_rfl) (List.forall_mem_nil _))))⟩
theorem e_sha_Hash_Sum (h : (Option (Bool × ((Nat → Int) × ((Nat → Int) × Int))))) : bodyK x_sha_Hash_Sum [(0, P_sha_Hash_Sum_0), (2, P_sha_Hash_Sum_2), (4, P_sha_Hash_Sum_4)] (denF x_sha_Hash_Sum 8) Try.f90 (domV [(.ptr (.pair .bool (.pair (.arr 8 (.int .u32)) (.pair (.arr 64 (.int .u8)) (.int .i64)))))] (h, ())) [] 0 (kOut [.str]) = sha_Hash_Sum' h := by cases h <;> kernel_rfl
theorem con_sha_Hash_Sum : ConOk Try.prog 90 c_sha_Hash_Sum := con_ok xok_sha_Hash_Sum 8 fn_sha_Hash_Sum true [(.ptr (.pair .bool (.pair (.arr 8 (.int .u32)) (.pair (.arr 64 (.int .u8)) (.int .i64)))))] [.str] _ (by decide) (fun x => by rw [sha_Hash_Sum_eq]; exact e_sha_Hash_Sum x.1)
noncomputable def c_sha_Sum : Con := conV true [.str] [.str] fun x => sha_Sum x.1
noncomputable def x_sha_Sum : Cx := { ti := ti, con := [(88, c_sha_New_m), (89, c_sha_Hash_Add_m), (90, c_sha_Hash_Sum)], fns := [], un := 6 }
theorem xok_sha_Sum : CxOk Try.prog x_sha_Sum := CxOk.of mixed ti_ok (List.forall_mem_cons.2 ⟨con_sha_New_m, List.forall_mem_cons.2 ⟨con_sha_Hash_Add_m, List.forall_mem_cons.2 ⟨con_sha_Hash_Sum, List.forall_mem_nil _⟩⟩⟩) (List.forall_mem_nil _)
theorem fn_sha_Sum : FnOk Try.prog 79 Try.f79 [] := ⟨Try.func79, Try.call79, lps_nil⟩
theorem e_sha_Sum (s : ByteArray) : bodyK x_sha_Sum [] (denF x_sha_Sum 8) Try.f79 (domV [.str] (s, ())) [] 0 (kOut [.str]) = sha_Sum' s := by kernel_rfl
theorem con_sha_Sum : ConOk Try.prog 79 c_sha_Sum := con_ok xok_sha_Sum 8 fn_sha_Sum true [.str] [.str] _ (by decide) (fun x => by rw [sha_Sum_eq]; exact e_sha_Sum x.1)
end Go.Proofs.Ythmfddbehhgnkaa
