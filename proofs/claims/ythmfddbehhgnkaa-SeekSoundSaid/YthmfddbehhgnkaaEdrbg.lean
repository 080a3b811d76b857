/-
  The functions of a package are the plain ones.
-/
import Derived.Test.YthmfddbehhgnkaaEqA
import Derived.Test.YthmfddbehhgnkaaLib
import Derived.Test.YthmfddbehhgnkaaDenF
import Derived.Test.YthmfddbehhgnkaaPdrbg
import Derived.Test.YthmfddbehhgnkaaEhmac
set_option linter.unusedVariables false
set_option linter.unusedSimpArgs false
set_option maxRecDepth 100000
set_option maxHeartbeats 0
namespace Go.Pl
end Go.Pl
open Go Go.Den Go.Pl
namespace Go.Proofs.Ythmfddbehhgnkaa
noncomputable def c_drbg_seeds : Con := conV true [.str] [.bool] fun x => drbg_seeds x.1
noncomputable def x_drbg_seeds : Cx := { ti := ti, con := [], fns := [], un := 6 }
theorem xok_drbg_seeds : CxOk Try.prog x_drbg_seeds := CxOk.of mixed ti_ok (List.forall_mem_nil _) (List.forall_mem_nil _)
theorem fn_drbg_seeds : FnOk Try.prog 42 Try.f42 [] := ⟨Try.func42, Try.call42, lps_nil⟩
theorem e_drbg_seeds (x : ByteArray) : bodyK x_drbg_seeds [] (denF x_drbg_seeds 8) Try.f42 (domV [.str] (x, ())) [] 0 (kOut [.bool]) = drbg_seeds' x := by kernel_rfl
theorem con_drbg_seeds : ConOk Try.prog 42 c_drbg_seeds := con_ok xok_drbg_seeds 8 fn_drbg_seeds true [.str] [.bool] _ (by decide) (fun x => by rw [drbg_seeds_eq]; exact e_drbg_seeds x.1)
noncomputable def c_drbg_text : Con := conV true [(.sl .str)] [.str] fun x => drbg_text x.1.1 x.1.2
noncomputable def x_drbg_text : Cx := { ti := ti, con := [(81, c_strJoin)], fns := [], un := 6 }
theorem xok_drbg_text : CxOk Try.prog x_drbg_text := CxOk.of mixed ti_ok (List.forall_mem_cons.2 ⟨con_strJoin, List.forall_mem_nil _⟩) (List.forall_mem_nil _)
theorem fn_drbg_text : FnOk Try.prog 68 Try.f68 [] := ⟨Try.func68, Try.call68, lps_nil⟩
theorem e_drbg_text (nl : Nat) (l : Nat → ByteArray) : bodyK x_drbg_text [] (denF x_drbg_text 8) Try.f68 (domV [(.sl .str)] ((nl, l), ())) [] 0 (kOut [.str]) = drbg_text' nl l := by kernel_rfl
theorem con_drbg_text : ConOk Try.prog 68 c_drbg_text := con_ok xok_drbg_text 8 fn_drbg_text true [(.sl .str)] [.str] _ (by decide) (fun x => by rw [drbg_text_eq]; exact e_drbg_text x.1.1 x.1.2)
abbrev I_drbg_Source_stirs_m : Shape := { sl := [(0, (.c ⟨(.ptr (.pair .str (.pair .str (.int .i64)))), (.rf 0 [])⟩)), (1, (.v .str))], ob := [(0, (.v (.pair .str (.pair .str (.int .i64)))))], lo := 1, nx := 1 }
abbrev O_drbg_Source_stirs_m : List Shape := [{ sl := [], ob := [(0, (.v (.pair .str (.pair .str (.int .i64)))))], lo := 3, nx := 3 }]
noncomputable def c_drbg_Source_stirs_m : Con := conS I_drbg_Source_stirs_m O_drbg_Source_stirs_m fun x => drbg_Source_stirs_m x.1.2.1 x.2.1
noncomputable def x_drbg_Source_stirs_m : Cx := { ti := ti, con := [(68, c_drbg_text), (67, c_hmac_Sum)], fns := [], un := 6 }
theorem xok_drbg_Source_stirs_m : CxOk Try.prog x_drbg_Source_stirs_m := CxOk.of mixed ti_ok (List.forall_mem_cons.2 ⟨con_drbg_text, List.forall_mem_cons.2 ⟨con_hmac_Sum, List.forall_mem_nil _⟩⟩) (List.forall_mem_nil _)
theorem fn_drbg_Source_stirs_m : FnOk Try.prog 44 Try.f44 [] := ⟨Try.func44, Try.call44, lps_nil⟩
theorem e_drbg_Source_stirs_m (x1 : ByteArray) (s : (ByteArray × (ByteArray × Int))) : bodyK x_drbg_Source_stirs_m [] (denF x_drbg_Source_stirs_m 8) Try.f44 ((mkVals I_drbg_Source_stirs_m.sl (show I_drbg_Source_stirs_m.X from (((), (x1, ())), (s, ()))).1).map .v) (shHp I_drbg_Source_stirs_m (((), (x1, ())), (s, ()))) I_drbg_Source_stirs_m.nx (kOutS 0 O_drbg_Source_stirs_m) = drbg_Source_stirs_m' x1 s := by kernel_rfl
theorem con_drbg_Source_stirs_m : ConOk Try.prog 44 c_drbg_Source_stirs_m := conS_ok xok_drbg_Source_stirs_m 8 fn_drbg_Source_stirs_m 0 I_drbg_Source_stirs_m O_drbg_Source_stirs_m _ (by decide) (fun x => by rw [drbg_Source_stirs_m_eq]; exact e_drbg_Source_stirs_m x.1.2.1 x.2.1)
noncomputable def c_drbg_Source_stirs : Con := conV true [(.ptr (.pair .str (.pair .str (.int .i64)))), .str] [] fun x => drbg_Source_stirs x.1 x.2.1
noncomputable def x_drbg_Source_stirs : Cx := { ti := ti, con := [(68, c_drbg_text), (67, c_hmac_Sum)], fns := [], un := 6 }
theorem xok_drbg_Source_stirs : CxOk Try.prog x_drbg_Source_stirs := CxOk.of mixed ti_ok (List.forall_mem_cons.2 ⟨con_drbg_text, List.forall_mem_cons.2 ⟨con_hmac_Sum, List.forall_mem_nil _⟩⟩) (List.forall_mem_nil _)
theorem fn_drbg_Source_stirs : FnOk Try.prog 44 Try.f44 [] := ⟨Try.func44, Try.call44, lps_nil⟩
theorem e_drbg_Source_stirs (s : (Option (ByteArray × (ByteArray × Int)))) (x : ByteArray) : bodyK x_drbg_Source_stirs [] (denF x_drbg_Source_stirs 8) Try.f44 (domV [(.ptr (.pair .str (.pair .str (.int .i64)))), .str] (s, x, ())) [] 0 (kOut []) = drbg_Source_stirs' s x := by cases s <;> kernel_rfl
theorem con_drbg_Source_stirs : ConOk Try.prog 44 c_drbg_Source_stirs := con_ok xok_drbg_Source_stirs 8 fn_drbg_Source_stirs true [(.ptr (.pair .str (.pair .str (.int .i64)))), .str] [] _ (by decide) (fun x => by rw [drbg_Source_stirs_eq]; exact e_drbg_Source_stirs x.1 x.2.1)
abbrev I_drbg_New_m : Shape := { sl := [(0, (.v .str))], ob := [], lo := 0, nx := 0 }
abbrev O_drbg_New_m : List Shape := [{ sl := [(0, (.c ⟨(.ptr (.pair .str (.pair .str (.int .i64)))), .nil⟩)), (1, (.v (.int .i64)))], ob := [], lo := 0, nx := 0 }, { sl := [(0, (.c ⟨(.ptr (.pair .str (.pair .str (.int .i64)))), (.rf 0 [])⟩)), (1, (.v (.int .i64)))], ob := [(0, (.v (.pair .str (.pair .str (.int .i64)))))], lo := 3, nx := 3 }]
noncomputable def c_drbg_New_m : Con := conS I_drbg_New_m O_drbg_New_m fun x => drbg_New_m x.1.1
noncomputable def x_drbg_New_m : Cx := { ti := ti, con := [(42, c_drbg_seeds), (43, c_strRepeat), (44, conIf 0 c_drbg_Source_stirs_m c_drbg_Source_stirs)], fns := [], un := 6 }
theorem xok_drbg_New_m : CxOk Try.prog x_drbg_New_m := CxOk.of mixed ti_ok (List.forall_mem_cons.2 ⟨con_drbg_seeds, List.forall_mem_cons.2 ⟨con_strRepeat, List.forall_mem_cons.2 ⟨conIf_ok con_drbg_Source_stirs_m con_drbg_Source_stirs, List.forall_mem_nil _⟩⟩⟩) (List.forall_mem_nil _)
theorem fn_drbg_New_m : FnOk Try.prog 16 Try.f16 [] := ⟨Try.func16, Try.call16, lps_nil⟩
theorem e_drbg_New_m (seed : ByteArray) : bodyK x_drbg_New_m [] (denF x_drbg_New_m 8) Try.f16 ((mkVals I_drbg_New_m.sl (show I_drbg_New_m.X from ((seed, ()), ())).1).map .v) (shHp I_drbg_New_m ((seed, ()), ())) I_drbg_New_m.nx (kOutS 2 O_drbg_New_m) = drbg_New_m' seed := by kernel_rfl
theorem con_drbg_New_m : ConOk Try.prog 16 c_drbg_New_m := conS_ok xok_drbg_New_m 8 fn_drbg_New_m 2 I_drbg_New_m O_drbg_New_m _ (by decide) (fun x => by rw [drbg_New_m_eq]; exact e_drbg_New_m x.1.1)
noncomputable def c_drbg_Source_given : Con := conV true [(.ptr (.pair .str (.pair .str (.int .i64))))] [.bool] fun x => drbg_Source_given x.1
noncomputable def x_drbg_Source_given : Cx := { ti := ti, con := [], fns := [], un := 6 }
theorem xok_drbg_Source_given : CxOk Try.prog x_drbg_Source_given := CxOk.of mixed ti_ok (List.forall_mem_nil _) (List.forall_mem_nil _)
theorem fn_drbg_Source_given : FnOk Try.prog 82 Try.f82 [] := ⟨Try.func82, Try.call82, lps_nil⟩
theorem e_drbg_Source_given (s : (Option (ByteArray × (ByteArray × Int)))) : bodyK x_drbg_Source_given [] (denF x_drbg_Source_given 8) Try.f82 (domV [(.ptr (.pair .str (.pair .str (.int .i64))))] (s, ())) [] 0 (kOut [.bool]) = drbg_Source_given' s := by cases s <;> kernel_rfl
theorem con_drbg_Source_given : ConOk Try.prog 82 c_drbg_Source_given := con_ok xok_drbg_Source_given 8 fn_drbg_Source_given true [(.ptr (.pair .str (.pair .str (.int .i64))))] [.bool] _ (by decide) (fun x => by rw [drbg_Source_given_eq]; exact e_drbg_Source_given x.1)
abbrev S_drbg_Source_Bytes_m_1 : Shape := { sl := [(0, (.c ⟨(.ptr (.pair .str (.pair .str (.int .i64)))), (.rf 0 [])⟩)), (1, (.v (.int .i64))), (2, (.v .str)), (8, (.c ⟨(.ptr (.pair (.sp 112) (.sl (.int .u8)))), (.rf 3 [])⟩))], ob := [(0, (.v (.pair .str (.pair .str (.int .i64))))), (3, (.p (.v (.sp 112)) (.w 5 (.int .u8) 4)))], lo := 4, nx := 5 }
abbrev E_drbg_Source_Bytes_m_1 : List Ex := [(.normal, { sl := [(0, (.c ⟨(.ptr (.pair .str (.pair .str (.int .i64)))), (.rf 0 [])⟩)), (1, (.v (.int .i64))), (2, (.v .str)), (8, (.c ⟨(.ptr (.pair (.sp 112) (.sl (.int .u8)))), (.rf 3 [])⟩))], ob := [(0, (.v (.pair .str (.pair .str (.int .i64))))), (3, (.p (.v (.sp 112)) (.w 5 (.int .u8) 5)))], lo := 5, nx := 6 })]
noncomputable def L_drbg_Source_Bytes_m_1 : Code := loopIn (bodyOf Try.f69) 1
noncomputable def P_drbg_Source_Bytes_m_1 : Lp := lpOf S_drbg_Source_Bytes_m_1 E_drbg_Source_Bytes_m_1 70 R_drbg_Source_Bytes_m_1
abbrev S_drbg_Source_Bytes_m_1_v1 : Shape := { sl := [(0, (.c ⟨(.ptr (.pair .str (.pair .str (.int .i64)))), (.rf 0 [])⟩)), (1, (.v (.int .i64))), (2, (.v .str)), (8, (.c ⟨(.ptr (.pair (.sp 112) (.sl (.int .u8)))), (.rf 1 [])⟩))], ob := [(0, (.v (.pair .str (.pair .str (.int .i64))))), (1, (.p (.v (.sp 112)) (.w 5 (.int .u8) 2)))], lo := 2, nx := 3 }
abbrev E_drbg_Source_Bytes_m_1_v1 : List Ex := [(.normal, { sl := [(0, (.c ⟨(.ptr (.pair .str (.pair .str (.int .i64)))), (.rf 0 [])⟩)), (1, (.v (.int .i64))), (2, (.v .str)), (8, (.c ⟨(.ptr (.pair (.sp 112) (.sl (.int .u8)))), (.rf 1 [])⟩))], ob := [(0, (.v (.pair .str (.pair .str (.int .i64))))), (1, (.p (.v (.sp 112)) (.w 5 (.int .u8) 3)))], lo := 3, nx := 4 })]
noncomputable def L_drbg_Source_Bytes_m_1_v1 : Code := loopIn (bodyOf Try.f69) 1
noncomputable def P_drbg_Source_Bytes_m_1_v1 : Lp := lpOf S_drbg_Source_Bytes_m_1_v1 E_drbg_Source_Bytes_m_1_v1 70 R_drbg_Source_Bytes_m_1_v1
abbrev I_drbg_Source_Bytes_m : Shape := { sl := [(0, (.c ⟨(.ptr (.pair .str (.pair .str (.int .i64)))), (.rf 0 [])⟩)), (1, (.v (.int .i64))), (2, (.v .str))], ob := [(0, (.v (.pair .str (.pair .str (.int .i64)))))], lo := 1, nx := 1 }
abbrev O_drbg_Source_Bytes_m : List Shape := [{ sl := [(0, (.v .str)), (1, (.v (.int .i64)))], ob := [(0, (.v (.pair .str (.pair .str (.int .i64)))))], lo := 8, nx := 8 }]
noncomputable def c_drbg_Source_Bytes_m : Con := conS I_drbg_Source_Bytes_m O_drbg_Source_Bytes_m fun x => drbg_Source_Bytes_m x.1.2.1 x.1.2.2.1 x.2.1
noncomputable def x_drbg_Source_Bytes_m : Cx := { ti := ti, con := [(82, c_drbg_Source_given), (44, conIf 0 c_drbg_Source_stirs_m c_drbg_Source_stirs), (67, c_hmac_Sum), (77, c_copyCheck)], fns := [(65, Try.f65, []), (64, Try.f64, []), (66, Try.f66, [])], un := 6 }
theorem xok_drbg_Source_Bytes_m : CxOk Try.prog x_drbg_Source_Bytes_m := CxOk.of mixed ti_ok (List.forall_mem_cons.2 ⟨con_drbg_Source_given, List.forall_mem_cons.2 ⟨conIf_ok con_drbg_Source_stirs_m con_drbg_Source_stirs, List.forall_mem_cons.2 ⟨con_hmac_Sum, List.forall_mem_cons.2 ⟨con_copyCheck, List.forall_mem_nil _⟩⟩⟩⟩) (List.forall_mem_cons.2 ⟨⟨Try.func65, Try.call65, lps_nil⟩, List.forall_mem_cons.2 ⟨⟨Try.func64, Try.call64, lps_nil⟩, List.forall_mem_cons.2 ⟨⟨Try.func66, Try.call66, lps_nil⟩, List.forall_mem_nil _⟩⟩⟩)
theorem r_drbg_Source_Bytes_m_1 (x : S_drbg_Source_Bytes_m_1.X) : denC x_drbg_Source_Bytes_m [] (denF x_drbg_Source_Bytes_m 8) L_drbg_Source_Bytes_m_1 (S_drbg_Source_Bytes_m_1.mkS 70 x) (kRound 1 S_drbg_Source_Bytes_m_1 E_drbg_Source_Bytes_m_1) = R_drbg_Source_Bytes_m_1 x := by kernel_rfl
theorem l_drbg_Source_Bytes_m_1 : LpOk Try.prog 1 (.loop L_drbg_Source_Bytes_m_1) P_drbg_Source_Bytes_m_1 := lpOf_ok xok_drbg_Source_Bytes_m 8 (lps_nil) S_drbg_Source_Bytes_m_1 E_drbg_Source_Bytes_m_1 70 R_drbg_Source_Bytes_m_1 (by decide) r_drbg_Source_Bytes_m_1
theorem r_drbg_Source_Bytes_m_1_v1 (x : S_drbg_Source_Bytes_m_1_v1.X) : denC x_drbg_Source_Bytes_m [] (denF x_drbg_Source_Bytes_m 8) L_drbg_Source_Bytes_m_1_v1 (S_drbg_Source_Bytes_m_1_v1.mkS 70 x) (kRound 1 S_drbg_Source_Bytes_m_1_v1 E_drbg_Source_Bytes_m_1_v1) = R_drbg_Source_Bytes_m_1_v1 x := by kernel_rfl
theorem l_drbg_Source_Bytes_m_1_v1 : LpOk Try.prog 1 (.loop L_drbg_Source_Bytes_m_1_v1) P_drbg_Source_Bytes_m_1_v1 := lpOf_ok xok_drbg_Source_Bytes_m 8 (lps_nil) S_drbg_Source_Bytes_m_1_v1 E_drbg_Source_Bytes_m_1_v1 70 R_drbg_Source_Bytes_m_1_v1 (by decide) r_drbg_Source_Bytes_m_1_v1
theorem fn_drbg_Source_Bytes_m : FnOk Try.prog 69 Try.f69 [(1, (lpOr S_drbg_Source_Bytes_m_1 P_drbg_Source_Bytes_m_1 P_drbg_Source_Bytes_m_1_v1))] := ⟨Try.func69, Try.call69, lps_of (by kernel_rfl) (lps_one (lpOr_ok l_drbg_Source_Bytes_m_1 l_drbg_Source_Bytes_m_1_v1) (by kernel_rfl) (List.forall_mem_nil _))⟩
theorem e_drbg_Source_Bytes_m (n : Int) (more : ByteArray) (s : (ByteArray × (ByteArray × Int))) : bodyK x_drbg_Source_Bytes_m [(1, (lpOr S_drbg_Source_Bytes_m_1 P_drbg_Source_Bytes_m_1 P_drbg_Source_Bytes_m_1_v1))] (denF x_drbg_Source_Bytes_m 8) Try.f69 ((mkVals I_drbg_Source_Bytes_m.sl (show I_drbg_Source_Bytes_m.X from (((), (n, (more, ()))), (s, ()))).1).map .v) (shHp I_drbg_Source_Bytes_m (((), (n, (more, ()))), (s, ()))) I_drbg_Source_Bytes_m.nx (kOutS 2 O_drbg_Source_Bytes_m) = drbg_Source_Bytes_m' n more s := by kernel_rfl
theorem con_drbg_Source_Bytes_m : ConOk Try.prog 69 c_drbg_Source_Bytes_m := conS_ok xok_drbg_Source_Bytes_m 8 fn_drbg_Source_Bytes_m 2 I_drbg_Source_Bytes_m O_drbg_Source_Bytes_m _ (by decide) (fun x => by rw [drbg_Source_Bytes_m_eq]; exact e_drbg_Source_Bytes_m x.1.2.1 x.1.2.2.1 x.2.1)
abbrev S_drbg_Source_Bytes_1 : Shape := { sl := [(0, (.pz (.pair .str (.pair .str (.int .i64))))), (1, (.v (.int .i64))), (2, (.v .str)), (8, (.c ⟨(.ptr (.pair (.sp 112) (.sl (.int .u8)))), (.rf 0 [])⟩))], ob := [(0, (.p (.v (.sp 112)) (.sz (.int .u8))))], lo := 1, nx := 1 }
abbrev E_drbg_Source_Bytes_1 : List Ex := [(.normal, { sl := [(0, (.pz (.pair .str (.pair .str (.int .i64))))), (1, (.v (.int .i64))), (2, (.v .str)), (8, (.c ⟨(.ptr (.pair (.sp 112) (.sl (.int .u8)))), (.rf 0 [])⟩))], ob := [(0, (.p (.v (.sp 112)) (.sz (.int .u8))))], lo := 1, nx := 1 })]
noncomputable def L_drbg_Source_Bytes_1 : Code := loopIn (bodyOf Try.f69) 1
noncomputable def P_drbg_Source_Bytes_1 : Lp := lpOf S_drbg_Source_Bytes_1 E_drbg_Source_Bytes_1 70 R_drbg_Source_Bytes_1
noncomputable def c_drbg_Source_Bytes : Con := conV true [(.ptr (.pair .str (.pair .str (.int .i64)))), (.int .i64), .str] [.str, (.int .i64)] fun x => drbg_Source_Bytes x.1 x.2.1 x.2.2.1
noncomputable def x_drbg_Source_Bytes : Cx := { ti := ti, con := [(82, c_drbg_Source_given), (44, conIf 0 c_drbg_Source_stirs_m c_drbg_Source_stirs), (67, c_hmac_Sum)], fns := [(65, Try.f65, [])], un := 6 }
theorem xok_drbg_Source_Bytes : CxOk Try.prog x_drbg_Source_Bytes := CxOk.of mixed ti_ok (List.forall_mem_cons.2 ⟨con_drbg_Source_given, List.forall_mem_cons.2 ⟨conIf_ok con_drbg_Source_stirs_m con_drbg_Source_stirs, List.forall_mem_cons.2 ⟨con_hmac_Sum, List.forall_mem_nil _⟩⟩⟩) (List.forall_mem_cons.2 ⟨⟨Try.func65, Try.call65, lps_nil⟩, List.forall_mem_nil _⟩)
theorem r_drbg_Source_Bytes_1 (x : S_drbg_Source_Bytes_1.X) : denC x_drbg_Source_Bytes [] (denF x_drbg_Source_Bytes 8) L_drbg_Source_Bytes_1 (S_drbg_Source_Bytes_1.mkS 70 x) (kRound 1 S_drbg_Source_Bytes_1 E_drbg_Source_Bytes_1) = R_drbg_Source_Bytes_1 x := by kernel_rfl
theorem l_drbg_Source_Bytes_1 : LpOk Try.prog 1 (.loop L_drbg_Source_Bytes_1) P_drbg_Source_Bytes_1 := lpOf_ok xok_drbg_Source_Bytes 8 (lps_nil) S_drbg_Source_Bytes_1 E_drbg_Source_Bytes_1 70 R_drbg_Source_Bytes_1 (by decide) r_drbg_Source_Bytes_1
theorem fn_drbg_Source_Bytes : FnOk Try.prog 69 Try.f69 [(1, P_drbg_Source_Bytes_1)] := ⟨Try.func69, Try.call69, lps_of (by kernel_rfl) (lps_one l_drbg_Source_Bytes_1 (by kernel_rfl) (List.forall_mem_nil _))⟩
theorem e_drbg_Source_Bytes (s : (Option (ByteArray × (ByteArray × Int)))) (n : Int) (more : ByteArray) : bodyK x_drbg_Source_Bytes [(1, P_drbg_Source_Bytes_1)] (denF x_drbg_Source_Bytes 8) Try.f69 (domV [(.ptr (.pair .str (.pair .str (.int .i64)))), (.int .i64), .str] (s, n, more, ())) [] 0 (kOut [.str, (.int .i64)]) = drbg_Source_Bytes' s n more := by cases s <;> kernel_rfl
theorem con_drbg_Source_Bytes : ConOk Try.prog 69 c_drbg_Source_Bytes := con_ok xok_drbg_Source_Bytes 8 fn_drbg_Source_Bytes true [(.ptr (.pair .str (.pair .str (.int .i64)))), (.int .i64), .str] [.str, (.int .i64)] _ (by decide) (fun x => by rw [drbg_Source_Bytes_eq]; exact e_drbg_Source_Bytes x.1 x.2.1 x.2.2.1)
end Go.Proofs.Ythmfddbehhgnkaa
