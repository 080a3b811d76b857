/-
  The functions of a package are the plain ones.
-/
import Derived.Test.YthmfddbehhgnkaaEqA
import Derived.Test.YthmfddbehhgnkaaDenF
import Derived.Test.YthmfddbehhgnkaaPseek
import Derived.Test.YthmfddbehhgnkaaEdrbg
set_option linter.unusedVariables false
set_option linter.unusedSimpArgs false
set_option maxRecDepth 100000
set_option maxHeartbeats 0
namespace Go.Pl
end Go.Pl
open Go Go.Den Go.Pl
namespace Go.Proofs.Ythmfddbehhgnkaa
abbrev S_seek_First_0 : Shape := { sl := [(4, (.v (.int .i64)))], ob := [], lo := 0, nx := 0 }
abbrev E_seek_First_0 : List Ex := [(.ret, { sl := [(2, (.v (.int .i64))), (3, (.v (.int .i64)))], ob := [], lo := 0, nx := 0 }), (.normal, { sl := [], ob := [], lo := 0, nx := 0 })]
noncomputable def L_seek_First_0 : Code := loopIn (bodyOf Try.f11) 0
noncomputable def P_seek_First_0 : Lp := lpOf S_seek_First_0 E_seek_First_0 17 R_seek_First_0
noncomputable def c_seek_First : Con := conV true [(.int .i64)] [(.int .i64), (.int .i64)] fun x => seek_First x.1
noncomputable def x_seek_First : Cx := { ti := ti, con := [(29, c_prime_Small)], fns := [], un := 6 }
theorem xok_seek_First : CxOk Try.prog x_seek_First := CxOk.of mixed ti_ok (List.forall_mem_cons.2 ⟨con_prime_Small, List.forall_mem_nil _⟩) (List.forall_mem_nil _)
theorem r_seek_First_0 (x : S_seek_First_0.X) : denC x_seek_First [] (denF x_seek_First 8) L_seek_First_0 (S_seek_First_0.mkS 17 x) (kRound 0 S_seek_First_0 E_seek_First_0) = R_seek_First_0 x := by kernel_rfl
theorem l_seek_First_0 : LpOk Try.prog 0 (.loop L_seek_First_0) P_seek_First_0 := lpOf_ok xok_seek_First 8 (lps_nil) S_seek_First_0 E_seek_First_0 17 R_seek_First_0 (by decide) r_seek_First_0
theorem fn_seek_First : FnOk Try.prog 11 Try.f11 [(0, P_seek_First_0)] := ⟨Try.func11, Try.call11, lps_of (by kernel_rfl) (lps_one l_seek_First_0 (by kernel_rfl) (List.forall_mem_nil _))⟩
theorem e_seek_First (from_ : Int) : bodyK x_seek_First [(0, P_seek_First_0)] (denF x_seek_First 8) Try.f11 (domV [(.int .i64)] (from_, ())) [] 0 (kOut [(.int .i64), (.int .i64)]) = seek_First' from_ := by kernel_rfl
theorem con_seek_First : ConOk Try.prog 11 c_seek_First := con_ok xok_seek_First 8 fn_seek_First true [(.int .i64)] [(.int .i64), (.int .i64)] _ (by decide) (fun x => by rw [seek_First_eq]; exact e_seek_First x.1)
noncomputable def c_seek_even : Con := conV true [(.arr 4 (.int .u64))] [(.arr 4 (.int .u64))] fun x => seek_even x.1
noncomputable def x_seek_even : Cx := { ti := ti, con := [(54, c_nat_Down), (53, c_nat_Up)], fns := [], un := 6 }
theorem xok_seek_even : CxOk Try.prog x_seek_even := CxOk.of mixed ti_ok (List.forall_mem_cons.2 ⟨con_nat_Down, List.forall_mem_cons.2 ⟨con_nat_Up, List.forall_mem_nil _⟩⟩) (List.forall_mem_nil _)
theorem fn_seek_even : FnOk Try.prog 32 Try.f32 [] := ⟨Try.func32, Try.call32, lps_nil⟩
theorem e_seek_even (a : (Nat → Int)) : bodyK x_seek_even [] (denF x_seek_even 8) Try.f32 (domV [(.arr 4 (.int .u64))] (a, ())) [] 0 (kOut [(.arr 4 (.int .u64))]) = seek_even' a := by kernel_rfl
theorem con_seek_even : ConOk Try.prog 32 c_seek_even := con_ok xok_seek_even 8 fn_seek_even true [(.arr 4 (.int .u64))] [(.arr 4 (.int .u64))] _ (by decide) (fun x => by rw [seek_even_eq]; exact e_seek_even x.1)
noncomputable def c_seek_above : Con := conV true [(.arr 4 (.int .u64)), (.arr 4 (.int .u64))] [(.arr 4 (.int .u64))] fun x => seek_above x.1 x.2.1
noncomputable def x_seek_above : Cx := { ti := ti, con := [(39, c_wide_Mul), (21, c_nat_Of), (30, c_nat_Add)], fns := [], un := 6 }
theorem xok_seek_above : CxOk Try.prog x_seek_above := CxOk.of mixed ti_ok (List.forall_mem_cons.2 ⟨con_wide_Mul, List.forall_mem_cons.2 ⟨con_nat_Of, List.forall_mem_cons.2 ⟨con_nat_Add, List.forall_mem_nil _⟩⟩⟩) (List.forall_mem_nil _)
theorem fn_seek_above : FnOk Try.prog 33 Try.f33 [] := ⟨Try.func33, Try.call33, lps_nil⟩
theorem e_seek_above (k : (Nat → Int)) (factor : (Nat → Int)) : bodyK x_seek_above [] (denF x_seek_above 8) Try.f33 (domV [(.arr 4 (.int .u64)), (.arr 4 (.int .u64))] (k, factor, ())) [] 0 (kOut [(.arr 4 (.int .u64))]) = seek_above' k factor := by kernel_rfl
theorem con_seek_above : ConOk Try.prog 33 c_seek_above := con_ok xok_seek_above 8 fn_seek_above true [(.arr 4 (.int .u64)), (.arr 4 (.int .u64))] [(.arr 4 (.int .u64))] _ (by decide) (fun x => by rw [seek_above_eq]; exact e_seek_above x.1 x.2.1)
abbrev S_seek_least_0 : Shape := { sl := [(1, (.v (.int .i64))), (2, (.c ⟨(.ptr (.arr 4 (.int .u64))), (.rf 0 [])⟩)), (4, (.c ⟨(.ptr (.arr 4 (.int .u64))), (.rf 1 [])⟩)), (5, (.c ⟨(.ptr (.arr 4 (.int .u64))), (.rf 2 [])⟩))], ob := [(0, (.v (.arr 4 (.int .u64)))), (1, (.v (.arr 4 (.int .u64)))), (2, (.v (.arr 4 (.int .u64))))], lo := 4, nx := 4 }
abbrev E_seek_least_0 : List Ex := [(.normal, { sl := [(4, (.c ⟨(.ptr (.arr 4 (.int .u64))), (.rf 1 [])⟩)), (5, (.c ⟨(.ptr (.arr 4 (.int .u64))), (.rf 2 [])⟩))], ob := [(1, (.v (.arr 4 (.int .u64)))), (2, (.v (.arr 4 (.int .u64))))], lo := 4, nx := 4 })]
noncomputable def L_seek_least_0 : Code := loopIn (bodyOf Try.f31) 0
noncomputable def P_seek_least_0 : Lp := lpOf S_seek_least_0 E_seek_least_0 37 R_seek_least_0
noncomputable def c_seek_least : Con := conV true [(.arr 4 (.int .u64)), (.int .i64)] [(.arr 4 (.int .u64))] fun x => seek_least x.1 x.2.1
noncomputable def x_seek_least : Cx := { ti := ti, con := [(21, c_nat_Of), (53, c_nat_Up), (38, c_wide_Div), (32, c_seek_even), (33, c_seek_above), (20, c_nat_Len), (30, c_nat_Add)], fns := [], un := 6 }
theorem xok_seek_least : CxOk Try.prog x_seek_least := CxOk.of mixed ti_ok (List.forall_mem_cons.2 ⟨con_nat_Of, List.forall_mem_cons.2 ⟨con_nat_Up, List.forall_mem_cons.2 ⟨con_wide_Div, List.forall_mem_cons.2 ⟨con_seek_even, List.forall_mem_cons.2 ⟨con_seek_above, List.forall_mem_cons.2 ⟨con_nat_Len, List.forall_mem_cons.2 ⟨con_nat_Add, List.forall_mem_nil _⟩⟩⟩⟩⟩⟩⟩) (List.forall_mem_nil _)
theorem r_seek_least_0 (x : S_seek_least_0.X) : denC x_seek_least [] (denF x_seek_least 8) L_seek_least_0 (S_seek_least_0.mkS 37 x) (kRound 0 S_seek_least_0 E_seek_least_0) = R_seek_least_0 x := by kernel_rfl
theorem l_seek_least_0 : LpOk Try.prog 0 (.loop L_seek_least_0) P_seek_least_0 := lpOf_ok xok_seek_least 8 (lps_nil) S_seek_least_0 E_seek_least_0 37 R_seek_least_0 (by decide) r_seek_least_0
theorem fn_seek_least : FnOk Try.prog 31 Try.f31 [(0, P_seek_least_0)] := ⟨Try.func31, Try.call31, lps_of (by kernel_rfl) (lps_one l_seek_least_0 (by kernel_rfl) (List.forall_mem_nil _))⟩
theorem e_seek_least (factor : (Nat → Int)) (bits : Int) : bodyK x_seek_least [(0, P_seek_least_0)] (denF x_seek_least 8) Try.f31 (domV [(.arr 4 (.int .u64)), (.int .i64)] (factor, bits, ())) [] 0 (kOut [(.arr 4 (.int .u64))]) = seek_least' factor bits := by kernel_rfl
theorem con_seek_least : ConOk Try.prog 31 c_seek_least := con_ok xok_seek_least 8 fn_seek_least true [(.arr 4 (.int .u64)), (.int .i64)] [(.arr 4 (.int .u64))] _ (by decide) (fun x => by rw [seek_least_eq]; exact e_seek_least x.1 x.2.1)
noncomputable def c_seek_witness : Con := conV true [(.arr 4 (.int .u64)), (.arr 4 (.int .u64))] [(.int .i64), (.int .i64)] fun x => seek_witness x.1 x.2.1
noncomputable def x_seek_witness : Cx := { ti := ti, con := [(19, c_mont_New), (21, c_nat_Of), (37, c_nat_Sub), (23, c_mont_Ring_Exp), (55, c_prime_Witness)], fns := [], un := 6 }
theorem xok_seek_witness : CxOk Try.prog x_seek_witness := CxOk.of mixed ti_ok (List.forall_mem_cons.2 ⟨con_mont_New, List.forall_mem_cons.2 ⟨con_nat_Of, List.forall_mem_cons.2 ⟨con_nat_Sub, List.forall_mem_cons.2 ⟨con_mont_Ring_Exp, List.forall_mem_cons.2 ⟨con_prime_Witness, List.forall_mem_nil _⟩⟩⟩⟩⟩) (List.forall_mem_nil _)
theorem fn_seek_witness : FnOk Try.prog 34 Try.f34 [] := ⟨Try.func34, Try.call34, lps_nil⟩
theorem e_seek_witness (n : (Nat → Int)) (factor : (Nat → Int)) : bodyK x_seek_witness [] (denF x_seek_witness 8) Try.f34 (domV [(.arr 4 (.int .u64)), (.arr 4 (.int .u64))] (n, factor, ())) [] 0 (kOut [(.int .i64), (.int .i64)]) = seek_witness' n factor := by kernel_rfl
theorem con_seek_witness : ConOk Try.prog 34 c_seek_witness := con_ok xok_seek_witness 8 fn_seek_witness true [(.arr 4 (.int .u64)), (.arr 4 (.int .u64))] [(.int .i64), (.int .i64)] _ (by decide) (fun x => by rw [seek_witness_eq]; exact e_seek_witness x.1 x.2.1)
abbrev S_seek_Next_0 : Shape := { sl := [(1, (.v (.int .i64))), (3, (.c ⟨(.ptr (.arr 4 (.int .u64))), (.rf 0 [])⟩)), (6, (.c ⟨(.ptr (.pair (.arr 4 (.int .u64)) (.int .i64))), (.rf 2 [])⟩)), (9, (.c ⟨(.ptr (.arr 4 (.int .u64))), (.rf 3 [])⟩)), (11, (.c ⟨(.ptr (.pair (.arr 4 (.int .u64)) (.int .i64))), (.rf 4 [])⟩)), (57, (.v (.int .i64)))], ob := [(0, (.v (.arr 4 (.int .u64)))), (2, (.v (.pair (.arr 4 (.int .u64)) (.int .i64)))), (3, (.v (.arr 4 (.int .u64)))), (4, (.v (.pair (.arr 4 (.int .u64)) (.int .i64))))], lo := 5, nx := 5 }
abbrev E_seek_Next_0 : List Ex := [(.normal, { sl := [(6, (.c ⟨(.ptr (.pair (.arr 4 (.int .u64)) (.int .i64))), (.rf 2 [])⟩)), (11, (.c ⟨(.ptr (.pair (.arr 4 (.int .u64)) (.int .i64))), (.rf 4 [])⟩))], ob := [(2, (.v (.pair (.arr 4 (.int .u64)) (.int .i64)))), (4, (.v (.pair (.arr 4 (.int .u64)) (.int .i64))))], lo := 6, nx := 6 })]
noncomputable def L_seek_Next_0 : Code := loopIn (bodyOf Try.f12) 0
noncomputable def P_seek_Next_0 : Lp := lpOf S_seek_Next_0 E_seek_Next_0 89 R_seek_Next_0
noncomputable def c_seek_Next : Con := conV true [(.arr 4 (.int .u64)), (.int .i64), (.arr 4 (.int .u64))] [(.pair (.arr 4 (.int .u64)) (.int .i64)), (.int .i64)] fun x => seek_Next x.1 x.2.1 x.2.2.1
noncomputable def x_seek_Next : Cx := { ti := ti, con := [(20, c_nat_Len), (31, c_seek_least), (32, c_seek_even), (30, c_nat_Add), (33, c_seek_above), (34, c_seek_witness), (21, c_nat_Of)], fns := [], un := 6 }
theorem xok_seek_Next : CxOk Try.prog x_seek_Next := CxOk.of mixed ti_ok (List.forall_mem_cons.2 ⟨con_nat_Len, List.forall_mem_cons.2 ⟨con_seek_least, List.forall_mem_cons.2 ⟨con_seek_even, List.forall_mem_cons.2 ⟨con_nat_Add, List.forall_mem_cons.2 ⟨con_seek_above, List.forall_mem_cons.2 ⟨con_seek_witness, List.forall_mem_cons.2 ⟨con_nat_Of, List.forall_mem_nil _⟩⟩⟩⟩⟩⟩⟩) (List.forall_mem_nil _)
theorem r_seek_Next_0 (x : S_seek_Next_0.X) : denC x_seek_Next [] (denF x_seek_Next 8) L_seek_Next_0 (S_seek_Next_0.mkS 89 x) (kRound 0 S_seek_Next_0 E_seek_Next_0) = R_seek_Next_0 x := by kernel_rfl
theorem l_seek_Next_0 : LpOk Try.prog 0 (.loop L_seek_Next_0) P_seek_Next_0 := lpOf_ok xok_seek_Next 8 (lps_nil) S_seek_Next_0 E_seek_Next_0 89 R_seek_Next_0 (by decide) r_seek_Next_0
theorem fn_seek_Next : FnOk Try.prog 12 Try.f12 [(0, P_seek_Next_0)] := ⟨Try.func12, Try.call12, lps_of (by kernel_rfl) (lps_one l_seek_Next_0 (by kernel_rfl) (List.forall_mem_nil _))⟩
theorem e_seek_Next (factor : (Nat → Int)) (bits : Int) (from_ : (Nat → Int)) : bodyK x_seek_Next [(0, P_seek_Next_0)] (denF x_seek_Next 8) Try.f12 (domV [(.arr 4 (.int .u64)), (.int .i64), (.arr 4 (.int .u64))] (factor, bits, from_, ())) [] 0 (kOut [(.pair (.arr 4 (.int .u64)) (.int .i64)), (.int .i64)]) = seek_Next' factor bits from_ := by kernel_rfl
theorem con_seek_Next : ConOk Try.prog 12 c_seek_Next := con_ok xok_seek_Next 8 fn_seek_Next true [(.arr 4 (.int .u64)), (.int .i64), (.arr 4 (.int .u64))] [(.pair (.arr 4 (.int .u64)) (.int .i64)), (.int .i64)] _ (by decide) (fun x => by rw [seek_Next_eq]; exact e_seek_Next x.1 x.2.1 x.2.2.1)
abbrev S_seek_Spawn_0 : Shape := { sl := [(4, (.c ⟨(.ptr (.arr 4 (.int .u64))), (.rf 2 [])⟩)), (6, (.pz (.pair (.arr 4 (.int .u64)) (.pair (.int .u64) (.pair (.arr 4 (.int .u64)) (.arr 4 (.int .u64))))))), (10, (.c ⟨(.ptr (.arr 4 (.int .u64))), (.rf 4 [])⟩)), (12, (.v (.int .i64)))], ob := [(2, (.v (.arr 4 (.int .u64)))), (4, (.v (.arr 4 (.int .u64))))], lo := 6, nx := 6 }
abbrev E_seek_Spawn_0 : List Ex := [(.ret, { sl := [(4, (.c ⟨(.ptr (.arr 4 (.int .u64))), (.rf 2 [])⟩)), (5, (.v (.int .i64)))], ob := [(2, (.v (.arr 4 (.int .u64))))], lo := 7, nx := 7 }), (.normal, { sl := [(4, (.c ⟨(.ptr (.arr 4 (.int .u64))), (.rf 2 [])⟩))], ob := [(2, (.v (.arr 4 (.int .u64))))], lo := 6, nx := 6 })]
noncomputable def L_seek_Spawn_0 : Code := loopIn (bodyOf Try.f14) 0
noncomputable def P_seek_Spawn_0 : Lp := lpOf S_seek_Spawn_0 E_seek_Spawn_0 63 R_seek_Spawn_0
noncomputable def c_seek_Spawn : Con := conV true [(.arr 4 (.int .u64)), (.arr 4 (.int .u64))] [(.arr 4 (.int .u64)), (.int .i64)] fun x => seek_Spawn x.1 x.2.1
noncomputable def x_seek_Spawn : Cx := { ti := ti, con := [(19, c_mont_New), (21, c_nat_Of), (36, c_nat_Cmp), (37, c_nat_Sub), (38, c_wide_Div), (23, c_mont_Ring_Exp)], fns := [], un := 6 }
theorem xok_seek_Spawn : CxOk Try.prog x_seek_Spawn := CxOk.of mixed ti_ok (List.forall_mem_cons.2 ⟨con_mont_New, List.forall_mem_cons.2 ⟨con_nat_Of, List.forall_mem_cons.2 ⟨con_nat_Cmp, List.forall_mem_cons.2 ⟨con_nat_Sub, List.forall_mem_cons.2 ⟨con_wide_Div, List.forall_mem_cons.2 ⟨con_mont_Ring_Exp, List.forall_mem_nil _⟩⟩⟩⟩⟩⟩) (List.forall_mem_nil _)
theorem r_seek_Spawn_0 (x : S_seek_Spawn_0.X) : denC x_seek_Spawn [] (denF x_seek_Spawn 8) L_seek_Spawn_0 (S_seek_Spawn_0.mkS 63 x) (kRound 0 S_seek_Spawn_0 E_seek_Spawn_0) = R_seek_Spawn_0 x := by kernel_rfl
theorem l_seek_Spawn_0 : LpOk Try.prog 0 (.loop L_seek_Spawn_0) P_seek_Spawn_0 := lpOf_ok xok_seek_Spawn 8 (lps_nil) S_seek_Spawn_0 E_seek_Spawn_0 63 R_seek_Spawn_0 (by decide) r_seek_Spawn_0
theorem fn_seek_Spawn : FnOk Try.prog 14 Try.f14 [(0, P_seek_Spawn_0)] := ⟨Try.func14, Try.call14, lps_of (by kernel_rfl) (lps_one l_seek_Spawn_0 (by kernel_rfl) (List.forall_mem_nil _))⟩
theorem e_seek_Spawn (p : (Nat → Int)) (q : (Nat → Int)) : bodyK x_seek_Spawn [(0, P_seek_Spawn_0)] (denF x_seek_Spawn 8) Try.f14 (domV [(.arr 4 (.int .u64)), (.arr 4 (.int .u64))] (p, q, ())) [] 0 (kOut [(.arr 4 (.int .u64)), (.int .i64)]) = seek_Spawn' p q := by kernel_rfl
theorem con_seek_Spawn : ConOk Try.prog 14 c_seek_Spawn := con_ok xok_seek_Spawn 8 fn_seek_Spawn true [(.arr 4 (.int .u64)), (.arr 4 (.int .u64))] [(.arr 4 (.int .u64)), (.int .i64)] _ (by decide) (fun x => by rw [seek_Spawn_eq]; exact e_seek_Spawn x.1 x.2.1)
abbrev S_seek_number_m_0 : Shape := { sl := [(0, (.c ⟨(.ptr (.pair .str (.pair .str (.int .i64)))), (.rf 0 [])⟩)), (2, (.v (.int .i64))), (6, (.c ⟨(.ptr (.arr 4 (.int .u64))), (.rf 1 [])⟩)), (10, (.c ⟨(.ptr (.arr 4 (.int .u64))), (.rf 9 [])⟩)), (29, (.w 5 (.int .u8) 11)), (30, (.v (.int .i64))), (31, (.v (.int .i64)))], ob := [(0, (.v (.pair .str (.pair .str (.int .i64))))), (1, (.v (.arr 4 (.int .u64)))), (9, (.v (.arr 4 (.int .u64))))], lo := 11, nx := 12 }
abbrev E_seek_number_m_0 : List Ex := [(.normal, { sl := [(0, (.c ⟨(.ptr (.pair .str (.pair .str (.int .i64)))), (.rf 0 [])⟩)), (2, (.v (.int .i64))), (6, (.c ⟨(.ptr (.arr 4 (.int .u64))), (.rf 1 [])⟩)), (10, (.c ⟨(.ptr (.arr 4 (.int .u64))), (.rf 9 [])⟩))], ob := [(0, (.v (.pair .str (.pair .str (.int .i64))))), (1, (.v (.arr 4 (.int .u64)))), (9, (.v (.arr 4 (.int .u64))))], lo := 12, nx := 12 })]
noncomputable def L_seek_number_m_0 : Code := loopIn (bodyOf Try.f46) 0
noncomputable def P_seek_number_m_0 : Lp := lpOf S_seek_number_m_0 E_seek_number_m_0 52 R_seek_number_m_0
abbrev I_seek_number_m : Shape := { sl := [(0, (.c ⟨(.ptr (.pair .str (.pair .str (.int .i64)))), (.rf 0 [])⟩)), (1, (.v (.int .i64))), (2, (.v (.int .i64)))], ob := [(0, (.v (.pair .str (.pair .str (.int .i64)))))], lo := 1, nx := 1 }
abbrev O_seek_number_m : List Shape := [{ sl := [(0, (.v (.arr 4 (.int .u64)))), (1, (.v (.int .i64)))], ob := [(0, (.v (.pair .str (.pair .str (.int .i64)))))], lo := 12, nx := 12 }]
noncomputable def c_seek_number_m : Con := conS I_seek_number_m O_seek_number_m fun x => seek_number_m x.1.2.1 x.1.2.2.1 x.2.1
noncomputable def x_seek_number_m : Cx := { ti := ti, con := [(69, conIf 0 c_drbg_Source_Bytes_m c_drbg_Source_Bytes), (53, c_nat_Up), (54, c_nat_Down)], fns := [], un := 6 }
theorem xok_seek_number_m : CxOk Try.prog x_seek_number_m := CxOk.of mixed ti_ok (List.forall_mem_cons.2 ⟨conIf_ok con_drbg_Source_Bytes_m con_drbg_Source_Bytes, List.forall_mem_cons.2 ⟨con_nat_Up, List.forall_mem_cons.2 ⟨con_nat_Down, List.forall_mem_nil _⟩⟩⟩) (List.forall_mem_nil _)
theorem r_seek_number_m_0 (x : S_seek_number_m_0.X) : denC x_seek_number_m [] (denF x_seek_number_m 8) L_seek_number_m_0 (S_seek_number_m_0.mkS 52 x) (kRound 0 S_seek_number_m_0 E_seek_number_m_0) = R_seek_number_m_0 x := by kernel_rfl
theorem l_seek_number_m_0 : LpOk Try.prog 0 (.loop L_seek_number_m_0) P_seek_number_m_0 := lpOf_ok xok_seek_number_m 8 (lps_nil) S_seek_number_m_0 E_seek_number_m_0 52 R_seek_number_m_0 (by decide) r_seek_number_m_0
theorem fn_seek_number_m : FnOk Try.prog 46 Try.f46 [(0, P_seek_number_m_0)] := ⟨Try.func46, Try.call46, lps_of (by kernel_rfl) (lps_one l_seek_number_m_0 (by kernel_rfl) (List.forall_mem_nil _))⟩
theorem e_seek_number_m (bytes : Int) (bits : Int) (s : (ByteArray × (ByteArray × Int))) : bodyK x_seek_number_m [(0, P_seek_number_m_0)] (denF x_seek_number_m 8) Try.f46 ((mkVals I_seek_number_m.sl (show I_seek_number_m.X from (((), (bytes, (bits, ()))), (s, ()))).1).map .v) (shHp I_seek_number_m (((), (bytes, (bits, ()))), (s, ()))) I_seek_number_m.nx (kOutS 2 O_seek_number_m) = seek_number_m' bytes bits s := by kernel_rfl
theorem con_seek_number_m : ConOk Try.prog 46 c_seek_number_m := conS_ok xok_seek_number_m 8 fn_seek_number_m 2 I_seek_number_m O_seek_number_m _ (by decide) (fun x => by rw [seek_number_m_eq]; exact e_seek_number_m x.1.2.1 x.1.2.2.1 x.2.1)
abbrev S_seek_number_0 : Shape := { sl := [(2, (.v (.int .i64))), (6, (.c ⟨(.ptr (.arr 4 (.int .u64))), (.rf 0 [])⟩)), (10, (.c ⟨(.ptr (.arr 4 (.int .u64))), (.rf 1 [])⟩)), (29, (.w 5 (.int .u8) 3)), (30, (.v (.int .i64))), (31, (.v (.int .i64)))], ob := [(0, (.v (.arr 4 (.int .u64)))), (1, (.v (.arr 4 (.int .u64))))], lo := 3, nx := 4 }
abbrev E_seek_number_0 : List Ex := [(.normal, { sl := [(2, (.v (.int .i64))), (6, (.c ⟨(.ptr (.arr 4 (.int .u64))), (.rf 0 [])⟩)), (10, (.c ⟨(.ptr (.arr 4 (.int .u64))), (.rf 1 [])⟩))], ob := [(0, (.v (.arr 4 (.int .u64)))), (1, (.v (.arr 4 (.int .u64))))], lo := 4, nx := 4 })]
noncomputable def L_seek_number_0 : Code := loopIn (bodyOf Try.f46) 0
noncomputable def P_seek_number_0 : Lp := lpOf S_seek_number_0 E_seek_number_0 52 R_seek_number_0
noncomputable def c_seek_number : Con := conV true [(.ptr (.pair .str (.pair .str (.int .i64)))), (.int .i64), (.int .i64)] [(.arr 4 (.int .u64)), (.int .i64)] fun x => seek_number x.1 x.2.1 x.2.2.1
noncomputable def x_seek_number : Cx := { ti := ti, con := [(69, conIf 0 c_drbg_Source_Bytes_m c_drbg_Source_Bytes), (53, c_nat_Up), (54, c_nat_Down)], fns := [], un := 6 }
theorem xok_seek_number : CxOk Try.prog x_seek_number := CxOk.of mixed ti_ok (List.forall_mem_cons.2 ⟨conIf_ok con_drbg_Source_Bytes_m con_drbg_Source_Bytes, List.forall_mem_cons.2 ⟨con_nat_Up, List.forall_mem_cons.2 ⟨con_nat_Down, List.forall_mem_nil _⟩⟩⟩) (List.forall_mem_nil _)
theorem r_seek_number_0 (x : S_seek_number_0.X) : denC x_seek_number [] (denF x_seek_number 8) L_seek_number_0 (S_seek_number_0.mkS 52 x) (kRound 0 S_seek_number_0 E_seek_number_0) = R_seek_number_0 x := by kernel_rfl
theorem l_seek_number_0 : LpOk Try.prog 0 (.loop L_seek_number_0) P_seek_number_0 := lpOf_ok xok_seek_number 8 (lps_nil) S_seek_number_0 E_seek_number_0 52 R_seek_number_0 (by decide) r_seek_number_0
theorem fn_seek_number : FnOk Try.prog 46 Try.f46 [(0, P_seek_number_0)] := ⟨Try.func46, Try.call46, lps_of (by kernel_rfl) (lps_one l_seek_number_0 (by kernel_rfl) (List.forall_mem_nil _))⟩
theorem e_seek_number (s : (Option (ByteArray × (ByteArray × Int)))) (bytes : Int) (bits : Int) : bodyK x_seek_number [(0, P_seek_number_0)] (denF x_seek_number 8) Try.f46 (domV [(.ptr (.pair .str (.pair .str (.int .i64)))), (.int .i64), (.int .i64)] (s, bytes, bits, ())) [] 0 (kOut [(.arr 4 (.int .u64)), (.int .i64)]) = seek_number' s bytes bits := by cases s <;> kernel_rfl
theorem con_seek_number : ConOk Try.prog 46 c_seek_number := con_ok xok_seek_number 8 fn_seek_number true [(.ptr (.pair .str (.pair .str (.int .i64)))), (.int .i64), (.int .i64)] [(.arr 4 (.int .u64)), (.int .i64)] _ (by decide) (fun x => by rw [seek_number_eq]; exact e_seek_number x.1 x.2.1 x.2.2.1)
abbrev I_seek_first_m : Shape := { sl := [(0, (.c ⟨(.ptr (.pair .str (.pair .str (.int .i64)))), (.rf 0 [])⟩))], ob := [(0, (.v (.pair .str (.pair .str (.int .i64)))))], lo := 1, nx := 1 }
abbrev O_seek_first_m : List Shape := [{ sl := [(0, (.v (.pair (.arr 4 (.int .u64)) (.int .i64)))), (1, (.v (.int .i64)))], ob := [(0, (.v (.pair .str (.pair .str (.int .i64)))))], lo := 14, nx := 14 }]
noncomputable def c_seek_first_m : Con := conS I_seek_first_m O_seek_first_m fun x => seek_first_m x.2.1
noncomputable def x_seek_first_m : Cx := { ti := ti, con := [(46, conIf 0 c_seek_number_m c_seek_number), (28, c_nat_Int), (11, c_seek_First), (21, c_nat_Of)], fns := [], un := 6 }
theorem xok_seek_first_m : CxOk Try.prog x_seek_first_m := CxOk.of mixed ti_ok (List.forall_mem_cons.2 ⟨conIf_ok con_seek_number_m con_seek_number, List.forall_mem_cons.2 ⟨con_nat_Int, List.forall_mem_cons.2 ⟨con_seek_First, List.forall_mem_cons.2 ⟨con_nat_Of, List.forall_mem_nil _⟩⟩⟩⟩) (List.forall_mem_nil _)
theorem fn_seek_first_m : FnOk Try.prog 45 Try.f45 [] := ⟨Try.func45, Try.call45, lps_nil⟩
theorem e_seek_first_m (s : (ByteArray × (ByteArray × Int))) : bodyK x_seek_first_m [] (denF x_seek_first_m 8) Try.f45 ((mkVals I_seek_first_m.sl (show I_seek_first_m.X from (((), ()), (s, ()))).1).map .v) (shHp I_seek_first_m (((), ()), (s, ()))) I_seek_first_m.nx (kOutS 2 O_seek_first_m) = seek_first_m' s := by kernel_rfl
theorem con_seek_first_m : ConOk Try.prog 45 c_seek_first_m := conS_ok xok_seek_first_m 8 fn_seek_first_m 2 I_seek_first_m O_seek_first_m _ (by decide) (fun x => by rw [seek_first_m_eq]; exact e_seek_first_m x.2.1)
noncomputable def c_seek_first : Con := conV true [(.ptr (.pair .str (.pair .str (.int .i64))))] [(.pair (.arr 4 (.int .u64)) (.int .i64)), (.int .i64)] fun x => seek_first x.1
noncomputable def x_seek_first : Cx := { ti := ti, con := [(46, conIf 0 c_seek_number_m c_seek_number), (28, c_nat_Int), (11, c_seek_First), (21, c_nat_Of)], fns := [], un := 6 }
theorem xok_seek_first : CxOk Try.prog x_seek_first := CxOk.of mixed ti_ok (List.forall_mem_cons.2 ⟨conIf_ok con_seek_number_m con_seek_number, List.forall_mem_cons.2 ⟨con_nat_Int, List.forall_mem_cons.2 ⟨con_seek_First, List.forall_mem_cons.2 ⟨con_nat_Of, List.forall_mem_nil _⟩⟩⟩⟩) (List.forall_mem_nil _)
theorem fn_seek_first : FnOk Try.prog 45 Try.f45 [] := ⟨Try.func45, Try.call45, lps_nil⟩
theorem e_seek_first (s : (Option (ByteArray × (ByteArray × Int)))) : bodyK x_seek_first [] (denF x_seek_first 8) Try.f45 (domV [(.ptr (.pair .str (.pair .str (.int .i64))))] (s, ())) [] 0 (kOut [(.pair (.arr 4 (.int .u64)) (.int .i64)), (.int .i64)]) = seek_first' s := by cases s <;> kernel_rfl
theorem con_seek_first : ConOk Try.prog 45 c_seek_first := con_ok xok_seek_first 8 fn_seek_first true [(.ptr (.pair .str (.pair .str (.int .i64))))] [(.pair (.arr 4 (.int .u64)) (.int .i64)), (.int .i64)] _ (by decide) (fun x => by rw [seek_first_eq]; exact e_seek_first x.1)
abbrev S_seek_chain_m_0 : Shape := { sl := [(0, (.c ⟨(.ptr (.pair .str (.pair .str (.int .i64)))), (.rf 0 [])⟩)), (6, (.c ⟨(.ptr (.pair (.arr 4 (.int .u64)) (.int .i64))), (.rf 14 [])⟩)), (7, (.v (.int .i64))), (8, (.w 44 (.pair (.arr 4 (.int .u64)) (.int .i64)) 16)), (20, (.sz (.int .i64))), (21, (.v (.int .i64))), (22, (.v (.int .i64)))], ob := [(0, (.v (.pair .str (.pair .str (.int .i64))))), (14, (.v (.pair (.arr 4 (.int .u64)) (.int .i64))))], lo := 16, nx := 17 }
abbrev E_seek_chain_m_0 : List Ex := [(.normal, { sl := [(0, (.c ⟨(.ptr (.pair .str (.pair .str (.int .i64)))), (.rf 0 [])⟩)), (7, (.v (.int .i64))), (8, (.w 44 (.pair (.arr 4 (.int .u64)) (.int .i64)) 30))], ob := [(0, (.v (.pair .str (.pair .str (.int .i64)))))], lo := 30, nx := 31 })]
noncomputable def L_seek_chain_m_0 : Code := loopIn (bodyOf Try.f17) 0
noncomputable def P_seek_chain_m_0 : Lp := lpOf S_seek_chain_m_0 E_seek_chain_m_0 63 R_seek_chain_m_0
abbrev I_seek_chain_m : Shape := { sl := [(0, (.c ⟨(.ptr (.pair .str (.pair .str (.int .i64)))), (.rf 0 [])⟩)), (1, (.sz (.int .i64)))], ob := [(0, (.v (.pair .str (.pair .str (.int .i64)))))], lo := 1, nx := 1 }
abbrev O_seek_chain_m : List Shape := [{ sl := [(0, (.sz (.pair (.arr 4 (.int .u64)) (.int .i64)))), (1, (.v (.int .i64)))], ob := [(0, (.v (.pair .str (.pair .str (.int .i64)))))], lo := 31, nx := 31 }]
noncomputable def c_seek_chain_m : Con := conS I_seek_chain_m O_seek_chain_m fun x => seek_chain_m x.1.2.1.1 x.1.2.1.2 x.2.1
noncomputable def x_seek_chain_m : Cx := { ti := ti, con := [(45, conIf 0 c_seek_first_m c_seek_first), (20, c_nat_Len), (46, conIf 0 c_seek_number_m c_seek_number), (12, c_seek_Next)], fns := [], un := 6 }
theorem xok_seek_chain_m : CxOk Try.prog x_seek_chain_m := CxOk.of mixed ti_ok (List.forall_mem_cons.2 ⟨conIf_ok con_seek_first_m con_seek_first, List.forall_mem_cons.2 ⟨con_nat_Len, List.forall_mem_cons.2 ⟨conIf_ok con_seek_number_m con_seek_number, List.forall_mem_cons.2 ⟨con_seek_Next, List.forall_mem_nil _⟩⟩⟩⟩) (List.forall_mem_nil _)
theorem r_seek_chain_m_0 (x : S_seek_chain_m_0.X) : denC x_seek_chain_m [] (denF x_seek_chain_m 8) L_seek_chain_m_0 (S_seek_chain_m_0.mkS 63 x) (kRound 0 S_seek_chain_m_0 E_seek_chain_m_0) = R_seek_chain_m_0 x := by kernel_rfl
theorem l_seek_chain_m_0 : LpOk Try.prog 0 (.loop L_seek_chain_m_0) P_seek_chain_m_0 := lpOf_ok xok_seek_chain_m 8 (lps_nil) S_seek_chain_m_0 E_seek_chain_m_0 63 R_seek_chain_m_0 (by decide) r_seek_chain_m_0
theorem fn_seek_chain_m : FnOk Try.prog 17 Try.f17 [(0, P_seek_chain_m_0)] := ⟨Try.func17, Try.call17, lps_of (by kernel_rfl) (lps_one l_seek_chain_m_0 (by kernel_rfl) (List.forall_mem_nil _))⟩
theorem e_seek_chain_m (nbits : Nat) (bits : Nat → Int) (s : (ByteArray × (ByteArray × Int))) : bodyK x_seek_chain_m [(0, P_seek_chain_m_0)] (denF x_seek_chain_m 8) Try.f17 ((mkVals I_seek_chain_m.sl (show I_seek_chain_m.X from (((), ((nbits, bits), ())), (s, ()))).1).map .v) (shHp I_seek_chain_m (((), ((nbits, bits), ())), (s, ()))) I_seek_chain_m.nx (kOutS 2 O_seek_chain_m) = seek_chain_m' nbits bits s := by kernel_rfl
theorem con_seek_chain_m : ConOk Try.prog 17 c_seek_chain_m := conS_ok xok_seek_chain_m 8 fn_seek_chain_m 2 I_seek_chain_m O_seek_chain_m _ (by decide) (fun x => by rw [seek_chain_m_eq]; exact e_seek_chain_m x.1.2.1.1 x.1.2.1.2 x.2.1)
abbrev S_seek_chain_0 : Shape := { sl := [(0, (.pz (.pair .str (.pair .str (.int .i64))))), (6, (.c ⟨(.ptr (.pair (.arr 4 (.int .u64)) (.int .i64))), (.rf 0 [])⟩)), (7, (.v (.int .i64))), (8, (.w 44 (.pair (.arr 4 (.int .u64)) (.int .i64)) 2)), (20, (.sz (.int .i64))), (21, (.v (.int .i64))), (22, (.v (.int .i64)))], ob := [(0, (.v (.pair (.arr 4 (.int .u64)) (.int .i64))))], lo := 2, nx := 3 }
abbrev E_seek_chain_0 : List Ex := [(.normal, { sl := [(7, (.v (.int .i64))), (8, (.w 44 (.pair (.arr 4 (.int .u64)) (.int .i64)) 5))], ob := [], lo := 5, nx := 6 })]
noncomputable def L_seek_chain_0 : Code := loopIn (bodyOf Try.f17) 0
noncomputable def P_seek_chain_0 : Lp := lpOf S_seek_chain_0 E_seek_chain_0 63 R_seek_chain_0
noncomputable def c_seek_chain : Con := conV false [(.ptr (.pair .str (.pair .str (.int .i64)))), (.sl (.int .i64))] [(.sl (.pair (.arr 4 (.int .u64)) (.int .i64))), (.int .i64)] fun x => seek_chain x.1 x.2.1.1 x.2.1.2
noncomputable def x_seek_chain : Cx := { ti := ti, con := [(45, conIf 0 c_seek_first_m c_seek_first), (20, c_nat_Len), (46, conIf 0 c_seek_number_m c_seek_number), (12, c_seek_Next)], fns := [], un := 6 }
theorem xok_seek_chain : CxOk Try.prog x_seek_chain := CxOk.of mixed ti_ok (List.forall_mem_cons.2 ⟨conIf_ok con_seek_first_m con_seek_first, List.forall_mem_cons.2 ⟨con_nat_Len, List.forall_mem_cons.2 ⟨conIf_ok con_seek_number_m con_seek_number, List.forall_mem_cons.2 ⟨con_seek_Next, List.forall_mem_nil _⟩⟩⟩⟩) (List.forall_mem_nil _)
theorem r_seek_chain_0 (x : S_seek_chain_0.X) : denC x_seek_chain [] (denF x_seek_chain 8) L_seek_chain_0 (S_seek_chain_0.mkS 63 x) (kRound 0 S_seek_chain_0 E_seek_chain_0) = R_seek_chain_0 x := by kernel_rfl
theorem l_seek_chain_0 : LpOk Try.prog 0 (.loop L_seek_chain_0) P_seek_chain_0 := lpOf_ok xok_seek_chain 8 (lps_nil) S_seek_chain_0 E_seek_chain_0 63 R_seek_chain_0 (by decide) r_seek_chain_0
theorem fn_seek_chain : FnOk Try.prog 17 Try.f17 [(0, P_seek_chain_0)] := ⟨Try.func17, Try.call17, lps_of (by kernel_rfl) (lps_one l_seek_chain_0 (by kernel_rfl) (List.forall_mem_nil _))⟩
theorem e_seek_chain (s : (Option (ByteArray × (ByteArray × Int)))) (nbits : Nat) (bits : Nat → Int) : bodyK x_seek_chain [(0, P_seek_chain_0)] (denF x_seek_chain 8) Try.f17 (domV [(.ptr (.pair .str (.pair .str (.int .i64)))), (.sl (.int .i64))] (s, (nbits, bits), ())) [] 0 (kOut [(.sl (.pair (.arr 4 (.int .u64)) (.int .i64))), (.int .i64)]) = seek_chain' s nbits bits := by cases s <;> kernel_rfl
theorem con_seek_chain : ConOk Try.prog 17 c_seek_chain := con_ok xok_seek_chain 8 fn_seek_chain false [(.ptr (.pair .str (.pair .str (.int .i64)))), (.sl (.int .i64))] [(.sl (.pair (.arr 4 (.int .u64)) (.int .i64))), (.int .i64)] _ (by decide) (fun x => by rw [seek_chain_eq]; exact e_seek_chain x.1 x.2.1.1 x.2.1.2)
noncomputable def c_seek_Find : Con := conV false [.str, (.sl (.int .i64))] [(.pair (.sl (.pair (.arr 4 (.int .u64)) (.int .i64))) (.arr 4 (.int .u64))), (.int .i64)] fun x => seek_Find x.1 x.2.1.1 x.2.1.2
noncomputable def x_seek_Find : Cx := { ti := ti, con := [(16, c_drbg_New_m), (17, conIf 0 c_seek_chain_m c_seek_chain), (14, c_seek_Spawn), (18, c_group_Check)], fns := [], un := 6 }
theorem xok_seek_Find : CxOk Try.prog x_seek_Find := CxOk.of mixed ti_ok (List.forall_mem_cons.2 ⟨con_drbg_New_m, List.forall_mem_cons.2 ⟨conIf_ok con_seek_chain_m con_seek_chain, List.forall_mem_cons.2 ⟨con_seek_Spawn, List.forall_mem_cons.2 ⟨con_group_Check, List.forall_mem_nil _⟩⟩⟩⟩) (List.forall_mem_nil _)
theorem fn_seek_Find : FnOk Try.prog 5 Try.f5 [] := ⟨Try.func5, Try.call5, lps_nil⟩
theorem e_seek_Find (seed : ByteArray) (nbits : Nat) (bits : Nat → Int) : bodyK x_seek_Find [] (denF x_seek_Find 8) Try.f5 (domV [.str, (.sl (.int .i64))] (seed, (nbits, bits), ())) [] 0 (kOut [(.pair (.sl (.pair (.arr 4 (.int .u64)) (.int .i64))) (.arr 4 (.int .u64))), (.int .i64)]) = seek_Find' seed nbits bits := by kernel_rfl
theorem con_seek_Find : ConOk Try.prog 5 c_seek_Find := con_ok xok_seek_Find 8 fn_seek_Find false [.str, (.sl (.int .i64))] [(.pair (.sl (.pair (.arr 4 (.int .u64)) (.int .i64))) (.arr 4 (.int .u64))), (.int .i64)] _ (by decide) (fun x => by rw [seek_Find_eq]; exact e_seek_Find x.1 x.2.1.1 x.2.1.2)
end Go.Proofs.Ythmfddbehhgnkaa
