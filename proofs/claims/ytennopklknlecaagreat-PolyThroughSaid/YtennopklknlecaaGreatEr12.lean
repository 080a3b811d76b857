/-
  The functions of a package are the plain ones.
-/
import Derived.Test.YtennopklknlecaaGreatEqA
import Derived.Test.YtennopklknlecaaGreatDenH
import Derived.Test.YtennopklknlecaaGreatPr12
set_option linter.unusedVariables false
set_option linter.unusedSimpArgs false
set_option maxRecDepth 100000
set_option maxHeartbeats 0
namespace Go.Pl
end Go.Pl
open Go Go.Den Go.Pl
namespace Go.Proofs.YtennopklknlecaaGreat
abbrev S_r12_Mul_2 : Shape := { sl := [(0, (.sz (.int .i64))), (1, (.sz (.int .i64))), (2, (.v (.int .i64))), (7, (.w 3 (.int .i64) 2)), (8, (.v (.int .i64))), (9, (.v (.int .i64)))], ob := [], lo := 2, nx := 3 }
abbrev E_r12_Mul_2 : List Ex := [(.normal, { sl := [(0, (.sz (.int .i64))), (1, (.sz (.int .i64))), (2, (.v (.int .i64))), (7, (.w 3 (.int .i64) 3)), (8, (.v (.int .i64)))], ob := [], lo := 3, nx := 4 })]
noncomputable def L_r12_Mul_2 : Code := loopIn (bodyOf Tryz.f30) 2
noncomputable def P_r12_Mul_2 : Lp := lpOf S_r12_Mul_2 E_r12_Mul_2 62 R_r12_Mul_2
abbrev S_r12_Mul_0 : Shape := { sl := [(0, (.sz (.int .i64))), (1, (.sz (.int .i64))), (2, (.v (.int .i64))), (7, (.w 3 (.int .i64) 1)), (8, (.v (.int .i64)))], ob := [], lo := 1, nx := 2 }
abbrev E_r12_Mul_0 : List Ex := [(.normal, { sl := [(7, (.w 3 (.int .i64) 2))], ob := [], lo := 2, nx := 3 })]
noncomputable def L_r12_Mul_0 : Code := loopIn (bodyOf Tryz.f30) 0
noncomputable def P_r12_Mul_0 : Lp := lpOf S_r12_Mul_0 E_r12_Mul_0 62 R_r12_Mul_0
abbrev S_r12_Mul_52_0 : Shape := { sl := [(0, (.w 3 (.int .i64) 3)), (3, (.v (.int .i64)))], ob := [], lo := 3, nx := 4 }
abbrev E_r12_Mul_52_0 : List Ex := [(.normal, { sl := [(0, (.w 3 (.int .i64) 4)), (3, (.v (.int .i64)))], ob := [], lo := 4, nx := 5 })]
noncomputable def L_r12_Mul_52_0 : Code := loopIn (bodyOf Tryz.f59) 0
noncomputable def P_r12_Mul_52_0 : Lp := lpOf S_r12_Mul_52_0 E_r12_Mul_52_0 21 R_r12_Mul_52_0
abbrev O_r12_Mul : List Shape := [{ sl := [(0, (.w 3 (.int .i64) 5))], ob := [], lo := 5, nx := 6 }]
noncomputable def c_r12_Mul : Con := conO [(.sl (.int .i64)), (.sl (.int .i64)), (.int .i64)] O_r12_Mul fun x => r12_Mul x.1.1 x.1.2 x.2.1.1 x.2.1.2 x.2.2.1
noncomputable def x_r12_Mul : Cx := { ti := ti, con := [(31, c_r08_Mul), (58, c_r08_Add)], fns := [(59, Tryz.f59, [(0, P_r12_Mul_52_0)])], un := 6 }
noncomputable def x_r12_Mul_i59 : Cx := { ti := ti, con := [(31, c_r08_Mul), (58, c_r08_Add)], fns := [], un := 6 }
theorem xok_r12_Mul_i59 : CxOk Tryz.prog x_r12_Mul_i59 := CxOk.of mixed ti_ok (List.forall_mem_cons.2 ⟨con_r08_Mul, List.forall_mem_cons.2 ⟨con_r08_Add, List.forall_mem_nil _⟩⟩) (List.forall_mem_nil _)
theorem r_r12_Mul_52_0 (x : S_r12_Mul_52_0.X) : denC x_r12_Mul_i59 [] (denF x_r12_Mul_i59 8) L_r12_Mul_52_0 (S_r12_Mul_52_0.mkS 21 x) (kRound 0 S_r12_Mul_52_0 E_r12_Mul_52_0) = R_r12_Mul_52_0 x := by kernel_rfl
theorem l_r12_Mul_52_0 : LpOk Tryz.prog 0 (.loop L_r12_Mul_52_0) P_r12_Mul_52_0 := lpOf_ok xok_r12_Mul_i59 8 (lps_nil) S_r12_Mul_52_0 E_r12_Mul_52_0 21 R_r12_Mul_52_0 (by decide) r_r12_Mul_52_0
theorem xok_r12_Mul : CxOk Tryz.prog x_r12_Mul := CxOk.of mixed ti_ok (List.forall_mem_cons.2 ⟨con_r08_Mul, List.forall_mem_cons.2 ⟨con_r08_Add, List.forall_mem_nil _⟩⟩) (List.forall_mem_cons.2 ⟨⟨Tryz.func59, Tryz.call59, lps_of (by kernel_rfl) (lps_one l_r12_Mul_52_0 (by kernel_rfl) (List.forall_mem_nil _))⟩, List.forall_mem_nil _⟩)
theorem r_r12_Mul_2 (x : S_r12_Mul_2.X) : denC x_r12_Mul [] (denF x_r12_Mul 8) L_r12_Mul_2 (S_r12_Mul_2.mkS 62 x) (kRound 2 S_r12_Mul_2 E_r12_Mul_2) = R_r12_Mul_2 x := by kernel_rfl
theorem l_r12_Mul_2 : LpOk Tryz.prog 2 (.loop L_r12_Mul_2) P_r12_Mul_2 := lpOf_ok xok_r12_Mul 8 (lps_nil) S_r12_Mul_2 E_r12_Mul_2 62 R_r12_Mul_2 (by decide) r_r12_Mul_2
theorem r_r12_Mul_0 (x : S_r12_Mul_0.X) : denC x_r12_Mul [(2, P_r12_Mul_2)] (denF x_r12_Mul 8) L_r12_Mul_0 (S_r12_Mul_0.mkS 62 x) (kRound 0 S_r12_Mul_0 E_r12_Mul_0) = R_r12_Mul_0 x := by kernel_rfl
theorem l_r12_Mul_0 : LpOk Tryz.prog 0 (.loop L_r12_Mul_0) P_r12_Mul_0 := lpOf_ok xok_r12_Mul 8 (lps_of (by kernel_rfl) (lps_one l_r12_Mul_2 (by kernel_rfl) (List.forall_mem_nil _))) S_r12_Mul_0 E_r12_Mul_0 62 R_r12_Mul_0 (by decide) r_r12_Mul_0
theorem fn_r12_Mul : FnOk Tryz.prog 30 Tryz.f30 [(2, P_r12_Mul_2), (0, P_r12_Mul_0)] := ⟨Tryz.func30, Tryz.call30, lps_of (by kernel_rfl) (lps_one l_r12_Mul_2 (by kernel_rfl) (lps_one l_r12_Mul_0 (by kernel_rfl) (List.forall_mem_nil _)))⟩
theorem e_r12_Mul (na : Nat) (a : Nat → Int) (nb : Nat) (b : Nat → Int) (q : Int) : bodyK x_r12_Mul [(2, P_r12_Mul_2), (0, P_r12_Mul_0)] (denF x_r12_Mul 8) Tryz.f30 (domV [(.sl (.int .i64)), (.sl (.int .i64)), (.int .i64)] ((na, a), (nb, b), q, ())) [] 0 (kOutS 1 O_r12_Mul) = r12_Mul' na a nb b q := by kernel_rfl
theorem con_r12_Mul : ConOk Tryz.prog 30 c_r12_Mul := conO_ok xok_r12_Mul 8 fn_r12_Mul 1 [(.sl (.int .i64)), (.sl (.int .i64)), (.int .i64)] O_r12_Mul _ (by decide) (fun x => by rw [r12_Mul_eq]; exact e_r12_Mul x.1.1 x.1.2 x.2.1.1 x.2.1.2 x.2.2.1)
noncomputable def c_r12_at : Con := conV true [(.sl (.int .i64)), (.int .i64)] [(.int .i64)] fun x => r12_at x.1.1 x.1.2 x.2.1
noncomputable def x_r12_at : Cx := { ti := ti, con := [], fns := [], un := 6 }
theorem xok_r12_at : CxOk Tryz.prog x_r12_at := CxOk.of mixed ti_ok (List.forall_mem_nil _) (List.forall_mem_nil _)
theorem fn_r12_at : FnOk Tryz.prog 61 Tryz.f61 [] := ⟨Tryz.func61, Tryz.call61, lps_nil⟩
theorem e_r12_at (nf : Nat) (f : Nat → Int) (k : Int) : bodyK x_r12_at [] (denF x_r12_at 8) Tryz.f61 (domV [(.sl (.int .i64)), (.int .i64)] ((nf, f), k, ())) [] 0 (kOut [(.int .i64)]) = r12_at' nf f k := by kernel_rfl
theorem con_r12_at : ConOk Tryz.prog 61 c_r12_at := con_ok xok_r12_at 8 fn_r12_at true [(.sl (.int .i64)), (.int .i64)] [(.int .i64)] _ (by decide) (fun x => by rw [r12_at_eq]; exact e_r12_at x.1.1 x.1.2 x.2.1)
abbrev S_r12_Add_0 : Shape := { sl := [(0, (.sz (.int .i64))), (1, (.sz (.int .i64))), (2, (.v (.int .i64))), (7, (.w 3 (.int .i64) 0)), (8, (.v (.int .i64)))], ob := [], lo := 0, nx := 1 }
abbrev E_r12_Add_0 : List Ex := [(.normal, { sl := [(7, (.w 3 (.int .i64) 1))], ob := [], lo := 1, nx := 2 })]
noncomputable def L_r12_Add_0 : Code := loopIn (bodyOf Tryz.f32) 0
noncomputable def P_r12_Add_0 : Lp := lpOf S_r12_Add_0 E_r12_Add_0 31 R_r12_Add_0
abbrev S_r12_Add_52_0 : Shape := { sl := [(0, (.w 3 (.int .i64) 2)), (3, (.v (.int .i64)))], ob := [], lo := 2, nx := 3 }
abbrev E_r12_Add_52_0 : List Ex := [(.normal, { sl := [(0, (.w 3 (.int .i64) 3)), (3, (.v (.int .i64)))], ob := [], lo := 3, nx := 4 })]
noncomputable def L_r12_Add_52_0 : Code := loopIn (bodyOf Tryz.f59) 0
noncomputable def P_r12_Add_52_0 : Lp := lpOf S_r12_Add_52_0 E_r12_Add_52_0 21 R_r12_Add_52_0
abbrev O_r12_Add : List Shape := [{ sl := [(0, (.w 3 (.int .i64) 4))], ob := [], lo := 4, nx := 5 }]
noncomputable def c_r12_Add : Con := conO [(.sl (.int .i64)), (.sl (.int .i64)), (.int .i64)] O_r12_Add fun x => r12_Add x.1.1 x.1.2 x.2.1.1 x.2.1.2 x.2.2.1
noncomputable def x_r12_Add : Cx := { ti := ti, con := [(61, c_r12_at), (58, c_r08_Add)], fns := [(59, Tryz.f59, [(0, P_r12_Add_52_0)])], un := 6 }
noncomputable def x_r12_Add_i59 : Cx := { ti := ti, con := [(61, c_r12_at), (58, c_r08_Add)], fns := [], un := 6 }
theorem xok_r12_Add_i59 : CxOk Tryz.prog x_r12_Add_i59 := CxOk.of mixed ti_ok (List.forall_mem_cons.2 ⟨con_r12_at, List.forall_mem_cons.2 ⟨con_r08_Add, List.forall_mem_nil _⟩⟩) (List.forall_mem_nil _)
theorem r_r12_Add_52_0 (x : S_r12_Add_52_0.X) : denC x_r12_Add_i59 [] (denF x_r12_Add_i59 8) L_r12_Add_52_0 (S_r12_Add_52_0.mkS 21 x) (kRound 0 S_r12_Add_52_0 E_r12_Add_52_0) = R_r12_Add_52_0 x := by kernel_rfl
theorem l_r12_Add_52_0 : LpOk Tryz.prog 0 (.loop L_r12_Add_52_0) P_r12_Add_52_0 := lpOf_ok xok_r12_Add_i59 8 (lps_nil) S_r12_Add_52_0 E_r12_Add_52_0 21 R_r12_Add_52_0 (by decide) r_r12_Add_52_0
theorem xok_r12_Add : CxOk Tryz.prog x_r12_Add := CxOk.of mixed ti_ok (List.forall_mem_cons.2 ⟨con_r12_at, List.forall_mem_cons.2 ⟨con_r08_Add, List.forall_mem_nil _⟩⟩) (List.forall_mem_cons.2 ⟨⟨Tryz.func59, Tryz.call59, lps_of (by kernel_rfl) (lps_one l_r12_Add_52_0 (by kernel_rfl) (List.forall_mem_nil _))⟩, List.forall_mem_nil _⟩)
theorem r_r12_Add_0 (x : S_r12_Add_0.X) : denC x_r12_Add [] (denF x_r12_Add 8) L_r12_Add_0 (S_r12_Add_0.mkS 31 x) (kRound 0 S_r12_Add_0 E_r12_Add_0) = R_r12_Add_0 x := by kernel_rfl
theorem l_r12_Add_0 : LpOk Tryz.prog 0 (.loop L_r12_Add_0) P_r12_Add_0 := lpOf_ok xok_r12_Add 8 (lps_nil) S_r12_Add_0 E_r12_Add_0 31 R_r12_Add_0 (by decide) r_r12_Add_0
theorem fn_r12_Add : FnOk Tryz.prog 32 Tryz.f32 [(0, P_r12_Add_0)] := ⟨Tryz.func32, Tryz.call32, lps_of (by kernel_rfl) (lps_one l_r12_Add_0 (by kernel_rfl) (List.forall_mem_nil _))⟩
theorem e_r12_Add (na : Nat) (a : Nat → Int) (nb : Nat) (b : Nat → Int) (q : Int) : bodyK x_r12_Add [(0, P_r12_Add_0)] (denF x_r12_Add 8) Tryz.f32 (domV [(.sl (.int .i64)), (.sl (.int .i64)), (.int .i64)] ((na, a), (nb, b), q, ())) [] 0 (kOutS 1 O_r12_Add) = r12_Add' na a nb b q := by kernel_rfl
theorem con_r12_Add : ConOk Tryz.prog 32 c_r12_Add := conO_ok xok_r12_Add 8 fn_r12_Add 1 [(.sl (.int .i64)), (.sl (.int .i64)), (.int .i64)] O_r12_Add _ (by decide) (fun x => by rw [r12_Add_eq]; exact e_r12_Add x.1.1 x.1.2 x.2.1.1 x.2.1.2 x.2.2.1)
abbrev S_r12_Through_2 : Shape := { sl := [(0, (.sz (.int .i64))), (1, (.sz (.int .i64))), (2, (.v (.int .i64))), (7, (.w 3 (.int .i64) 2)), (8, (.v (.int .i64))), (9, (.w 3 (.int .i64) 3)), (10, (.v (.int .i64)))], ob := [], lo := 2, nx := 4 }
abbrev E_r12_Through_2 : List Ex := [(.normal, { sl := [(0, (.sz (.int .i64))), (1, (.sz (.int .i64))), (2, (.v (.int .i64))), (7, (.w 3 (.int .i64) 4)), (8, (.v (.int .i64))), (9, (.w 3 (.int .i64) 5))], ob := [], lo := 4, nx := 6 })]
noncomputable def L_r12_Through_2 : Code := loopIn (bodyOf Tryz.f9) 2
noncomputable def P_r12_Through_2 : Lp := lpOf S_r12_Through_2 E_r12_Through_2 69 R_r12_Through_2
abbrev S_r12_Through_0 : Shape := { sl := [(0, (.sz (.int .i64))), (1, (.sz (.int .i64))), (2, (.v (.int .i64))), (7, (.w 3 (.int .i64) 0)), (8, (.v (.int .i64)))], ob := [], lo := 0, nx := 1 }
abbrev E_r12_Through_0 : List Ex := [(.normal, { sl := [(7, (.w 3 (.int .i64) 1))], ob := [], lo := 1, nx := 2 })]
noncomputable def L_r12_Through_0 : Code := loopIn (bodyOf Tryz.f9) 0
noncomputable def P_r12_Through_0 : Lp := lpOf S_r12_Through_0 E_r12_Through_0 69 R_r12_Through_0
abbrev O_r12_Through : List Shape := [{ sl := [(0, (.w 3 (.int .i64) 2))], ob := [], lo := 2, nx := 3 }]
noncomputable def c_r12_Through : Con := conO [(.sl (.int .i64)), (.sl (.int .i64)), (.int .i64)] O_r12_Through fun x => r12_Through x.1.1 x.1.2 x.2.1.1 x.2.1.2 x.2.2.1
noncomputable def x_r12_Through : Cx := { ti := ti, con := [(29, c_r08_Sub), (28, c_r08_Inv), (31, c_r08_Mul), (30, c_r12_Mul), (32, c_r12_Add)], fns := [], un := 6 }
theorem xok_r12_Through : CxOk Tryz.prog x_r12_Through := CxOk.of mixed ti_ok (List.forall_mem_cons.2 ⟨con_r08_Sub, List.forall_mem_cons.2 ⟨con_r08_Inv, List.forall_mem_cons.2 ⟨con_r08_Mul, List.forall_mem_cons.2 ⟨con_r12_Mul, List.forall_mem_cons.2 ⟨con_r12_Add, List.forall_mem_nil _⟩⟩⟩⟩⟩) (List.forall_mem_nil _)
theorem r_r12_Through_2 (x : S_r12_Through_2.X) : denC x_r12_Through [] (denF x_r12_Through 8) L_r12_Through_2 (S_r12_Through_2.mkS 69 x) (kRound 2 S_r12_Through_2 E_r12_Through_2) = R_r12_Through_2 x := by kernel_rfl
theorem l_r12_Through_2 : LpOk Tryz.prog 2 (.loop L_r12_Through_2) P_r12_Through_2 := lpOf_ok xok_r12_Through 8 (lps_nil) S_r12_Through_2 E_r12_Through_2 69 R_r12_Through_2 (by decide) r_r12_Through_2
theorem r_r12_Through_0 (x : S_r12_Through_0.X) : denC x_r12_Through [(2, P_r12_Through_2)] (denF x_r12_Through 8) L_r12_Through_0 (S_r12_Through_0.mkS 69 x) (kRound 0 S_r12_Through_0 E_r12_Through_0) = R_r12_Through_0 x := by kernel_rfl
theorem l_r12_Through_0 : LpOk Tryz.prog 0 (.loop L_r12_Through_0) P_r12_Through_0 := lpOf_ok xok_r12_Through 8 (lps_of (by kernel_rfl) (lps_one l_r12_Through_2 (by kernel_rfl) (List.forall_mem_nil _))) S_r12_Through_0 E_r12_Through_0 69 R_r12_Through_0 (by decide) r_r12_Through_0
theorem fn_r12_Through : FnOk Tryz.prog 9 Tryz.f9 [(2, P_r12_Through_2), (0, P_r12_Through_0)] := ⟨Tryz.func9, Tryz.call9, lps_of (by kernel_rfl) (lps_one l_r12_Through_2 (by kernel_rfl) (lps_one l_r12_Through_0 (by kernel_rfl) (List.forall_mem_nil _)))⟩
theorem e_r12_Through (nxs : Nat) (xs : Nat → Int) (nys : Nat) (ys : Nat → Int) (q : Int) : bodyK x_r12_Through [(2, P_r12_Through_2), (0, P_r12_Through_0)] (denF x_r12_Through 8) Tryz.f9 (domV [(.sl (.int .i64)), (.sl (.int .i64)), (.int .i64)] ((nxs, xs), (nys, ys), q, ())) [] 0 (kOutS 1 O_r12_Through) = r12_Through' nxs xs nys ys q := by kernel_rfl
theorem con_r12_Through : ConOk Tryz.prog 9 c_r12_Through := conO_ok xok_r12_Through 8 fn_r12_Through 1 [(.sl (.int .i64)), (.sl (.int .i64)), (.int .i64)] O_r12_Through _ (by decide) (fun x => by rw [r12_Through_eq]; exact e_r12_Through x.1.1 x.1.2 x.2.1.1 x.2.1.2 x.2.2.1)
end Go.Proofs.YtennopklknlecaaGreat
