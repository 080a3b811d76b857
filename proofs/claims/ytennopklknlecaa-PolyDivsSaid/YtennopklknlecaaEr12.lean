/-
  The functions of a package are the plain ones.
-/
import Derived.Test.YtennopklknlecaaEqA
import Derived.Test.YtennopklknlecaaDenH
import Derived.Test.YtennopklknlecaaPr12
set_option linter.unusedVariables false
set_option linter.unusedSimpArgs false
set_option maxRecDepth 100000
set_option maxHeartbeats 0
namespace Go.Pl
end Go.Pl
open Go Go.Den Go.Pl
namespace Go.Proofs.Ytennopklknlecaa
abbrev S_r12_Trim_0 : Shape := { sl := [(0, (.sz (.int .i64))), (3, (.v (.int .i64)))], ob := [], lo := 0, nx := 0 }
abbrev E_r12_Trim_0 : List Ex := [(.normal, { sl := [(0, (.sz (.int .i64))), (3, (.v (.int .i64)))], ob := [], lo := 0, nx := 0 })]
noncomputable def L_r12_Trim_0 : Code := loopIn (bodyOf Try.f52) 0
noncomputable def P_r12_Trim_0 : Lp := lpOf S_r12_Trim_0 E_r12_Trim_0 21 R_r12_Trim_0
noncomputable def c_r12_Trim : Con := conV false [(.sl (.int .i64))] [(.sl (.int .i64))] fun x => r12_Trim x.1.1 x.1.2
noncomputable def x_r12_Trim : Cx := { ti := ti, con := [], fns := [], un := 6 }
theorem xok_r12_Trim : CxOk Try.prog x_r12_Trim := CxOk.of mixed ti_ok (List.forall_mem_nil _) (List.forall_mem_nil _)
theorem r_r12_Trim_0 (x : S_r12_Trim_0.X) : denC x_r12_Trim [] (denF x_r12_Trim 8) L_r12_Trim_0 (S_r12_Trim_0.mkS 21 x) (kRound 0 S_r12_Trim_0 E_r12_Trim_0) = R_r12_Trim_0 x := by kernel_rfl
theorem l_r12_Trim_0 : LpOk Try.prog 0 (.loop L_r12_Trim_0) P_r12_Trim_0 := lpOf_ok xok_r12_Trim 8 (lps_nil) S_r12_Trim_0 E_r12_Trim_0 21 R_r12_Trim_0 (by decide) r_r12_Trim_0
theorem fn_r12_Trim : FnOk Try.prog 52 Try.f52 [(0, P_r12_Trim_0)] := ⟨Try.func52, Try.call52, lps_of (by kernel_rfl) (lps_one l_r12_Trim_0 (by kernel_rfl) (List.forall_mem_nil _))⟩
theorem e_r12_Trim (nf : Nat) (f : Nat → Int) : bodyK x_r12_Trim [(0, P_r12_Trim_0)] (denF x_r12_Trim 8) Try.f52 (domV [(.sl (.int .i64))] ((nf, f), ())) [] 0 (kOut [(.sl (.int .i64))]) = r12_Trim' nf f := by kernel_rfl
theorem con_r12_Trim : ConOk Try.prog 52 c_r12_Trim := con_ok xok_r12_Trim 8 fn_r12_Trim false [(.sl (.int .i64))] [(.sl (.int .i64))] _ (by decide) (fun x => by rw [r12_Trim_eq]; exact e_r12_Trim x.1.1 x.1.2)
abbrev S_r12_Eval_0 : Shape := { sl := [(0, (.sz (.int .i64))), (1, (.v (.int .i64))), (2, (.v (.int .i64))), (7, (.v (.int .i64))), (8, (.v (.int .i64))), (9, (.v (.int .i64)))], ob := [], lo := 0, nx := 0 }
abbrev E_r12_Eval_0 : List Ex := [(.normal, { sl := [(7, (.v (.int .i64)))], ob := [], lo := 0, nx := 0 })]
noncomputable def L_r12_Eval_0 : Code := loopIn (bodyOf Try.f55) 0
noncomputable def P_r12_Eval_0 : Lp := lpOf S_r12_Eval_0 E_r12_Eval_0 31 R_r12_Eval_0
noncomputable def c_r12_Eval : Con := conV true [(.sl (.int .i64)), (.int .i64), (.int .i64)] [(.int .i64)] fun x => r12_Eval x.1.1 x.1.2 x.2.1 x.2.2.1
noncomputable def x_r12_Eval : Cx := { ti := ti, con := [(92, c_r08_Mul), (91, c_r08_Add)], fns := [], un := 6 }
theorem xok_r12_Eval : CxOk Try.prog x_r12_Eval := CxOk.of mixed ti_ok (List.forall_mem_cons.2 ⟨con_r08_Mul, List.forall_mem_cons.2 ⟨con_r08_Add, List.forall_mem_nil _⟩⟩) (List.forall_mem_nil _)
theorem r_r12_Eval_0 (x : S_r12_Eval_0.X) : denC x_r12_Eval [] (denF x_r12_Eval 8) L_r12_Eval_0 (S_r12_Eval_0.mkS 31 x) (kRound 0 S_r12_Eval_0 E_r12_Eval_0) = R_r12_Eval_0 x := by kernel_rfl
theorem l_r12_Eval_0 : LpOk Try.prog 0 (.loop L_r12_Eval_0) P_r12_Eval_0 := lpOf_ok xok_r12_Eval 8 (lps_nil) S_r12_Eval_0 E_r12_Eval_0 31 R_r12_Eval_0 (by decide) r_r12_Eval_0
theorem fn_r12_Eval : FnOk Try.prog 55 Try.f55 [(0, P_r12_Eval_0)] := ⟨Try.func55, Try.call55, lps_of (by kernel_rfl) (lps_one l_r12_Eval_0 (by kernel_rfl) (List.forall_mem_nil _))⟩
theorem e_r12_Eval (nf : Nat) (f : Nat → Int) (x : Int) (q : Int) : bodyK x_r12_Eval [(0, P_r12_Eval_0)] (denF x_r12_Eval 8) Try.f55 (domV [(.sl (.int .i64)), (.int .i64), (.int .i64)] ((nf, f), x, q, ())) [] 0 (kOut [(.int .i64)]) = r12_Eval' nf f x q := by kernel_rfl
theorem con_r12_Eval : ConOk Try.prog 55 c_r12_Eval := con_ok xok_r12_Eval 8 fn_r12_Eval true [(.sl (.int .i64)), (.int .i64), (.int .i64)] [(.int .i64)] _ (by decide) (fun x => by rw [r12_Eval_eq]; exact e_r12_Eval x.1.1 x.1.2 x.2.1 x.2.2.1)
noncomputable def c_r12_at : Con := conV true [(.sl (.int .i64)), (.int .i64)] [(.int .i64)] fun x => r12_at x.1.1 x.1.2 x.2.1
noncomputable def x_r12_at : Cx := { ti := ti, con := [], fns := [], un := 6 }
theorem xok_r12_at : CxOk Try.prog x_r12_at := CxOk.of mixed ti_ok (List.forall_mem_nil _) (List.forall_mem_nil _)
theorem fn_r12_at : FnOk Try.prog 96 Try.f96 [] := ⟨Try.func96, Try.call96, lps_nil⟩
theorem e_r12_at (nf : Nat) (f : Nat → Int) (k : Int) : bodyK x_r12_at [] (denF x_r12_at 8) Try.f96 (domV [(.sl (.int .i64)), (.int .i64)] ((nf, f), k, ())) [] 0 (kOut [(.int .i64)]) = r12_at' nf f k := by kernel_rfl
theorem con_r12_at : ConOk Try.prog 96 c_r12_at := con_ok xok_r12_at 8 fn_r12_at true [(.sl (.int .i64)), (.int .i64)] [(.int .i64)] _ (by decide) (fun x => by rw [r12_at_eq]; exact e_r12_at x.1.1 x.1.2 x.2.1)
abbrev S_r12_Add_0 : Shape := { sl := [(0, (.sz (.int .i64))), (1, (.sz (.int .i64))), (2, (.v (.int .i64))), (7, (.w 3 (.int .i64) 0)), (8, (.v (.int .i64)))], ob := [], lo := 0, nx := 1 }
abbrev E_r12_Add_0 : List Ex := [(.normal, { sl := [(7, (.w 3 (.int .i64) 1))], ob := [], lo := 1, nx := 2 })]
noncomputable def L_r12_Add_0 : Code := loopIn (bodyOf Try.f57) 0
noncomputable def P_r12_Add_0 : Lp := lpOf S_r12_Add_0 E_r12_Add_0 31 R_r12_Add_0
abbrev S_r12_Add_52_0 : Shape := { sl := [(0, (.w 3 (.int .i64) 2)), (3, (.v (.int .i64)))], ob := [], lo := 2, nx := 3 }
abbrev E_r12_Add_52_0 : List Ex := [(.normal, { sl := [(0, (.w 3 (.int .i64) 3)), (3, (.v (.int .i64)))], ob := [], lo := 3, nx := 4 })]
noncomputable def L_r12_Add_52_0 : Code := loopIn (bodyOf Try.f52) 0
noncomputable def P_r12_Add_52_0 : Lp := lpOf S_r12_Add_52_0 E_r12_Add_52_0 21 R_r12_Add_52_0
abbrev O_r12_Add : List Shape := [{ sl := [(0, (.w 3 (.int .i64) 4))], ob := [], lo := 4, nx := 5 }]
noncomputable def c_r12_Add : Con := conO [(.sl (.int .i64)), (.sl (.int .i64)), (.int .i64)] O_r12_Add fun x => r12_Add x.1.1 x.1.2 x.2.1.1 x.2.1.2 x.2.2.1
noncomputable def x_r12_Add : Cx := { ti := ti, con := [(96, c_r12_at), (91, c_r08_Add)], fns := [(52, Try.f52, [(0, P_r12_Add_52_0)])], un := 6 }
noncomputable def x_r12_Add_i52 : Cx := { ti := ti, con := [(96, c_r12_at), (91, c_r08_Add)], fns := [], un := 6 }
theorem xok_r12_Add_i52 : CxOk Try.prog x_r12_Add_i52 := CxOk.of mixed ti_ok (List.forall_mem_cons.2 ⟨con_r12_at, List.forall_mem_cons.2 ⟨con_r08_Add, List.forall_mem_nil _⟩⟩) (List.forall_mem_nil _)
theorem r_r12_Add_52_0 (x : S_r12_Add_52_0.X) : denC x_r12_Add_i52 [] (denF x_r12_Add_i52 8) L_r12_Add_52_0 (S_r12_Add_52_0.mkS 21 x) (kRound 0 S_r12_Add_52_0 E_r12_Add_52_0) = R_r12_Add_52_0 x := by kernel_rfl
theorem l_r12_Add_52_0 : LpOk Try.prog 0 (.loop L_r12_Add_52_0) P_r12_Add_52_0 := lpOf_ok xok_r12_Add_i52 8 (lps_nil) S_r12_Add_52_0 E_r12_Add_52_0 21 R_r12_Add_52_0 (by decide) r_r12_Add_52_0
theorem xok_r12_Add : CxOk Try.prog x_r12_Add := CxOk.of mixed ti_ok (List.forall_mem_cons.2 ⟨con_r12_at, List.forall_mem_cons.2 ⟨con_r08_Add, List.forall_mem_nil _⟩⟩) (List.forall_mem_cons.2 ⟨⟨Try.func52, Try.call52, lps_of (by kernel_rfl) (lps_one l_r12_Add_52_0 (by kernel_rfl) (List.forall_mem_nil _))⟩, List.forall_mem_nil _⟩)
theorem r_r12_Add_0 (x : S_r12_Add_0.X) : denC x_r12_Add [] (denF x_r12_Add 8) L_r12_Add_0 (S_r12_Add_0.mkS 31 x) (kRound 0 S_r12_Add_0 E_r12_Add_0) = R_r12_Add_0 x := by kernel_rfl
theorem l_r12_Add_0 : LpOk Try.prog 0 (.loop L_r12_Add_0) P_r12_Add_0 := lpOf_ok xok_r12_Add 8 (lps_nil) S_r12_Add_0 E_r12_Add_0 31 R_r12_Add_0 (by decide) r_r12_Add_0
theorem fn_r12_Add : FnOk Try.prog 57 Try.f57 [(0, P_r12_Add_0)] := ⟨Try.func57, Try.call57, lps_of (by kernel_rfl) (lps_one l_r12_Add_0 (by kernel_rfl) (List.forall_mem_nil _))⟩
theorem e_r12_Add (na : Nat) (a : Nat → Int) (nb : Nat) (b : Nat → Int) (q : Int) : bodyK x_r12_Add [(0, P_r12_Add_0)] (denF x_r12_Add 8) Try.f57 (domV [(.sl (.int .i64)), (.sl (.int .i64)), (.int .i64)] ((na, a), (nb, b), q, ())) [] 0 (kOutS 1 O_r12_Add) = r12_Add' na a nb b q := by kernel_rfl
theorem con_r12_Add : ConOk Try.prog 57 c_r12_Add := conO_ok xok_r12_Add 8 fn_r12_Add 1 [(.sl (.int .i64)), (.sl (.int .i64)), (.int .i64)] O_r12_Add _ (by decide) (fun x => by rw [r12_Add_eq]; exact e_r12_Add x.1.1 x.1.2 x.2.1.1 x.2.1.2 x.2.2.1)
abbrev S_r12_Mul_2 : Shape := { sl := [(0, (.sz (.int .i64))), (1, (.sz (.int .i64))), (2, (.v (.int .i64))), (7, (.w 3 (.int .i64) 2)), (8, (.v (.int .i64))), (9, (.v (.int .i64)))], ob := [], lo := 2, nx := 3 }
abbrev E_r12_Mul_2 : List Ex := [(.normal, { sl := [(0, (.sz (.int .i64))), (1, (.sz (.int .i64))), (2, (.v (.int .i64))), (7, (.w 3 (.int .i64) 3)), (8, (.v (.int .i64)))], ob := [], lo := 3, nx := 4 })]
noncomputable def L_r12_Mul_2 : Code := loopIn (bodyOf Try.f59) 2
noncomputable def P_r12_Mul_2 : Lp := lpOf S_r12_Mul_2 E_r12_Mul_2 62 R_r12_Mul_2
abbrev S_r12_Mul_0 : Shape := { sl := [(0, (.sz (.int .i64))), (1, (.sz (.int .i64))), (2, (.v (.int .i64))), (7, (.w 3 (.int .i64) 1)), (8, (.v (.int .i64)))], ob := [], lo := 1, nx := 2 }
abbrev E_r12_Mul_0 : List Ex := [(.normal, { sl := [(7, (.w 3 (.int .i64) 2))], ob := [], lo := 2, nx := 3 })]
noncomputable def L_r12_Mul_0 : Code := loopIn (bodyOf Try.f59) 0
noncomputable def P_r12_Mul_0 : Lp := lpOf S_r12_Mul_0 E_r12_Mul_0 62 R_r12_Mul_0
abbrev S_r12_Mul_52_0 : Shape := { sl := [(0, (.w 3 (.int .i64) 3)), (3, (.v (.int .i64)))], ob := [], lo := 3, nx := 4 }
abbrev E_r12_Mul_52_0 : List Ex := [(.normal, { sl := [(0, (.w 3 (.int .i64) 4)), (3, (.v (.int .i64)))], ob := [], lo := 4, nx := 5 })]
noncomputable def L_r12_Mul_52_0 : Code := loopIn (bodyOf Try.f52) 0
noncomputable def P_r12_Mul_52_0 : Lp := lpOf S_r12_Mul_52_0 E_r12_Mul_52_0 21 R_r12_Mul_52_0
abbrev O_r12_Mul : List Shape := [{ sl := [(0, (.w 3 (.int .i64) 5))], ob := [], lo := 5, nx := 6 }]
noncomputable def c_r12_Mul : Con := conO [(.sl (.int .i64)), (.sl (.int .i64)), (.int .i64)] O_r12_Mul fun x => r12_Mul x.1.1 x.1.2 x.2.1.1 x.2.1.2 x.2.2.1
noncomputable def x_r12_Mul : Cx := { ti := ti, con := [(92, c_r08_Mul), (91, c_r08_Add)], fns := [(52, Try.f52, [(0, P_r12_Mul_52_0)])], un := 6 }
noncomputable def x_r12_Mul_i52 : Cx := { ti := ti, con := [(92, c_r08_Mul), (91, c_r08_Add)], fns := [], un := 6 }
theorem xok_r12_Mul_i52 : CxOk Try.prog x_r12_Mul_i52 := CxOk.of mixed ti_ok (List.forall_mem_cons.2 ⟨con_r08_Mul, List.forall_mem_cons.2 ⟨con_r08_Add, List.forall_mem_nil _⟩⟩) (List.forall_mem_nil _)
theorem r_r12_Mul_52_0 (x : S_r12_Mul_52_0.X) : denC x_r12_Mul_i52 [] (denF x_r12_Mul_i52 8) L_r12_Mul_52_0 (S_r12_Mul_52_0.mkS 21 x) (kRound 0 S_r12_Mul_52_0 E_r12_Mul_52_0) = R_r12_Mul_52_0 x := by kernel_rfl
theorem l_r12_Mul_52_0 : LpOk Try.prog 0 (.loop L_r12_Mul_52_0) P_r12_Mul_52_0 := lpOf_ok xok_r12_Mul_i52 8 (lps_nil) S_r12_Mul_52_0 E_r12_Mul_52_0 21 R_r12_Mul_52_0 (by decide) r_r12_Mul_52_0
theorem xok_r12_Mul : CxOk Try.prog x_r12_Mul := CxOk.of mixed ti_ok (List.forall_mem_cons.2 ⟨con_r08_Mul, List.forall_mem_cons.2 ⟨con_r08_Add, List.forall_mem_nil _⟩⟩) (List.forall_mem_cons.2 ⟨⟨Try.func52, Try.call52, lps_of (by kernel_rfl) (lps_one l_r12_Mul_52_0 (by kernel_rfl) (List.forall_mem_nil _))⟩, List.forall_mem_nil _⟩)
theorem r_r12_Mul_2 (x : S_r12_Mul_2.X) : denC x_r12_Mul [] (denF x_r12_Mul 8) L_r12_Mul_2 (S_r12_Mul_2.mkS 62 x) (kRound 2 S_r12_Mul_2 E_r12_Mul_2) = R_r12_Mul_2 x := by kernel_rfl
theorem l_r12_Mul_2 : LpOk Try.prog 2 (.loop L_r12_Mul_2) P_r12_Mul_2 := lpOf_ok xok_r12_Mul 8 (lps_nil) S_r12_Mul_2 E_r12_Mul_2 62 R_r12_Mul_2 (by decide) r_r12_Mul_2
theorem r_r12_Mul_0 (x : S_r12_Mul_0.X) : denC x_r12_Mul [(2, P_r12_Mul_2)] (denF x_r12_Mul 8) L_r12_Mul_0 (S_r12_Mul_0.mkS 62 x) (kRound 0 S_r12_Mul_0 E_r12_Mul_0) = R_r12_Mul_0 x := by kernel_rfl
theorem l_r12_Mul_0 : LpOk Try.prog 0 (.loop L_r12_Mul_0) P_r12_Mul_0 := lpOf_ok xok_r12_Mul 8 (lps_of (by kernel_rfl) (lps_one l_r12_Mul_2 (by kernel_rfl) (List.forall_mem_nil _))) S_r12_Mul_0 E_r12_Mul_0 62 R_r12_Mul_0 (by decide) r_r12_Mul_0
theorem fn_r12_Mul : FnOk Try.prog 59 Try.f59 [(2, P_r12_Mul_2), (0, P_r12_Mul_0)] := ⟨Try.func59, Try.call59, lps_of (by kernel_rfl) (lps_one l_r12_Mul_2 (by kernel_rfl) (lps_one l_r12_Mul_0 (by kernel_rfl) (List.forall_mem_nil _)))⟩
theorem e_r12_Mul (na : Nat) (a : Nat → Int) (nb : Nat) (b : Nat → Int) (q : Int) : bodyK x_r12_Mul [(2, P_r12_Mul_2), (0, P_r12_Mul_0)] (denF x_r12_Mul 8) Try.f59 (domV [(.sl (.int .i64)), (.sl (.int .i64)), (.int .i64)] ((na, a), (nb, b), q, ())) [] 0 (kOutS 1 O_r12_Mul) = r12_Mul' na a nb b q := by kernel_rfl
theorem con_r12_Mul : ConOk Try.prog 59 c_r12_Mul := conO_ok xok_r12_Mul 8 fn_r12_Mul 1 [(.sl (.int .i64)), (.sl (.int .i64)), (.int .i64)] O_r12_Mul _ (by decide) (fun x => by rw [r12_Mul_eq]; exact e_r12_Mul x.1.1 x.1.2 x.2.1.1 x.2.1.2 x.2.2.1)
abbrev S_r12_Same_0 : Shape := { sl := [(0, (.sz (.int .i64))), (1, (.sz (.int .i64))), (5, (.v (.int .i64)))], ob := [], lo := 0, nx := 0 }
abbrev E_r12_Same_0 : List Ex := [(.ret, { sl := [(4, (.v .bool))], ob := [], lo := 0, nx := 0 }), (.normal, { sl := [], ob := [], lo := 0, nx := 0 })]
noncomputable def L_r12_Same_0 : Code := loopIn (bodyOf Try.f61) 0
noncomputable def P_r12_Same_0 : Lp := lpOf S_r12_Same_0 E_r12_Same_0 26 R_r12_Same_0
noncomputable def c_r12_Same : Con := conV true [(.sl (.int .i64)), (.sl (.int .i64))] [.bool] fun x => r12_Same x.1.1 x.1.2 x.2.1.1 x.2.1.2
noncomputable def x_r12_Same : Cx := { ti := ti, con := [], fns := [], un := 6 }
theorem xok_r12_Same : CxOk Try.prog x_r12_Same := CxOk.of mixed ti_ok (List.forall_mem_nil _) (List.forall_mem_nil _)
theorem r_r12_Same_0 (x : S_r12_Same_0.X) : denC x_r12_Same [] (denF x_r12_Same 8) L_r12_Same_0 (S_r12_Same_0.mkS 26 x) (kRound 0 S_r12_Same_0 E_r12_Same_0) = R_r12_Same_0 x := by kernel_rfl
theorem l_r12_Same_0 : LpOk Try.prog 0 (.loop L_r12_Same_0) P_r12_Same_0 := lpOf_ok xok_r12_Same 8 (lps_nil) S_r12_Same_0 E_r12_Same_0 26 R_r12_Same_0 (by decide) r_r12_Same_0
theorem fn_r12_Same : FnOk Try.prog 61 Try.f61 [(0, P_r12_Same_0)] := ⟨Try.func61, Try.call61, lps_of (by kernel_rfl) (lps_one l_r12_Same_0 (by kernel_rfl) (List.forall_mem_nil _))⟩
theorem e_r12_Same (na : Nat) (a : Nat → Int) (nb : Nat) (b : Nat → Int) : bodyK x_r12_Same [(0, P_r12_Same_0)] (denF x_r12_Same 8) Try.f61 (domV [(.sl (.int .i64)), (.sl (.int .i64))] ((na, a), (nb, b), ())) [] 0 (kOut [.bool]) = r12_Same' na a nb b := by kernel_rfl
theorem con_r12_Same : ConOk Try.prog 61 c_r12_Same := con_ok xok_r12_Same 8 fn_r12_Same true [(.sl (.int .i64)), (.sl (.int .i64))] [.bool] _ (by decide) (fun x => by rw [r12_Same_eq]; exact e_r12_Same x.1.1 x.1.2 x.2.1.1 x.2.1.2)
end Go.Proofs.Ytennopklknlecaa
