/-
  The functions of a package are the plain ones.
-/
import Derived.Test.YthmfddbehhgnkaaEqA
import Derived.Test.YthmfddbehhgnkaaPhmac
import Derived.Test.YthmfddbehhgnkaaEsha
set_option linter.unusedVariables false
set_option linter.unusedSimpArgs false
set_option maxRecDepth 100000
set_option maxHeartbeats 0
namespace Go.Pl
end Go.Pl
open Go Go.Den Go.Pl
namespace Go.Proofs.Ythmfddbehhgnkaa
abbrev S_hmac_Sum_1_0 : Shape := { sl := [(0, (.v (.int .u8))), (4, (.w 5 (.int .u8) 1)), (10, (.v (.int .i64)))], ob := [], lo := 1, nx := 2 }
abbrev E_hmac_Sum_1_0 : List Ex := [(.normal, { sl := [(4, (.w 5 (.int .u8) 2))], ob := [], lo := 2, nx := 3 })]
noncomputable def L_hmac_Sum_1_0 : Code := loopIn (bodyOf Try.f80) 0
noncomputable def P_hmac_Sum_1_0 : Lp := lpOf S_hmac_Sum_1_0 E_hmac_Sum_1_0 23 R_hmac_Sum_1_0
noncomputable def c_hmac_Sum_1 : Con := conV true [(.int .u8), (.ptr .str)] [.str] fun x => hmac_Sum_1 x.1 x.2.1
noncomputable def x_hmac_Sum_1 : Cx := { ti := ti, con := [], fns := [], un := 6 }
theorem xok_hmac_Sum_1 : CxOk Try.prog x_hmac_Sum_1 := CxOk.of mixed ti_ok (List.forall_mem_nil _) (List.forall_mem_nil _)
theorem r_hmac_Sum_1_0 (x : S_hmac_Sum_1_0.X) : denC x_hmac_Sum_1 [] (denF x_hmac_Sum_1 8) L_hmac_Sum_1_0 (S_hmac_Sum_1_0.mkS 23 x) (kRound 0 S_hmac_Sum_1_0 E_hmac_Sum_1_0) = R_hmac_Sum_1_0 x := by kernel_rfl
theorem l_hmac_Sum_1_0 : LpOk Try.prog 0 (.loop L_hmac_Sum_1_0) P_hmac_Sum_1_0 := lpOf_ok xok_hmac_Sum_1 8 (lps_nil) S_hmac_Sum_1_0 E_hmac_Sum_1_0 23 R_hmac_Sum_1_0 (by decide) r_hmac_Sum_1_0
theorem fn_hmac_Sum_1 : FnOk Try.prog 80 Try.f80 [(0, P_hmac_Sum_1_0)] := ⟨Try.func80, Try.call80, lps_of (by kernel_rfl) (lps_one l_hmac_Sum_1_0 (by kernel_rfl) (List.forall_mem_nil _))⟩
theorem e_hmac_Sum_1 (by_ : Int) (a : (Option ByteArray)) : bodyK x_hmac_Sum_1 [(0, P_hmac_Sum_1_0)] (denF x_hmac_Sum_1 8) Try.f80 (domV [(.int .u8), (.ptr .str)] (by_, a, ())) [] 0 (kOut [.str]) = hmac_Sum_1' by_ a := by cases a <;> kernel_rfl
theorem con_hmac_Sum_1 : ConOk Try.prog 80 c_hmac_Sum_1 := con_ok xok_hmac_Sum_1 8 fn_hmac_Sum_1 true [(.int .u8), (.ptr .str)] [.str] _ (by decide) (fun x => by rw [hmac_Sum_1_eq]; exact e_hmac_Sum_1 x.1 x.2.1)
noncomputable def c_hmac_Sum : Con := conV true [.str, .str] [.str] fun x => hmac_Sum x.1 x.2.1
noncomputable def x_hmac_Sum : Cx := { ti := ti, con := [(79, c_sha_Sum), (80, c_hmac_Sum_1)], fns := [], un := 6 }
theorem xok_hmac_Sum : CxOk Try.prog x_hmac_Sum := CxOk.of mixed ti_ok (List.forall_mem_cons.2 ⟨con_sha_Sum, List.forall_mem_cons.2 ⟨con_hmac_Sum_1, List.forall_mem_nil _⟩⟩) (List.forall_mem_nil _)
theorem fn_hmac_Sum : FnOk Try.prog 67 Try.f67 [] := ⟨Try.func67, Try.call67, lps_nil⟩
theorem e_hmac_Sum (key : ByteArray) (s : ByteArray) : bodyK x_hmac_Sum [] (denF x_hmac_Sum 8) Try.f67 (domV [.str, .str] (key, s, ())) [] 0 (kOut [.str]) = hmac_Sum' key s := by kernel_rfl
theorem con_hmac_Sum : ConOk Try.prog 67 c_hmac_Sum := con_ok xok_hmac_Sum 8 fn_hmac_Sum true [.str, .str] [.str] _ (by decide) (fun x => by rw [hmac_Sum_eq]; exact e_hmac_Sum x.1 x.2.1)
end Go.Proofs.Ythmfddbehhgnkaa
