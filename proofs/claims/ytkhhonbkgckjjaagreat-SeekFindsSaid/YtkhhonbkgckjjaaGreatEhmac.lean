/-
  The functions of a package are the plain ones.
-/
import Derived.Test.YtkhhonbkgckjjaaGreatEqA
import Derived.Test.YtkhhonbkgckjjaaGreatPhmac
import Derived.Test.YtkhhonbkgckjjaaGreatEsha
set_option linter.unusedVariables false
set_option linter.unusedSimpArgs false
set_option maxRecDepth 100000
set_option maxHeartbeats 0
namespace Go.Pl
end Go.Pl
open Go Go.Den Go.Pl
namespace Go.Proofs.YtkhhonbkgckjjaaGreat
abbrev S1o_1_0 : Shape := { sl := [(pv 0 (.int .u8)), (4, (.w 5 (.int .u8) 1)), (pv 10 tI)], ob := [], lo := 1, nx := 2 }
abbrev E1o_1_0 : List Ex := [(.normal, { sl := [(4, (.w 5 (.int .u8) 2))], ob := [], lo := 2, nx := 3 })]
noncomputable def L1o_1_0 : Code := loopIn (bodyOf Tryz.f115) 0
noncomputable def P1o_1_0 : Lp := lpOf S1o_1_0 E1o_1_0 23 R_hmac_Sum_1_0
noncomputable def c1n_ : Con := conV true [(.int .u8), (.ptr .str)] [.str] fun x => hmac_Sum_1 x.1 x.2.1
noncomputable def x1n_ : Cx := { ti := ti, con := [], fns := [], un := 6 }
theorem xok1n_ : CxOk Tryz.prog x1n_ := CxOk.of mixed ti_ok fz fz
theorem r1o_1_0 (x : S1o_1_0.X) : denC x1n_ [] (denF x1n_ 8) L1o_1_0 (S1o_1_0.mkS 23 x) (kRound 0 S1o_1_0 E1o_1_0) = R_hmac_Sum_1_0 x := by kernel_rfl
theorem l1o_1_0 : LpOk Tryz.prog 0 (.loop L1o_1_0) P1o_1_0 := lpOf_ok xok1n_ 8 (lps_nil) S1o_1_0 E1o_1_0 23 R_hmac_Sum_1_0 (by decide) r1o_1_0
theorem fn1n_ : FnOk Tryz.prog 115 Tryz.f115 [(0, P1o_1_0)] := ⟨Tryz.func115, Tryz.call115, lps_of (by kernel_rfl) (lps_one l1o_1_0 (by kernel_rfl) fz)⟩
theorem e1n_ (by_ : Int) (a : (Option ByteArray)) : bodyK x1n_ [(0, P1o_1_0)] (denF x1n_ 8) Tryz.f115 (domV [(.int .u8), (.ptr .str)] (by_, a, ())) [] 0 (kOut [.str]) = hmac_Sum_1' by_ a := by cases a <;> kernel_rfl
theorem con1n_ : ConOk Tryz.prog 115 c1n_ := con_ok xok1n_ 8 fn1n_ true [(.int .u8), (.ptr .str)] [.str] _ (by decide) (fun x => by rw [hmac_Sum_1_eq]; exact e1n_ x.1 x.2.1)
noncomputable def c1o_ : Con := conV true [.str, .str] [.str] fun x => hmac_Sum x.1 x.2.1
noncomputable def x1o_ : Cx := { ti := ti, con := [(114, c1m_), (115, c1n_)], fns := [], un := 6 }
theorem xok1o_ : CxOk Tryz.prog x1o_ := CxOk.of mixed ti_ok (fc ⟨con1m_, fc ⟨con1n_, fz⟩⟩) fz
theorem fn1o_ : FnOk Tryz.prog 85 Tryz.f85 [] := ⟨Tryz.func85, Tryz.call85, lps_nil⟩
theorem e1o_ (key : ByteArray) (s : ByteArray) : bodyK x1o_ [] (denF x1o_ 8) Tryz.f85 (domV [.str, .str] (key, s, ())) [] 0 (kOut [.str]) = hmac_Sum' key s := by kernel_rfl
theorem con1o_ : ConOk Tryz.prog 85 c1o_ := con_ok xok1o_ 8 fn1o_ true [.str, .str] [.str] _ (by decide) (fun x => by rw [hmac_Sum_eq]; exact e1o_ x.1 x.2.1)
end Go.Proofs.YtkhhonbkgckjjaaGreat
