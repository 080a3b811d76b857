/-
  The functions of a package are the plain ones.
-/
import Derived.Test.YtccbdhpcblfopaaGreatEqA
import Derived.Test.YtccbdhpcblfopaaGreatPhmac
import Derived.Test.YtccbdhpcblfopaaGreatEsha
set_option linter.unusedVariables false
set_option linter.unusedSimpArgs false
set_option maxRecDepth 100000
set_option maxHeartbeats 0
namespace Go.Pl
end Go.Pl
open Go Go.Den Go.Pl
namespace Go.Proofs.YtccbdhpcblfopaaGreat
abbrev S1w_1_0 : Shape := { sl := [(pv 0 (.int .u8)), (4, (.w 5 (.int .u8) 1)), (pv 10 tI)], ob := [], lo := 1, nx := 2 }
abbrev E1w_1_0 : List Ex := [(.normal, { sl := [(4, (.w 5 (.int .u8) 2))], ob := [], lo := 2, nx := 3 })]
noncomputable def L1w_1_0 : Code := loopIn (bodyOf Tryz.f109) 0
noncomputable def P1w_1_0 : Lp := lpOf S1w_1_0 E1w_1_0 23 R_hmac_Sum_1_0
noncomputable def c1v_ : Con := conV true [(.int .u8), (.ptr .str)] [.str] fun x => hmac_Sum_1 x.1 x.2.1
noncomputable def x1v_ : Cx := { ti := ti, con := [], fns := [], un := 6 }
theorem xok1v_ : CxOk Tryz.prog x1v_ := CxOk.of mixed ti_ok fz fz
theorem r1w_1_0 (x : S1w_1_0.X) : denC x1v_ [] (denF x1v_ 8) L1w_1_0 (S1w_1_0.mkS 23 x) (kRound 0 S1w_1_0 E1w_1_0) = R_hmac_Sum_1_0 x := by kernel_rfl
theorem l1w_1_0 : LpOk Tryz.prog 0 (.loop L1w_1_0) P1w_1_0 := lpOf_ok xok1v_ 8 (lps_nil) S1w_1_0 E1w_1_0 23 R_hmac_Sum_1_0 (by decide) r1w_1_0
theorem fn1v_ : FnOk Tryz.prog 109 Tryz.f109 [(0, P1w_1_0)] := ⟨Tryz.func109, Tryz.call109, lps_of (by kernel_rfl) (lps_one l1w_1_0 (by kernel_rfl) fz)⟩
theorem e1v_ (by_ : Int) (a : (Option ByteArray)) : bodyK x1v_ [(0, P1w_1_0)] (denF x1v_ 8) Tryz.f109 (domV [(.int .u8), (.ptr .str)] (by_, a, ())) [] 0 (kOut [.str]) = hmac_Sum_1' by_ a := by cases a <;> kernel_rfl
theorem con1v_ : ConOk Tryz.prog 109 c1v_ := con_ok xok1v_ 8 fn1v_ true [(.int .u8), (.ptr .str)] [.str] _ (by decide) (fun x => by rw [hmac_Sum_1_eq]; exact e1v_ x.1 x.2.1)
noncomputable def c1w_ : Con := conV true [.str, .str] [.str] fun x => hmac_Sum x.1 x.2.1
noncomputable def x1w_ : Cx := { ti := ti, con := [(108, c1u_), (109, c1v_)], fns := [], un := 6 }
theorem xok1w_ : CxOk Tryz.prog x1w_ := CxOk.of mixed ti_ok (fc ⟨con1u_, fc ⟨con1v_, fz⟩⟩) fz
theorem fn1w_ : FnOk Tryz.prog 69 Tryz.f69 [] := ⟨Tryz.func69, Tryz.call69, lps_nil⟩
theorem e1w_ (key : ByteArray) (s : ByteArray) : bodyK x1w_ [] (denF x1w_ 8) Tryz.f69 (domV [.str, .str] (key, s, ())) [] 0 (kOut [.str]) = hmac_Sum' key s := by kernel_rfl
theorem con1w_ : ConOk Tryz.prog 69 c1w_ := con_ok xok1w_ 8 fn1w_ true [.str, .str] [.str] _ (by decide) (fun x => by rw [hmac_Sum_eq]; exact e1w_ x.1 x.2.1)
end Go.Proofs.YtccbdhpcblfopaaGreat
