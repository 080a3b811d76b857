/-
  The functions of a package are the plain ones.
-/
import Derived.Test.YtccbdhpcblfopaaGreatEqA
import Derived.Test.YtccbdhpcblfopaaGreatPr17
set_option linter.unusedVariables false
set_option linter.unusedSimpArgs false
set_option maxRecDepth 100000
set_option maxHeartbeats 0
namespace Go.Pl
end Go.Pl
open Go Go.Den Go.Pl
namespace Go.Proofs.YtccbdhpcblfopaaGreat
abbrev S2w_0 : Shape := { sl := [(0, (.sz tI)), (1, (.sz tI)), (pv 5 tI)], ob := [], lo := 0, nx := 0 }
abbrev E2w_0 : List Ex := [(.ret, { sl := [(4, (.v .bool))], ob := [], lo := 0, nx := 0 }), (.normal, { sl := [], ob := [], lo := 0, nx := 0 })]
noncomputable def L2w_0 : Code := loopIn (bodyOf Tryz.f14) 0
noncomputable def P2w_0 : Lp := lpOf S2w_0 E2w_0 26 R_r17_Numbers_0
noncomputable def c2w_ : Con := conV true [(.sl tI), (.sl tI)] [.bool] fun x => r17_Numbers x.1.1 x.1.2 x.2.1.1 x.2.1.2
noncomputable def x2w_ : Cx := { ti := ti, con := [], fns := [], un := 6 }
theorem xok2w_ : CxOk Tryz.prog x2w_ := CxOk.of mixed ti_ok fz fz
theorem r2w_0 (x : S2w_0.X) : denC x2w_ [] (denF x2w_ 8) L2w_0 (S2w_0.mkS 26 x) (kRound 0 S2w_0 E2w_0) = R_r17_Numbers_0 x := by kernel_rfl
theorem l2w_0 : LpOk Tryz.prog 0 (.loop L2w_0) P2w_0 := lpOf_ok xok2w_ 8 (lps_nil) S2w_0 E2w_0 26 R_r17_Numbers_0 (by decide) r2w_0
theorem fn2w_ : FnOk Tryz.prog 14 Tryz.f14 [(0, P2w_0)] := ⟨Tryz.func14, Tryz.call14, lps_of (by kernel_rfl) (lps_one l2w_0 (by kernel_rfl) fz)⟩
theorem e2w_ (na : Nat) (a : Nat → Int) (nb : Nat) (b : Nat → Int) : bodyK x2w_ [(0, P2w_0)] (denF x2w_ 8) Tryz.f14 (domV [(.sl tI), (.sl tI)] ((na, a), (nb, b), ())) [] 0 (kOut [.bool]) = r17_Numbers' na a nb b := by kernel_rfl
theorem con2w_ : ConOk Tryz.prog 14 c2w_ := con_ok xok2w_ 8 fn2w_ true [(.sl tI), (.sl tI)] [.bool] _ (by decide) (fun x => by rw [r17_Numbers_eq]; exact e2w_ x.1.1 x.1.2 x.2.1.1 x.2.1.2)
end Go.Proofs.YtccbdhpcblfopaaGreat
