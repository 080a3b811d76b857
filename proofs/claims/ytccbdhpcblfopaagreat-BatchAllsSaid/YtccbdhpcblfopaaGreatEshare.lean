/-
  The functions of a package are the plain ones.
-/
import Derived.Test.YtccbdhpcblfopaaGreatEqA
import Derived.Test.YtccbdhpcblfopaaGreatPshare
import Derived.Test.YtccbdhpcblfopaaGreatEpolyEval
set_option linter.unusedVariables false
set_option linter.unusedSimpArgs false
set_option maxRecDepth 100000
set_option maxHeartbeats 0
namespace Go.Pl
end Go.Pl
open Go Go.Den Go.Pl
namespace Go.Proofs.YtccbdhpcblfopaaGreat
abbrev S2y_0 : Shape := { sl := [(0, (.pz (.pair (.pair (.ptr (.pair tN (.pair tU (.pair tN tN)))) (.ptr (.pair tN (.pair tU (.pair tN tN))))) tN))), (1, (.sz tN)), (8, (.w 66 (.pair tI tN) 0)), (pv 21 tI), (pv 22 tI)], ob := [], lo := 0, nx := 1 }
abbrev E2y_0 : List Ex := [(.normal, { sl := [(8, (.w 66 (.pair tI tN) 1))], ob := [], lo := 1, nx := 2 })]
noncomputable def L2y_0 : Code := loopIn (bodyOf Tryz.f43) 0
noncomputable def P2y_0 : Lp := lpOf S2y_0 E2y_0 39 R_share_Deal_0
noncomputable def c2y_ : Con := conV false [(.ptr (.pair (.pair (.ptr (.pair tN (.pair tU (.pair tN tN)))) (.ptr (.pair tN (.pair tU (.pair tN tN))))) tN)), (.sl tN), tI] [(.sl (.pair tI tN)), tI] fun x => share_Deal x.1 x.2.1.1 x.2.1.2 x.2.2.1
noncomputable def x2y_ : Cx := { ti := ti, con := [(52, c14_), (39, c06_), (86, c2x_)], fns := [], un := 6 }
theorem xok2y_ : CxOk Tryz.prog x2y_ := CxOk.of mixed ti_ok (fc ⟨con14_, fc ⟨con06_, fc ⟨con2x_, fz⟩⟩⟩) fz
theorem r2y_0 (x : S2y_0.X) : denC x2y_ [] (denF x2y_ 8) L2y_0 (S2y_0.mkS 39 x) (kRound 0 S2y_0 E2y_0) = R_share_Deal_0 x := by kernel_rfl
theorem l2y_0 : LpOk Tryz.prog 0 (.loop L2y_0) P2y_0 := lpOf_ok xok2y_ 8 (lps_nil) S2y_0 E2y_0 39 R_share_Deal_0 (by decide) r2y_0
theorem fn2y_ : FnOk Tryz.prog 43 Tryz.f43 [(0, P2y_0)] := ⟨Tryz.func43, Tryz.call43, lps_of (by kernel_rfl) (lps_one l2y_0 (by kernel_rfl) fz)⟩
theorem e2y_ (g : (Option (((PtrV (NI × (Int × (NI × NI)))) × (PtrV (NI × (Int × (NI × NI))))) × NI))) (nf : Nat) (f : Nat → NI) (n : Int) : bodyK x2y_ [(0, P2y_0)] (denF x2y_ 8) Tryz.f43 (domV [(.ptr (.pair (.pair (.ptr (.pair tN (.pair tU (.pair tN tN)))) (.ptr (.pair tN (.pair tU (.pair tN tN))))) tN)), (.sl tN), tI] (g, (nf, f), n, ())) [] 0 (kOut [(.sl (.pair tI tN)), tI]) = share_Deal' g nf f n := by cases g <;> kernel_rfl
theorem con2y_ : ConOk Tryz.prog 43 c2y_ := con_ok xok2y_ 8 fn2y_ false [(.ptr (.pair (.pair (.ptr (.pair tN (.pair tU (.pair tN tN)))) (.ptr (.pair tN (.pair tU (.pair tN tN))))) tN)), (.sl tN), tI] [(.sl (.pair tI tN)), tI] _ (by decide) (fun x => by rw [share_Deal_eq]; exact e2y_ x.1 x.2.1.1 x.2.1.2 x.2.2.1)
end Go.Proofs.YtccbdhpcblfopaaGreat
