/-
  The functions of a package are the plain ones.
-/
import Derived.Test.YtccbdhpcblfopaaGreatEqA
import Derived.Test.YtccbdhpcblfopaaGreatDenH
import Derived.Test.YtccbdhpcblfopaaGreatDenM
import Derived.Test.YtccbdhpcblfopaaGreatPr36
import Derived.Test.YtccbdhpcblfopaaGreatEr14
import Derived.Test.YtccbdhpcblfopaaGreatEr34
set_option linter.unusedVariables false
set_option linter.unusedSimpArgs false
set_option maxRecDepth 100000
set_option maxHeartbeats 0
namespace Go.Pl
end Go.Pl
open Go Go.Den Go.Pl
namespace Go.Proofs.YtccbdhpcblfopaaGreat
abbrev S3v_2 : Shape := { sl := [(pv 1 tI), (pc 6 (.pair .str (.pair .str tI)) 0), (8, (.w 49 tN 4)), (pv 9 tI), (11, (.v .str)), (pc 13 tN 3), (pv 14 tI)], ob := [(pv 0 (.pair .str (.pair .str tI))), (pv 3 tN)], lo := 4, nx := 5 }
abbrev E3v_2 : List Ex := [(.normal, { sl := [(pv 1 tI), (pc 6 (.pair .str (.pair .str tI)) 0), (8, (.w 49 tN 5)), (pv 9 tI), (pc 13 tN 3)], ob := [(pv 0 (.pair .str (.pair .str tI))), (pv 3 tN)], lo := 5, nx := 6 })]
noncomputable def L3v_2 : Code := loopIn (bodyOf Tryz.f16) 2
noncomputable def P3v_2 : Lp := lpOf S3v_2 E3v_2 66 R_r36_Weights_2
abbrev S3v_0 : Shape := { sl := [(pv 1 tI), (pc 6 (.pair .str (.pair .str tI)) 0), (8, (.w 49 tN 1)), (pv 9 tI)], ob := [(pv 0 (.pair .str (.pair .str tI)))], lo := 1, nx := 2 }
abbrev E3v_0 : List Ex := [(.normal, { sl := [(8, (.w 49 tN 2))], ob := [], lo := 2, nx := 3 })]
noncomputable def L3v_0 : Code := loopIn (bodyOf Tryz.f16) 0
noncomputable def P3v_0 : Lp := lpOf S3v_0 E3v_0 66 R_r36_Weights_0
noncomputable def c3v_ : Con := conV false [.str, tI] [(.sl tN), tI] fun x => r36_Weights x.1 x.2.1
noncomputable def x3v_ : Cx := { ti := ti, con := [(34, c3o_), (35, c3p_)], fns := [], un := 6 }
theorem xok3v_ : CxOk Tryz.prog x3v_ := CxOk.of mixed ti_ok (fc ⟨con3o_, fc ⟨con3p_, fz⟩⟩) fz
theorem r3v_2 (x : S3v_2.X) : denC x3v_ [] (denF x3v_ 8) L3v_2 (S3v_2.mkS 66 x) (kRound 2 S3v_2 E3v_2) = R_r36_Weights_2 x := by kernel_rfl
theorem l3v_2 : LpOk Tryz.prog 2 (.loop L3v_2) P3v_2 := lpOf_ok xok3v_ 8 (lps_nil) S3v_2 E3v_2 66 R_r36_Weights_2 (by decide) r3v_2
theorem r3v_0 (x : S3v_0.X) : denC x3v_ [(2, P3v_2)] (denF x3v_ 8) L3v_0 (S3v_0.mkS 66 x) (kRound 0 S3v_0 E3v_0) = R_r36_Weights_0 x := by kernel_rfl
theorem l3v_0 : LpOk Tryz.prog 0 (.loop L3v_0) P3v_0 := lpOf_ok xok3v_ 8 (lps_of (by kernel_rfl) (lps_one l3v_2 (by kernel_rfl) fz)) S3v_0 E3v_0 66 R_r36_Weights_0 (by decide) r3v_0
theorem fn3v_ : FnOk Tryz.prog 16 Tryz.f16 [(2, P3v_2), (0, P3v_0)] := ⟨Tryz.func16, Tryz.call16, lps_of (by kernel_rfl) (lps_one l3v_2 (by kernel_rfl) (lps_one l3v_0 (by kernel_rfl) fz))⟩
theorem e3v_ (seed : ByteArray) (n : Int) : bodyK x3v_ [(2, P3v_2), (0, P3v_0)] (denF x3v_ 8) Tryz.f16 (domV [.str, tI] (seed, n, ())) [] 0 (kOut [(.sl tN), tI]) = r36_Weights' seed n := by kernel_rfl
theorem con3v_ : ConOk Tryz.prog 16 c3v_ := con_ok xok3v_ 8 fn3v_ false [.str, tI] [(.sl tN), tI] _ (by decide) (fun x => by rw [r36_Weights_eq]; exact e3v_ x.1 x.2.1)
end Go.Proofs.YtccbdhpcblfopaaGreat
