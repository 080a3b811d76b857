/-
  The functions of a package are the plain ones.
-/
import Derived.Test.YtkhhonbkgckjjaaGreatEqA
import Derived.Test.YtkhhonbkgckjjaaGreatPr06
import Derived.Test.YtkhhonbkgckjjaaGreatEr05
set_option linter.unusedVariables false
set_option linter.unusedSimpArgs false
set_option maxRecDepth 100000
set_option maxHeartbeats 0
namespace Go.Pl
end Go.Pl
open Go Go.Den Go.Pl
namespace Go.Proofs.YtkhhonbkgckjjaaGreat
abbrev S3a_0 : Shape := { sl := [(pv 1 (.int .u8)), (5, (.v .str)), (6, (.w 5 (.int .u8) 0)), (pv 7 tI)], ob := [], lo := 0, nx := 1 }
abbrev E3a_0 : List Ex := [(.normal, { sl := [(6, (.w 5 (.int .u8) 1))], ob := [], lo := 1, nx := 2 })]
noncomputable def L3a_0 : Code := loopIn (bodyOf Tryz.f92) 0
noncomputable def P3a_0 : Lp := lpOf S3a_0 E3a_0 34 R_r06_turned_0
noncomputable def c3a_ : Con := conV true [.str, (.int .u8)] [.str] fun x => r06_turned x.1 x.2.1
noncomputable def x3a_ : Cx := { ti := ti, con := [(91, c39_)], fns := [], un := 6 }
theorem xok3a_ : CxOk Tryz.prog x3a_ := CxOk.of mixed ti_ok (fc ⟨con39_, fz⟩) fz
theorem r3a_0 (x : S3a_0.X) : denC x3a_ [] (denF x3a_ 8) L3a_0 (S3a_0.mkS 34 x) (kRound 0 S3a_0 E3a_0) = R_r06_turned_0 x := by kernel_rfl
theorem l3a_0 : LpOk Tryz.prog 0 (.loop L3a_0) P3a_0 := lpOf_ok xok3a_ 8 (lps_nil) S3a_0 E3a_0 34 R_r06_turned_0 (by decide) r3a_0
theorem fn3a_ : FnOk Tryz.prog 92 Tryz.f92 [(0, P3a_0)] := ⟨Tryz.func92, Tryz.call92, lps_of (by kernel_rfl) (lps_one l3a_0 (by kernel_rfl) fz)⟩
theorem e3a_ (key : ByteArray) (by_ : Int) : bodyK x3a_ [(0, P3a_0)] (denF x3a_ 8) Tryz.f92 (domV [.str, (.int .u8)] (key, by_, ())) [] 0 (kOut [.str]) = r06_turned' key by_ := by kernel_rfl
theorem con3a_ : ConOk Tryz.prog 92 c3a_ := con_ok xok3a_ 8 fn3a_ true [.str, (.int .u8)] [.str] _ (by decide) (fun x => by rw [r06_turned_eq]; exact e3a_ x.1 x.2.1)
noncomputable def c3b_ : Con := conV true [.str, .str] [.str] fun x => r06_Sum x.1 x.2.1
noncomputable def x3b_ : Cx := { ti := ti, con := [(92, c3a_), (91, c39_)], fns := [], un := 6 }
theorem xok3b_ : CxOk Tryz.prog x3b_ := CxOk.of mixed ti_ok (fc ⟨con3a_, fc ⟨con39_, fz⟩⟩) fz
theorem fn3b_ : FnOk Tryz.prog 50 Tryz.f50 [] := ⟨Tryz.func50, Tryz.call50, lps_nil⟩
theorem e3b_ (key : ByteArray) (s : ByteArray) : bodyK x3b_ [] (denF x3b_ 8) Tryz.f50 (domV [.str, .str] (key, s, ())) [] 0 (kOut [.str]) = r06_Sum' key s := by kernel_rfl
theorem con3b_ : ConOk Tryz.prog 50 c3b_ := con_ok xok3b_ 8 fn3b_ true [.str, .str] [.str] _ (by decide) (fun x => by rw [r06_Sum_eq]; exact e3b_ x.1 x.2.1)
end Go.Proofs.YtkhhonbkgckjjaaGreat
