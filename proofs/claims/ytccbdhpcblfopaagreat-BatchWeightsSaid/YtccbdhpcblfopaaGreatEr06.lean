/-
  The functions of a package are the plain ones.
-/
import Derived.Test.YtccbdhpcblfopaaGreatEqA
import Derived.Test.YtccbdhpcblfopaaGreatPr06
import Derived.Test.YtccbdhpcblfopaaGreatEr05
set_option linter.unusedVariables false
set_option linter.unusedSimpArgs false
set_option maxRecDepth 100000
set_option maxHeartbeats 0
namespace Go.Pl
end Go.Pl
open Go Go.Den Go.Pl
namespace Go.Proofs.YtccbdhpcblfopaaGreat
abbrev S3j_0 : Shape := { sl := [(pv 1 (.int .u8)), (5, (.v .str)), (6, (.w 5 (.int .u8) 0)), (pv 7 tI)], ob := [], lo := 0, nx := 1 }
abbrev E3j_0 : List Ex := [(.normal, { sl := [(6, (.w 5 (.int .u8) 1))], ob := [], lo := 1, nx := 2 })]
noncomputable def L3j_0 : Code := loopIn (bodyOf Tryz.f112) 0
noncomputable def P3j_0 : Lp := lpOf S3j_0 E3j_0 34 R_r06_turned_0
noncomputable def c3j_ : Con := conV true [.str, (.int .u8)] [.str] fun x => r06_turned x.1 x.2.1
noncomputable def x3j_ : Cx := { ti := ti, con := [(111, c3i_)], fns := [], un := 6 }
theorem xok3j_ : CxOk Tryz.prog x3j_ := CxOk.of mixed ti_ok (fc ⟨con3i_, fz⟩) fz
theorem r3j_0 (x : S3j_0.X) : denC x3j_ [] (denF x3j_ 8) L3j_0 (S3j_0.mkS 34 x) (kRound 0 S3j_0 E3j_0) = R_r06_turned_0 x := by kernel_rfl
theorem l3j_0 : LpOk Tryz.prog 0 (.loop L3j_0) P3j_0 := lpOf_ok xok3j_ 8 (lps_nil) S3j_0 E3j_0 34 R_r06_turned_0 (by decide) r3j_0
theorem fn3j_ : FnOk Tryz.prog 112 Tryz.f112 [(0, P3j_0)] := ⟨Tryz.func112, Tryz.call112, lps_of (by kernel_rfl) (lps_one l3j_0 (by kernel_rfl) fz)⟩
theorem e3j_ (key : ByteArray) (by_ : Int) : bodyK x3j_ [(0, P3j_0)] (denF x3j_ 8) Tryz.f112 (domV [.str, (.int .u8)] (key, by_, ())) [] 0 (kOut [.str]) = r06_turned' key by_ := by kernel_rfl
theorem con3j_ : ConOk Tryz.prog 112 c3j_ := con_ok xok3j_ 8 fn3j_ true [.str, (.int .u8)] [.str] _ (by decide) (fun x => by rw [r06_turned_eq]; exact e3j_ x.1 x.2.1)
noncomputable def c3k_ : Con := conV true [.str, .str] [.str] fun x => r06_Sum x.1 x.2.1
noncomputable def x3k_ : Cx := { ti := ti, con := [(112, c3j_), (111, c3i_)], fns := [], un := 6 }
theorem xok3k_ : CxOk Tryz.prog x3k_ := CxOk.of mixed ti_ok (fc ⟨con3j_, fc ⟨con3i_, fz⟩⟩) fz
theorem fn3k_ : FnOk Tryz.prog 75 Tryz.f75 [] := ⟨Tryz.func75, Tryz.call75, lps_nil⟩
theorem e3k_ (key : ByteArray) (s : ByteArray) : bodyK x3k_ [] (denF x3k_ 8) Tryz.f75 (domV [.str, .str] (key, s, ())) [] 0 (kOut [.str]) = r06_Sum' key s := by kernel_rfl
theorem con3k_ : ConOk Tryz.prog 75 c3k_ := con_ok xok3k_ 8 fn3k_ true [.str, .str] [.str] _ (by decide) (fun x => by rw [r06_Sum_eq]; exact e3k_ x.1 x.2.1)
end Go.Proofs.YtccbdhpcblfopaaGreat
