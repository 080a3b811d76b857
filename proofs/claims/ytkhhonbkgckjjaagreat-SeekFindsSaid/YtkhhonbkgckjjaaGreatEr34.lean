/-
  The functions of a package are the plain ones.
-/
import Derived.Test.YtkhhonbkgckjjaaGreatEqA
import Derived.Test.YtkhhonbkgckjjaaGreatPr34
import Derived.Test.YtkhhonbkgckjjaaGreatEr06
set_option linter.unusedVariables false
set_option linter.unusedSimpArgs false
set_option maxRecDepth 100000
set_option maxHeartbeats 0
namespace Go.Pl
end Go.Pl
open Go Go.Den Go.Pl
namespace Go.Proofs.YtkhhonbkgckjjaaGreat
noncomputable def c3c_ : Con := conV true [.str] [.bool] fun x => r34_seed x.1
noncomputable def x3c_ : Cx := { ti := ti, con := [], fns := [], un := 6 }
theorem xok3c_ : CxOk Tryz.prog x3c_ := CxOk.of mixed ti_ok fz fz
theorem fn3c_ : FnOk Tryz.prog 47 Tryz.f47 [] := ⟨Tryz.func47, Tryz.call47, lps_nil⟩
theorem e3c_ (x : ByteArray) : bodyK x3c_ [] (denF x3c_ 8) Tryz.f47 (domV [.str] (x, ())) [] 0 (kOut [.bool]) = r34_seed' x := by kernel_rfl
theorem con3c_ : ConOk Tryz.prog 47 c3c_ := con_ok xok3c_ 8 fn3c_ true [.str] [.bool] _ (by decide) (fun x => by rw [r34_seed_eq]; exact e3c_ x.1)
abbrev S3d_0 : Shape := { sl := [(pv 0 (.int .u8)), (3, (.w 5 (.int .u8) 1)), (pv 4 tI)], ob := [], lo := 1, nx := 2 }
abbrev E3d_0 : List Ex := [(.normal, { sl := [(3, (.w 5 (.int .u8) 2))], ob := [], lo := 2, nx := 3 })]
noncomputable def L3d_0 : Code := loopIn (bodyOf Tryz.f49) 0
noncomputable def P3d_0 : Lp := lpOf S3d_0 E3d_0 18 R_r34_of_0
noncomputable def c3d_ : Con := conV true [(.int .u8)] [.str] fun x => r34_of x.1
noncomputable def x3d_ : Cx := { ti := ti, con := [], fns := [], un := 6 }
theorem xok3d_ : CxOk Tryz.prog x3d_ := CxOk.of mixed ti_ok fz fz
theorem r3d_0 (x : S3d_0.X) : denC x3d_ [] (denF x3d_ 8) L3d_0 (S3d_0.mkS 18 x) (kRound 0 S3d_0 E3d_0) = R_r34_of_0 x := by kernel_rfl
theorem l3d_0 : LpOk Tryz.prog 0 (.loop L3d_0) P3d_0 := lpOf_ok xok3d_ 8 (lps_nil) S3d_0 E3d_0 18 R_r34_of_0 (by decide) r3d_0
theorem fn3d_ : FnOk Tryz.prog 49 Tryz.f49 [(0, P3d_0)] := ⟨Tryz.func49, Tryz.call49, lps_of (by kernel_rfl) (lps_one l3d_0 (by kernel_rfl) fz)⟩
theorem e3d_ (c : Int) : bodyK x3d_ [(0, P3d_0)] (denF x3d_ 8) Tryz.f49 (domV [(.int .u8)] (c, ())) [] 0 (kOut [.str]) = r34_of' c := by kernel_rfl
theorem con3d_ : ConOk Tryz.prog 49 c3d_ := con_ok xok3d_ 8 fn3d_ true [(.int .u8)] [.str] _ (by decide) (fun x => by rw [r34_of_eq]; exact e3d_ x.1)
noncomputable def c3e_ : Con := conV true [(.pair .str (.pair .str tI)), .str] [(.pair .str (.pair .str tI))] fun x => r34_Stirred x.1 x.2.1
noncomputable def x3e_ : Cx := { ti := ti, con := [(50, c3b_)], fns := [], un := 6 }
theorem xok3e_ : CxOk Tryz.prog x3e_ := CxOk.of mixed ti_ok (fc ⟨con3b_, fz⟩) fz
theorem fn3e_ : FnOk Tryz.prog 48 Tryz.f48 [] := ⟨Tryz.func48, Tryz.call48, lps_nil⟩
theorem e3e_ (s : (ByteArray × (ByteArray × Int))) (x : ByteArray) : bodyK x3e_ [] (denF x3e_ 8) Tryz.f48 (domV [(.pair .str (.pair .str tI)), .str] (s, x, ())) [] 0 (kOut [(.pair .str (.pair .str tI))]) = r34_Stirred' s x := by kernel_rfl
theorem con3e_ : ConOk Tryz.prog 48 c3e_ := con_ok xok3e_ 8 fn3e_ true [(.pair .str (.pair .str tI)), .str] [(.pair .str (.pair .str tI))] _ (by decide) (fun x => by rw [r34_Stirred_eq]; exact e3e_ x.1 x.2.1)
noncomputable def c3f_ : Con := conV true [.str] [(.pair .str (.pair .str tI)), tI] fun x => r34_New x.1
noncomputable def x3f_ : Cx := { ti := ti, con := [(47, c3c_), (49, c3d_), (48, c3e_)], fns := [], un := 6 }
theorem xok3f_ : CxOk Tryz.prog x3f_ := CxOk.of mixed ti_ok (fc ⟨con3c_, fc ⟨con3d_, fc ⟨con3e_, fz⟩⟩⟩) fz
theorem fn3f_ : FnOk Tryz.prog 15 Tryz.f15 [] := ⟨Tryz.func15, Tryz.call15, lps_nil⟩
theorem e3f_ (x : ByteArray) : bodyK x3f_ [] (denF x3f_ 8) Tryz.f15 (domV [.str] (x, ())) [] 0 (kOut [(.pair .str (.pair .str tI)), tI]) = r34_New' x := by kernel_rfl
theorem con3f_ : ConOk Tryz.prog 15 c3f_ := con_ok xok3f_ 8 fn3f_ true [.str] [(.pair .str (.pair .str tI)), tI] _ (by decide) (fun x => by rw [r34_New_eq]; exact e3f_ x.1)
abbrev S3g_0 : Shape := { sl := [(pv 1 tI), (2, (.v .str)), (pc 3 (.pair .str (.pair .str tI)) 0), (pc 6 (.pair .str (.pair .str tI)) 1), (pc 9 (.pair .str (.pair .str tI)) 2), (10, (.v .str))], ob := [(pv 0 (.pair .str (.pair .str tI))), (pv 1 (.pair .str (.pair .str tI))), (pv 2 (.pair .str (.pair .str tI)))], lo := 3, nx := 3 }
abbrev E3g_0 : List Ex := [(.normal, { sl := [(pv 1 tI), (2, (.v .str)), (pc 3 (.pair .str (.pair .str tI)) 0), (pc 6 (.pair .str (.pair .str tI)) 1), (pc 9 (.pair .str (.pair .str tI)) 2), (10, (.v .str))], ob := [(pv 0 (.pair .str (.pair .str tI))), (pv 1 (.pair .str (.pair .str tI))), (pv 2 (.pair .str (.pair .str tI)))], lo := 3, nx := 3 })]
noncomputable def L3g_0 : Code := loopIn (bodyOf Tryz.f16) 0
noncomputable def P3g_0 : Lp := lpOf S3g_0 E3g_0 58 R_r34_Bytes_0
noncomputable def c3g_ : Con := conV true [(.pair .str (.pair .str tI)), tI, .str] [(.pair .str (.pair .str tI)), .str, tI] fun x => r34_Bytes x.1 x.2.1 x.2.2.1
noncomputable def x3g_ : Cx := { ti := ti, con := [(48, c3e_), (50, c3b_)], fns := [], un := 6 }
theorem xok3g_ : CxOk Tryz.prog x3g_ := CxOk.of mixed ti_ok (fc ⟨con3e_, fc ⟨con3b_, fz⟩⟩) fz
theorem r3g_0 (x : S3g_0.X) : denC x3g_ [] (denF x3g_ 8) L3g_0 (S3g_0.mkS 58 x) (kRound 0 S3g_0 E3g_0) = R_r34_Bytes_0 x := by kernel_rfl
theorem l3g_0 : LpOk Tryz.prog 0 (.loop L3g_0) P3g_0 := lpOf_ok xok3g_ 8 (lps_nil) S3g_0 E3g_0 58 R_r34_Bytes_0 (by decide) r3g_0
theorem fn3g_ : FnOk Tryz.prog 16 Tryz.f16 [(0, P3g_0)] := ⟨Tryz.func16, Tryz.call16, lps_of (by kernel_rfl) (lps_one l3g_0 (by kernel_rfl) fz)⟩
theorem e3g_ (s : (ByteArray × (ByteArray × Int))) (n : Int) (more : ByteArray) : bodyK x3g_ [(0, P3g_0)] (denF x3g_ 8) Tryz.f16 (domV [(.pair .str (.pair .str tI)), tI, .str] (s, n, more, ())) [] 0 (kOut [(.pair .str (.pair .str tI)), .str, tI]) = r34_Bytes' s n more := by kernel_rfl
theorem con3g_ : ConOk Tryz.prog 16 c3g_ := con_ok xok3g_ 8 fn3g_ true [(.pair .str (.pair .str tI)), tI, .str] [(.pair .str (.pair .str tI)), .str, tI] _ (by decide) (fun x => by rw [r34_Bytes_eq]; exact e3g_ x.1 x.2.1 x.2.2.1)
end Go.Proofs.YtkhhonbkgckjjaaGreat
