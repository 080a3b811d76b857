/-
  The functions of a package are the plain ones.
-/
import Derived.Test.YtccbdhpcblfopaaGreatEqA
import Derived.Test.YtccbdhpcblfopaaGreatPr34
import Derived.Test.YtccbdhpcblfopaaGreatEr06
set_option linter.unusedVariables false
set_option linter.unusedSimpArgs false
set_option maxRecDepth 100000
set_option maxHeartbeats 0
namespace Go.Pl
end Go.Pl
open Go Go.Den Go.Pl
namespace Go.Proofs.YtccbdhpcblfopaaGreat
noncomputable def c3l_ : Con := conV true [.str] [.bool] fun x => r34_seed x.1
noncomputable def x3l_ : Cx := { ti := ti, con := [], fns := [], un := 6 }
theorem xok3l_ : CxOk Tryz.prog x3l_ := CxOk.of mixed ti_ok fz fz
theorem fn3l_ : FnOk Tryz.prog 72 Tryz.f72 [] := ⟨Tryz.func72, Tryz.call72, lps_nil⟩
theorem e3l_ (x : ByteArray) : bodyK x3l_ [] (denF x3l_ 8) Tryz.f72 (domV [.str] (x, ())) [] 0 (kOut [.bool]) = r34_seed' x := by kernel_rfl
theorem con3l_ : ConOk Tryz.prog 72 c3l_ := con_ok xok3l_ 8 fn3l_ true [.str] [.bool] _ (by decide) (fun x => by rw [r34_seed_eq]; exact e3l_ x.1)
abbrev S3m_0 : Shape := { sl := [(pv 0 (.int .u8)), (3, (.w 5 (.int .u8) 1)), (pv 4 tI)], ob := [], lo := 1, nx := 2 }
abbrev E3m_0 : List Ex := [(.normal, { sl := [(3, (.w 5 (.int .u8) 2))], ob := [], lo := 2, nx := 3 })]
noncomputable def L3m_0 : Code := loopIn (bodyOf Tryz.f74) 0
noncomputable def P3m_0 : Lp := lpOf S3m_0 E3m_0 18 R_r34_of_0
noncomputable def c3m_ : Con := conV true [(.int .u8)] [.str] fun x => r34_of x.1
noncomputable def x3m_ : Cx := { ti := ti, con := [], fns := [], un := 6 }
theorem xok3m_ : CxOk Tryz.prog x3m_ := CxOk.of mixed ti_ok fz fz
theorem r3m_0 (x : S3m_0.X) : denC x3m_ [] (denF x3m_ 8) L3m_0 (S3m_0.mkS 18 x) (kRound 0 S3m_0 E3m_0) = R_r34_of_0 x := by kernel_rfl
theorem l3m_0 : LpOk Tryz.prog 0 (.loop L3m_0) P3m_0 := lpOf_ok xok3m_ 8 (lps_nil) S3m_0 E3m_0 18 R_r34_of_0 (by decide) r3m_0
theorem fn3m_ : FnOk Tryz.prog 74 Tryz.f74 [(0, P3m_0)] := ⟨Tryz.func74, Tryz.call74, lps_of (by kernel_rfl) (lps_one l3m_0 (by kernel_rfl) fz)⟩
theorem e3m_ (c : Int) : bodyK x3m_ [(0, P3m_0)] (denF x3m_ 8) Tryz.f74 (domV [(.int .u8)] (c, ())) [] 0 (kOut [.str]) = r34_of' c := by kernel_rfl
theorem con3m_ : ConOk Tryz.prog 74 c3m_ := con_ok xok3m_ 8 fn3m_ true [(.int .u8)] [.str] _ (by decide) (fun x => by rw [r34_of_eq]; exact e3m_ x.1)
noncomputable def c3n_ : Con := conV true [(.pair .str (.pair .str tI)), .str] [(.pair .str (.pair .str tI))] fun x => r34_Stirred x.1 x.2.1
noncomputable def x3n_ : Cx := { ti := ti, con := [(75, c3k_)], fns := [], un := 6 }
theorem xok3n_ : CxOk Tryz.prog x3n_ := CxOk.of mixed ti_ok (fc ⟨con3k_, fz⟩) fz
theorem fn3n_ : FnOk Tryz.prog 73 Tryz.f73 [] := ⟨Tryz.func73, Tryz.call73, lps_nil⟩
theorem e3n_ (s : (ByteArray × (ByteArray × Int))) (x : ByteArray) : bodyK x3n_ [] (denF x3n_ 8) Tryz.f73 (domV [(.pair .str (.pair .str tI)), .str] (s, x, ())) [] 0 (kOut [(.pair .str (.pair .str tI))]) = r34_Stirred' s x := by kernel_rfl
theorem con3n_ : ConOk Tryz.prog 73 c3n_ := con_ok xok3n_ 8 fn3n_ true [(.pair .str (.pair .str tI)), .str] [(.pair .str (.pair .str tI))] _ (by decide) (fun x => by rw [r34_Stirred_eq]; exact e3n_ x.1 x.2.1)
noncomputable def c3o_ : Con := conV true [.str] [(.pair .str (.pair .str tI)), tI] fun x => r34_New x.1
noncomputable def x3o_ : Cx := { ti := ti, con := [(72, c3l_), (74, c3m_), (73, c3n_)], fns := [], un := 6 }
theorem xok3o_ : CxOk Tryz.prog x3o_ := CxOk.of mixed ti_ok (fc ⟨con3l_, fc ⟨con3m_, fc ⟨con3n_, fz⟩⟩⟩) fz
theorem fn3o_ : FnOk Tryz.prog 34 Tryz.f34 [] := ⟨Tryz.func34, Tryz.call34, lps_nil⟩
theorem e3o_ (x : ByteArray) : bodyK x3o_ [] (denF x3o_ 8) Tryz.f34 (domV [.str] (x, ())) [] 0 (kOut [(.pair .str (.pair .str tI)), tI]) = r34_New' x := by kernel_rfl
theorem con3o_ : ConOk Tryz.prog 34 c3o_ := con_ok xok3o_ 8 fn3o_ true [.str] [(.pair .str (.pair .str tI)), tI] _ (by decide) (fun x => by rw [r34_New_eq]; exact e3o_ x.1)
abbrev S3p_0 : Shape := { sl := [(pv 1 tI), (2, (.v .str)), (pc 3 (.pair .str (.pair .str tI)) 0), (pc 6 (.pair .str (.pair .str tI)) 1), (pc 9 (.pair .str (.pair .str tI)) 2), (10, (.v .str))], ob := [(pv 0 (.pair .str (.pair .str tI))), (pv 1 (.pair .str (.pair .str tI))), (pv 2 (.pair .str (.pair .str tI)))], lo := 3, nx := 3 }
abbrev E3p_0 : List Ex := [(.normal, { sl := [(pv 1 tI), (2, (.v .str)), (pc 3 (.pair .str (.pair .str tI)) 0), (pc 6 (.pair .str (.pair .str tI)) 1), (pc 9 (.pair .str (.pair .str tI)) 2), (10, (.v .str))], ob := [(pv 0 (.pair .str (.pair .str tI))), (pv 1 (.pair .str (.pair .str tI))), (pv 2 (.pair .str (.pair .str tI)))], lo := 3, nx := 3 })]
noncomputable def L3p_0 : Code := loopIn (bodyOf Tryz.f35) 0
noncomputable def P3p_0 : Lp := lpOf S3p_0 E3p_0 58 R_r34_Bytes_0
noncomputable def c3p_ : Con := conV true [(.pair .str (.pair .str tI)), tI, .str] [(.pair .str (.pair .str tI)), .str, tI] fun x => r34_Bytes x.1 x.2.1 x.2.2.1
noncomputable def x3p_ : Cx := { ti := ti, con := [(73, c3n_), (75, c3k_)], fns := [], un := 6 }
theorem xok3p_ : CxOk Tryz.prog x3p_ := CxOk.of mixed ti_ok (fc ⟨con3n_, fc ⟨con3k_, fz⟩⟩) fz
theorem r3p_0 (x : S3p_0.X) : denC x3p_ [] (denF x3p_ 8) L3p_0 (S3p_0.mkS 58 x) (kRound 0 S3p_0 E3p_0) = R_r34_Bytes_0 x := by kernel_rfl
theorem l3p_0 : LpOk Tryz.prog 0 (.loop L3p_0) P3p_0 := lpOf_ok xok3p_ 8 (lps_nil) S3p_0 E3p_0 58 R_r34_Bytes_0 (by decide) r3p_0
theorem fn3p_ : FnOk Tryz.prog 35 Tryz.f35 [(0, P3p_0)] := ⟨Tryz.func35, Tryz.call35, lps_of (by kernel_rfl) (lps_one l3p_0 (by kernel_rfl) fz)⟩
theorem e3p_ (s : (ByteArray × (ByteArray × Int))) (n : Int) (more : ByteArray) : bodyK x3p_ [(0, P3p_0)] (denF x3p_ 8) Tryz.f35 (domV [(.pair .str (.pair .str tI)), tI, .str] (s, n, more, ())) [] 0 (kOut [(.pair .str (.pair .str tI)), .str, tI]) = r34_Bytes' s n more := by kernel_rfl
theorem con3p_ : ConOk Tryz.prog 35 c3p_ := con_ok xok3p_ 8 fn3p_ true [(.pair .str (.pair .str tI)), tI, .str] [(.pair .str (.pair .str tI)), .str, tI] _ (by decide) (fun x => by rw [r34_Bytes_eq]; exact e3p_ x.1 x.2.1 x.2.2.1)
end Go.Proofs.YtccbdhpcblfopaaGreat
