/-
  The functions of a package are the plain ones.
-/
import Derived.Test.YtccbdhpcblfopaaGreatEqA
import Derived.Test.YtccbdhpcblfopaaGreatPr05
set_option linter.unusedVariables false
set_option linter.unusedSimpArgs false
set_option maxRecDepth 100000
set_option maxHeartbeats 0
namespace Go.Pl
end Go.Pl
open Go Go.Den Go.Pl
namespace Go.Proofs.YtccbdhpcblfopaaGreat
abbrev S3c_0 : Shape := { sl := [(0, (.v .str)), (3, (.w 5 (.int .u8) 3))], ob := [], lo := 3, nx := 4 }
abbrev E3c_0 : List Ex := [(.normal, { sl := [(0, (.v .str)), (3, (.w 5 (.int .u8) 4))], ob := [], lo := 4, nx := 5 })]
noncomputable def L3c_0 : Code := loopIn (bodyOf Tryz.f146) 0
noncomputable def P3c_0 : Lp := lpOf S3c_0 E3c_0 32 R_r05_padded_0
abbrev S3c_2 : Shape := { sl := [(0, (.v .str)), (3, (.w 5 (.int .u8) 5)), (pv 4 tI)], ob := [], lo := 5, nx := 6 }
abbrev E3c_2 : List Ex := [(.normal, { sl := [(3, (.w 5 (.int .u8) 6))], ob := [], lo := 6, nx := 7 })]
noncomputable def L3c_2 : Code := loopIn (bodyOf Tryz.f146) 2
noncomputable def P3c_2 : Lp := lpOf S3c_2 E3c_2 32 R_r05_padded_2
noncomputable def c3c_ : Con := conV false [.str] [(.sl (.int .u8))] fun x => r05_padded x.1
noncomputable def x3c_ : Cx := { ti := ti, con := [], fns := [], un := 6 }
theorem xok3c_ : CxOk Tryz.prog x3c_ := CxOk.of mixed ti_ok fz fz
theorem r3c_0 (x : S3c_0.X) : denC x3c_ [] (denF x3c_ 8) L3c_0 (S3c_0.mkS 32 x) (kRound 0 S3c_0 E3c_0) = R_r05_padded_0 x := by kernel_rfl
theorem l3c_0 : LpOk Tryz.prog 0 (.loop L3c_0) P3c_0 := lpOf_ok xok3c_ 8 (lps_nil) S3c_0 E3c_0 32 R_r05_padded_0 (by decide) r3c_0
theorem r3c_2 (x : S3c_2.X) : denC x3c_ [] (denF x3c_ 8) L3c_2 (S3c_2.mkS 32 x) (kRound 2 S3c_2 E3c_2) = R_r05_padded_2 x := by kernel_rfl
theorem l3c_2 : LpOk Tryz.prog 2 (.loop L3c_2) P3c_2 := lpOf_ok xok3c_ 8 (lps_nil) S3c_2 E3c_2 32 R_r05_padded_2 (by decide) r3c_2
theorem fn3c_ : FnOk Tryz.prog 146 Tryz.f146 [(0, P3c_0), (2, P3c_2)] := ⟨Tryz.func146, Tryz.call146, lps_of (by kernel_rfl) (lps_one l3c_0 (by kernel_rfl) (lps_one l3c_2 (by kernel_rfl) fz))⟩
theorem e3c_ (s : ByteArray) : bodyK x3c_ [(0, P3c_0), (2, P3c_2)] (denF x3c_ 8) Tryz.f146 (domV [.str] (s, ())) [] 0 (kOut [(.sl (.int .u8))]) = r05_padded' s := by kernel_rfl
theorem con3c_ : ConOk Tryz.prog 146 c3c_ := con_ok xok3c_ 8 fn3c_ false [.str] [(.sl (.int .u8))] _ (by decide) (fun x => by rw [r05_padded_eq]; exact e3c_ x.1)
noncomputable def c3d_ : Con := conV true [] [(.arr 8 tI)] fun x => r05_first 
noncomputable def x3d_ : Cx := { ti := ti, con := [], fns := [], un := 6 }
theorem xok3d_ : CxOk Tryz.prog x3d_ := CxOk.of mixed ti_ok fz fz
theorem fn3d_ : FnOk Tryz.prog 147 Tryz.f147 [] := ⟨Tryz.func147, Tryz.call147, lps_nil⟩
theorem e3d_  : bodyK x3d_ [] (denF x3d_ 8) Tryz.f147 (domV [] (())) [] 0 (kOut [(.arr 8 tI)]) = r05_first'  := by kernel_rfl
theorem con3d_ : ConOk Tryz.prog 147 c3d_ := con_ok xok3d_ 8 fn3d_ true [] [(.arr 8 tI)] _ (by decide) (fun x => by rw [r05_first_eq]; exact e3d_ )
noncomputable def c3e_ : Con := conV true [tI, tI] [tI] fun x => r05_rotr x.1 x.2.1
noncomputable def x3e_ : Cx := { ti := ti, con := [], fns := [], un := 6 }
theorem xok3e_ : CxOk Tryz.prog x3e_ := CxOk.of mixed ti_ok fz fz
theorem fn3e_ : FnOk Tryz.prog 165 Tryz.f165 [] := ⟨Tryz.func165, Tryz.call165, lps_nil⟩
theorem e3e_ (x : Int) (n : Int) : bodyK x3e_ [] (denF x3e_ 8) Tryz.f165 (domV [tI, tI] (x, n, ())) [] 0 (kOut [tI]) = r05_rotr' x n := by kernel_rfl
theorem con3e_ : ConOk Tryz.prog 165 c3e_ := con_ok xok3e_ 8 fn3e_ true [tI, tI] [tI] _ (by decide) (fun x => by rw [r05_rotr_eq]; exact e3e_ x.1 x.2.1)
abbrev S3f_0 : Shape := { sl := [(0, (.sz (.int .u8))), (pc 2 (.arr 64 tI) 0), (pc 3 (.arr 64 tI) 1), (pv 4 tI)], ob := [(pv 0 (.arr 64 tI)), (pv 1 (.arr 64 tI))], lo := 2, nx := 2 }
abbrev E3f_0 : List Ex := [(.normal, { sl := [(pc 2 (.arr 64 tI) 0), (pc 3 (.arr 64 tI) 1)], ob := [(pv 0 (.arr 64 tI)), (pv 1 (.arr 64 tI))], lo := 2, nx := 2 })]
noncomputable def L3f_0 : Code := loopIn (bodyOf Tryz.f163) 0
noncomputable def P3f_0 : Lp := lpOf S3f_0 E3f_0 95 R_r05_schedule_0
abbrev S3f_2 : Shape := { sl := [(pc 2 (.arr 64 tI) 0), (pc 3 (.arr 64 tI) 1), (pv 5 tI)], ob := [(pv 0 (.arr 64 tI)), (pv 1 (.arr 64 tI))], lo := 2, nx := 2 }
abbrev E3f_2 : List Ex := [(.normal, { sl := [(pc 2 (.arr 64 tI) 0), (pc 3 (.arr 64 tI) 1)], ob := [(pv 0 (.arr 64 tI)), (pv 1 (.arr 64 tI))], lo := 2, nx := 2 })]
noncomputable def L3f_2 : Code := loopIn (bodyOf Tryz.f163) 2
noncomputable def P3f_2 : Lp := lpOf S3f_2 E3f_2 95 R_r05_schedule_2
noncomputable def c3f_ : Con := conV true [(.sl (.int .u8))] [(.arr 64 tI)] fun x => r05_schedule x.1.1 x.1.2
noncomputable def x3f_ : Cx := { ti := ti, con := [(165, c3e_)], fns := [], un := 6 }
theorem xok3f_ : CxOk Tryz.prog x3f_ := CxOk.of mixed ti_ok (fc ⟨con3e_, fz⟩) fz
theorem r3f_0 (x : S3f_0.X) : denC x3f_ [] (denF x3f_ 8) L3f_0 (S3f_0.mkS 95 x) (kRound 0 S3f_0 E3f_0) = R_r05_schedule_0 x := by kernel_rfl
theorem l3f_0 : LpOk Tryz.prog 0 (.loop L3f_0) P3f_0 := lpOf_ok xok3f_ 8 (lps_nil) S3f_0 E3f_0 95 R_r05_schedule_0 (by decide) r3f_0
theorem r3f_2 (x : S3f_2.X) : denC x3f_ [] (denF x3f_ 8) L3f_2 (S3f_2.mkS 95 x) (kRound 2 S3f_2 E3f_2) = R_r05_schedule_2 x := by kernel_rfl
theorem l3f_2 : LpOk Tryz.prog 2 (.loop L3f_2) P3f_2 := lpOf_ok xok3f_ 8 (lps_nil) S3f_2 E3f_2 95 R_r05_schedule_2 (by decide) r3f_2
theorem fn3f_ : FnOk Tryz.prog 163 Tryz.f163 [(0, P3f_0), (2, P3f_2)] := ⟨Tryz.func163, Tryz.call163, lps_of (by kernel_rfl) (lps_one l3f_0 (by kernel_rfl) (lps_one l3f_2 (by kernel_rfl) fz))⟩
theorem e3f_ (nb : Nat) (b : Nat → Int) : bodyK x3f_ [(0, P3f_0), (2, P3f_2)] (denF x3f_ 8) Tryz.f163 (domV [(.sl (.int .u8))] ((nb, b), ())) [] 0 (kOut [(.arr 64 tI)]) = r05_schedule' nb b := by kernel_rfl
theorem con3f_ : ConOk Tryz.prog 163 c3f_ := con_ok xok3f_ 8 fn3f_ true [(.sl (.int .u8))] [(.arr 64 tI)] _ (by decide) (fun x => by rw [r05_schedule_eq]; exact e3f_ x.1.1 x.1.2)
noncomputable def c3g_ : Con := conV true [] [(.arr 64 tI)] fun x => r05_constants 
noncomputable def x3g_ : Cx := { ti := ti, con := [], fns := [], un := 6 }
theorem xok3g_ : CxOk Tryz.prog x3g_ := CxOk.of mixed ti_ok fz fz
theorem fn3g_ : FnOk Tryz.prog 164 Tryz.f164 [] := ⟨Tryz.func164, Tryz.call164, lps_nil⟩
theorem e3g_  : bodyK x3g_ [] (denF x3g_ 8) Tryz.f164 (domV [] (())) [] 0 (kOut [(.arr 64 tI)]) = r05_constants'  := by kernel_rfl
theorem con3g_ : ConOk Tryz.prog 164 c3g_ := con_ok xok3g_ 8 fn3g_ true [] [(.arr 64 tI)] _ (by decide) (fun x => by rw [r05_constants_eq]; exact e3g_ )
abbrev S3h_0 : Shape := { sl := [(pc 2 (.arr 8 tI) 0), (pc 4 (.arr 8 tI) 1), (pc 5 (.arr 64 tI) 2), (pc 6 (.arr 64 tI) 3), (pc 7 (.arr 8 tI) 4), (pv 8 tI)], ob := [(pv 0 (.arr 8 tI)), (pv 1 (.arr 8 tI)), (pv 2 (.arr 64 tI)), (pv 3 (.arr 64 tI)), (pv 4 (.arr 8 tI))], lo := 5, nx := 5 }
abbrev E3h_0 : List Ex := [(.normal, { sl := [(pc 2 (.arr 8 tI) 0), (pc 4 (.arr 8 tI) 1), (pc 7 (.arr 8 tI) 4)], ob := [(pv 0 (.arr 8 tI)), (pv 1 (.arr 8 tI)), (pv 4 (.arr 8 tI))], lo := 5, nx := 5 })]
noncomputable def L3h_0 : Code := loopIn (bodyOf Tryz.f148) 0
noncomputable def P3h_0 : Lp := lpOf S3h_0 E3h_0 129 R_r05_block_0
abbrev S3h_2 : Shape := { sl := [(pc 2 (.arr 8 tI) 0), (pc 4 (.arr 8 tI) 1), (pc 7 (.arr 8 tI) 4), (pc 14 (.arr 8 tI) 5), (pv 15 tI)], ob := [(pv 0 (.arr 8 tI)), (pv 1 (.arr 8 tI)), (pv 4 (.arr 8 tI)), (pv 5 (.arr 8 tI))], lo := 6, nx := 6 }
abbrev E3h_2 : List Ex := [(.normal, { sl := [(pc 4 (.arr 8 tI) 1), (pc 14 (.arr 8 tI) 5)], ob := [(pv 1 (.arr 8 tI)), (pv 5 (.arr 8 tI))], lo := 6, nx := 6 })]
noncomputable def L3h_2 : Code := loopIn (bodyOf Tryz.f148) 2
noncomputable def P3h_2 : Lp := lpOf S3h_2 E3h_2 129 R_r05_block_2
noncomputable def c3h_ : Con := conV true [(.arr 8 tI), (.sl (.int .u8))] [(.arr 8 tI)] fun x => r05_block x.1 x.2.1.1 x.2.1.2
noncomputable def x3h_ : Cx := { ti := ti, con := [(163, c3f_), (164, c3g_), (165, c3e_)], fns := [], un := 6 }
theorem xok3h_ : CxOk Tryz.prog x3h_ := CxOk.of mixed ti_ok (fc ⟨con3f_, fc ⟨con3g_, fc ⟨con3e_, fz⟩⟩⟩) fz
theorem r3h_0 (x : S3h_0.X) : denC x3h_ [] (denF x3h_ 8) L3h_0 (S3h_0.mkS 129 x) (kRound 0 S3h_0 E3h_0) = R_r05_block_0 x := by kernel_rfl
theorem l3h_0 : LpOk Tryz.prog 0 (.loop L3h_0) P3h_0 := lpOf_ok xok3h_ 8 (lps_nil) S3h_0 E3h_0 129 R_r05_block_0 (by decide) r3h_0
theorem r3h_2 (x : S3h_2.X) : denC x3h_ [] (denF x3h_ 8) L3h_2 (S3h_2.mkS 129 x) (kRound 2 S3h_2 E3h_2) = R_r05_block_2 x := by kernel_rfl
theorem l3h_2 : LpOk Tryz.prog 2 (.loop L3h_2) P3h_2 := lpOf_ok xok3h_ 8 (lps_nil) S3h_2 E3h_2 129 R_r05_block_2 (by decide) r3h_2
theorem fn3h_ : FnOk Tryz.prog 148 Tryz.f148 [(0, P3h_0), (2, P3h_2)] := ⟨Tryz.func148, Tryz.call148, lps_of (by kernel_rfl) (lps_one l3h_0 (by kernel_rfl) (lps_one l3h_2 (by kernel_rfl) fz))⟩
theorem e3h_ (v : NI) (nb : Nat) (b : Nat → Int) : bodyK x3h_ [(0, P3h_0), (2, P3h_2)] (denF x3h_ 8) Tryz.f148 (domV [(.arr 8 tI), (.sl (.int .u8))] (v, (nb, b), ())) [] 0 (kOut [(.arr 8 tI)]) = r05_block' v nb b := by kernel_rfl
theorem con3h_ : ConOk Tryz.prog 148 c3h_ := con_ok xok3h_ 8 fn3h_ true [(.arr 8 tI), (.sl (.int .u8))] [(.arr 8 tI)] _ (by decide) (fun x => by rw [r05_block_eq]; exact e3h_ x.1 x.2.1.1 x.2.1.2)
abbrev S3i_0 : Shape := { sl := [(3, (.sz (.int .u8))), (pc 4 (.arr 8 tI) 0), (pv 5 tI)], ob := [(pv 0 (.arr 8 tI))], lo := 1, nx := 1 }
abbrev E3i_0 : List Ex := [(.normal, { sl := [(pc 4 (.arr 8 tI) 0)], ob := [(pv 0 (.arr 8 tI))], lo := 1, nx := 1 })]
noncomputable def L3i_0 : Code := loopIn (bodyOf Tryz.f111) 0
noncomputable def P3i_0 : Lp := lpOf S3i_0 E3i_0 46 R_r05_Sum_0
abbrev S3i_2 : Shape := { sl := [(pc 4 (.arr 8 tI) 0), (6, (.w 5 (.int .u8) 1)), (pv 7 tI)], ob := [(pv 0 (.arr 8 tI))], lo := 1, nx := 2 }
abbrev E3i_2 : List Ex := [(.normal, { sl := [(6, (.w 5 (.int .u8) 2))], ob := [], lo := 2, nx := 3 })]
noncomputable def L3i_2 : Code := loopIn (bodyOf Tryz.f111) 2
noncomputable def P3i_2 : Lp := lpOf S3i_2 E3i_2 46 R_r05_Sum_2
noncomputable def c3i_ : Con := conV true [.str] [.str] fun x => r05_Sum x.1
noncomputable def x3i_ : Cx := { ti := ti, con := [(146, c3c_), (147, c3d_), (148, c3h_)], fns := [], un := 6 }
theorem xok3i_ : CxOk Tryz.prog x3i_ := CxOk.of mixed ti_ok (fc ⟨con3c_, fc ⟨con3d_, fc ⟨con3h_, fz⟩⟩⟩) fz
theorem r3i_0 (x : S3i_0.X) : denC x3i_ [] (denF x3i_ 8) L3i_0 (S3i_0.mkS 46 x) (kRound 0 S3i_0 E3i_0) = R_r05_Sum_0 x := by kernel_rfl
theorem l3i_0 : LpOk Tryz.prog 0 (.loop L3i_0) P3i_0 := lpOf_ok xok3i_ 8 (lps_nil) S3i_0 E3i_0 46 R_r05_Sum_0 (by decide) r3i_0
theorem r3i_2 (x : S3i_2.X) : denC x3i_ [] (denF x3i_ 8) L3i_2 (S3i_2.mkS 46 x) (kRound 2 S3i_2 E3i_2) = R_r05_Sum_2 x := by kernel_rfl
theorem l3i_2 : LpOk Tryz.prog 2 (.loop L3i_2) P3i_2 := lpOf_ok xok3i_ 8 (lps_nil) S3i_2 E3i_2 46 R_r05_Sum_2 (by decide) r3i_2
theorem fn3i_ : FnOk Tryz.prog 111 Tryz.f111 [(0, P3i_0), (2, P3i_2)] := ⟨Tryz.func111, Tryz.call111, lps_of (by kernel_rfl) (lps_one l3i_0 (by kernel_rfl) (lps_one l3i_2 (by kernel_rfl) fz))⟩
theorem e3i_ (s : ByteArray) : bodyK x3i_ [(0, P3i_0), (2, P3i_2)] (denF x3i_ 8) Tryz.f111 (domV [.str] (s, ())) [] 0 (kOut [.str]) = r05_Sum' s := by kernel_rfl
theorem con3i_ : ConOk Tryz.prog 111 c3i_ := con_ok xok3i_ 8 fn3i_ true [.str] [.str] _ (by decide) (fun x => by rw [r05_Sum_eq]; exact e3i_ x.1)
end Go.Proofs.YtccbdhpcblfopaaGreat
