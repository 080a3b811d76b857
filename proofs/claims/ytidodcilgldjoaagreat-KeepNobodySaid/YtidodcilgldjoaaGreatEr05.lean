/-
  The functions of a package are the plain ones.
-/
import Derived.Test.YtidodcilgldjoaaGreatEqA
import Derived.Test.YtidodcilgldjoaaGreatPr05
set_option linter.unusedVariables false
set_option linter.unusedSimpArgs false
set_option maxRecDepth 100000
set_option maxHeartbeats 0
namespace Go.Pl
end Go.Pl
open Go Go.Den Go.Pl
namespace Go.Proofs.YtidodcilgldjoaaGreat
abbrev S1e_0 : Shape := { sl := [(0, (.v .str)), (3, (.w 5 (.int .u8) 3))], ob := [], lo := 3, nx := 4 }
abbrev E1e_0 : List Ex := [(.normal, { sl := [(0, (.v .str)), (3, (.w 5 (.int .u8) 4))], ob := [], lo := 4, nx := 5 })]
noncomputable def L1e_0 : Code := loopIn (bodyOf Tryz.f44) 0
noncomputable def P1e_0 : Lp := lpOf S1e_0 E1e_0 32 R_r05_padded_0
abbrev S1e_2 : Shape := { sl := [(0, (.v .str)), (3, (.w 5 (.int .u8) 5)), (pv 4 tI)], ob := [], lo := 5, nx := 6 }
abbrev E1e_2 : List Ex := [(.normal, { sl := [(3, (.w 5 (.int .u8) 6))], ob := [], lo := 6, nx := 7 })]
noncomputable def L1e_2 : Code := loopIn (bodyOf Tryz.f44) 2
noncomputable def P1e_2 : Lp := lpOf S1e_2 E1e_2 32 R_r05_padded_2
noncomputable def c1e_ : Con := conV false [.str] [(.sl (.int .u8))] fun x => r05_padded x.1
noncomputable def x1e_ : Cx := { ti := ti, con := [], fns := [], un := 6 }
theorem xok1e_ : CxOk Tryz.prog x1e_ := CxOk.of mixed ti_ok fz fz
theorem r1e_0 (x : S1e_0.X) : denC x1e_ [] (denF x1e_ 8) L1e_0 (S1e_0.mkS 32 x) (kRound 0 S1e_0 E1e_0) = R_r05_padded_0 x := by kernel_rfl
theorem l1e_0 : LpOk Tryz.prog 0 (.loop L1e_0) P1e_0 := lpOf_ok xok1e_ 8 (lps_nil) S1e_0 E1e_0 32 R_r05_padded_0 (by decide) r1e_0
theorem r1e_2 (x : S1e_2.X) : denC x1e_ [] (denF x1e_ 8) L1e_2 (S1e_2.mkS 32 x) (kRound 2 S1e_2 E1e_2) = R_r05_padded_2 x := by kernel_rfl
theorem l1e_2 : LpOk Tryz.prog 2 (.loop L1e_2) P1e_2 := lpOf_ok xok1e_ 8 (lps_nil) S1e_2 E1e_2 32 R_r05_padded_2 (by decide) r1e_2
theorem fn1e_ : FnOk Tryz.prog 44 Tryz.f44 [(0, P1e_0), (2, P1e_2)] := ⟨Tryz.func44, Tryz.call44, lps_of (by kernel_rfl) (lps_one l1e_0 (by kernel_rfl) (lps_one l1e_2 (by kernel_rfl) fz))⟩
theorem e1e_ (s : ByteArray) : bodyK x1e_ [(0, P1e_0), (2, P1e_2)] (denF x1e_ 8) Tryz.f44 (domV [.str] (s, ())) [] 0 (kOut [(.sl (.int .u8))]) = r05_padded' s := by kernel_rfl
theorem con1e_ : ConOk Tryz.prog 44 c1e_ := con_ok xok1e_ 8 fn1e_ false [.str] [(.sl (.int .u8))] _ (by decide) (fun x => by rw [r05_padded_eq]; exact e1e_ x.1)
noncomputable def c1f_ : Con := conV true [] [(.arr 8 tI)] fun x => r05_first 
noncomputable def x1f_ : Cx := { ti := ti, con := [], fns := [], un := 6 }
theorem xok1f_ : CxOk Tryz.prog x1f_ := CxOk.of mixed ti_ok fz fz
theorem fn1f_ : FnOk Tryz.prog 45 Tryz.f45 [] := ⟨Tryz.func45, Tryz.call45, lps_nil⟩
theorem e1f_  : bodyK x1f_ [] (denF x1f_ 8) Tryz.f45 (domV [] (())) [] 0 (kOut [(.arr 8 tI)]) = r05_first'  := by kernel_rfl
theorem con1f_ : ConOk Tryz.prog 45 c1f_ := con_ok xok1f_ 8 fn1f_ true [] [(.arr 8 tI)] _ (by decide) (fun x => by rw [r05_first_eq]; exact e1f_ )
noncomputable def c1g_ : Con := conV true [tI, tI] [tI] fun x => r05_rotr x.1 x.2.1
noncomputable def x1g_ : Cx := { ti := ti, con := [], fns := [], un := 6 }
theorem xok1g_ : CxOk Tryz.prog x1g_ := CxOk.of mixed ti_ok fz fz
theorem fn1g_ : FnOk Tryz.prog 93 Tryz.f93 [] := ⟨Tryz.func93, Tryz.call93, lps_nil⟩
theorem e1g_ (x : Int) (n : Int) : bodyK x1g_ [] (denF x1g_ 8) Tryz.f93 (domV [tI, tI] (x, n, ())) [] 0 (kOut [tI]) = r05_rotr' x n := by kernel_rfl
theorem con1g_ : ConOk Tryz.prog 93 c1g_ := con_ok xok1g_ 8 fn1g_ true [tI, tI] [tI] _ (by decide) (fun x => by rw [r05_rotr_eq]; exact e1g_ x.1 x.2.1)
abbrev S1h_0 : Shape := { sl := [(0, (.sz (.int .u8))), (pc 2 (.arr 64 tI) 0), (pc 3 (.arr 64 tI) 1), (pv 4 tI)], ob := [(pv 0 (.arr 64 tI)), (pv 1 (.arr 64 tI))], lo := 2, nx := 2 }
abbrev E1h_0 : List Ex := [(.normal, { sl := [(pc 2 (.arr 64 tI) 0), (pc 3 (.arr 64 tI) 1)], ob := [(pv 0 (.arr 64 tI)), (pv 1 (.arr 64 tI))], lo := 2, nx := 2 })]
noncomputable def L1h_0 : Code := loopIn (bodyOf Tryz.f91) 0
noncomputable def P1h_0 : Lp := lpOf S1h_0 E1h_0 95 R_r05_schedule_0
abbrev S1h_2 : Shape := { sl := [(pc 2 (.arr 64 tI) 0), (pc 3 (.arr 64 tI) 1), (pv 5 tI)], ob := [(pv 0 (.arr 64 tI)), (pv 1 (.arr 64 tI))], lo := 2, nx := 2 }
abbrev E1h_2 : List Ex := [(.normal, { sl := [(pc 2 (.arr 64 tI) 0), (pc 3 (.arr 64 tI) 1)], ob := [(pv 0 (.arr 64 tI)), (pv 1 (.arr 64 tI))], lo := 2, nx := 2 })]
noncomputable def L1h_2 : Code := loopIn (bodyOf Tryz.f91) 2
noncomputable def P1h_2 : Lp := lpOf S1h_2 E1h_2 95 R_r05_schedule_2
noncomputable def c1h_ : Con := conV true [(.sl (.int .u8))] [(.arr 64 tI)] fun x => r05_schedule x.1.1 x.1.2
noncomputable def x1h_ : Cx := { ti := ti, con := [(93, c1g_)], fns := [], un := 6 }
theorem xok1h_ : CxOk Tryz.prog x1h_ := CxOk.of mixed ti_ok (fc ⟨con1g_, fz⟩) fz
theorem r1h_0 (x : S1h_0.X) : denC x1h_ [] (denF x1h_ 8) L1h_0 (S1h_0.mkS 95 x) (kRound 0 S1h_0 E1h_0) = R_r05_schedule_0 x := by kernel_rfl
theorem l1h_0 : LpOk Tryz.prog 0 (.loop L1h_0) P1h_0 := lpOf_ok xok1h_ 8 (lps_nil) S1h_0 E1h_0 95 R_r05_schedule_0 (by decide) r1h_0
theorem r1h_2 (x : S1h_2.X) : denC x1h_ [] (denF x1h_ 8) L1h_2 (S1h_2.mkS 95 x) (kRound 2 S1h_2 E1h_2) = R_r05_schedule_2 x := by kernel_rfl
theorem l1h_2 : LpOk Tryz.prog 2 (.loop L1h_2) P1h_2 := lpOf_ok xok1h_ 8 (lps_nil) S1h_2 E1h_2 95 R_r05_schedule_2 (by decide) r1h_2
theorem fn1h_ : FnOk Tryz.prog 91 Tryz.f91 [(0, P1h_0), (2, P1h_2)] := ⟨Tryz.func91, Tryz.call91, lps_of (by kernel_rfl) (lps_one l1h_0 (by kernel_rfl) (lps_one l1h_2 (by kernel_rfl) fz))⟩
theorem e1h_ (nb : Nat) (b : Nat → Int) : bodyK x1h_ [(0, P1h_0), (2, P1h_2)] (denF x1h_ 8) Tryz.f91 (domV [(.sl (.int .u8))] ((nb, b), ())) [] 0 (kOut [(.arr 64 tI)]) = r05_schedule' nb b := by kernel_rfl
theorem con1h_ : ConOk Tryz.prog 91 c1h_ := con_ok xok1h_ 8 fn1h_ true [(.sl (.int .u8))] [(.arr 64 tI)] _ (by decide) (fun x => by rw [r05_schedule_eq]; exact e1h_ x.1.1 x.1.2)
noncomputable def c1i_ : Con := conV true [] [(.arr 64 tI)] fun x => r05_constants 
noncomputable def x1i_ : Cx := { ti := ti, con := [], fns := [], un := 6 }
theorem xok1i_ : CxOk Tryz.prog x1i_ := CxOk.of mixed ti_ok fz fz
theorem fn1i_ : FnOk Tryz.prog 92 Tryz.f92 [] := ⟨Tryz.func92, Tryz.call92, lps_nil⟩
theorem e1i_  : bodyK x1i_ [] (denF x1i_ 8) Tryz.f92 (domV [] (())) [] 0 (kOut [(.arr 64 tI)]) = r05_constants'  := by kernel_rfl
theorem con1i_ : ConOk Tryz.prog 92 c1i_ := con_ok xok1i_ 8 fn1i_ true [] [(.arr 64 tI)] _ (by decide) (fun x => by rw [r05_constants_eq]; exact e1i_ )
abbrev S1j_0 : Shape := { sl := [(pc 2 (.arr 8 tI) 0), (pc 4 (.arr 8 tI) 1), (pc 5 (.arr 64 tI) 2), (pc 6 (.arr 64 tI) 3), (pc 7 (.arr 8 tI) 4), (pv 8 tI)], ob := [(pv 0 (.arr 8 tI)), (pv 1 (.arr 8 tI)), (pv 2 (.arr 64 tI)), (pv 3 (.arr 64 tI)), (pv 4 (.arr 8 tI))], lo := 5, nx := 5 }
abbrev E1j_0 : List Ex := [(.normal, { sl := [(pc 2 (.arr 8 tI) 0), (pc 4 (.arr 8 tI) 1), (pc 7 (.arr 8 tI) 4)], ob := [(pv 0 (.arr 8 tI)), (pv 1 (.arr 8 tI)), (pv 4 (.arr 8 tI))], lo := 5, nx := 5 })]
noncomputable def L1j_0 : Code := loopIn (bodyOf Tryz.f46) 0
noncomputable def P1j_0 : Lp := lpOf S1j_0 E1j_0 129 R_r05_block_0
abbrev S1j_2 : Shape := { sl := [(pc 2 (.arr 8 tI) 0), (pc 4 (.arr 8 tI) 1), (pc 7 (.arr 8 tI) 4), (pc 14 (.arr 8 tI) 5), (pv 15 tI)], ob := [(pv 0 (.arr 8 tI)), (pv 1 (.arr 8 tI)), (pv 4 (.arr 8 tI)), (pv 5 (.arr 8 tI))], lo := 6, nx := 6 }
abbrev E1j_2 : List Ex := [(.normal, { sl := [(pc 4 (.arr 8 tI) 1), (pc 14 (.arr 8 tI) 5)], ob := [(pv 1 (.arr 8 tI)), (pv 5 (.arr 8 tI))], lo := 6, nx := 6 })]
noncomputable def L1j_2 : Code := loopIn (bodyOf Tryz.f46) 2
noncomputable def P1j_2 : Lp := lpOf S1j_2 E1j_2 129 R_r05_block_2
noncomputable def c1j_ : Con := conV true [(.arr 8 tI), (.sl (.int .u8))] [(.arr 8 tI)] fun x => r05_block x.1 x.2.1.1 x.2.1.2
noncomputable def x1j_ : Cx := { ti := ti, con := [(91, c1h_), (92, c1i_), (93, c1g_)], fns := [], un := 6 }
theorem xok1j_ : CxOk Tryz.prog x1j_ := CxOk.of mixed ti_ok (fc ⟨con1h_, fc ⟨con1i_, fc ⟨con1g_, fz⟩⟩⟩) fz
theorem r1j_0 (x : S1j_0.X) : denC x1j_ [] (denF x1j_ 8) L1j_0 (S1j_0.mkS 129 x) (kRound 0 S1j_0 E1j_0) = R_r05_block_0 x := by kernel_rfl
theorem l1j_0 : LpOk Tryz.prog 0 (.loop L1j_0) P1j_0 := lpOf_ok xok1j_ 8 (lps_nil) S1j_0 E1j_0 129 R_r05_block_0 (by decide) r1j_0
theorem r1j_2 (x : S1j_2.X) : denC x1j_ [] (denF x1j_ 8) L1j_2 (S1j_2.mkS 129 x) (kRound 2 S1j_2 E1j_2) = R_r05_block_2 x := by kernel_rfl
theorem l1j_2 : LpOk Tryz.prog 2 (.loop L1j_2) P1j_2 := lpOf_ok xok1j_ 8 (lps_nil) S1j_2 E1j_2 129 R_r05_block_2 (by decide) r1j_2
theorem fn1j_ : FnOk Tryz.prog 46 Tryz.f46 [(0, P1j_0), (2, P1j_2)] := ⟨Tryz.func46, Tryz.call46, lps_of (by kernel_rfl) (lps_one l1j_0 (by kernel_rfl) (lps_one l1j_2 (by kernel_rfl) fz))⟩
theorem e1j_ (v : NI) (nb : Nat) (b : Nat → Int) : bodyK x1j_ [(0, P1j_0), (2, P1j_2)] (denF x1j_ 8) Tryz.f46 (domV [(.arr 8 tI), (.sl (.int .u8))] (v, (nb, b), ())) [] 0 (kOut [(.arr 8 tI)]) = r05_block' v nb b := by kernel_rfl
theorem con1j_ : ConOk Tryz.prog 46 c1j_ := con_ok xok1j_ 8 fn1j_ true [(.arr 8 tI), (.sl (.int .u8))] [(.arr 8 tI)] _ (by decide) (fun x => by rw [r05_block_eq]; exact e1j_ x.1 x.2.1.1 x.2.1.2)
abbrev S1k_0 : Shape := { sl := [(3, (.sz (.int .u8))), (pc 4 (.arr 8 tI) 0), (pv 5 tI)], ob := [(pv 0 (.arr 8 tI))], lo := 1, nx := 1 }
abbrev E1k_0 : List Ex := [(.normal, { sl := [(pc 4 (.arr 8 tI) 0)], ob := [(pv 0 (.arr 8 tI))], lo := 1, nx := 1 })]
noncomputable def L1k_0 : Code := loopIn (bodyOf Tryz.f16) 0
noncomputable def P1k_0 : Lp := lpOf S1k_0 E1k_0 46 R_r05_Sum_0
abbrev S1k_2 : Shape := { sl := [(pc 4 (.arr 8 tI) 0), (6, (.w 5 (.int .u8) 1)), (pv 7 tI)], ob := [(pv 0 (.arr 8 tI))], lo := 1, nx := 2 }
abbrev E1k_2 : List Ex := [(.normal, { sl := [(6, (.w 5 (.int .u8) 2))], ob := [], lo := 2, nx := 3 })]
noncomputable def L1k_2 : Code := loopIn (bodyOf Tryz.f16) 2
noncomputable def P1k_2 : Lp := lpOf S1k_2 E1k_2 46 R_r05_Sum_2
noncomputable def c1k_ : Con := conV true [.str] [.str] fun x => r05_Sum x.1
noncomputable def x1k_ : Cx := { ti := ti, con := [(44, c1e_), (45, c1f_), (46, c1j_)], fns := [], un := 6 }
theorem xok1k_ : CxOk Tryz.prog x1k_ := CxOk.of mixed ti_ok (fc ⟨con1e_, fc ⟨con1f_, fc ⟨con1j_, fz⟩⟩⟩) fz
theorem r1k_0 (x : S1k_0.X) : denC x1k_ [] (denF x1k_ 8) L1k_0 (S1k_0.mkS 46 x) (kRound 0 S1k_0 E1k_0) = R_r05_Sum_0 x := by kernel_rfl
theorem l1k_0 : LpOk Tryz.prog 0 (.loop L1k_0) P1k_0 := lpOf_ok xok1k_ 8 (lps_nil) S1k_0 E1k_0 46 R_r05_Sum_0 (by decide) r1k_0
theorem r1k_2 (x : S1k_2.X) : denC x1k_ [] (denF x1k_ 8) L1k_2 (S1k_2.mkS 46 x) (kRound 2 S1k_2 E1k_2) = R_r05_Sum_2 x := by kernel_rfl
theorem l1k_2 : LpOk Tryz.prog 2 (.loop L1k_2) P1k_2 := lpOf_ok xok1k_ 8 (lps_nil) S1k_2 E1k_2 46 R_r05_Sum_2 (by decide) r1k_2
theorem fn1k_ : FnOk Tryz.prog 16 Tryz.f16 [(0, P1k_0), (2, P1k_2)] := ⟨Tryz.func16, Tryz.call16, lps_of (by kernel_rfl) (lps_one l1k_0 (by kernel_rfl) (lps_one l1k_2 (by kernel_rfl) fz))⟩
theorem e1k_ (s : ByteArray) : bodyK x1k_ [(0, P1k_0), (2, P1k_2)] (denF x1k_ 8) Tryz.f16 (domV [.str] (s, ())) [] 0 (kOut [.str]) = r05_Sum' s := by kernel_rfl
theorem con1k_ : ConOk Tryz.prog 16 c1k_ := con_ok xok1k_ 8 fn1k_ true [.str] [.str] _ (by decide) (fun x => by rw [r05_Sum_eq]; exact e1k_ x.1)
end Go.Proofs.YtidodcilgldjoaaGreat
