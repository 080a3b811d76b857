/-
  The functions of a package are the plain ones.
-/
import Derived.Test.YtkhhonbkgckjjaaGreatEqA
import Derived.Test.YtkhhonbkgckjjaaGreatPr05
set_option linter.unusedVariables false
set_option linter.unusedSimpArgs false
set_option maxRecDepth 100000
set_option maxHeartbeats 0
namespace Go.Pl
end Go.Pl
open Go Go.Den Go.Pl
namespace Go.Proofs.YtkhhonbkgckjjaaGreat
abbrev S33_0 : Shape := { sl := [(0, (.v .str)), (3, (.w 5 (.int .u8) 3))], ob := [], lo := 3, nx := 4 }
abbrev E33_0 : List Ex := [(.normal, { sl := [(0, (.v .str)), (3, (.w 5 (.int .u8) 4))], ob := [], lo := 4, nx := 5 })]
noncomputable def L33_0 : Code := loopIn (bodyOf Tryz.f118) 0
noncomputable def P33_0 : Lp := lpOf S33_0 E33_0 32 R_r05_padded_0
abbrev S33_2 : Shape := { sl := [(0, (.v .str)), (3, (.w 5 (.int .u8) 5)), (pv 4 tI)], ob := [], lo := 5, nx := 6 }
abbrev E33_2 : List Ex := [(.normal, { sl := [(3, (.w 5 (.int .u8) 6))], ob := [], lo := 6, nx := 7 })]
noncomputable def L33_2 : Code := loopIn (bodyOf Tryz.f118) 2
noncomputable def P33_2 : Lp := lpOf S33_2 E33_2 32 R_r05_padded_2
noncomputable def c33_ : Con := conV false [.str] [(.sl (.int .u8))] fun x => r05_padded x.1
noncomputable def x33_ : Cx := { ti := ti, con := [], fns := [], un := 6 }
theorem xok33_ : CxOk Tryz.prog x33_ := CxOk.of mixed ti_ok fz fz
theorem r33_0 (x : S33_0.X) : denC x33_ [] (denF x33_ 8) L33_0 (S33_0.mkS 32 x) (kRound 0 S33_0 E33_0) = R_r05_padded_0 x := by kernel_rfl
theorem l33_0 : LpOk Tryz.prog 0 (.loop L33_0) P33_0 := lpOf_ok xok33_ 8 (lps_nil) S33_0 E33_0 32 R_r05_padded_0 (by decide) r33_0
theorem r33_2 (x : S33_2.X) : denC x33_ [] (denF x33_ 8) L33_2 (S33_2.mkS 32 x) (kRound 2 S33_2 E33_2) = R_r05_padded_2 x := by kernel_rfl
theorem l33_2 : LpOk Tryz.prog 2 (.loop L33_2) P33_2 := lpOf_ok xok33_ 8 (lps_nil) S33_2 E33_2 32 R_r05_padded_2 (by decide) r33_2
theorem fn33_ : FnOk Tryz.prog 118 Tryz.f118 [(0, P33_0), (2, P33_2)] := ⟨Tryz.func118, Tryz.call118, lps_of (by kernel_rfl) (lps_one l33_0 (by kernel_rfl) (lps_one l33_2 (by kernel_rfl) fz))⟩
theorem e33_ (s : ByteArray) : bodyK x33_ [(0, P33_0), (2, P33_2)] (denF x33_ 8) Tryz.f118 (domV [.str] (s, ())) [] 0 (kOut [(.sl (.int .u8))]) = r05_padded' s := by kernel_rfl
theorem con33_ : ConOk Tryz.prog 118 c33_ := con_ok xok33_ 8 fn33_ false [.str] [(.sl (.int .u8))] _ (by decide) (fun x => by rw [r05_padded_eq]; exact e33_ x.1)
noncomputable def c34_ : Con := conV true [] [(.arr 8 tI)] fun x => r05_first 
noncomputable def x34_ : Cx := { ti := ti, con := [], fns := [], un := 6 }
theorem xok34_ : CxOk Tryz.prog x34_ := CxOk.of mixed ti_ok fz fz
theorem fn34_ : FnOk Tryz.prog 119 Tryz.f119 [] := ⟨Tryz.func119, Tryz.call119, lps_nil⟩
theorem e34_  : bodyK x34_ [] (denF x34_ 8) Tryz.f119 (domV [] (())) [] 0 (kOut [(.arr 8 tI)]) = r05_first'  := by kernel_rfl
theorem con34_ : ConOk Tryz.prog 119 c34_ := con_ok xok34_ 8 fn34_ true [] [(.arr 8 tI)] _ (by decide) (fun x => by rw [r05_first_eq]; exact e34_ )
noncomputable def c35_ : Con := conV true [tI, tI] [tI] fun x => r05_rotr x.1 x.2.1
noncomputable def x35_ : Cx := { ti := ti, con := [], fns := [], un := 6 }
theorem xok35_ : CxOk Tryz.prog x35_ := CxOk.of mixed ti_ok fz fz
theorem fn35_ : FnOk Tryz.prog 139 Tryz.f139 [] := ⟨Tryz.func139, Tryz.call139, lps_nil⟩
theorem e35_ (x : Int) (n : Int) : bodyK x35_ [] (denF x35_ 8) Tryz.f139 (domV [tI, tI] (x, n, ())) [] 0 (kOut [tI]) = r05_rotr' x n := by kernel_rfl
theorem con35_ : ConOk Tryz.prog 139 c35_ := con_ok xok35_ 8 fn35_ true [tI, tI] [tI] _ (by decide) (fun x => by rw [r05_rotr_eq]; exact e35_ x.1 x.2.1)
abbrev S36_0 : Shape := { sl := [(0, (.sz (.int .u8))), (pc 2 (.arr 64 tI) 0), (pc 3 (.arr 64 tI) 1), (pv 4 tI)], ob := [(pv 0 (.arr 64 tI)), (pv 1 (.arr 64 tI))], lo := 2, nx := 2 }
abbrev E36_0 : List Ex := [(.normal, { sl := [(pc 2 (.arr 64 tI) 0), (pc 3 (.arr 64 tI) 1)], ob := [(pv 0 (.arr 64 tI)), (pv 1 (.arr 64 tI))], lo := 2, nx := 2 })]
noncomputable def L36_0 : Code := loopIn (bodyOf Tryz.f137) 0
noncomputable def P36_0 : Lp := lpOf S36_0 E36_0 95 R_r05_schedule_0
abbrev S36_2 : Shape := { sl := [(pc 2 (.arr 64 tI) 0), (pc 3 (.arr 64 tI) 1), (pv 5 tI)], ob := [(pv 0 (.arr 64 tI)), (pv 1 (.arr 64 tI))], lo := 2, nx := 2 }
abbrev E36_2 : List Ex := [(.normal, { sl := [(pc 2 (.arr 64 tI) 0), (pc 3 (.arr 64 tI) 1)], ob := [(pv 0 (.arr 64 tI)), (pv 1 (.arr 64 tI))], lo := 2, nx := 2 })]
noncomputable def L36_2 : Code := loopIn (bodyOf Tryz.f137) 2
noncomputable def P36_2 : Lp := lpOf S36_2 E36_2 95 R_r05_schedule_2
noncomputable def c36_ : Con := conV true [(.sl (.int .u8))] [(.arr 64 tI)] fun x => r05_schedule x.1.1 x.1.2
noncomputable def x36_ : Cx := { ti := ti, con := [(139, c35_)], fns := [], un := 6 }
theorem xok36_ : CxOk Tryz.prog x36_ := CxOk.of mixed ti_ok (fc ⟨con35_, fz⟩) fz
theorem r36_0 (x : S36_0.X) : denC x36_ [] (denF x36_ 8) L36_0 (S36_0.mkS 95 x) (kRound 0 S36_0 E36_0) = R_r05_schedule_0 x := by kernel_rfl
theorem l36_0 : LpOk Tryz.prog 0 (.loop L36_0) P36_0 := lpOf_ok xok36_ 8 (lps_nil) S36_0 E36_0 95 R_r05_schedule_0 (by decide) r36_0
theorem r36_2 (x : S36_2.X) : denC x36_ [] (denF x36_ 8) L36_2 (S36_2.mkS 95 x) (kRound 2 S36_2 E36_2) = R_r05_schedule_2 x := by kernel_rfl
theorem l36_2 : LpOk Tryz.prog 2 (.loop L36_2) P36_2 := lpOf_ok xok36_ 8 (lps_nil) S36_2 E36_2 95 R_r05_schedule_2 (by decide) r36_2
theorem fn36_ : FnOk Tryz.prog 137 Tryz.f137 [(0, P36_0), (2, P36_2)] := ⟨Tryz.func137, Tryz.call137, lps_of (by kernel_rfl) (lps_one l36_0 (by kernel_rfl) (lps_one l36_2 (by kernel_rfl) fz))⟩
theorem e36_ (nb : Nat) (b : Nat → Int) : bodyK x36_ [(0, P36_0), (2, P36_2)] (denF x36_ 8) Tryz.f137 (domV [(.sl (.int .u8))] ((nb, b), ())) [] 0 (kOut [(.arr 64 tI)]) = r05_schedule' nb b := by kernel_rfl
theorem con36_ : ConOk Tryz.prog 137 c36_ := con_ok xok36_ 8 fn36_ true [(.sl (.int .u8))] [(.arr 64 tI)] _ (by decide) (fun x => by rw [r05_schedule_eq]; exact e36_ x.1.1 x.1.2)
noncomputable def c37_ : Con := conV true [] [(.arr 64 tI)] fun x => r05_constants 
noncomputable def x37_ : Cx := { ti := ti, con := [], fns := [], un := 6 }
theorem xok37_ : CxOk Tryz.prog x37_ := CxOk.of mixed ti_ok fz fz
theorem fn37_ : FnOk Tryz.prog 138 Tryz.f138 [] := ⟨Tryz.func138, Tryz.call138, lps_nil⟩
theorem e37_  : bodyK x37_ [] (denF x37_ 8) Tryz.f138 (domV [] (())) [] 0 (kOut [(.arr 64 tI)]) = r05_constants'  := by kernel_rfl
theorem con37_ : ConOk Tryz.prog 138 c37_ := con_ok xok37_ 8 fn37_ true [] [(.arr 64 tI)] _ (by decide) (fun x => by rw [r05_constants_eq]; exact e37_ )
abbrev S38_0 : Shape := { sl := [(pc 2 (.arr 8 tI) 0), (pc 4 (.arr 8 tI) 1), (pc 5 (.arr 64 tI) 2), (pc 6 (.arr 64 tI) 3), (pc 7 (.arr 8 tI) 4), (pv 8 tI)], ob := [(pv 0 (.arr 8 tI)), (pv 1 (.arr 8 tI)), (pv 2 (.arr 64 tI)), (pv 3 (.arr 64 tI)), (pv 4 (.arr 8 tI))], lo := 5, nx := 5 }
abbrev E38_0 : List Ex := [(.normal, { sl := [(pc 2 (.arr 8 tI) 0), (pc 4 (.arr 8 tI) 1), (pc 7 (.arr 8 tI) 4)], ob := [(pv 0 (.arr 8 tI)), (pv 1 (.arr 8 tI)), (pv 4 (.arr 8 tI))], lo := 5, nx := 5 })]
noncomputable def L38_0 : Code := loopIn (bodyOf Tryz.f120) 0
noncomputable def P38_0 : Lp := lpOf S38_0 E38_0 129 R_r05_block_0
abbrev S38_2 : Shape := { sl := [(pc 2 (.arr 8 tI) 0), (pc 4 (.arr 8 tI) 1), (pc 7 (.arr 8 tI) 4), (pc 14 (.arr 8 tI) 5), (pv 15 tI)], ob := [(pv 0 (.arr 8 tI)), (pv 1 (.arr 8 tI)), (pv 4 (.arr 8 tI)), (pv 5 (.arr 8 tI))], lo := 6, nx := 6 }
abbrev E38_2 : List Ex := [(.normal, { sl := [(pc 4 (.arr 8 tI) 1), (pc 14 (.arr 8 tI) 5)], ob := [(pv 1 (.arr 8 tI)), (pv 5 (.arr 8 tI))], lo := 6, nx := 6 })]
noncomputable def L38_2 : Code := loopIn (bodyOf Tryz.f120) 2
noncomputable def P38_2 : Lp := lpOf S38_2 E38_2 129 R_r05_block_2
noncomputable def c38_ : Con := conV true [(.arr 8 tI), (.sl (.int .u8))] [(.arr 8 tI)] fun x => r05_block x.1 x.2.1.1 x.2.1.2
noncomputable def x38_ : Cx := { ti := ti, con := [(137, c36_), (138, c37_), (139, c35_)], fns := [], un := 6 }
theorem xok38_ : CxOk Tryz.prog x38_ := CxOk.of mixed ti_ok (fc ⟨con36_, fc ⟨con37_, fc ⟨con35_, fz⟩⟩⟩) fz
theorem r38_0 (x : S38_0.X) : denC x38_ [] (denF x38_ 8) L38_0 (S38_0.mkS 129 x) (kRound 0 S38_0 E38_0) = R_r05_block_0 x := by kernel_rfl
theorem l38_0 : LpOk Tryz.prog 0 (.loop L38_0) P38_0 := lpOf_ok xok38_ 8 (lps_nil) S38_0 E38_0 129 R_r05_block_0 (by decide) r38_0
theorem r38_2 (x : S38_2.X) : denC x38_ [] (denF x38_ 8) L38_2 (S38_2.mkS 129 x) (kRound 2 S38_2 E38_2) = R_r05_block_2 x := by kernel_rfl
theorem l38_2 : LpOk Tryz.prog 2 (.loop L38_2) P38_2 := lpOf_ok xok38_ 8 (lps_nil) S38_2 E38_2 129 R_r05_block_2 (by decide) r38_2
theorem fn38_ : FnOk Tryz.prog 120 Tryz.f120 [(0, P38_0), (2, P38_2)] := ⟨Tryz.func120, Tryz.call120, lps_of (by kernel_rfl) (lps_one l38_0 (by kernel_rfl) (lps_one l38_2 (by kernel_rfl) fz))⟩
theorem e38_ (v : NI) (nb : Nat) (b : Nat → Int) : bodyK x38_ [(0, P38_0), (2, P38_2)] (denF x38_ 8) Tryz.f120 (domV [(.arr 8 tI), (.sl (.int .u8))] (v, (nb, b), ())) [] 0 (kOut [(.arr 8 tI)]) = r05_block' v nb b := by kernel_rfl
theorem con38_ : ConOk Tryz.prog 120 c38_ := con_ok xok38_ 8 fn38_ true [(.arr 8 tI), (.sl (.int .u8))] [(.arr 8 tI)] _ (by decide) (fun x => by rw [r05_block_eq]; exact e38_ x.1 x.2.1.1 x.2.1.2)
abbrev S39_0 : Shape := { sl := [(3, (.sz (.int .u8))), (pc 4 (.arr 8 tI) 0), (pv 5 tI)], ob := [(pv 0 (.arr 8 tI))], lo := 1, nx := 1 }
abbrev E39_0 : List Ex := [(.normal, { sl := [(pc 4 (.arr 8 tI) 0)], ob := [(pv 0 (.arr 8 tI))], lo := 1, nx := 1 })]
noncomputable def L39_0 : Code := loopIn (bodyOf Tryz.f91) 0
noncomputable def P39_0 : Lp := lpOf S39_0 E39_0 46 R_r05_Sum_0
abbrev S39_2 : Shape := { sl := [(pc 4 (.arr 8 tI) 0), (6, (.w 5 (.int .u8) 1)), (pv 7 tI)], ob := [(pv 0 (.arr 8 tI))], lo := 1, nx := 2 }
abbrev E39_2 : List Ex := [(.normal, { sl := [(6, (.w 5 (.int .u8) 2))], ob := [], lo := 2, nx := 3 })]
noncomputable def L39_2 : Code := loopIn (bodyOf Tryz.f91) 2
noncomputable def P39_2 : Lp := lpOf S39_2 E39_2 46 R_r05_Sum_2
noncomputable def c39_ : Con := conV true [.str] [.str] fun x => r05_Sum x.1
noncomputable def x39_ : Cx := { ti := ti, con := [(118, c33_), (119, c34_), (120, c38_)], fns := [], un := 6 }
theorem xok39_ : CxOk Tryz.prog x39_ := CxOk.of mixed ti_ok (fc ⟨con33_, fc ⟨con34_, fc ⟨con38_, fz⟩⟩⟩) fz
theorem r39_0 (x : S39_0.X) : denC x39_ [] (denF x39_ 8) L39_0 (S39_0.mkS 46 x) (kRound 0 S39_0 E39_0) = R_r05_Sum_0 x := by kernel_rfl
theorem l39_0 : LpOk Tryz.prog 0 (.loop L39_0) P39_0 := lpOf_ok xok39_ 8 (lps_nil) S39_0 E39_0 46 R_r05_Sum_0 (by decide) r39_0
theorem r39_2 (x : S39_2.X) : denC x39_ [] (denF x39_ 8) L39_2 (S39_2.mkS 46 x) (kRound 2 S39_2 E39_2) = R_r05_Sum_2 x := by kernel_rfl
theorem l39_2 : LpOk Tryz.prog 2 (.loop L39_2) P39_2 := lpOf_ok xok39_ 8 (lps_nil) S39_2 E39_2 46 R_r05_Sum_2 (by decide) r39_2
theorem fn39_ : FnOk Tryz.prog 91 Tryz.f91 [(0, P39_0), (2, P39_2)] := ⟨Tryz.func91, Tryz.call91, lps_of (by kernel_rfl) (lps_one l39_0 (by kernel_rfl) (lps_one l39_2 (by kernel_rfl) fz))⟩
theorem e39_ (s : ByteArray) : bodyK x39_ [(0, P39_0), (2, P39_2)] (denF x39_ 8) Tryz.f91 (domV [.str] (s, ())) [] 0 (kOut [.str]) = r05_Sum' s := by kernel_rfl
theorem con39_ : ConOk Tryz.prog 91 c39_ := con_ok xok39_ 8 fn39_ true [.str] [.str] _ (by decide) (fun x => by rw [r05_Sum_eq]; exact e39_ x.1)
end Go.Proofs.YtkhhonbkgckjjaaGreat
