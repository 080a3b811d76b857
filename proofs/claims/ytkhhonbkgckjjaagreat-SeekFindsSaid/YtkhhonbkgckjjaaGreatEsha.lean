/-
  The functions of a package are the plain ones.
-/
import Derived.Test.YtkhhonbkgckjjaaGreatEqA
import Derived.Test.YtkhhonbkgckjjaaGreatDenF
import Derived.Test.YtkhhonbkgckjjaaGreatPsha
set_option linter.unusedVariables false
set_option linter.unusedSimpArgs false
set_option maxRecDepth 100000
set_option maxHeartbeats 0
namespace Go.Pl
end Go.Pl
open Go Go.Den Go.Pl
namespace Go.Proofs.YtkhhonbkgckjjaaGreat
noncomputable def c1d_ : Con := conV true [] [(.arr 8 (.int .u32))] fun x => sha_first 
noncomputable def x1d_ : Cx := { ti := ti, con := [], fns := [], un := 6 }
theorem xok1d_ : CxOk Tryz.prog x1d_ := CxOk.of mixed ti_ok fz fz
theorem fn1d_ : FnOk Tryz.prog 143 Tryz.f143 [] := ⟨Tryz.func143, Tryz.call143, lps_nil⟩
theorem e1d_  : bodyK x1d_ [] (denF x1d_ 8) Tryz.f143 (domV [] (())) [] 0 (kOut [(.arr 8 (.int .u32))]) = sha_first'  := by kernel_rfl
theorem con1d_ : ConOk Tryz.prog 143 c1d_ := con_ok xok1d_ 8 fn1d_ true [] [(.arr 8 (.int .u32))] _ (by decide) (fun x => by rw [sha_first_eq]; exact e1d_ )
abbrev I1e_ : Shape := { sl := [], ob := [], lo := 0, nx := 0 }
abbrev O1e_ : List Shape := [{ sl := [(pc 0 (.pair .bool (.pair (.arr 8 (.int .u32)) (.pair (.arr 64 (.int .u8)) tI))) 0)], ob := [(pv 0 (.pair .bool (.pair (.arr 8 (.int .u32)) (.pair (.arr 64 (.int .u8)) tI))))], lo := 1, nx := 1 }]
noncomputable def c1e_ : Con := conS I1e_ O1e_ fun x => sha_New_m 
noncomputable def x1e_ : Cx := { ti := ti, con := [(143, c1d_)], fns := [], un := 6 }
theorem xok1e_ : CxOk Tryz.prog x1e_ := CxOk.of mixed ti_ok (fc ⟨con1d_, fz⟩) fz
theorem fn1e_ : FnOk Tryz.prog 134 Tryz.f134 [] := ⟨Tryz.func134, Tryz.call134, lps_nil⟩
theorem e1e_  : bodyK x1e_ [] (denF x1e_ 8) Tryz.f134 ((mkVals I1e_.sl (show I1e_.X from ((), ())).1).map .v) (shHp I1e_ ((), ())) I1e_.nx (kOutS 1 O1e_) = sha_New_m'  := by kernel_rfl
theorem con1e_ : ConOk Tryz.prog 134 c1e_ := conS_ok xok1e_ 8 fn1e_ 1 I1e_ O1e_ _ (by decide) (fun x => by rw [sha_New_m_eq]; exact e1e_ )
noncomputable def c1g_ : Con := conV true [] [(.arr 64 (.int .u32))] fun x => sha_constants 
noncomputable def x1g_ : Cx := { ti := ti, con := [], fns := [], un := 6 }
theorem xok1g_ : CxOk Tryz.prog x1g_ := CxOk.of mixed ti_ok fz fz
theorem fn1g_ : FnOk Tryz.prog 145 Tryz.f145 [] := ⟨Tryz.func145, Tryz.call145, lps_nil⟩
theorem e1g_  : bodyK x1g_ [] (denF x1g_ 8) Tryz.f145 (domV [] (())) [] 0 (kOut [(.arr 64 (.int .u32))]) = sha_constants'  := by kernel_rfl
theorem con1g_ : ConOk Tryz.prog 145 c1g_ := con_ok xok1g_ 8 fn1g_ true [] [(.arr 64 (.int .u32))] _ (by decide) (fun x => by rw [sha_constants_eq]; exact e1g_ )
noncomputable def c1h_ : Con := conV true [(.int .u32), tI] [(.int .u32)] fun x => sha_turned x.1 x.2.1
noncomputable def x1h_ : Cx := { ti := ti, con := [(148, c04_)], fns := [], un := 6 }
theorem xok1h_ : CxOk Tryz.prog x1h_ := CxOk.of mixed ti_ok (fc ⟨con04_, fz⟩) fz
theorem fn1h_ : FnOk Tryz.prog 147 Tryz.f147 [] := ⟨Tryz.func147, Tryz.call147, lps_nil⟩
theorem e1h_ (x : Int) (n : Int) : bodyK x1h_ [] (denF x1h_ 8) Tryz.f147 (domV [(.int .u32), tI] (x, n, ())) [] 0 (kOut [(.int .u32)]) = sha_turned' x n := by kernel_rfl
theorem con1h_ : ConOk Tryz.prog 147 c1h_ := con_ok xok1h_ 8 fn1h_ true [(.int .u32), tI] [(.int .u32)] _ (by decide) (fun x => by rw [sha_turned_eq]; exact e1h_ x.1 x.2.1)
abbrev S1i_0 : Shape := { sl := [(pc 1 (.arr 64 (.int .u8)) 0), (pc 2 (.arr 64 (.int .u32)) 1), (pc 3 (.arr 64 (.int .u32)) 2), (pv 10 tI)], ob := [(pv 0 (.arr 64 (.int .u8))), (pv 1 (.arr 64 (.int .u32))), (pv 2 (.arr 64 (.int .u32)))], lo := 3, nx := 3 }
abbrev E1i_0 : List Ex := [(.normal, { sl := [(pc 2 (.arr 64 (.int .u32)) 1), (pc 3 (.arr 64 (.int .u32)) 2)], ob := [(pv 1 (.arr 64 (.int .u32))), (pv 2 (.arr 64 (.int .u32)))], lo := 3, nx := 3 })]
noncomputable def L1i_0 : Code := loopIn (bodyOf Tryz.f146) 0
noncomputable def P1i_0 : Lp := lpOf S1i_0 E1i_0 89 R_sha_schedule_0
abbrev S1i_2 : Shape := { sl := [(pc 2 (.arr 64 (.int .u32)) 1), (pc 3 (.arr 64 (.int .u32)) 2), (pv 5 tI)], ob := [(pv 1 (.arr 64 (.int .u32))), (pv 2 (.arr 64 (.int .u32)))], lo := 3, nx := 3 }
abbrev E1i_2 : List Ex := [(.normal, { sl := [(pc 2 (.arr 64 (.int .u32)) 1), (pc 3 (.arr 64 (.int .u32)) 2)], ob := [(pv 1 (.arr 64 (.int .u32))), (pv 2 (.arr 64 (.int .u32)))], lo := 3, nx := 3 })]
noncomputable def L1i_2 : Code := loopIn (bodyOf Tryz.f146) 2
noncomputable def P1i_2 : Lp := lpOf S1i_2 E1i_2 89 R_sha_schedule_2
noncomputable def c1i_ : Con := conV true [(.arr 64 (.int .u8))] [(.arr 64 (.int .u32))] fun x => sha_schedule x.1
noncomputable def x1i_ : Cx := { ti := ti, con := [(147, c1h_)], fns := [], un := 6 }
theorem xok1i_ : CxOk Tryz.prog x1i_ := CxOk.of mixed ti_ok (fc ⟨con1h_, fz⟩) fz
theorem r1i_0 (x : S1i_0.X) : denC x1i_ [] (denF x1i_ 8) L1i_0 (S1i_0.mkS 89 x) (kRound 0 S1i_0 E1i_0) = R_sha_schedule_0 x := by kernel_rfl
theorem l1i_0 : LpOk Tryz.prog 0 (.loop L1i_0) P1i_0 := lpOf_ok xok1i_ 8 (lps_nil) S1i_0 E1i_0 89 R_sha_schedule_0 (by decide) r1i_0
theorem r1i_2 (x : S1i_2.X) : denC x1i_ [] (denF x1i_ 8) L1i_2 (S1i_2.mkS 89 x) (kRound 2 S1i_2 E1i_2) = R_sha_schedule_2 x := by kernel_rfl
theorem l1i_2 : LpOk Tryz.prog 2 (.loop L1i_2) P1i_2 := lpOf_ok xok1i_ 8 (lps_nil) S1i_2 E1i_2 89 R_sha_schedule_2 (by decide) r1i_2
theorem fn1i_ : FnOk Tryz.prog 146 Tryz.f146 [(0, P1i_0), (2, P1i_2)] := ⟨Tryz.func146, Tryz.call146, lps_of (by kernel_rfl) (lps_one l1i_0 (by kernel_rfl) (lps_one l1i_2 (by kernel_rfl) fz))⟩
theorem e1i_ (b : NI) : bodyK x1i_ [(0, P1i_0), (2, P1i_2)] (denF x1i_ 8) Tryz.f146 (domV [(.arr 64 (.int .u8))] (b, ())) [] 0 (kOut [(.arr 64 (.int .u32))]) = sha_schedule' b := by kernel_rfl
theorem con1i_ : ConOk Tryz.prog 146 c1i_ := con_ok xok1i_ 8 fn1i_ true [(.arr 64 (.int .u8))] [(.arr 64 (.int .u32))] _ (by decide) (fun x => by rw [sha_schedule_eq]; exact e1i_ x.1)
abbrev S1j_0 : Shape := { sl := [(pc 2 (.arr 8 (.int .u32)) 0), (pc 4 (.arr 8 (.int .u32)) 2), (pc 5 (.arr 64 (.int .u32)) 3), (pc 6 (.arr 64 (.int .u32)) 4), (pc 7 (.arr 8 (.int .u32)) 5), (pv 18 tI)], ob := [(pv 0 (.arr 8 (.int .u32))), (pv 2 (.arr 8 (.int .u32))), (pv 3 (.arr 64 (.int .u32))), (pv 4 (.arr 64 (.int .u32))), (pv 5 (.arr 8 (.int .u32)))], lo := 6, nx := 6 }
abbrev E1j_0 : List Ex := [(.normal, { sl := [(pc 2 (.arr 8 (.int .u32)) 0), (pc 4 (.arr 8 (.int .u32)) 2), (pc 7 (.arr 8 (.int .u32)) 5)], ob := [(pv 0 (.arr 8 (.int .u32))), (pv 2 (.arr 8 (.int .u32))), (pv 5 (.arr 8 (.int .u32)))], lo := 6, nx := 6 })]
noncomputable def L1j_0 : Code := loopIn (bodyOf Tryz.f144) 0
noncomputable def P1j_0 : Lp := lpOf S1j_0 E1j_0 109 R_sha_mixed_0
abbrev S1j_2 : Shape := { sl := [(pc 2 (.arr 8 (.int .u32)) 0), (pc 4 (.arr 8 (.int .u32)) 2), (pc 7 (.arr 8 (.int .u32)) 5), (pv 96 tI)], ob := [(pv 0 (.arr 8 (.int .u32))), (pv 2 (.arr 8 (.int .u32))), (pv 5 (.arr 8 (.int .u32)))], lo := 6, nx := 6 }
abbrev E1j_2 : List Ex := [(.normal, { sl := [(pc 4 (.arr 8 (.int .u32)) 2), (pc 7 (.arr 8 (.int .u32)) 5)], ob := [(pv 2 (.arr 8 (.int .u32))), (pv 5 (.arr 8 (.int .u32)))], lo := 6, nx := 6 })]
noncomputable def L1j_2 : Code := loopIn (bodyOf Tryz.f144) 2
noncomputable def P1j_2 : Lp := lpOf S1j_2 E1j_2 109 R_sha_mixed_2
noncomputable def c1j_ : Con := conV true [(.arr 8 (.int .u32)), (.arr 64 (.int .u8))] [(.arr 8 (.int .u32))] fun x => sha_mixed x.1 x.2.1
noncomputable def x1j_ : Cx := { ti := ti, con := [(145, c1g_), (146, c1i_), (147, c1h_)], fns := [], un := 6 }
theorem xok1j_ : CxOk Tryz.prog x1j_ := CxOk.of mixed ti_ok (fc ⟨con1g_, fc ⟨con1i_, fc ⟨con1h_, fz⟩⟩⟩) fz
theorem r1j_0 (x : S1j_0.X) : denC x1j_ [] (denF x1j_ 8) L1j_0 (S1j_0.mkS 109 x) (kRound 0 S1j_0 E1j_0) = R_sha_mixed_0 x := by kernel_rfl
theorem l1j_0 : LpOk Tryz.prog 0 (.loop L1j_0) P1j_0 := lpOf_ok xok1j_ 8 (lps_nil) S1j_0 E1j_0 109 R_sha_mixed_0 (by decide) r1j_0
theorem r1j_2 (x : S1j_2.X) : denC x1j_ [] (denF x1j_ 8) L1j_2 (S1j_2.mkS 109 x) (kRound 2 S1j_2 E1j_2) = R_sha_mixed_2 x := by kernel_rfl
theorem l1j_2 : LpOk Tryz.prog 2 (.loop L1j_2) P1j_2 := lpOf_ok xok1j_ 8 (lps_nil) S1j_2 E1j_2 109 R_sha_mixed_2 (by decide) r1j_2
theorem fn1j_ : FnOk Tryz.prog 144 Tryz.f144 [(0, P1j_0), (2, P1j_2)] := ⟨Tryz.func144, Tryz.call144, lps_of (by kernel_rfl) (lps_one l1j_0 (by kernel_rfl) (lps_one l1j_2 (by kernel_rfl) fz))⟩
theorem e1j_ (v : NI) (b : NI) : bodyK x1j_ [(0, P1j_0), (2, P1j_2)] (denF x1j_ 8) Tryz.f144 (domV [(.arr 8 (.int .u32)), (.arr 64 (.int .u8))] (v, b, ())) [] 0 (kOut [(.arr 8 (.int .u32))]) = sha_mixed' v b := by kernel_rfl
theorem con1j_ : ConOk Tryz.prog 144 c1j_ := con_ok xok1j_ 8 fn1j_ true [(.arr 8 (.int .u32)), (.arr 64 (.int .u8))] [(.arr 8 (.int .u32))] _ (by decide) (fun x => by rw [sha_mixed_eq]; exact e1j_ x.1 x.2.1)
abbrev S1k_0 : Shape := { sl := [(pc 0 (.pair .bool (.pair (.arr 8 (.int .u32)) (.pair (.arr 64 (.int .u8)) tI))) 0), (1, (.v .str))], ob := [(pv 0 (.pair .bool (.pair (.arr 8 (.int .u32)) (.pair (.arr 64 (.int .u8)) tI))))], lo := 1, nx := 1 }
abbrev E1k_0 : List Ex := [(.normal, { sl := [(pc 0 (.pair .bool (.pair (.arr 8 (.int .u32)) (.pair (.arr 64 (.int .u8)) tI))) 0)], ob := [(pv 0 (.pair .bool (.pair (.arr 8 (.int .u32)) (.pair (.arr 64 (.int .u8)) tI))))], lo := 1, nx := 1 })]
noncomputable def L1k_0 : Code := loopIn (bodyOf Tryz.f135) 0
noncomputable def P1k_0 : Lp := lpOf S1k_0 E1k_0 56 R_sha_Hash_Add_m_0
abbrev I1k_ : Shape := { sl := [(pc 0 (.pair .bool (.pair (.arr 8 (.int .u32)) (.pair (.arr 64 (.int .u8)) tI))) 0), (1, (.v .str))], ob := [(pv 0 (.pair .bool (.pair (.arr 8 (.int .u32)) (.pair (.arr 64 (.int .u8)) tI))))], lo := 1, nx := 1 }
abbrev O1k_ : List Shape := [{ sl := [], ob := [(pv 0 (.pair .bool (.pair (.arr 8 (.int .u32)) (.pair (.arr 64 (.int .u8)) tI))))], lo := 1, nx := 1 }]
noncomputable def c1k_ : Con := conS I1k_ O1k_ fun x => sha_Hash_Add_m x.1.2.1 x.2.1
noncomputable def x1k_ : Cx := { ti := ti, con := [(144, c1j_)], fns := [], un := 6 }
theorem xok1k_ : CxOk Tryz.prog x1k_ := CxOk.of mixed ti_ok (fc ⟨con1j_, fz⟩) fz
theorem r1k_0 (x : S1k_0.X) : denC x1k_ [] (denF x1k_ 8) L1k_0 (S1k_0.mkS 56 x) (kRound 0 S1k_0 E1k_0) = R_sha_Hash_Add_m_0 x := by kernel_rfl
theorem l1k_0 : LpOk Tryz.prog 0 (.loop L1k_0) P1k_0 := lpOf_ok xok1k_ 8 (lps_nil) S1k_0 E1k_0 56 R_sha_Hash_Add_m_0 (by decide) r1k_0
theorem fn1k_ : FnOk Tryz.prog 135 Tryz.f135 [(0, P1k_0)] := ⟨Tryz.func135, Tryz.call135, lps_of (by kernel_rfl) (lps_one l1k_0 (by kernel_rfl) fz)⟩
theorem e1k_ (s : ByteArray) (h : (Bool × (NI × (NI × Int)))) : bodyK x1k_ [(0, P1k_0)] (denF x1k_ 8) Tryz.f135 ((mkVals I1k_.sl (show I1k_.X from (((), (s, ())), (h, ()))).1).map .v) (shHp I1k_ (((), (s, ())), (h, ()))) I1k_.nx (kOutS 0 O1k_) = sha_Hash_Add_m' s h := by kernel_rfl
theorem con1k_ : ConOk Tryz.prog 135 c1k_ := conS_ok xok1k_ 8 fn1k_ 0 I1k_ O1k_ _ (by decide) (fun x => by rw [sha_Hash_Add_m_eq]; exact e1k_ x.1.2.1 x.2.1)
abbrev S1l_0 : Shape := { sl := [(0, (.pz (.pair .bool (.pair (.arr 8 (.int .u32)) (.pair (.arr 64 (.int .u8)) tI))))), (pc 3 (.pair .bool (.pair (.arr 8 (.int .u32)) (.pair (.arr 64 (.int .u8)) tI))) 0)], ob := [(pv 0 (.pair .bool (.pair (.arr 8 (.int .u32)) (.pair (.arr 64 (.int .u8)) tI))))], lo := 1, nx := 1 }
abbrev E1l_0 : List Ex := [(.normal, { sl := [(0, (.pz (.pair .bool (.pair (.arr 8 (.int .u32)) (.pair (.arr 64 (.int .u8)) tI))))), (pc 3 (.pair .bool (.pair (.arr 8 (.int .u32)) (.pair (.arr 64 (.int .u8)) tI))) 0)], ob := [(pv 0 (.pair .bool (.pair (.arr 8 (.int .u32)) (.pair (.arr 64 (.int .u8)) tI))))], lo := 1, nx := 1 })]
noncomputable def L1l_0 : Code := loopIn (bodyOf Tryz.f136) 0
noncomputable def P1l_0 : Lp := lpOf S1l_0 E1l_0 69 R_sha_Hash_Sum_0
abbrev S1l_2 : Shape := { sl := [(0, (.pz (.pair .bool (.pair (.arr 8 (.int .u32)) (.pair (.arr 64 (.int .u8)) tI))))), (pc 3 (.pair .bool (.pair (.arr 8 (.int .u32)) (.pair (.arr 64 (.int .u8)) tI))) 0), (pc 4 (.arr 8 (.int .u8)) 1), (pv 27 tI)], ob := [(pv 0 (.pair .bool (.pair (.arr 8 (.int .u32)) (.pair (.arr 64 (.int .u8)) tI)))), (pv 1 (.arr 8 (.int .u8)))], lo := 2, nx := 2 }
abbrev E1l_2 : List Ex := [(.normal, { sl := [(pc 3 (.pair .bool (.pair (.arr 8 (.int .u32)) (.pair (.arr 64 (.int .u8)) tI))) 0), (pc 4 (.arr 8 (.int .u8)) 1)], ob := [(pv 0 (.pair .bool (.pair (.arr 8 (.int .u32)) (.pair (.arr 64 (.int .u8)) tI)))), (pv 1 (.arr 8 (.int .u8)))], lo := 2, nx := 2 })]
noncomputable def L1l_2 : Code := loopIn (bodyOf Tryz.f136) 2
noncomputable def P1l_2 : Lp := lpOf S1l_2 E1l_2 69 R_sha_Hash_Sum_2
abbrev S1l_4 : Shape := { sl := [(6, (.w 5 (.int .u8) 3)), (pv 48 (.arr 8 (.int .u32))), (pv 49 tI)], ob := [], lo := 3, nx := 4 }
abbrev E1l_4 : List Ex := [(.normal, { sl := [(6, (.w 5 (.int .u8) 4))], ob := [], lo := 4, nx := 5 })]
noncomputable def L1l_4 : Code := loopIn (bodyOf Tryz.f136) 4
noncomputable def P1l_4 : Lp := lpOf S1l_4 E1l_4 69 R_sha_Hash_Sum_4
noncomputable def c1l_ : Con := conV true [(.ptr (.pair .bool (.pair (.arr 8 (.int .u32)) (.pair (.arr 64 (.int .u8)) tI))))] [.str] fun x => sha_Hash_Sum x.1
noncomputable def x1l_ : Cx := { ti := ti, con := [(135, c1k_)], fns := [], un := 6 }
theorem xok1l_ : CxOk Tryz.prog x1l_ := CxOk.of mixed ti_ok (fc ⟨con1k_, fz⟩) fz
theorem r1l_0 (x : S1l_0.X) : denC x1l_ [] (denF x1l_ 8) L1l_0 (S1l_0.mkS 69 x) (kRound 0 S1l_0 E1l_0) = R_sha_Hash_Sum_0 x := by kernel_rfl
theorem l1l_0 : LpOk Tryz.prog 0 (.loop L1l_0) P1l_0 := lpOf_ok xok1l_ 8 (lps_nil) S1l_0 E1l_0 69 R_sha_Hash_Sum_0 (by decide) r1l_0
theorem r1l_2 (x : S1l_2.X) : denC x1l_ [] (denF x1l_ 8) L1l_2 (S1l_2.mkS 69 x) (kRound 2 S1l_2 E1l_2) = R_sha_Hash_Sum_2 x := by kernel_rfl
theorem l1l_2 : LpOk Tryz.prog 2 (.loop L1l_2) P1l_2 := lpOf_ok xok1l_ 8 (lps_nil) S1l_2 E1l_2 69 R_sha_Hash_Sum_2 (by decide) r1l_2
theorem r1l_4 (x : S1l_4.X) : denC x1l_ [] (denF x1l_ 8) L1l_4 (S1l_4.mkS 69 x) (kRound 4 S1l_4 E1l_4) = R_sha_Hash_Sum_4 x := by kernel_rfl
theorem l1l_4 : LpOk Tryz.prog 4 (.loop L1l_4) P1l_4 := lpOf_ok xok1l_ 8 (lps_nil) S1l_4 E1l_4 69 R_sha_Hash_Sum_4 (by decide) r1l_4
theorem fn1l_ : FnOk Tryz.prog 136 Tryz.f136 [(0, P1l_0), (2, P1l_2), (4, P1l_4)] := ⟨Tryz.func136, Tryz.call136, lps_of (by kernel_rfl) (lps_one l1l_0 (by kernel_rfl) (lps_one l1l_2 (by kernel_rfl) (lps_one l1l_4 (by kernel_rfl) fz)))⟩
theorem e1l_ (h : (Option (Bool × (NI × (NI × Int))))) : bodyK x1l_ [(0, P1l_0), (2, P1l_2), (4, P1l_4)] (denF x1l_ 8) Tryz.f136 (domV [(.ptr (.pair .bool (.pair (.arr 8 (.int .u32)) (.pair (.arr 64 (.int .u8)) tI))))] (h, ())) [] 0 (kOut [.str]) = sha_Hash_Sum' h := by cases h <;> kernel_rfl
theorem con1l_ : ConOk Tryz.prog 136 c1l_ := con_ok xok1l_ 8 fn1l_ true [(.ptr (.pair .bool (.pair (.arr 8 (.int .u32)) (.pair (.arr 64 (.int .u8)) tI))))] [.str] _ (by decide) (fun x => by rw [sha_Hash_Sum_eq]; exact e1l_ x.1)
noncomputable def c1m_ : Con := conV true [.str] [.str] fun x => sha_Sum x.1
noncomputable def x1m_ : Cx := { ti := ti, con := [(134, c1e_), (135, c1k_), (136, c1l_)], fns := [], un := 6 }
theorem xok1m_ : CxOk Tryz.prog x1m_ := CxOk.of mixed ti_ok (fc ⟨con1e_, fc ⟨con1k_, fc ⟨con1l_, fz⟩⟩⟩) fz
theorem fn1m_ : FnOk Tryz.prog 114 Tryz.f114 [] := ⟨Tryz.func114, Tryz.call114, lps_nil⟩
theorem e1m_ (s : ByteArray) : bodyK x1m_ [] (denF x1m_ 8) Tryz.f114 (domV [.str] (s, ())) [] 0 (kOut [.str]) = sha_Sum' s := by kernel_rfl
theorem con1m_ : ConOk Tryz.prog 114 c1m_ := con_ok xok1m_ 8 fn1m_ true [.str] [.str] _ (by decide) (fun x => by rw [sha_Sum_eq]; exact e1m_ x.1)
end Go.Proofs.YtkhhonbkgckjjaaGreat
