/-
  The functions of a package are the plain ones.
-/
import Derived.Test.YtccbdhpcblfopaaGreatEqA
import Derived.Test.YtccbdhpcblfopaaGreatDenF
import Derived.Test.YtccbdhpcblfopaaGreatPsha
set_option linter.unusedVariables false
set_option linter.unusedSimpArgs false
set_option maxRecDepth 100000
set_option maxHeartbeats 0
namespace Go.Pl
end Go.Pl
open Go Go.Den Go.Pl
namespace Go.Proofs.YtccbdhpcblfopaaGreat
noncomputable def c1l_ : Con := conV true [] [(.arr 8 (.int .u32))] fun x => sha_first 
noncomputable def x1l_ : Cx := { ti := ti, con := [], fns := [], un := 6 }
theorem xok1l_ : CxOk Tryz.prog x1l_ := CxOk.of mixed ti_ok fz fz
theorem fn1l_ : FnOk Tryz.prog 161 Tryz.f161 [] := ⟨Tryz.func161, Tryz.call161, lps_nil⟩
theorem e1l_  : bodyK x1l_ [] (denF x1l_ 8) Tryz.f161 (domV [] (())) [] 0 (kOut [(.arr 8 (.int .u32))]) = sha_first'  := by kernel_rfl
theorem con1l_ : ConOk Tryz.prog 161 c1l_ := con_ok xok1l_ 8 fn1l_ true [] [(.arr 8 (.int .u32))] _ (by decide) (fun x => by rw [sha_first_eq]; exact e1l_ )
abbrev I1m_ : Shape := { sl := [], ob := [], lo := 0, nx := 0 }
abbrev O1m_ : List Shape := [{ sl := [(pc 0 (.pair .bool (.pair (.arr 8 (.int .u32)) (.pair (.arr 64 (.int .u8)) tI))) 0)], ob := [(pv 0 (.pair .bool (.pair (.arr 8 (.int .u32)) (.pair (.arr 64 (.int .u8)) tI))))], lo := 1, nx := 1 }]
noncomputable def c1m_ : Con := conS I1m_ O1m_ fun x => sha_New_m 
noncomputable def x1m_ : Cx := { ti := ti, con := [(161, c1l_)], fns := [], un := 6 }
theorem xok1m_ : CxOk Tryz.prog x1m_ := CxOk.of mixed ti_ok (fc ⟨con1l_, fz⟩) fz
theorem fn1m_ : FnOk Tryz.prog 142 Tryz.f142 [] := ⟨Tryz.func142, Tryz.call142, lps_nil⟩
theorem e1m_  : bodyK x1m_ [] (denF x1m_ 8) Tryz.f142 ((mkVals I1m_.sl (show I1m_.X from ((), ())).1).map .v) (shHp I1m_ ((), ())) I1m_.nx (kOutS 1 O1m_) = sha_New_m'  := by kernel_rfl
theorem con1m_ : ConOk Tryz.prog 142 c1m_ := conS_ok xok1m_ 8 fn1m_ 1 I1m_ O1m_ _ (by decide) (fun x => by rw [sha_New_m_eq]; exact e1m_ )
noncomputable def c1o_ : Con := conV true [] [(.arr 64 (.int .u32))] fun x => sha_constants 
noncomputable def x1o_ : Cx := { ti := ti, con := [], fns := [], un := 6 }
theorem xok1o_ : CxOk Tryz.prog x1o_ := CxOk.of mixed ti_ok fz fz
theorem fn1o_ : FnOk Tryz.prog 166 Tryz.f166 [] := ⟨Tryz.func166, Tryz.call166, lps_nil⟩
theorem e1o_  : bodyK x1o_ [] (denF x1o_ 8) Tryz.f166 (domV [] (())) [] 0 (kOut [(.arr 64 (.int .u32))]) = sha_constants'  := by kernel_rfl
theorem con1o_ : ConOk Tryz.prog 166 c1o_ := con_ok xok1o_ 8 fn1o_ true [] [(.arr 64 (.int .u32))] _ (by decide) (fun x => by rw [sha_constants_eq]; exact e1o_ )
noncomputable def c1p_ : Con := conV true [(.int .u32), tI] [(.int .u32)] fun x => sha_turned x.1 x.2.1
noncomputable def x1p_ : Cx := { ti := ti, con := [(169, c04_)], fns := [], un := 6 }
theorem xok1p_ : CxOk Tryz.prog x1p_ := CxOk.of mixed ti_ok (fc ⟨con04_, fz⟩) fz
theorem fn1p_ : FnOk Tryz.prog 168 Tryz.f168 [] := ⟨Tryz.func168, Tryz.call168, lps_nil⟩
theorem e1p_ (x : Int) (n : Int) : bodyK x1p_ [] (denF x1p_ 8) Tryz.f168 (domV [(.int .u32), tI] (x, n, ())) [] 0 (kOut [(.int .u32)]) = sha_turned' x n := by kernel_rfl
theorem con1p_ : ConOk Tryz.prog 168 c1p_ := con_ok xok1p_ 8 fn1p_ true [(.int .u32), tI] [(.int .u32)] _ (by decide) (fun x => by rw [sha_turned_eq]; exact e1p_ x.1 x.2.1)
abbrev S1q_0 : Shape := { sl := [(pc 1 (.arr 64 (.int .u8)) 0), (pc 2 (.arr 64 (.int .u32)) 1), (pc 3 (.arr 64 (.int .u32)) 2), (pv 10 tI)], ob := [(pv 0 (.arr 64 (.int .u8))), (pv 1 (.arr 64 (.int .u32))), (pv 2 (.arr 64 (.int .u32)))], lo := 3, nx := 3 }
abbrev E1q_0 : List Ex := [(.normal, { sl := [(pc 2 (.arr 64 (.int .u32)) 1), (pc 3 (.arr 64 (.int .u32)) 2)], ob := [(pv 1 (.arr 64 (.int .u32))), (pv 2 (.arr 64 (.int .u32)))], lo := 3, nx := 3 })]
noncomputable def L1q_0 : Code := loopIn (bodyOf Tryz.f167) 0
noncomputable def P1q_0 : Lp := lpOf S1q_0 E1q_0 89 R_sha_schedule_0
abbrev S1q_2 : Shape := { sl := [(pc 2 (.arr 64 (.int .u32)) 1), (pc 3 (.arr 64 (.int .u32)) 2), (pv 5 tI)], ob := [(pv 1 (.arr 64 (.int .u32))), (pv 2 (.arr 64 (.int .u32)))], lo := 3, nx := 3 }
abbrev E1q_2 : List Ex := [(.normal, { sl := [(pc 2 (.arr 64 (.int .u32)) 1), (pc 3 (.arr 64 (.int .u32)) 2)], ob := [(pv 1 (.arr 64 (.int .u32))), (pv 2 (.arr 64 (.int .u32)))], lo := 3, nx := 3 })]
noncomputable def L1q_2 : Code := loopIn (bodyOf Tryz.f167) 2
noncomputable def P1q_2 : Lp := lpOf S1q_2 E1q_2 89 R_sha_schedule_2
noncomputable def c1q_ : Con := conV true [(.arr 64 (.int .u8))] [(.arr 64 (.int .u32))] fun x => sha_schedule x.1
noncomputable def x1q_ : Cx := { ti := ti, con := [(168, c1p_)], fns := [], un := 6 }
theorem xok1q_ : CxOk Tryz.prog x1q_ := CxOk.of mixed ti_ok (fc ⟨con1p_, fz⟩) fz
theorem r1q_0 (x : S1q_0.X) : denC x1q_ [] (denF x1q_ 8) L1q_0 (S1q_0.mkS 89 x) (kRound 0 S1q_0 E1q_0) = R_sha_schedule_0 x := by kernel_rfl
theorem l1q_0 : LpOk Tryz.prog 0 (.loop L1q_0) P1q_0 := lpOf_ok xok1q_ 8 (lps_nil) S1q_0 E1q_0 89 R_sha_schedule_0 (by decide) r1q_0
theorem r1q_2 (x : S1q_2.X) : denC x1q_ [] (denF x1q_ 8) L1q_2 (S1q_2.mkS 89 x) (kRound 2 S1q_2 E1q_2) = R_sha_schedule_2 x := by kernel_rfl
theorem l1q_2 : LpOk Tryz.prog 2 (.loop L1q_2) P1q_2 := lpOf_ok xok1q_ 8 (lps_nil) S1q_2 E1q_2 89 R_sha_schedule_2 (by decide) r1q_2
theorem fn1q_ : FnOk Tryz.prog 167 Tryz.f167 [(0, P1q_0), (2, P1q_2)] := ⟨Tryz.func167, Tryz.call167, lps_of (by kernel_rfl) (lps_one l1q_0 (by kernel_rfl) (lps_one l1q_2 (by kernel_rfl) fz))⟩
theorem e1q_ (b : NI) : bodyK x1q_ [(0, P1q_0), (2, P1q_2)] (denF x1q_ 8) Tryz.f167 (domV [(.arr 64 (.int .u8))] (b, ())) [] 0 (kOut [(.arr 64 (.int .u32))]) = sha_schedule' b := by kernel_rfl
theorem con1q_ : ConOk Tryz.prog 167 c1q_ := con_ok xok1q_ 8 fn1q_ true [(.arr 64 (.int .u8))] [(.arr 64 (.int .u32))] _ (by decide) (fun x => by rw [sha_schedule_eq]; exact e1q_ x.1)
abbrev S1r_0 : Shape := { sl := [(pc 2 (.arr 8 (.int .u32)) 0), (pc 4 (.arr 8 (.int .u32)) 2), (pc 5 (.arr 64 (.int .u32)) 3), (pc 6 (.arr 64 (.int .u32)) 4), (pc 7 (.arr 8 (.int .u32)) 5), (pv 18 tI)], ob := [(pv 0 (.arr 8 (.int .u32))), (pv 2 (.arr 8 (.int .u32))), (pv 3 (.arr 64 (.int .u32))), (pv 4 (.arr 64 (.int .u32))), (pv 5 (.arr 8 (.int .u32)))], lo := 6, nx := 6 }
abbrev E1r_0 : List Ex := [(.normal, { sl := [(pc 2 (.arr 8 (.int .u32)) 0), (pc 4 (.arr 8 (.int .u32)) 2), (pc 7 (.arr 8 (.int .u32)) 5)], ob := [(pv 0 (.arr 8 (.int .u32))), (pv 2 (.arr 8 (.int .u32))), (pv 5 (.arr 8 (.int .u32)))], lo := 6, nx := 6 })]
noncomputable def L1r_0 : Code := loopIn (bodyOf Tryz.f162) 0
noncomputable def P1r_0 : Lp := lpOf S1r_0 E1r_0 109 R_sha_mixed_0
abbrev S1r_2 : Shape := { sl := [(pc 2 (.arr 8 (.int .u32)) 0), (pc 4 (.arr 8 (.int .u32)) 2), (pc 7 (.arr 8 (.int .u32)) 5), (pv 96 tI)], ob := [(pv 0 (.arr 8 (.int .u32))), (pv 2 (.arr 8 (.int .u32))), (pv 5 (.arr 8 (.int .u32)))], lo := 6, nx := 6 }
abbrev E1r_2 : List Ex := [(.normal, { sl := [(pc 4 (.arr 8 (.int .u32)) 2), (pc 7 (.arr 8 (.int .u32)) 5)], ob := [(pv 2 (.arr 8 (.int .u32))), (pv 5 (.arr 8 (.int .u32)))], lo := 6, nx := 6 })]
noncomputable def L1r_2 : Code := loopIn (bodyOf Tryz.f162) 2
noncomputable def P1r_2 : Lp := lpOf S1r_2 E1r_2 109 R_sha_mixed_2
noncomputable def c1r_ : Con := conV true [(.arr 8 (.int .u32)), (.arr 64 (.int .u8))] [(.arr 8 (.int .u32))] fun x => sha_mixed x.1 x.2.1
noncomputable def x1r_ : Cx := { ti := ti, con := [(166, c1o_), (167, c1q_), (168, c1p_)], fns := [], un := 6 }
theorem xok1r_ : CxOk Tryz.prog x1r_ := CxOk.of mixed ti_ok (fc ⟨con1o_, fc ⟨con1q_, fc ⟨con1p_, fz⟩⟩⟩) fz
theorem r1r_0 (x : S1r_0.X) : denC x1r_ [] (denF x1r_ 8) L1r_0 (S1r_0.mkS 109 x) (kRound 0 S1r_0 E1r_0) = R_sha_mixed_0 x := by kernel_rfl
theorem l1r_0 : LpOk Tryz.prog 0 (.loop L1r_0) P1r_0 := lpOf_ok xok1r_ 8 (lps_nil) S1r_0 E1r_0 109 R_sha_mixed_0 (by decide) r1r_0
theorem r1r_2 (x : S1r_2.X) : denC x1r_ [] (denF x1r_ 8) L1r_2 (S1r_2.mkS 109 x) (kRound 2 S1r_2 E1r_2) = R_sha_mixed_2 x := by kernel_rfl
theorem l1r_2 : LpOk Tryz.prog 2 (.loop L1r_2) P1r_2 := lpOf_ok xok1r_ 8 (lps_nil) S1r_2 E1r_2 109 R_sha_mixed_2 (by decide) r1r_2
theorem fn1r_ : FnOk Tryz.prog 162 Tryz.f162 [(0, P1r_0), (2, P1r_2)] := ⟨Tryz.func162, Tryz.call162, lps_of (by kernel_rfl) (lps_one l1r_0 (by kernel_rfl) (lps_one l1r_2 (by kernel_rfl) fz))⟩
theorem e1r_ (v : NI) (b : NI) : bodyK x1r_ [(0, P1r_0), (2, P1r_2)] (denF x1r_ 8) Tryz.f162 (domV [(.arr 8 (.int .u32)), (.arr 64 (.int .u8))] (v, b, ())) [] 0 (kOut [(.arr 8 (.int .u32))]) = sha_mixed' v b := by kernel_rfl
theorem con1r_ : ConOk Tryz.prog 162 c1r_ := con_ok xok1r_ 8 fn1r_ true [(.arr 8 (.int .u32)), (.arr 64 (.int .u8))] [(.arr 8 (.int .u32))] _ (by decide) (fun x => by rw [sha_mixed_eq]; exact e1r_ x.1 x.2.1)
abbrev S1s_0 : Shape := { sl := [(pc 0 (.pair .bool (.pair (.arr 8 (.int .u32)) (.pair (.arr 64 (.int .u8)) tI))) 0), (1, (.v .str))], ob := [(pv 0 (.pair .bool (.pair (.arr 8 (.int .u32)) (.pair (.arr 64 (.int .u8)) tI))))], lo := 1, nx := 1 }
abbrev E1s_0 : List Ex := [(.normal, { sl := [(pc 0 (.pair .bool (.pair (.arr 8 (.int .u32)) (.pair (.arr 64 (.int .u8)) tI))) 0)], ob := [(pv 0 (.pair .bool (.pair (.arr 8 (.int .u32)) (.pair (.arr 64 (.int .u8)) tI))))], lo := 1, nx := 1 })]
noncomputable def L1s_0 : Code := loopIn (bodyOf Tryz.f143) 0
noncomputable def P1s_0 : Lp := lpOf S1s_0 E1s_0 56 R_sha_Hash_Add_m_0
abbrev I1s_ : Shape := { sl := [(pc 0 (.pair .bool (.pair (.arr 8 (.int .u32)) (.pair (.arr 64 (.int .u8)) tI))) 0), (1, (.v .str))], ob := [(pv 0 (.pair .bool (.pair (.arr 8 (.int .u32)) (.pair (.arr 64 (.int .u8)) tI))))], lo := 1, nx := 1 }
abbrev O1s_ : List Shape := [{ sl := [], ob := [(pv 0 (.pair .bool (.pair (.arr 8 (.int .u32)) (.pair (.arr 64 (.int .u8)) tI))))], lo := 1, nx := 1 }]
noncomputable def c1s_ : Con := conS I1s_ O1s_ fun x => sha_Hash_Add_m x.1.2.1 x.2.1
noncomputable def x1s_ : Cx := { ti := ti, con := [(162, c1r_)], fns := [], un := 6 }
theorem xok1s_ : CxOk Tryz.prog x1s_ := CxOk.of mixed ti_ok (fc ⟨con1r_, fz⟩) fz
theorem r1s_0 (x : S1s_0.X) : denC x1s_ [] (denF x1s_ 8) L1s_0 (S1s_0.mkS 56 x) (kRound 0 S1s_0 E1s_0) = R_sha_Hash_Add_m_0 x := by kernel_rfl
theorem l1s_0 : LpOk Tryz.prog 0 (.loop L1s_0) P1s_0 := lpOf_ok xok1s_ 8 (lps_nil) S1s_0 E1s_0 56 R_sha_Hash_Add_m_0 (by decide) r1s_0
theorem fn1s_ : FnOk Tryz.prog 143 Tryz.f143 [(0, P1s_0)] := ⟨Tryz.func143, Tryz.call143, lps_of (by kernel_rfl) (lps_one l1s_0 (by kernel_rfl) fz)⟩
theorem e1s_ (s : ByteArray) (h : (Bool × (NI × (NI × Int)))) : bodyK x1s_ [(0, P1s_0)] (denF x1s_ 8) Tryz.f143 ((mkVals I1s_.sl (show I1s_.X from (((), (s, ())), (h, ()))).1).map .v) (shHp I1s_ (((), (s, ())), (h, ()))) I1s_.nx (kOutS 0 O1s_) = sha_Hash_Add_m' s h := by kernel_rfl
theorem con1s_ : ConOk Tryz.prog 143 c1s_ := conS_ok xok1s_ 8 fn1s_ 0 I1s_ O1s_ _ (by decide) (fun x => by rw [sha_Hash_Add_m_eq]; exact e1s_ x.1.2.1 x.2.1)
abbrev S1t_0 : Shape := { sl := [(0, (.pz (.pair .bool (.pair (.arr 8 (.int .u32)) (.pair (.arr 64 (.int .u8)) tI))))), (pc 3 (.pair .bool (.pair (.arr 8 (.int .u32)) (.pair (.arr 64 (.int .u8)) tI))) 0)], ob := [(pv 0 (.pair .bool (.pair (.arr 8 (.int .u32)) (.pair (.arr 64 (.int .u8)) tI))))], lo := 1, nx := 1 }
abbrev E1t_0 : List Ex := [(.normal, { sl := [(0, (.pz (.pair .bool (.pair (.arr 8 (.int .u32)) (.pair (.arr 64 (.int .u8)) tI))))), (pc 3 (.pair .bool (.pair (.arr 8 (.int .u32)) (.pair (.arr 64 (.int .u8)) tI))) 0)], ob := [(pv 0 (.pair .bool (.pair (.arr 8 (.int .u32)) (.pair (.arr 64 (.int .u8)) tI))))], lo := 1, nx := 1 })]
noncomputable def L1t_0 : Code := loopIn (bodyOf Tryz.f144) 0
noncomputable def P1t_0 : Lp := lpOf S1t_0 E1t_0 69 R_sha_Hash_Sum_0
abbrev S1t_2 : Shape := { sl := [(0, (.pz (.pair .bool (.pair (.arr 8 (.int .u32)) (.pair (.arr 64 (.int .u8)) tI))))), (pc 3 (.pair .bool (.pair (.arr 8 (.int .u32)) (.pair (.arr 64 (.int .u8)) tI))) 0), (pc 4 (.arr 8 (.int .u8)) 1), (pv 27 tI)], ob := [(pv 0 (.pair .bool (.pair (.arr 8 (.int .u32)) (.pair (.arr 64 (.int .u8)) tI)))), (pv 1 (.arr 8 (.int .u8)))], lo := 2, nx := 2 }
abbrev E1t_2 : List Ex := [(.normal, { sl := [(pc 3 (.pair .bool (.pair (.arr 8 (.int .u32)) (.pair (.arr 64 (.int .u8)) tI))) 0), (pc 4 (.arr 8 (.int .u8)) 1)], ob := [(pv 0 (.pair .bool (.pair (.arr 8 (.int .u32)) (.pair (.arr 64 (.int .u8)) tI)))), (pv 1 (.arr 8 (.int .u8)))], lo := 2, nx := 2 })]
noncomputable def L1t_2 : Code := loopIn (bodyOf Tryz.f144) 2
noncomputable def P1t_2 : Lp := lpOf S1t_2 E1t_2 69 R_sha_Hash_Sum_2
abbrev S1t_4 : Shape := { sl := [(6, (.w 5 (.int .u8) 3)), (pv 48 (.arr 8 (.int .u32))), (pv 49 tI)], ob := [], lo := 3, nx := 4 }
abbrev E1t_4 : List Ex := [(.normal, { sl := [(6, (.w 5 (.int .u8) 4))], ob := [], lo := 4, nx := 5 })]
noncomputable def L1t_4 : Code := loopIn (bodyOf Tryz.f144) 4
noncomputable def P1t_4 : Lp := lpOf S1t_4 E1t_4 69 R_sha_Hash_Sum_4
noncomputable def c1t_ : Con := conV true [(.ptr (.pair .bool (.pair (.arr 8 (.int .u32)) (.pair (.arr 64 (.int .u8)) tI))))] [.str] fun x => sha_Hash_Sum x.1
noncomputable def x1t_ : Cx := { ti := ti, con := [(143, c1s_)], fns := [], un := 6 }
theorem xok1t_ : CxOk Tryz.prog x1t_ := CxOk.of mixed ti_ok (fc ⟨con1s_, fz⟩) fz
theorem r1t_0 (x : S1t_0.X) : denC x1t_ [] (denF x1t_ 8) L1t_0 (S1t_0.mkS 69 x) (kRound 0 S1t_0 E1t_0) = R_sha_Hash_Sum_0 x := by kernel_rfl
theorem l1t_0 : LpOk Tryz.prog 0 (.loop L1t_0) P1t_0 := lpOf_ok xok1t_ 8 (lps_nil) S1t_0 E1t_0 69 R_sha_Hash_Sum_0 (by decide) r1t_0
theorem r1t_2 (x : S1t_2.X) : denC x1t_ [] (denF x1t_ 8) L1t_2 (S1t_2.mkS 69 x) (kRound 2 S1t_2 E1t_2) = R_sha_Hash_Sum_2 x := by kernel_rfl
theorem l1t_2 : LpOk Tryz.prog 2 (.loop L1t_2) P1t_2 := lpOf_ok xok1t_ 8 (lps_nil) S1t_2 E1t_2 69 R_sha_Hash_Sum_2 (by decide) r1t_2
theorem r1t_4 (x : S1t_4.X) : denC x1t_ [] (denF x1t_ 8) L1t_4 (S1t_4.mkS 69 x) (kRound 4 S1t_4 E1t_4) = R_sha_Hash_Sum_4 x := by kernel_rfl
theorem l1t_4 : LpOk Tryz.prog 4 (.loop L1t_4) P1t_4 := lpOf_ok xok1t_ 8 (lps_nil) S1t_4 E1t_4 69 R_sha_Hash_Sum_4 (by decide) r1t_4
theorem fn1t_ : FnOk Tryz.prog 144 Tryz.f144 [(0, P1t_0), (2, P1t_2), (4, P1t_4)] := ⟨Tryz.func144, Tryz.call144, lps_of (by kernel_rfl) (lps_one l1t_0 (by kernel_rfl) (lps_one l1t_2 (by kernel_rfl) (lps_one l1t_4 (by kernel_rfl) fz)))⟩
theorem e1t_ (h : (Option (Bool × (NI × (NI × Int))))) : bodyK x1t_ [(0, P1t_0), (2, P1t_2), (4, P1t_4)] (denF x1t_ 8) Tryz.f144 (domV [(.ptr (.pair .bool (.pair (.arr 8 (.int .u32)) (.pair (.arr 64 (.int .u8)) tI))))] (h, ())) [] 0 (kOut [.str]) = sha_Hash_Sum' h := by cases h <;> kernel_rfl
theorem con1t_ : ConOk Tryz.prog 144 c1t_ := con_ok xok1t_ 8 fn1t_ true [(.ptr (.pair .bool (.pair (.arr 8 (.int .u32)) (.pair (.arr 64 (.int .u8)) tI))))] [.str] _ (by decide) (fun x => by rw [sha_Hash_Sum_eq]; exact e1t_ x.1)
noncomputable def c1u_ : Con := conV true [.str] [.str] fun x => sha_Sum x.1
noncomputable def x1u_ : Cx := { ti := ti, con := [(142, c1m_), (143, c1s_), (144, c1t_)], fns := [], un := 6 }
theorem xok1u_ : CxOk Tryz.prog x1u_ := CxOk.of mixed ti_ok (fc ⟨con1m_, fc ⟨con1s_, fc ⟨con1t_, fz⟩⟩⟩) fz
theorem fn1u_ : FnOk Tryz.prog 108 Tryz.f108 [] := ⟨Tryz.func108, Tryz.call108, lps_nil⟩
theorem e1u_ (s : ByteArray) : bodyK x1u_ [] (denF x1u_ 8) Tryz.f108 (domV [.str] (s, ())) [] 0 (kOut [.str]) = sha_Sum' s := by kernel_rfl
theorem con1u_ : ConOk Tryz.prog 108 c1u_ := con_ok xok1u_ 8 fn1u_ true [.str] [.str] _ (by decide) (fun x => by rw [sha_Sum_eq]; exact e1u_ x.1)
end Go.Proofs.YtccbdhpcblfopaaGreat
