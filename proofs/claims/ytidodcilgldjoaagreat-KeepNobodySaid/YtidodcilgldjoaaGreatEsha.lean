/-
  The functions of a package are the plain ones.
-/
import Derived.Test.YtidodcilgldjoaaGreatEqA
import Derived.Test.YtidodcilgldjoaaGreatDenF
import Derived.Test.YtidodcilgldjoaaGreatPsha
set_option linter.unusedVariables false
set_option linter.unusedSimpArgs false
set_option maxRecDepth 100000
set_option maxHeartbeats 0
namespace Go.Pl
end Go.Pl
open Go Go.Den Go.Pl
namespace Go.Proofs.YtidodcilgldjoaaGreat
noncomputable def c12_ : Con := conV true [] [(.arr 8 (.int .u32))] fun x => sha_first 
noncomputable def x12_ : Cx := { ti := ti, con := [], fns := [], un := 6 }
theorem xok12_ : CxOk Tryz.prog x12_ := CxOk.of mixed ti_ok fz fz
theorem fn12_ : FnOk Tryz.prog 137 Tryz.f137 [] := ⟨Tryz.func137, Tryz.call137, lps_nil⟩
theorem e12_  : bodyK x12_ [] (denF x12_ 8) Tryz.f137 (domV [] (())) [] 0 (kOut [(.arr 8 (.int .u32))]) = sha_first'  := by kernel_rfl
theorem con12_ : ConOk Tryz.prog 137 c12_ := con_ok xok12_ 8 fn12_ true [] [(.arr 8 (.int .u32))] _ (by decide) (fun x => by rw [sha_first_eq]; exact e12_ )
abbrev I13_ : Shape := { sl := [], ob := [], lo := 0, nx := 0 }
abbrev O13_ : List Shape := [{ sl := [(pc 0 (.pair .bool (.pair (.arr 8 (.int .u32)) (.pair (.arr 64 (.int .u8)) tI))) 0)], ob := [(pv 0 (.pair .bool (.pair (.arr 8 (.int .u32)) (.pair (.arr 64 (.int .u8)) tI))))], lo := 1, nx := 1 }]
noncomputable def c13_ : Con := conS I13_ O13_ fun x => sha_New_m 
noncomputable def x13_ : Cx := { ti := ti, con := [(137, c12_)], fns := [], un := 6 }
theorem xok13_ : CxOk Tryz.prog x13_ := CxOk.of mixed ti_ok (fc ⟨con12_, fz⟩) fz
theorem fn13_ : FnOk Tryz.prog 86 Tryz.f86 [] := ⟨Tryz.func86, Tryz.call86, lps_nil⟩
theorem e13_  : bodyK x13_ [] (denF x13_ 8) Tryz.f86 ((mkVals I13_.sl (show I13_.X from ((), ())).1).map .v) (shHp I13_ ((), ())) I13_.nx (kOutS 1 O13_) = sha_New_m'  := by kernel_rfl
theorem con13_ : ConOk Tryz.prog 86 c13_ := conS_ok xok13_ 8 fn13_ 1 I13_ O13_ _ (by decide) (fun x => by rw [sha_New_m_eq]; exact e13_ )
noncomputable def c15_ : Con := conV true [] [(.arr 64 (.int .u32))] fun x => sha_constants 
noncomputable def x15_ : Cx := { ti := ti, con := [], fns := [], un := 6 }
theorem xok15_ : CxOk Tryz.prog x15_ := CxOk.of mixed ti_ok fz fz
theorem fn15_ : FnOk Tryz.prog 165 Tryz.f165 [] := ⟨Tryz.func165, Tryz.call165, lps_nil⟩
theorem e15_  : bodyK x15_ [] (denF x15_ 8) Tryz.f165 (domV [] (())) [] 0 (kOut [(.arr 64 (.int .u32))]) = sha_constants'  := by kernel_rfl
theorem con15_ : ConOk Tryz.prog 165 c15_ := con_ok xok15_ 8 fn15_ true [] [(.arr 64 (.int .u32))] _ (by decide) (fun x => by rw [sha_constants_eq]; exact e15_ )
noncomputable def c16_ : Con := conV true [(.int .u32), tI] [(.int .u32)] fun x => sha_turned x.1 x.2.1
noncomputable def x16_ : Cx := { ti := ti, con := [(187, c00_)], fns := [], un := 6 }
theorem xok16_ : CxOk Tryz.prog x16_ := CxOk.of mixed ti_ok (fc ⟨con00_, fz⟩) fz
theorem fn16_ : FnOk Tryz.prog 167 Tryz.f167 [] := ⟨Tryz.func167, Tryz.call167, lps_nil⟩
theorem e16_ (x : Int) (n : Int) : bodyK x16_ [] (denF x16_ 8) Tryz.f167 (domV [(.int .u32), tI] (x, n, ())) [] 0 (kOut [(.int .u32)]) = sha_turned' x n := by kernel_rfl
theorem con16_ : ConOk Tryz.prog 167 c16_ := con_ok xok16_ 8 fn16_ true [(.int .u32), tI] [(.int .u32)] _ (by decide) (fun x => by rw [sha_turned_eq]; exact e16_ x.1 x.2.1)
abbrev S17_0 : Shape := { sl := [(pc 1 (.arr 64 (.int .u8)) 0), (pc 2 (.arr 64 (.int .u32)) 1), (pc 3 (.arr 64 (.int .u32)) 2), (pv 10 tI)], ob := [(pv 0 (.arr 64 (.int .u8))), (pv 1 (.arr 64 (.int .u32))), (pv 2 (.arr 64 (.int .u32)))], lo := 3, nx := 3 }
abbrev E17_0 : List Ex := [(.normal, { sl := [(pc 2 (.arr 64 (.int .u32)) 1), (pc 3 (.arr 64 (.int .u32)) 2)], ob := [(pv 1 (.arr 64 (.int .u32))), (pv 2 (.arr 64 (.int .u32)))], lo := 3, nx := 3 })]
noncomputable def L17_0 : Code := loopIn (bodyOf Tryz.f166) 0
noncomputable def P17_0 : Lp := lpOf S17_0 E17_0 89 R_sha_schedule_0
abbrev S17_2 : Shape := { sl := [(pc 2 (.arr 64 (.int .u32)) 1), (pc 3 (.arr 64 (.int .u32)) 2), (pv 5 tI)], ob := [(pv 1 (.arr 64 (.int .u32))), (pv 2 (.arr 64 (.int .u32)))], lo := 3, nx := 3 }
abbrev E17_2 : List Ex := [(.normal, { sl := [(pc 2 (.arr 64 (.int .u32)) 1), (pc 3 (.arr 64 (.int .u32)) 2)], ob := [(pv 1 (.arr 64 (.int .u32))), (pv 2 (.arr 64 (.int .u32)))], lo := 3, nx := 3 })]
noncomputable def L17_2 : Code := loopIn (bodyOf Tryz.f166) 2
noncomputable def P17_2 : Lp := lpOf S17_2 E17_2 89 R_sha_schedule_2
noncomputable def c17_ : Con := conV true [(.arr 64 (.int .u8))] [(.arr 64 (.int .u32))] fun x => sha_schedule x.1
noncomputable def x17_ : Cx := { ti := ti, con := [(167, c16_)], fns := [], un := 6 }
theorem xok17_ : CxOk Tryz.prog x17_ := CxOk.of mixed ti_ok (fc ⟨con16_, fz⟩) fz
theorem r17_0 (x : S17_0.X) : denC x17_ [] (denF x17_ 8) L17_0 (S17_0.mkS 89 x) (kRound 0 S17_0 E17_0) = R_sha_schedule_0 x := by kernel_rfl
theorem l17_0 : LpOk Tryz.prog 0 (.loop L17_0) P17_0 := lpOf_ok xok17_ 8 (lps_nil) S17_0 E17_0 89 R_sha_schedule_0 (by decide) r17_0
theorem r17_2 (x : S17_2.X) : denC x17_ [] (denF x17_ 8) L17_2 (S17_2.mkS 89 x) (kRound 2 S17_2 E17_2) = R_sha_schedule_2 x := by kernel_rfl
theorem l17_2 : LpOk Tryz.prog 2 (.loop L17_2) P17_2 := lpOf_ok xok17_ 8 (lps_nil) S17_2 E17_2 89 R_sha_schedule_2 (by decide) r17_2
theorem fn17_ : FnOk Tryz.prog 166 Tryz.f166 [(0, P17_0), (2, P17_2)] := ⟨Tryz.func166, Tryz.call166, lps_of (by kernel_rfl) (lps_one l17_0 (by kernel_rfl) (lps_one l17_2 (by kernel_rfl) fz))⟩
theorem e17_ (b : NI) : bodyK x17_ [(0, P17_0), (2, P17_2)] (denF x17_ 8) Tryz.f166 (domV [(.arr 64 (.int .u8))] (b, ())) [] 0 (kOut [(.arr 64 (.int .u32))]) = sha_schedule' b := by kernel_rfl
theorem con17_ : ConOk Tryz.prog 166 c17_ := con_ok xok17_ 8 fn17_ true [(.arr 64 (.int .u8))] [(.arr 64 (.int .u32))] _ (by decide) (fun x => by rw [sha_schedule_eq]; exact e17_ x.1)
abbrev S18_0 : Shape := { sl := [(pc 2 (.arr 8 (.int .u32)) 0), (pc 4 (.arr 8 (.int .u32)) 2), (pc 5 (.arr 64 (.int .u32)) 3), (pc 6 (.arr 64 (.int .u32)) 4), (pc 7 (.arr 8 (.int .u32)) 5), (pv 18 tI)], ob := [(pv 0 (.arr 8 (.int .u32))), (pv 2 (.arr 8 (.int .u32))), (pv 3 (.arr 64 (.int .u32))), (pv 4 (.arr 64 (.int .u32))), (pv 5 (.arr 8 (.int .u32)))], lo := 6, nx := 6 }
abbrev E18_0 : List Ex := [(.normal, { sl := [(pc 2 (.arr 8 (.int .u32)) 0), (pc 4 (.arr 8 (.int .u32)) 2), (pc 7 (.arr 8 (.int .u32)) 5)], ob := [(pv 0 (.arr 8 (.int .u32))), (pv 2 (.arr 8 (.int .u32))), (pv 5 (.arr 8 (.int .u32)))], lo := 6, nx := 6 })]
noncomputable def L18_0 : Code := loopIn (bodyOf Tryz.f138) 0
noncomputable def P18_0 : Lp := lpOf S18_0 E18_0 109 R_sha_mixed_0
abbrev S18_2 : Shape := { sl := [(pc 2 (.arr 8 (.int .u32)) 0), (pc 4 (.arr 8 (.int .u32)) 2), (pc 7 (.arr 8 (.int .u32)) 5), (pv 96 tI)], ob := [(pv 0 (.arr 8 (.int .u32))), (pv 2 (.arr 8 (.int .u32))), (pv 5 (.arr 8 (.int .u32)))], lo := 6, nx := 6 }
abbrev E18_2 : List Ex := [(.normal, { sl := [(pc 4 (.arr 8 (.int .u32)) 2), (pc 7 (.arr 8 (.int .u32)) 5)], ob := [(pv 2 (.arr 8 (.int .u32))), (pv 5 (.arr 8 (.int .u32)))], lo := 6, nx := 6 })]
noncomputable def L18_2 : Code := loopIn (bodyOf Tryz.f138) 2
noncomputable def P18_2 : Lp := lpOf S18_2 E18_2 109 R_sha_mixed_2
noncomputable def c18_ : Con := conV true [(.arr 8 (.int .u32)), (.arr 64 (.int .u8))] [(.arr 8 (.int .u32))] fun x => sha_mixed x.1 x.2.1
noncomputable def x18_ : Cx := { ti := ti, con := [(165, c15_), (166, c17_), (167, c16_)], fns := [], un := 6 }
theorem xok18_ : CxOk Tryz.prog x18_ := CxOk.of mixed ti_ok (fc ⟨con15_, fc ⟨con17_, fc ⟨con16_, fz⟩⟩⟩) fz
theorem r18_0 (x : S18_0.X) : denC x18_ [] (denF x18_ 8) L18_0 (S18_0.mkS 109 x) (kRound 0 S18_0 E18_0) = R_sha_mixed_0 x := by kernel_rfl
theorem l18_0 : LpOk Tryz.prog 0 (.loop L18_0) P18_0 := lpOf_ok xok18_ 8 (lps_nil) S18_0 E18_0 109 R_sha_mixed_0 (by decide) r18_0
theorem r18_2 (x : S18_2.X) : denC x18_ [] (denF x18_ 8) L18_2 (S18_2.mkS 109 x) (kRound 2 S18_2 E18_2) = R_sha_mixed_2 x := by kernel_rfl
theorem l18_2 : LpOk Tryz.prog 2 (.loop L18_2) P18_2 := lpOf_ok xok18_ 8 (lps_nil) S18_2 E18_2 109 R_sha_mixed_2 (by decide) r18_2
theorem fn18_ : FnOk Tryz.prog 138 Tryz.f138 [(0, P18_0), (2, P18_2)] := ⟨Tryz.func138, Tryz.call138, lps_of (by kernel_rfl) (lps_one l18_0 (by kernel_rfl) (lps_one l18_2 (by kernel_rfl) fz))⟩
theorem e18_ (v : NI) (b : NI) : bodyK x18_ [(0, P18_0), (2, P18_2)] (denF x18_ 8) Tryz.f138 (domV [(.arr 8 (.int .u32)), (.arr 64 (.int .u8))] (v, b, ())) [] 0 (kOut [(.arr 8 (.int .u32))]) = sha_mixed' v b := by kernel_rfl
theorem con18_ : ConOk Tryz.prog 138 c18_ := con_ok xok18_ 8 fn18_ true [(.arr 8 (.int .u32)), (.arr 64 (.int .u8))] [(.arr 8 (.int .u32))] _ (by decide) (fun x => by rw [sha_mixed_eq]; exact e18_ x.1 x.2.1)
abbrev S19_0 : Shape := { sl := [(pc 0 (.pair .bool (.pair (.arr 8 (.int .u32)) (.pair (.arr 64 (.int .u8)) tI))) 0), (1, (.v .str))], ob := [(pv 0 (.pair .bool (.pair (.arr 8 (.int .u32)) (.pair (.arr 64 (.int .u8)) tI))))], lo := 1, nx := 1 }
abbrev E19_0 : List Ex := [(.normal, { sl := [(pc 0 (.pair .bool (.pair (.arr 8 (.int .u32)) (.pair (.arr 64 (.int .u8)) tI))) 0)], ob := [(pv 0 (.pair .bool (.pair (.arr 8 (.int .u32)) (.pair (.arr 64 (.int .u8)) tI))))], lo := 1, nx := 1 })]
noncomputable def L19_0 : Code := loopIn (bodyOf Tryz.f87) 0
noncomputable def P19_0 : Lp := lpOf S19_0 E19_0 56 R_sha_Hash_Add_m_0
abbrev I19_ : Shape := { sl := [(pc 0 (.pair .bool (.pair (.arr 8 (.int .u32)) (.pair (.arr 64 (.int .u8)) tI))) 0), (1, (.v .str))], ob := [(pv 0 (.pair .bool (.pair (.arr 8 (.int .u32)) (.pair (.arr 64 (.int .u8)) tI))))], lo := 1, nx := 1 }
abbrev O19_ : List Shape := [{ sl := [], ob := [(pv 0 (.pair .bool (.pair (.arr 8 (.int .u32)) (.pair (.arr 64 (.int .u8)) tI))))], lo := 1, nx := 1 }]
noncomputable def c19_ : Con := conS I19_ O19_ fun x => sha_Hash_Add_m x.1.2.1 x.2.1
noncomputable def x19_ : Cx := { ti := ti, con := [(138, c18_)], fns := [], un := 6 }
theorem xok19_ : CxOk Tryz.prog x19_ := CxOk.of mixed ti_ok (fc ⟨con18_, fz⟩) fz
theorem r19_0 (x : S19_0.X) : denC x19_ [] (denF x19_ 8) L19_0 (S19_0.mkS 56 x) (kRound 0 S19_0 E19_0) = R_sha_Hash_Add_m_0 x := by kernel_rfl
theorem l19_0 : LpOk Tryz.prog 0 (.loop L19_0) P19_0 := lpOf_ok xok19_ 8 (lps_nil) S19_0 E19_0 56 R_sha_Hash_Add_m_0 (by decide) r19_0
theorem fn19_ : FnOk Tryz.prog 87 Tryz.f87 [(0, P19_0)] := ⟨Tryz.func87, Tryz.call87, lps_of (by kernel_rfl) (lps_one l19_0 (by kernel_rfl) fz)⟩
theorem e19_ (s : ByteArray) (h : (Bool × (NI × (NI × Int)))) : bodyK x19_ [(0, P19_0)] (denF x19_ 8) Tryz.f87 ((mkVals I19_.sl (show I19_.X from (((), (s, ())), (h, ()))).1).map .v) (shHp I19_ (((), (s, ())), (h, ()))) I19_.nx (kOutS 0 O19_) = sha_Hash_Add_m' s h := by kernel_rfl
theorem con19_ : ConOk Tryz.prog 87 c19_ := conS_ok xok19_ 8 fn19_ 0 I19_ O19_ _ (by decide) (fun x => by rw [sha_Hash_Add_m_eq]; exact e19_ x.1.2.1 x.2.1)
abbrev S1a_0 : Shape := { sl := [(0, (.pz (.pair .bool (.pair (.arr 8 (.int .u32)) (.pair (.arr 64 (.int .u8)) tI))))), (pc 3 (.pair .bool (.pair (.arr 8 (.int .u32)) (.pair (.arr 64 (.int .u8)) tI))) 0)], ob := [(pv 0 (.pair .bool (.pair (.arr 8 (.int .u32)) (.pair (.arr 64 (.int .u8)) tI))))], lo := 1, nx := 1 }
abbrev E1a_0 : List Ex := [(.normal, { sl := [(0, (.pz (.pair .bool (.pair (.arr 8 (.int .u32)) (.pair (.arr 64 (.int .u8)) tI))))), (pc 3 (.pair .bool (.pair (.arr 8 (.int .u32)) (.pair (.arr 64 (.int .u8)) tI))) 0)], ob := [(pv 0 (.pair .bool (.pair (.arr 8 (.int .u32)) (.pair (.arr 64 (.int .u8)) tI))))], lo := 1, nx := 1 })]
noncomputable def L1a_0 : Code := loopIn (bodyOf Tryz.f88) 0
noncomputable def P1a_0 : Lp := lpOf S1a_0 E1a_0 69 R_sha_Hash_Sum_0
abbrev S1a_2 : Shape := { sl := [(0, (.pz (.pair .bool (.pair (.arr 8 (.int .u32)) (.pair (.arr 64 (.int .u8)) tI))))), (pc 3 (.pair .bool (.pair (.arr 8 (.int .u32)) (.pair (.arr 64 (.int .u8)) tI))) 0), (pc 4 (.arr 8 (.int .u8)) 1), (pv 27 tI)], ob := [(pv 0 (.pair .bool (.pair (.arr 8 (.int .u32)) (.pair (.arr 64 (.int .u8)) tI)))), (pv 1 (.arr 8 (.int .u8)))], lo := 2, nx := 2 }
abbrev E1a_2 : List Ex := [(.normal, { sl := [(pc 3 (.pair .bool (.pair (.arr 8 (.int .u32)) (.pair (.arr 64 (.int .u8)) tI))) 0), (pc 4 (.arr 8 (.int .u8)) 1)], ob := [(pv 0 (.pair .bool (.pair (.arr 8 (.int .u32)) (.pair (.arr 64 (.int .u8)) tI)))), (pv 1 (.arr 8 (.int .u8)))], lo := 2, nx := 2 })]
noncomputable def L1a_2 : Code := loopIn (bodyOf Tryz.f88) 2
noncomputable def P1a_2 : Lp := lpOf S1a_2 E1a_2 69 R_sha_Hash_Sum_2
abbrev S1a_4 : Shape := { sl := [(6, (.w 5 (.int .u8) 3)), (pv 48 (.arr 8 (.int .u32))), (pv 49 tI)], ob := [], lo := 3, nx := 4 }
abbrev E1a_4 : List Ex := [(.normal, { sl := [(6, (.w 5 (.int .u8) 4))], ob := [], lo := 4, nx := 5 })]
noncomputable def L1a_4 : Code := loopIn (bodyOf Tryz.f88) 4
noncomputable def P1a_4 : Lp := lpOf S1a_4 E1a_4 69 R_sha_Hash_Sum_4
noncomputable def c1a_ : Con := conV true [(.ptr (.pair .bool (.pair (.arr 8 (.int .u32)) (.pair (.arr 64 (.int .u8)) tI))))] [.str] fun x => sha_Hash_Sum x.1
noncomputable def x1a_ : Cx := { ti := ti, con := [(87, c19_)], fns := [], un := 6 }
theorem xok1a_ : CxOk Tryz.prog x1a_ := CxOk.of mixed ti_ok (fc ⟨con19_, fz⟩) fz
theorem r1a_0 (x : S1a_0.X) : denC x1a_ [] (denF x1a_ 8) L1a_0 (S1a_0.mkS 69 x) (kRound 0 S1a_0 E1a_0) = R_sha_Hash_Sum_0 x := by kernel_rfl
theorem l1a_0 : LpOk Tryz.prog 0 (.loop L1a_0) P1a_0 := lpOf_ok xok1a_ 8 (lps_nil) S1a_0 E1a_0 69 R_sha_Hash_Sum_0 (by decide) r1a_0
theorem r1a_2 (x : S1a_2.X) : denC x1a_ [] (denF x1a_ 8) L1a_2 (S1a_2.mkS 69 x) (kRound 2 S1a_2 E1a_2) = R_sha_Hash_Sum_2 x := by kernel_rfl
theorem l1a_2 : LpOk Tryz.prog 2 (.loop L1a_2) P1a_2 := lpOf_ok xok1a_ 8 (lps_nil) S1a_2 E1a_2 69 R_sha_Hash_Sum_2 (by decide) r1a_2
theorem r1a_4 (x : S1a_4.X) : denC x1a_ [] (denF x1a_ 8) L1a_4 (S1a_4.mkS 69 x) (kRound 4 S1a_4 E1a_4) = R_sha_Hash_Sum_4 x := by kernel_rfl
theorem l1a_4 : LpOk Tryz.prog 4 (.loop L1a_4) P1a_4 := lpOf_ok xok1a_ 8 (lps_nil) S1a_4 E1a_4 69 R_sha_Hash_Sum_4 (by decide) r1a_4
theorem fn1a_ : FnOk Tryz.prog 88 Tryz.f88 [(0, P1a_0), (2, P1a_2), (4, P1a_4)] := ⟨Tryz.func88, Tryz.call88, lps_of (by kernel_rfl) (lps_one l1a_0 (by kernel_rfl) (lps_one l1a_2 (by kernel_rfl) (lps_one l1a_4 (by kernel_rfl) fz)))⟩
theorem e1a_ (h : (Option (Bool × (NI × (NI × Int))))) : bodyK x1a_ [(0, P1a_0), (2, P1a_2), (4, P1a_4)] (denF x1a_ 8) Tryz.f88 (domV [(.ptr (.pair .bool (.pair (.arr 8 (.int .u32)) (.pair (.arr 64 (.int .u8)) tI))))] (h, ())) [] 0 (kOut [.str]) = sha_Hash_Sum' h := by cases h <;> kernel_rfl
theorem con1a_ : ConOk Tryz.prog 88 c1a_ := con_ok xok1a_ 8 fn1a_ true [(.ptr (.pair .bool (.pair (.arr 8 (.int .u32)) (.pair (.arr 64 (.int .u8)) tI))))] [.str] _ (by decide) (fun x => by rw [sha_Hash_Sum_eq]; exact e1a_ x.1)
noncomputable def c1b_ : Con := conV true [.str] [.str] fun x => sha_Sum x.1
noncomputable def x1b_ : Cx := { ti := ti, con := [(86, c13_), (87, c19_), (88, c1a_)], fns := [], un := 6 }
theorem xok1b_ : CxOk Tryz.prog x1b_ := CxOk.of mixed ti_ok (fc ⟨con13_, fc ⟨con19_, fc ⟨con1a_, fz⟩⟩⟩) fz
theorem fn1b_ : FnOk Tryz.prog 42 Tryz.f42 [] := ⟨Tryz.func42, Tryz.call42, lps_nil⟩
theorem e1b_ (s : ByteArray) : bodyK x1b_ [] (denF x1b_ 8) Tryz.f42 (domV [.str] (s, ())) [] 0 (kOut [.str]) = sha_Sum' s := by kernel_rfl
theorem con1b_ : ConOk Tryz.prog 42 c1b_ := con_ok xok1b_ 8 fn1b_ true [.str] [.str] _ (by decide) (fun x => by rw [sha_Sum_eq]; exact e1b_ x.1)
end Go.Proofs.YtidodcilgldjoaaGreat
