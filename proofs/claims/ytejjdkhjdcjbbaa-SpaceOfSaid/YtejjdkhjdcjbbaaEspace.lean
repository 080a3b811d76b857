/-
  The functions of a package are the plain ones.
-/
import Derived.Test.YtejjdkhjdcjbbaaEqA
import Derived.Test.YtejjdkhjdcjbbaaDenK
import Derived.Test.YtejjdkhjdcjbbaaLib
import Derived.Test.YtejjdkhjdcjbbaaDenF
import Derived.Test.YtejjdkhjdcjbbaaPspace
import Derived.Test.YtejjdkhjdcjbbaaEwire
set_option linter.unusedVariables false
set_option linter.unusedSimpArgs false
set_option maxRecDepth 100000
set_option maxHeartbeats 0
namespace Go.Pl
end Go.Pl
open Go Go.Den Go.Pl
namespace Go.Proofs.Ytejjdkhjdcjbbaa
abbrev I06_ : Shape := { sl := [(pv 0 tI), (pv 1 tI)], ob := [], lo := 0, nx := 0 }
abbrev O06_ : List Shape := [{ sl := [(0, (.c ⟨(.ptr (.pair tI (.pair tI (.pair (.sl .str) .mp)))), .nil⟩)), (pv 1 tI)], ob := [], lo := 0, nx := 0 }, { sl := [(pc 0 (.pair tI (.pair tI (.pair (.sl .str) .mp))) 1), (pv 1 tI)], ob := [(1, (.p (.v tI) (.p (.v tI) (.p (.w 9 .str 2) (.m tI tI 3)))))], lo := 2, nx := 4 }]
noncomputable def c06_ : Con := conS I06_ O06_ fun x => space_New_m x.1.1 x.1.2.1
noncomputable def x06_ : Cx := { ti := ti, con := [], fns := [], un := 6 }
theorem xok06_ : CxOk Try.prog x06_ := CxOk.of mixed ti_ok fz fz
theorem fn06_ : FnOk Try.prog 23 Try.f23 [] := ⟨Try.func23, Try.call23, lps_nil⟩
theorem e06_ (servers : Int) (clients : Int) : bodyK x06_ [] (denF x06_ 8) Try.f23 ((mkVals I06_.sl (show I06_.X from ((servers, (clients, ())), ())).1).map .v) (shHp I06_ ((servers, (clients, ())), ())) I06_.nx (kOutS 2 O06_) = space_New_m' servers clients := by kernel_rfl
theorem con06_ : ConOk Try.prog 23 c06_ := conS_ok xok06_ 8 fn06_ 2 I06_ O06_ _ (by decide) (fun x => by rw [space_New_m_eq]; exact e06_ x.1.1 x.1.2.1)
noncomputable def c07_ : Con := conV true [.str, .str] [tI] fun x => space_Space_find_1 x.1 x.2.1
noncomputable def x07_ : Cx := { ti := ti, con := [(47, c_strCompare)], fns := [], un := 6 }
theorem xok07_ : CxOk Try.prog x07_ := CxOk.of mixed ti_ok (fc ⟨con_strCompare, fz⟩) fz
theorem fn07_ : FnOk Try.prog 46 Try.f46 [] := ⟨Try.func46, Try.call46, lps_nil⟩
theorem e07_ (a : ByteArray) (b : ByteArray) : bodyK x07_ [] (denF x07_ 8) Try.f46 (domV [.str, .str] (a, b, ())) [] 0 (kOut [tI]) = space_Space_find_1' a b := by kernel_rfl
theorem con07_ : ConOk Try.prog 46 c07_ := con_ok xok07_ 8 fn07_ true [.str, .str] [tI] _ (by decide) (fun x => by rw [space_Space_find_1_eq]; exact e07_ x.1 x.2.1)
abbrev S08_0 : Shape := { sl := [(0, (.sz .str)), (1, (.v .str)), (2, (.c ⟨.fn, (.mk 46 [])⟩)), (pv 8 tI), (pv 9 tI), (pv 10 tI)], ob := [], lo := 0, nx := 0 }
abbrev E08_0 : List Ex := [(.normal, { sl := [(0, (.sz .str)), (1, (.v .str)), (2, (.c ⟨.fn, (.mk 46 [])⟩)), (pv 8 tI), (pv 9 tI)], ob := [], lo := 0, nx := 0 })]
noncomputable def L08_0 : Code := loopIn (bodyOf Try.f45) 0
noncomputable def P08_0 : Lp := lpOf S08_0 E08_0 49 R_slices_BinarySearchFunc___string_string_string__0
noncomputable def c08_ : Con := conF 46 [(.sl .str), .str] [tI, .bool] fun x => slices_BinarySearchFunc___string_string_string_ x.1.1 x.1.2 x.2.1
noncomputable def x08_ : Cx := { ti := ti, con := [(46, c07_)], fns := [], un := 6 }
theorem xok08_ : CxOk Try.prog x08_ := CxOk.of mixed ti_ok (fc ⟨con07_, fz⟩) fz
theorem r08_0 (x : S08_0.X) : denC x08_ [] (denF x08_ 8) L08_0 (S08_0.mkS 49 x) (kRound 0 S08_0 E08_0) = R_slices_BinarySearchFunc___string_string_string__0 x := by kernel_rfl
theorem l08_0 : LpOk Try.prog 0 (.loop L08_0) P08_0 := lpOf_ok xok08_ 8 (lps_nil) S08_0 E08_0 49 R_slices_BinarySearchFunc___string_string_string__0 (by decide) r08_0
theorem fn08_ : FnOk Try.prog 45 Try.f45 [(0, P08_0)] := ⟨Try.func45, Try.call45, lps_of (by kernel_rfl) (lps_one l08_0 (by kernel_rfl) fz)⟩
theorem e08_ (nx : Nat) (x : Nat → ByteArray) (target : ByteArray) : bodyK x08_ [(0, P08_0)] (denF x08_ 8) Try.f45 (domV [(.sl .str), .str] ((nx, x), target, ()) ++ [.v ⟨.fn, .mk 46 []⟩]) [] 0 (kOut [tI, .bool]) = slices_BinarySearchFunc___string_string_string_' nx x target := by kernel_rfl
theorem con08_ : ConOk Try.prog 45 c08_ := conF_ok xok08_ 8 fn08_ 46 [(.sl .str), .str] [tI, .bool] _ (by decide) (fun x => by rw [slices_BinarySearchFunc___string_string_string__eq]; exact e08_ x.1.1 x.1.2 x.2.1)
abbrev I09_ : Shape := { sl := [(pc 0 (.pair tI (.pair tI (.pair (.sl .str) .mp))) 0), (1, (.v .str))], ob := [(0, (.p (.v tI) (.p (.v tI) (.p (.w 9 .str 1) (.m tI tI 2)))))], lo := 1, nx := 3 }
abbrev O09_ : List Shape := [{ sl := [(pv 0 tI), (1, (.v .bool))], ob := [(0, (.p (.v tI) (.p (.v tI) (.p (.w 9 .str 3) (.m tI tI 4)))))], lo := 3, nx := 5 }]
noncomputable def c09_ : Con := conS I09_ O09_ fun x => space_Space_find_m x.1.2.1 x.2.1.1 x.2.1.2.1 x.2.1.2.2.1.1 x.2.1.2.2.1.2 x.2.1.2.2.2
noncomputable def x09_ : Cx := { ti := ti, con := [(45, c08_)], fns := [], un := 6 }
theorem xok09_ : CxOk Try.prog x09_ := CxOk.of mixed ti_ok (fc ⟨con08_, fz⟩) fz
theorem fn09_ : FnOk Try.prog 41 Try.f41 [] := ⟨Try.func41, Try.call41, lps_nil⟩
theorem e09_ (key : ByteArray) (s : Int) (s1 : Int) (ns : Nat) (s2 : Nat → ByteArray) (s3 : List (Int × Int)) : bodyK x09_ [] (denF x09_ 8) Try.f41 ((mkVals I09_.sl (show I09_.X from (((), (key, ())), ((s, (s1, ((ns, s2), s3))), ()))).1).map .v) (shHp I09_ (((), (key, ())), ((s, (s1, ((ns, s2), s3))), ()))) I09_.nx (kOutS 2 O09_) = space_Space_find_m' key s s1 ns s2 s3 := by kernel_rfl
theorem con09_ : ConOk Try.prog 41 c09_ := conS_ok xok09_ 8 fn09_ 2 I09_ O09_ _ (by decide) (fun x => by rw [space_Space_find_m_eq]; exact e09_ x.1.2.1 x.2.1.1 x.2.1.2.1 x.2.1.2.2.1.1 x.2.1.2.2.1.2 x.2.1.2.2.2)
noncomputable def c0a_ : Con := conV true [(.ptr (.pair tI (.pair tI (.pair (.sl .str) .mp)))), .str] [tI, .bool] fun x => space_Space_find x.1 x.2.1
noncomputable def x0a_ : Cx := { ti := ti, con := [(45, c08_)], fns := [], un := 6 }
theorem xok0a_ : CxOk Try.prog x0a_ := CxOk.of mixed ti_ok (fc ⟨con08_, fz⟩) fz
theorem fn0a_ : FnOk Try.prog 41 Try.f41 [] := ⟨Try.func41, Try.call41, lps_nil⟩
theorem e0a_ (s : (Option (Int × (Int × ((SlV ByteArray) × (Option Nat)))))) (key : ByteArray) : bodyK x0a_ [] (denF x0a_ 8) Try.f41 (domV [(.ptr (.pair tI (.pair tI (.pair (.sl .str) .mp)))), .str] (s, key, ())) [] 0 (kOut [tI, .bool]) = space_Space_find' s key := by cases s <;> kernel_rfl
theorem con0a_ : ConOk Try.prog 41 c0a_ := con_ok xok0a_ 8 fn0a_ true [(.ptr (.pair tI (.pair tI (.pair (.sl .str) .mp)))), .str] [tI, .bool] _ (by decide) (fun x => by rw [space_Space_find_eq]; exact e0a_ x.1 x.2.1)
abbrev I0b_ : Shape := { sl := [(pc 0 (.pair tI (.pair tI (.pair (.sl .str) .mp))) 0), (1, (.v .str)), (pv 2 tI)], ob := [(0, (.p (.v tI) (.p (.v tI) (.p (.w 9 .str 1) (.m tI tI 2)))))], lo := 1, nx := 3 }
abbrev O0b_ : List Shape := [{ sl := [(pv 0 tI), (1, (.v .bool)), (pv 2 tI)], ob := [(0, (.p (.v tI) (.p (.v tI) (.p (.w 9 .str 9) (.m tI tI 10)))))], lo := 9, nx := 11 }]
noncomputable def c0b_ : Con := conS I0b_ O0b_ fun x => space_Space_Open_m x.1.2.1 x.1.2.2.1 x.2.1.1 x.2.1.2.1 x.2.1.2.2.1.1 x.2.1.2.2.1.2 x.2.1.2.2.2
noncomputable def x0b_ : Cx := { ti := ti, con := [(40, c05_), (30, c_sQuota), (41, conIf 0 c09_ c0a_), (42, c_sInsert)], fns := [], un := 6 }
theorem xok0b_ : CxOk Try.prog x0b_ := CxOk.of mixed ti_ok (fc ⟨con05_, fc ⟨con_sQuota, fc ⟨conIf_ok con09_ con0a_, fc ⟨con_sInsert, fz⟩⟩⟩⟩) fz
theorem fn0b_ : FnOk Try.prog 25 Try.f25 [] := ⟨Try.func25, Try.call25, lps_nil⟩
theorem e0b_ (key : ByteArray) (end_ : Int) (s : Int) (s1 : Int) (ns : Nat) (s2 : Nat → ByteArray) (s3 : List (Int × Int)) : bodyK x0b_ [] (denF x0b_ 8) Try.f25 ((mkVals I0b_.sl (show I0b_.X from (((), (key, (end_, ()))), ((s, (s1, ((ns, s2), s3))), ()))).1).map .v) (shHp I0b_ (((), (key, (end_, ()))), ((s, (s1, ((ns, s2), s3))), ()))) I0b_.nx (kOutS 3 O0b_) = space_Space_Open_m' key end_ s s1 ns s2 s3 := by kernel_rfl
theorem con0b_ : ConOk Try.prog 25 c0b_ := conS_ok xok0b_ 8 fn0b_ 3 I0b_ O0b_ _ (by decide) (fun x => by rw [space_Space_Open_m_eq]; exact e0b_ x.1.2.1 x.1.2.2.1 x.2.1.1 x.2.1.2.1 x.2.1.2.2.1.1 x.2.1.2.2.1.2 x.2.1.2.2.2)
noncomputable def c0c_ : Con := conV true [(.ptr (.pair tI (.pair tI (.pair (.sl .str) .mp)))), .str, tI] [tI, .bool, tI] fun x => space_Space_Open x.1 x.2.1 x.2.2.1
noncomputable def x0c_ : Cx := { ti := ti, con := [(40, c05_), (30, c_sQuota), (41, conIf 0 c09_ c0a_)], fns := [], un := 6 }
theorem xok0c_ : CxOk Try.prog x0c_ := CxOk.of mixed ti_ok (fc ⟨con05_, fc ⟨con_sQuota, fc ⟨conIf_ok con09_ con0a_, fz⟩⟩⟩) fz
theorem fn0c_ : FnOk Try.prog 25 Try.f25 [] := ⟨Try.func25, Try.call25, lps_nil⟩
theorem e0c_ (s : (Option (Int × (Int × ((SlV ByteArray) × (Option Nat)))))) (key : ByteArray) (end_ : Int) : bodyK x0c_ [] (denF x0c_ 8) Try.f25 (domV [(.ptr (.pair tI (.pair tI (.pair (.sl .str) .mp)))), .str, tI] (s, key, end_, ())) [] 0 (kOut [tI, .bool, tI]) = space_Space_Open' s key end_ := by cases s <;> kernel_rfl
theorem con0c_ : ConOk Try.prog 25 c0c_ := con_ok xok0c_ 8 fn0c_ true [(.ptr (.pair tI (.pair tI (.pair (.sl .str) .mp)))), .str, tI] [tI, .bool, tI] _ (by decide) (fun x => by rw [space_Space_Open_eq]; exact e0c_ x.1 x.2.1 x.2.2.1)
abbrev I0d_ : Shape := { sl := [(pc 0 (.pair tI (.pair tI (.pair (.sl .str) .mp))) 0), (1, (.v .str))], ob := [(0, (.p (.v tI) (.p (.v tI) (.p (.w 9 .str 1) (.m tI tI 2)))))], lo := 1, nx := 3 }
abbrev O0d_ : List Shape := [{ sl := [(pv 0 tI), (1, (.v .bool))], ob := [(0, (.p (.v tI) (.p (.v tI) (.p (.w 9 .str 7) (.m tI tI 8)))))], lo := 7, nx := 9 }]
noncomputable def c0d_ : Con := conS I0d_ O0d_ fun x => space_Space_Find_m x.1.2.1 x.2.1.1 x.2.1.2.1 x.2.1.2.2.1.1 x.2.1.2.2.1.2 x.2.1.2.2.2
noncomputable def x0d_ : Cx := { ti := ti, con := [(41, conIf 0 c09_ c0a_)], fns := [], un := 6 }
theorem xok0d_ : CxOk Try.prog x0d_ := CxOk.of mixed ti_ok (fc ⟨conIf_ok con09_ con0a_, fz⟩) fz
theorem fn0d_ : FnOk Try.prog 26 Try.f26 [] := ⟨Try.func26, Try.call26, lps_nil⟩
theorem e0d_ (key : ByteArray) (s : Int) (s1 : Int) (ns : Nat) (s2 : Nat → ByteArray) (s3 : List (Int × Int)) : bodyK x0d_ [] (denF x0d_ 8) Try.f26 ((mkVals I0d_.sl (show I0d_.X from (((), (key, ())), ((s, (s1, ((ns, s2), s3))), ()))).1).map .v) (shHp I0d_ (((), (key, ())), ((s, (s1, ((ns, s2), s3))), ()))) I0d_.nx (kOutS 2 O0d_) = space_Space_Find_m' key s s1 ns s2 s3 := by kernel_rfl
theorem con0d_ : ConOk Try.prog 26 c0d_ := conS_ok xok0d_ 8 fn0d_ 2 I0d_ O0d_ _ (by decide) (fun x => by rw [space_Space_Find_m_eq]; exact e0d_ x.1.2.1 x.2.1.1 x.2.1.2.1 x.2.1.2.2.1.1 x.2.1.2.2.1.2 x.2.1.2.2.2)
noncomputable def c0e_ : Con := conV true [(.ptr (.pair tI (.pair tI (.pair (.sl .str) .mp)))), .str] [tI, .bool] fun x => space_Space_Find x.1 x.2.1
noncomputable def x0e_ : Cx := { ti := ti, con := [(41, conIf 0 c09_ c0a_)], fns := [], un := 6 }
theorem xok0e_ : CxOk Try.prog x0e_ := CxOk.of mixed ti_ok (fc ⟨conIf_ok con09_ con0a_, fz⟩) fz
theorem fn0e_ : FnOk Try.prog 26 Try.f26 [] := ⟨Try.func26, Try.call26, lps_nil⟩
theorem e0e_ (s : (Option (Int × (Int × ((SlV ByteArray) × (Option Nat)))))) (key : ByteArray) : bodyK x0e_ [] (denF x0e_ 8) Try.f26 (domV [(.ptr (.pair tI (.pair tI (.pair (.sl .str) .mp)))), .str] (s, key, ())) [] 0 (kOut [tI, .bool]) = space_Space_Find' s key := by cases s <;> kernel_rfl
theorem con0e_ : ConOk Try.prog 26 c0e_ := con_ok xok0e_ 8 fn0e_ true [(.ptr (.pair tI (.pair tI (.pair (.sl .str) .mp)))), .str] [tI, .bool] _ (by decide) (fun x => by rw [space_Space_Find_eq]; exact e0e_ x.1 x.2.1)
abbrev I0f_ : Shape := { sl := [(pc 0 (.pair tI (.pair tI (.pair (.sl .str) .mp))) 0), (pv 1 tI)], ob := [(0, (.p (.v tI) (.p (.v tI) (.p (.w 9 .str 1) (.m tI tI 2)))))], lo := 1, nx := 3 }
abbrev O0f_ : List Shape := [{ sl := [(pv 0 tI)], ob := [(0, (.p (.v tI) (.p (.v tI) (.p (.w 9 .str 3) (.m tI tI 4)))))], lo := 3, nx := 5 }]
noncomputable def c0f_ : Con := conS I0f_ O0f_ fun x => space_Space_Used_m x.1.2.1 x.2.1.1 x.2.1.2.1 x.2.1.2.2.1.1 x.2.1.2.2.1.2 x.2.1.2.2.2
noncomputable def x0f_ : Cx := { ti := ti, con := [], fns := [], un := 6 }
theorem xok0f_ : CxOk Try.prog x0f_ := CxOk.of mixed ti_ok fz fz
theorem fn0f_ : FnOk Try.prog 28 Try.f28 [] := ⟨Try.func28, Try.call28, lps_nil⟩
theorem e0f_ (end_ : Int) (s : Int) (s1 : Int) (ns : Nat) (s2 : Nat → ByteArray) (s3 : List (Int × Int)) : bodyK x0f_ [] (denF x0f_ 8) Try.f28 ((mkVals I0f_.sl (show I0f_.X from (((), (end_, ())), ((s, (s1, ((ns, s2), s3))), ()))).1).map .v) (shHp I0f_ (((), (end_, ())), ((s, (s1, ((ns, s2), s3))), ()))) I0f_.nx (kOutS 1 O0f_) = space_Space_Used_m' end_ s s1 ns s2 s3 := by kernel_rfl
theorem con0f_ : ConOk Try.prog 28 c0f_ := conS_ok xok0f_ 8 fn0f_ 1 I0f_ O0f_ _ (by decide) (fun x => by rw [space_Space_Used_m_eq]; exact e0f_ x.1.2.1 x.2.1.1 x.2.1.2.1 x.2.1.2.2.1.1 x.2.1.2.2.1.2 x.2.1.2.2.2)
noncomputable def c0g_ : Con := conV true [(.ptr (.pair tI (.pair tI (.pair (.sl .str) .mp)))), tI] [tI] fun x => space_Space_Used x.1 x.2.1
noncomputable def x0g_ : Cx := { ti := ti, con := [], fns := [], un := 6 }
theorem xok0g_ : CxOk Try.prog x0g_ := CxOk.of mixed ti_ok fz fz
theorem fn0g_ : FnOk Try.prog 28 Try.f28 [] := ⟨Try.func28, Try.call28, lps_nil⟩
theorem e0g_ (s : (Option (Int × (Int × ((SlV ByteArray) × (Option Nat)))))) (end_ : Int) : bodyK x0g_ [] (denF x0g_ 8) Try.f28 (domV [(.ptr (.pair tI (.pair tI (.pair (.sl .str) .mp)))), tI] (s, end_, ())) [] 0 (kOut [tI]) = space_Space_Used' s end_ := by cases s <;> kernel_rfl
theorem con0g_ : ConOk Try.prog 28 c0g_ := con_ok xok0g_ 8 fn0g_ true [(.ptr (.pair tI (.pair tI (.pair (.sl .str) .mp)))), tI] [tI] _ (by decide) (fun x => by rw [space_Space_Used_eq]; exact e0g_ x.1 x.2.1)
abbrev I0h_ : Shape := { sl := [(pc 0 (.pair tI (.pair tI (.pair (.sl .str) .mp))) 0)], ob := [(0, (.p (.v tI) (.p (.v tI) (.p (.w 9 .str 1) (.m tI tI 2)))))], lo := 1, nx := 3 }
abbrev O0h_ : List Shape := [{ sl := [(0, (.sz .str))], ob := [(0, (.p (.v tI) (.p (.v tI) (.p (.w 9 .str 4) (.m tI tI 5)))))], lo := 4, nx := 6 }]
noncomputable def c0h_ : Con := conS I0h_ O0h_ fun x => space_Space_Keys_m x.2.1.1 x.2.1.2.1 x.2.1.2.2.1.1 x.2.1.2.2.1.2 x.2.1.2.2.2
noncomputable def x0h_ : Cx := { ti := ti, con := [(43, c_sClone)], fns := [], un := 6 }
theorem xok0h_ : CxOk Try.prog x0h_ := CxOk.of mixed ti_ok (fc ⟨con_sClone, fz⟩) fz
theorem fn0h_ : FnOk Try.prog 33 Try.f33 [] := ⟨Try.func33, Try.call33, lps_nil⟩
theorem e0h_ (s : Int) (s1 : Int) (ns : Nat) (s2 : Nat → ByteArray) (s3 : List (Int × Int)) : bodyK x0h_ [] (denF x0h_ 8) Try.f33 ((mkVals I0h_.sl (show I0h_.X from (((), ()), ((s, (s1, ((ns, s2), s3))), ()))).1).map .v) (shHp I0h_ (((), ()), ((s, (s1, ((ns, s2), s3))), ()))) I0h_.nx (kOutS 1 O0h_) = space_Space_Keys_m' s s1 ns s2 s3 := by kernel_rfl
theorem con0h_ : ConOk Try.prog 33 c0h_ := conS_ok xok0h_ 8 fn0h_ 1 I0h_ O0h_ _ (by decide) (fun x => by rw [space_Space_Keys_m_eq]; exact e0h_ x.2.1.1 x.2.1.2.1 x.2.1.2.2.1.1 x.2.1.2.2.1.2 x.2.1.2.2.2)
noncomputable def c0i_ : Con := conV false [(.ptr (.pair tI (.pair tI (.pair (.sl .str) .mp))))] [(.sl .str)] fun x => space_Space_Keys x.1
noncomputable def x0i_ : Cx := { ti := ti, con := [(43, c_sClone)], fns := [], un := 6 }
theorem xok0i_ : CxOk Try.prog x0i_ := CxOk.of mixed ti_ok (fc ⟨con_sClone, fz⟩) fz
theorem fn0i_ : FnOk Try.prog 33 Try.f33 [] := ⟨Try.func33, Try.call33, lps_nil⟩
theorem e0i_ (s : (Option (Int × (Int × ((SlV ByteArray) × (Option Nat)))))) : bodyK x0i_ [] (denF x0i_ 8) Try.f33 (domV [(.ptr (.pair tI (.pair tI (.pair (.sl .str) .mp))))] (s, ())) [] 0 (kOut [(.sl .str)]) = space_Space_Keys' s := by cases s <;> kernel_rfl
theorem con0i_ : ConOk Try.prog 33 c0i_ := con_ok xok0i_ 8 fn0i_ false [(.ptr (.pair tI (.pair tI (.pair (.sl .str) .mp))))] [(.sl .str)] _ (by decide) (fun x => by rw [space_Space_Keys_eq]; exact e0i_ x.1)
abbrev S0j_0 : Shape := { sl := [(2, (.sz .str)), (10, (.c ⟨(.ptr (.pair tI (.pair tI (.pair (.sl .str) .mp)))), .nil⟩)), (pv 12 tI), (33, (.sz tI)), (pv 34 tI), (pv 35 tI)], ob := [], lo := 0, nx := 0 }
abbrev E0j_0 : List Ex := [(.ret, { sl := [(8, (.c ⟨(.ptr (.pair tI (.pair tI (.pair (.sl .str) .mp)))), .nil⟩)), (pv 9 tI)], ob := [], lo := 0, nx := 0 }), (.normal, { sl := [(2, (.sz .str)), (10, (.c ⟨(.ptr (.pair tI (.pair tI (.pair (.sl .str) .mp)))), .nil⟩)), (pv 12 tI)], ob := [], lo := 0, nx := 0 })]
noncomputable def L0j_0 : Code := loopIn (bodyOf Try.f35) 0
noncomputable def P0j_0 : Lp := lpOf S0j_0 E0j_0 95 R_space_Of_m_0
abbrev S0j_2 : Shape := { sl := [(2, (.sz .str)), (10, (.c ⟨(.ptr (.pair tI (.pair tI (.pair (.sl .str) .mp)))), .nil⟩)), (pv 12 tI), (61, (.sz .str)), (pv 62 tI), (pv 63 tI)], ob := [], lo := 0, nx := 0 }
abbrev E0j_2 : List Ex := [(.ret, { sl := [(8, (.c ⟨(.ptr (.pair tI (.pair tI (.pair (.sl .str) .mp)))), .nil⟩)), (pv 9 tI)], ob := [], lo := 0, nx := 0 }), (.normal, { sl := [(2, (.sz .str)), (10, (.c ⟨(.ptr (.pair tI (.pair tI (.pair (.sl .str) .mp)))), .nil⟩)), (pv 12 tI)], ob := [], lo := 0, nx := 0 })]
noncomputable def L0j_2 : Code := loopIn (bodyOf Try.f35) 2
noncomputable def P0j_2 : Lp := lpOf S0j_2 E0j_2 95 R_space_Of_m_2
abbrev S0j_0_v1 : Shape := { sl := [(2, (.sz .str)), (pc 10 (.pair tI (.pair tI (.pair (.sl .str) .mp))) 1), (pv 12 tI), (33, (.sz tI)), (pv 34 tI), (pv 35 tI)], ob := [(1, (.p (.v tI) (.p (.v tI) (.p (.w 9 .str 4) (.m tI tI 5)))))], lo := 4, nx := 6 }
abbrev E0j_0_v1 : List Ex := [(.ret, { sl := [(8, (.c ⟨(.ptr (.pair tI (.pair tI (.pair (.sl .str) .mp)))), .nil⟩)), (pv 9 tI)], ob := [], lo := 6, nx := 6 }), (.normal, { sl := [(2, (.sz .str)), (pc 10 (.pair tI (.pair tI (.pair (.sl .str) .mp))) 1), (pv 12 tI)], ob := [(1, (.p (.v tI) (.p (.v tI) (.p (.w 9 .str 6) (.m tI tI 7)))))], lo := 6, nx := 8 })]
noncomputable def L0j_0_v1 : Code := loopIn (bodyOf Try.f35) 0
noncomputable def P0j_0_v1 : Lp := lpOf S0j_0_v1 E0j_0_v1 95 R_space_Of_m_0_v1
abbrev S0j_2_v1 : Shape := { sl := [(2, (.sz .str)), (pc 10 (.pair tI (.pair tI (.pair (.sl .str) .mp))) 1), (pv 12 tI), (61, (.sz .str)), (pv 62 tI), (pv 63 tI)], ob := [(1, (.p (.v tI) (.p (.v tI) (.p (.w 9 .str 8) (.m tI tI 9)))))], lo := 8, nx := 10 }
abbrev E0j_2_v1 : List Ex := [(.ret, { sl := [(8, (.c ⟨(.ptr (.pair tI (.pair tI (.pair (.sl .str) .mp)))), .nil⟩)), (pv 9 tI)], ob := [], lo := 10, nx := 10 }), (.normal, { sl := [(2, (.sz .str)), (pc 10 (.pair tI (.pair tI (.pair (.sl .str) .mp))) 1), (pv 12 tI)], ob := [(1, (.p (.v tI) (.p (.v tI) (.p (.w 9 .str 10) (.m tI tI 11)))))], lo := 10, nx := 12 })]
noncomputable def L0j_2_v1 : Code := loopIn (bodyOf Try.f35) 2
noncomputable def P0j_2_v1 : Lp := lpOf S0j_2_v1 E0j_2_v1 95 R_space_Of_m_2_v1
abbrev I0j_ : Shape := { sl := [(pv 0 tI), (pv 1 tI), (2, (.sz .str)), (3, (.sz tI))], ob := [], lo := 0, nx := 0 }
abbrev O0j_ : List Shape := [{ sl := [(0, (.c ⟨(.ptr (.pair tI (.pair tI (.pair (.sl .str) .mp)))), .nil⟩)), (pv 1 tI)], ob := [], lo := 12, nx := 12 }, { sl := [(pc 0 (.pair tI (.pair tI (.pair (.sl .str) .mp))) 1), (pv 1 tI)], ob := [(1, (.p (.v tI) (.p (.v tI) (.p (.w 9 .str 13) (.m tI tI 14)))))], lo := 13, nx := 15 }]
noncomputable def c0j_ : Con := conS I0j_ O0j_ fun x => space_Of_m x.1.1 x.1.2.1 x.1.2.2.1.1 x.1.2.2.1.2 x.1.2.2.2.1.1 x.1.2.2.2.1.2
noncomputable def x0j_ : Cx := { ti := ti, con := [(23, c06_), (30, c_sQuota), (40, c05_), (43, c_sClone)], fns := [], un := 6 }
theorem xok0j_ : CxOk Try.prog x0j_ := CxOk.of mixed ti_ok (fc ⟨con06_, fc ⟨con_sQuota, fc ⟨con05_, fc ⟨con_sClone, fz⟩⟩⟩⟩) fz
theorem r0j_0 (x : S0j_0.X) : denC x0j_ [] (denF x0j_ 8) L0j_0 (S0j_0.mkS 95 x) (kRound 0 S0j_0 E0j_0) = R_space_Of_m_0 x := by kernel_rfl
theorem l0j_0 : LpOk Try.prog 0 (.loop L0j_0) P0j_0 := lpOf_ok xok0j_ 8 (lps_nil) S0j_0 E0j_0 95 R_space_Of_m_0 (by decide) r0j_0
theorem r0j_2 (x : S0j_2.X) : denC x0j_ [] (denF x0j_ 8) L0j_2 (S0j_2.mkS 95 x) (kRound 2 S0j_2 E0j_2) = R_space_Of_m_2 x := by kernel_rfl
theorem l0j_2 : LpOk Try.prog 2 (.loop L0j_2) P0j_2 := lpOf_ok xok0j_ 8 (lps_nil) S0j_2 E0j_2 95 R_space_Of_m_2 (by decide) r0j_2
theorem r0j_0_v1 (x : S0j_0_v1.X) : denC x0j_ [] (denF x0j_ 8) L0j_0_v1 (S0j_0_v1.mkS 95 x) (kRound 0 S0j_0_v1 E0j_0_v1) = R_space_Of_m_0_v1 x := by kernel_rfl
theorem l0j_0_v1 : LpOk Try.prog 0 (.loop L0j_0_v1) P0j_0_v1 := lpOf_ok xok0j_ 8 (lps_nil) S0j_0_v1 E0j_0_v1 95 R_space_Of_m_0_v1 (by decide) r0j_0_v1
theorem r0j_2_v1 (x : S0j_2_v1.X) : denC x0j_ [] (denF x0j_ 8) L0j_2_v1 (S0j_2_v1.mkS 95 x) (kRound 2 S0j_2_v1 E0j_2_v1) = R_space_Of_m_2_v1 x := by kernel_rfl
theorem l0j_2_v1 : LpOk Try.prog 2 (.loop L0j_2_v1) P0j_2_v1 := lpOf_ok xok0j_ 8 (lps_nil) S0j_2_v1 E0j_2_v1 95 R_space_Of_m_2_v1 (by decide) r0j_2_v1
theorem fn0j_ : FnOk Try.prog 35 Try.f35 [(0, (lpOr S0j_0 P0j_0 P0j_0_v1)), (2, (lpOr S0j_2 P0j_2 P0j_2_v1))] := ⟨Try.func35, Try.call35, lps_of (by kernel_rfl) (lps_one (lpOr_ok l0j_0 l0j_0_v1) (by kernel_rfl) (lps_one (lpOr_ok l0j_2 l0j_2_v1) (by kernel_rfl) fz))⟩
theorem e0j_ (servers : Int) (clients : Int) (nkeys : Nat) (keys : Nat → ByteArray) (nused : Nat) (used : Nat → Int) : bodyK x0j_ [(0, (lpOr S0j_0 P0j_0 P0j_0_v1)), (2, (lpOr S0j_2 P0j_2 P0j_2_v1))] (denF x0j_ 8) Try.f35 ((mkVals I0j_.sl (show I0j_.X from ((servers, (clients, ((nkeys, keys), ((nused, used), ())))), ())).1).map .v) (shHp I0j_ ((servers, (clients, ((nkeys, keys), ((nused, used), ())))), ())) I0j_.nx (kOutS 2 O0j_) = space_Of_m' servers clients nkeys keys nused used := by kernel_rfl
theorem con0j_ : ConOk Try.prog 35 c0j_ := conS_ok xok0j_ 8 fn0j_ 2 I0j_ O0j_ _ (by decide) (fun x => by rw [space_Of_m_eq]; exact e0j_ x.1.1 x.1.2.1 x.1.2.2.1.1 x.1.2.2.1.2 x.1.2.2.2.1.1 x.1.2.2.2.1.2)
end Go.Proofs.Ytejjdkhjdcjbbaa
