/-
  The functions of a package are the plain ones.
-/
import Derived.Test.YtejjdkhjdcjbbaaEqA
import Derived.Test.YtejjdkhjdcjbbaaDenK
import Derived.Test.YtejjdkhjdcjbbaaLib
import Derived.Test.YtejjdkhjdcjbbaaDenF
import Derived.Test.YtejjdkhjdcjbbaaPspace
import Derived.Test.YtejjdkhjdcjbbaaEwire
set_option linter.unusedVariables false
set_option linter.unusedSimpArgs false
set_option maxRecDepth 100000
set_option maxHeartbeats 0
namespace Go.Pl
end Go.Pl
open Go Go.Den Go.Pl
namespace Go.Proofs.Ytejjdkhjdcjbbaa
abbrev I07_ : Shape := { sl := [(pv 0 tI), (pv 1 tI)], ob := [], lo := 0, nx := 0 }
abbrev O07_ : List Shape := [{ sl := [(0, (.c ⟨(.ptr (.pair tI (.pair tI (.pair (.sl .str) .mp)))), .nil⟩)), (pv 1 tI)], ob := [], lo := 0, nx := 0 }, { sl := [(pc 0 (.pair tI (.pair tI (.pair (.sl .str) .mp))) 1), (pv 1 tI)], ob := [(1, (.p (.v tI) (.p (.v tI) (.p (.w 9 .str 2) (.m tI tI 3)))))], lo := 2, nx := 4 }]
noncomputable def c07_ : Con := conS I07_ O07_ fun x => space_New_m x.1.1 x.1.2.1
noncomputable def x07_ : Cx := { ti := ti, con := [], fns := [], un := 6 }
theorem xok07_ : CxOk Try.prog x07_ := CxOk.of mixed ti_ok fz fz
theorem fn07_ : FnOk Try.prog 23 Try.f23 [] := ⟨Try.func23, Try.call23, lps_nil⟩
theorem e07_ (servers : Int) (clients : Int) : bodyK x07_ [] (denF x07_ 8) Try.f23 ((mkVals I07_.sl (show I07_.X from ((servers, (clients, ())), ())).1).map .v) (shHp I07_ ((servers, (clients, ())), ())) I07_.nx (kOutS 2 O07_) = space_New_m' servers clients := by kernel_rfl
theorem con07_ : ConOk Try.prog 23 c07_ := conS_ok xok07_ 8 fn07_ 2 I07_ O07_ _ (by decide) (fun x => by rw [space_New_m_eq]; exact e07_ x.1.1 x.1.2.1)
noncomputable def c08_ : Con := conV true [.str, .str] [tI] fun x => space_Space_find_1 x.1 x.2.1
noncomputable def x08_ : Cx := { ti := ti, con := [(47, c_strCompare)], fns := [], un := 6 }
theorem xok08_ : CxOk Try.prog x08_ := CxOk.of mixed ti_ok (fc ⟨con_strCompare, fz⟩) fz
theorem fn08_ : FnOk Try.prog 46 Try.f46 [] := ⟨Try.func46, Try.call46, lps_nil⟩
theorem e08_ (a : ByteArray) (b : ByteArray) : bodyK x08_ [] (denF x08_ 8) Try.f46 (domV [.str, .str] (a, b, ())) [] 0 (kOut [tI]) = space_Space_find_1' a b := by kernel_rfl
theorem con08_ : ConOk Try.prog 46 c08_ := con_ok xok08_ 8 fn08_ true [.str, .str] [tI] _ (by decide) (fun x => by rw [space_Space_find_1_eq]; exact e08_ x.1 x.2.1)
abbrev S09_0 : Shape := { sl := [(0, (.sz .str)), (1, (.v .str)), (2, (.c ⟨.fn, (.mk 46 [])⟩)), (pv 8 tI), (pv 9 tI), (pv 10 tI)], ob := [], lo := 0, nx := 0 }
abbrev E09_0 : List Ex := [(.normal, { sl := [(0, (.sz .str)), (1, (.v .str)), (2, (.c ⟨.fn, (.mk 46 [])⟩)), (pv 8 tI), (pv 9 tI)], ob := [], lo := 0, nx := 0 })]
noncomputable def L09_0 : Code := loopIn (bodyOf Try.f45) 0
noncomputable def P09_0 : Lp := lpOf S09_0 E09_0 49 R_slices_BinarySearchFunc___string_string_string__0
noncomputable def c09_ : Con := conF 46 [(.sl .str), .str] [tI, .bool] fun x => slices_BinarySearchFunc___string_string_string_ x.1.1 x.1.2 x.2.1
noncomputable def x09_ : Cx := { ti := ti, con := [(46, c08_)], fns := [], un := 6 }
theorem xok09_ : CxOk Try.prog x09_ := CxOk.of mixed ti_ok (fc ⟨con08_, fz⟩) fz
theorem r09_0 (x : S09_0.X) : denC x09_ [] (denF x09_ 8) L09_0 (S09_0.mkS 49 x) (kRound 0 S09_0 E09_0) = R_slices_BinarySearchFunc___string_string_string__0 x := by kernel_rfl
theorem l09_0 : LpOk Try.prog 0 (.loop L09_0) P09_0 := lpOf_ok xok09_ 8 (lps_nil) S09_0 E09_0 49 R_slices_BinarySearchFunc___string_string_string__0 (by decide) r09_0
theorem fn09_ : FnOk Try.prog 45 Try.f45 [(0, P09_0)] := ⟨Try.func45, Try.call45, lps_of (by kernel_rfl) (lps_one l09_0 (by kernel_rfl) fz)⟩
theorem e09_ (nx : Nat) (x : Nat → ByteArray) (target : ByteArray) : bodyK x09_ [(0, P09_0)] (denF x09_ 8) Try.f45 (domV [(.sl .str), .str] ((nx, x), target, ()) ++ [.v ⟨.fn, .mk 46 []⟩]) [] 0 (kOut [tI, .bool]) = slices_BinarySearchFunc___string_string_string_' nx x target := by kernel_rfl
theorem con09_ : ConOk Try.prog 45 c09_ := conF_ok xok09_ 8 fn09_ 46 [(.sl .str), .str] [tI, .bool] _ (by decide) (fun x => by rw [slices_BinarySearchFunc___string_string_string__eq]; exact e09_ x.1.1 x.1.2 x.2.1)
abbrev I0a_ : Shape := { sl := [(pc 0 (.pair tI (.pair tI (.pair (.sl .str) .mp))) 0), (1, (.v .str))], ob := [(0, (.p (.v tI) (.p (.v tI) (.p (.w 9 .str 1) (.m tI tI 2)))))], lo := 1, nx := 3 }
abbrev O0a_ : List Shape := [{ sl := [(pv 0 tI), (1, (.v .bool))], ob := [(0, (.p (.v tI) (.p (.v tI) (.p (.w 9 .str 3) (.m tI tI 4)))))], lo := 3, nx := 5 }]
noncomputable def c0a_ : Con := conS I0a_ O0a_ fun x => space_Space_find_m x.1.2.1 x.2.1.1 x.2.1.2.1 x.2.1.2.2.1.1 x.2.1.2.2.1.2 x.2.1.2.2.2
noncomputable def x0a_ : Cx := { ti := ti, con := [(45, c09_)], fns := [], un := 6 }
theorem xok0a_ : CxOk Try.prog x0a_ := CxOk.of mixed ti_ok (fc ⟨con09_, fz⟩) fz
theorem fn0a_ : FnOk Try.prog 41 Try.f41 [] := ⟨Try.func41, Try.call41, lps_nil⟩
theorem e0a_ (key : ByteArray) (s : Int) (s1 : Int) (ns : Nat) (s2 : Nat → ByteArray) (s3 : List (Int × Int)) : bodyK x0a_ [] (denF x0a_ 8) Try.f41 ((mkVals I0a_.sl (show I0a_.X from (((), (key, ())), ((s, (s1, ((ns, s2), s3))), ()))).1).map .v) (shHp I0a_ (((), (key, ())), ((s, (s1, ((ns, s2), s3))), ()))) I0a_.nx (kOutS 2 O0a_) = space_Space_find_m' key s s1 ns s2 s3 := by kernel_rfl
theorem con0a_ : ConOk Try.prog 41 c0a_ := conS_ok xok0a_ 8 fn0a_ 2 I0a_ O0a_ _ (by decide) (fun x => by rw [space_Space_find_m_eq]; exact e0a_ x.1.2.1 x.2.1.1 x.2.1.2.1 x.2.1.2.2.1.1 x.2.1.2.2.1.2 x.2.1.2.2.2)
noncomputable def c0b_ : Con := conV true [(.ptr (.pair tI (.pair tI (.pair (.sl .str) .mp)))), .str] [tI, .bool] fun x => space_Space_find x.1 x.2.1
noncomputable def x0b_ : Cx := { ti := ti, con := [(45, c09_)], fns := [], un := 6 }
theorem xok0b_ : CxOk Try.prog x0b_ := CxOk.of mixed ti_ok (fc ⟨con09_, fz⟩) fz
theorem fn0b_ : FnOk Try.prog 41 Try.f41 [] := ⟨Try.func41, Try.call41, lps_nil⟩
theorem e0b_ (s : (Option (Int × (Int × ((SlV ByteArray) × (Option Nat)))))) (key : ByteArray) : bodyK x0b_ [] (denF x0b_ 8) Try.f41 (domV [(.ptr (.pair tI (.pair tI (.pair (.sl .str) .mp)))), .str] (s, key, ())) [] 0 (kOut [tI, .bool]) = space_Space_find' s key := by cases s <;> kernel_rfl
theorem con0b_ : ConOk Try.prog 41 c0b_ := con_ok xok0b_ 8 fn0b_ true [(.ptr (.pair tI (.pair tI (.pair (.sl .str) .mp)))), .str] [tI, .bool] _ (by decide) (fun x => by rw [space_Space_find_eq]; exact e0b_ x.1 x.2.1)
abbrev I0c_ : Shape := { sl := [(pc 0 (.pair tI (.pair tI (.pair (.sl .str) .mp))) 0), (1, (.v .str)), (pv 2 tI)], ob := [(0, (.p (.v tI) (.p (.v tI) (.p (.w 9 .str 1) (.m tI tI 2)))))], lo := 1, nx := 3 }
abbrev O0c_ : List Shape := [{ sl := [(pv 0 tI), (1, (.v .bool)), (pv 2 tI)], ob := [(0, (.p (.v tI) (.p (.v tI) (.p (.w 9 .str 9) (.m tI tI 10)))))], lo := 9, nx := 11 }]
noncomputable def c0c_ : Con := conS I0c_ O0c_ fun x => space_Space_Open_m x.1.2.1 x.1.2.2.1 x.2.1.1 x.2.1.2.1 x.2.1.2.2.1.1 x.2.1.2.2.1.2 x.2.1.2.2.2
noncomputable def x0c_ : Cx := { ti := ti, con := [(40, c06_), (30, c_sQuota), (41, conIf 0 c0a_ c0b_), (42, c_sInsert)], fns := [], un := 6 }
theorem xok0c_ : CxOk Try.prog x0c_ := CxOk.of mixed ti_ok (fc ⟨con06_, fc ⟨con_sQuota, fc ⟨conIf_ok con0a_ con0b_, fc ⟨con_sInsert, fz⟩⟩⟩⟩) fz
theorem fn0c_ : FnOk Try.prog 25 Try.f25 [] := ⟨Try.func25, Try.call25, lps_nil⟩
theorem e0c_ (key : ByteArray) (end_ : Int) (s : Int) (s1 : Int) (ns : Nat) (s2 : Nat → ByteArray) (s3 : List (Int × Int)) : bodyK x0c_ [] (denF x0c_ 8) Try.f25 ((mkVals I0c_.sl (show I0c_.X from (((), (key, (end_, ()))), ((s, (s1, ((ns, s2), s3))), ()))).1).map .v) (shHp I0c_ (((), (key, (end_, ()))), ((s, (s1, ((ns, s2), s3))), ()))) I0c_.nx (kOutS 3 O0c_) = space_Space_Open_m' key end_ s s1 ns s2 s3 := by kernel_rfl
theorem con0c_ : ConOk Try.prog 25 c0c_ := conS_ok xok0c_ 8 fn0c_ 3 I0c_ O0c_ _ (by decide) (fun x => by rw [space_Space_Open_m_eq]; exact e0c_ x.1.2.1 x.1.2.2.1 x.2.1.1 x.2.1.2.1 x.2.1.2.2.1.1 x.2.1.2.2.1.2 x.2.1.2.2.2)
abbrev I0d_ : Shape := { sl := [(pc 0 (.pair tI (.pair tI (.pair (.sl .str) .mp))) 0), (1, (.v .str))], ob := [(0, (.p (.v tI) (.p (.v tI) (.p (.w 9 .str 1) (.m tI tI 2)))))], lo := 1, nx := 3 }
abbrev O0d_ : List Shape := [{ sl := [(pv 0 tI), (1, (.v .bool))], ob := [(0, (.p (.v tI) (.p (.v tI) (.p (.w 9 .str 7) (.m tI tI 8)))))], lo := 7, nx := 9 }]
noncomputable def c0d_ : Con := conS I0d_ O0d_ fun x => space_Space_Find_m x.1.2.1 x.2.1.1 x.2.1.2.1 x.2.1.2.2.1.1 x.2.1.2.2.1.2 x.2.1.2.2.2
noncomputable def x0d_ : Cx := { ti := ti, con := [(41, conIf 0 c0a_ c0b_)], fns := [], un := 6 }
theorem xok0d_ : CxOk Try.prog x0d_ := CxOk.of mixed ti_ok (fc ⟨conIf_ok con0a_ con0b_, fz⟩) fz
theorem fn0d_ : FnOk Try.prog 26 Try.f26 [] := ⟨Try.func26, Try.call26, lps_nil⟩
theorem e0d_ (key : ByteArray) (s : Int) (s1 : Int) (ns : Nat) (s2 : Nat → ByteArray) (s3 : List (Int × Int)) : bodyK x0d_ [] (denF x0d_ 8) Try.f26 ((mkVals I0d_.sl (show I0d_.X from (((), (key, ())), ((s, (s1, ((ns, s2), s3))), ()))).1).map .v) (shHp I0d_ (((), (key, ())), ((s, (s1, ((ns, s2), s3))), ()))) I0d_.nx (kOutS 2 O0d_) = space_Space_Find_m' key s s1 ns s2 s3 := by kernel_rfl
theorem con0d_ : ConOk Try.prog 26 c0d_ := conS_ok xok0d_ 8 fn0d_ 2 I0d_ O0d_ _ (by decide) (fun x => by rw [space_Space_Find_m_eq]; exact e0d_ x.1.2.1 x.2.1.1 x.2.1.2.1 x.2.1.2.2.1.1 x.2.1.2.2.1.2 x.2.1.2.2.2)
noncomputable def c0e_ : Con := conV true [(.ptr (.pair tI (.pair tI (.pair (.sl .str) .mp)))), .str] [tI, .bool] fun x => space_Space_Find x.1 x.2.1
noncomputable def x0e_ : Cx := { ti := ti, con := [(41, conIf 0 c0a_ c0b_)], fns := [], un := 6 }
theorem xok0e_ : CxOk Try.prog x0e_ := CxOk.of mixed ti_ok (fc ⟨conIf_ok con0a_ con0b_, fz⟩) fz
theorem fn0e_ : FnOk Try.prog 26 Try.f26 [] := ⟨Try.func26, Try.call26, lps_nil⟩
theorem e0e_ (s : (Option (Int × (Int × ((SlV ByteArray) × (Option Nat)))))) (key : ByteArray) : bodyK x0e_ [] (denF x0e_ 8) Try.f26 (domV [(.ptr (.pair tI (.pair tI (.pair (.sl .str) .mp)))), .str] (s, key, ())) [] 0 (kOut [tI, .bool]) = space_Space_Find' s key := by cases s <;> kernel_rfl
theorem con0e_ : ConOk Try.prog 26 c0e_ := con_ok xok0e_ 8 fn0e_ true [(.ptr (.pair tI (.pair tI (.pair (.sl .str) .mp)))), .str] [tI, .bool] _ (by decide) (fun x => by rw [space_Space_Find_eq]; exact e0e_ x.1 x.2.1)
abbrev I0f_ : Shape := { sl := [(pc 0 (.pair tI (.pair tI (.pair (.sl .str) .mp))) 0), (pv 1 tI)], ob := [(0, (.p (.v tI) (.p (.v tI) (.p (.w 9 .str 1) (.m tI tI 2)))))], lo := 1, nx := 3 }
abbrev O0f_ : List Shape := [{ sl := [(pv 0 tI)], ob := [(0, (.p (.v tI) (.p (.v tI) (.p (.w 9 .str 3) (.m tI tI 4)))))], lo := 3, nx := 5 }]
noncomputable def c0f_ : Con := conS I0f_ O0f_ fun x => space_Space_Used_m x.1.2.1 x.2.1.1 x.2.1.2.1 x.2.1.2.2.1.1 x.2.1.2.2.1.2 x.2.1.2.2.2
noncomputable def x0f_ : Cx := { ti := ti, con := [], fns := [], un := 6 }
theorem xok0f_ : CxOk Try.prog x0f_ := CxOk.of mixed ti_ok fz fz
theorem fn0f_ : FnOk Try.prog 28 Try.f28 [] := ⟨Try.func28, Try.call28, lps_nil⟩
theorem e0f_ (end_ : Int) (s : Int) (s1 : Int) (ns : Nat) (s2 : Nat → ByteArray) (s3 : List (Int × Int)) : bodyK x0f_ [] (denF x0f_ 8) Try.f28 ((mkVals I0f_.sl (show I0f_.X from (((), (end_, ())), ((s, (s1, ((ns, s2), s3))), ()))).1).map .v) (shHp I0f_ (((), (end_, ())), ((s, (s1, ((ns, s2), s3))), ()))) I0f_.nx (kOutS 1 O0f_) = space_Space_Used_m' end_ s s1 ns s2 s3 := by kernel_rfl
theorem con0f_ : ConOk Try.prog 28 c0f_ := conS_ok xok0f_ 8 fn0f_ 1 I0f_ O0f_ _ (by decide) (fun x => by rw [space_Space_Used_m_eq]; exact e0f_ x.1.2.1 x.2.1.1 x.2.1.2.1 x.2.1.2.2.1.1 x.2.1.2.2.1.2 x.2.1.2.2.2)
noncomputable def c0g_ : Con := conV true [(.ptr (.pair tI (.pair tI (.pair (.sl .str) .mp)))), tI] [tI] fun x => space_Space_Used x.1 x.2.1
noncomputable def x0g_ : Cx := { ti := ti, con := [], fns := [], un := 6 }
theorem xok0g_ : CxOk Try.prog x0g_ := CxOk.of mixed ti_ok fz fz
theorem fn0g_ : FnOk Try.prog 28 Try.f28 [] := ⟨Try.func28, Try.call28, lps_nil⟩
theorem e0g_ (s : (Option (Int × (Int × ((SlV ByteArray) × (Option Nat)))))) (end_ : Int) : bodyK x0g_ [] (denF x0g_ 8) Try.f28 (domV [(.ptr (.pair tI (.pair tI (.pair (.sl .str) .mp)))), tI] (s, end_, ())) [] 0 (kOut [tI]) = space_Space_Used' s end_ := by cases s <;> kernel_rfl
theorem con0g_ : ConOk Try.prog 28 c0g_ := con_ok xok0g_ 8 fn0g_ true [(.ptr (.pair tI (.pair tI (.pair (.sl .str) .mp)))), tI] [tI] _ (by decide) (fun x => by rw [space_Space_Used_eq]; exact e0g_ x.1 x.2.1)
abbrev I0h_ : Shape := { sl := [(pc 0 (.pair tI (.pair tI (.pair (.sl .str) .mp))) 0)], ob := [(0, (.p (.v tI) (.p (.v tI) (.p (.w 9 .str 1) (.m tI tI 2)))))], lo := 1, nx := 3 }
abbrev O0h_ : List Shape := [{ sl := [(0, (.sz .str))], ob := [(0, (.p (.v tI) (.p (.v tI) (.p (.w 9 .str 4) (.m tI tI 5)))))], lo := 4, nx := 6 }]
noncomputable def c0h_ : Con := conS I0h_ O0h_ fun x => space_Space_Keys_m x.2.1.1 x.2.1.2.1 x.2.1.2.2.1.1 x.2.1.2.2.1.2 x.2.1.2.2.2
noncomputable def x0h_ : Cx := { ti := ti, con := [(43, c_sClone)], fns := [], un := 6 }
theorem xok0h_ : CxOk Try.prog x0h_ := CxOk.of mixed ti_ok (fc ⟨con_sClone, fz⟩) fz
theorem fn0h_ : FnOk Try.prog 33 Try.f33 [] := ⟨Try.func33, Try.call33, lps_nil⟩
theorem e0h_ (s : Int) (s1 : Int) (ns : Nat) (s2 : Nat → ByteArray) (s3 : List (Int × Int)) : bodyK x0h_ [] (denF x0h_ 8) Try.f33 ((mkVals I0h_.sl (show I0h_.X from (((), ()), ((s, (s1, ((ns, s2), s3))), ()))).1).map .v) (shHp I0h_ (((), ()), ((s, (s1, ((ns, s2), s3))), ()))) I0h_.nx (kOutS 1 O0h_) = space_Space_Keys_m' s s1 ns s2 s3 := by kernel_rfl
theorem con0h_ : ConOk Try.prog 33 c0h_ := conS_ok xok0h_ 8 fn0h_ 1 I0h_ O0h_ _ (by decide) (fun x => by rw [space_Space_Keys_m_eq]; exact e0h_ x.2.1.1 x.2.1.2.1 x.2.1.2.2.1.1 x.2.1.2.2.1.2 x.2.1.2.2.2)
noncomputable def c0i_ : Con := conV false [(.ptr (.pair tI (.pair tI (.pair (.sl .str) .mp))))] [(.sl .str)] fun x => space_Space_Keys x.1
noncomputable def x0i_ : Cx := { ti := ti, con := [(43, c_sClone)], fns := [], un := 6 }
theorem xok0i_ : CxOk Try.prog x0i_ := CxOk.of mixed ti_ok (fc ⟨con_sClone, fz⟩) fz
theorem fn0i_ : FnOk Try.prog 33 Try.f33 [] := ⟨Try.func33, Try.call33, lps_nil⟩
theorem e0i_ (s : (Option (Int × (Int × ((SlV ByteArray) × (Option Nat)))))) : bodyK x0i_ [] (denF x0i_ 8) Try.f33 (domV [(.ptr (.pair tI (.pair tI (.pair (.sl .str) .mp))))] (s, ())) [] 0 (kOut [(.sl .str)]) = space_Space_Keys' s := by cases s <;> kernel_rfl
theorem con0i_ : ConOk Try.prog 33 c0i_ := con_ok xok0i_ 8 fn0i_ false [(.ptr (.pair tI (.pair tI (.pair (.sl .str) .mp))))] [(.sl .str)] _ (by decide) (fun x => by rw [space_Space_Keys_eq]; exact e0i_ x.1)
end Go.Proofs.Ytejjdkhjdcjbbaa
