/-
  The functions of a package are the plain ones.
-/
import Derived.Test.YtkhhonbkgckjjaaGreatEqA
import Derived.Test.YtkhhonbkgckjjaaGreatDenF
import Derived.Test.YtkhhonbkgckjjaaGreatPseek
import Derived.Test.YtkhhonbkgckjjaaGreatEdrbg
set_option linter.unusedVariables false
set_option linter.unusedSimpArgs false
set_option maxRecDepth 100000
set_option maxHeartbeats 0
namespace Go.Pl
end Go.Pl
open Go Go.Den Go.Pl
namespace Go.Proofs.YtkhhonbkgckjjaaGreat
abbrev S20_0 : Shape := { sl := [(pv 4 tI)], ob := [], lo := 0, nx := 0 }
abbrev E20_0 : List Ex := [(.ret, { sl := [(pv 2 tI), (pv 3 tI)], ob := [], lo := 0, nx := 0 }), (.normal, { sl := [], ob := [], lo := 0, nx := 0 })]
noncomputable def L20_0 : Code := loopIn (bodyOf Tryz.f7) 0
noncomputable def P20_0 : Lp := lpOf S20_0 E20_0 17 R_seek_First_0
noncomputable def c20_ : Con := conV true [tI] [tI, tI] fun x => seek_First x.1
noncomputable def x20_ : Cx := { ti := ti, con := [(25, c0x_)], fns := [], un := 6 }
theorem xok20_ : CxOk Tryz.prog x20_ := CxOk.of mixed ti_ok (fc ⟨con0x_, fz⟩) fz
theorem r20_0 (x : S20_0.X) : denC x20_ [] (denF x20_ 8) L20_0 (S20_0.mkS 17 x) (kRound 0 S20_0 E20_0) = R_seek_First_0 x := by kernel_rfl
theorem l20_0 : LpOk Tryz.prog 0 (.loop L20_0) P20_0 := lpOf_ok xok20_ 8 (lps_nil) S20_0 E20_0 17 R_seek_First_0 (by decide) r20_0
theorem fn20_ : FnOk Tryz.prog 7 Tryz.f7 [(0, P20_0)] := ⟨Tryz.func7, Tryz.call7, lps_of (by kernel_rfl) (lps_one l20_0 (by kernel_rfl) fz)⟩
theorem e20_ (from_ : Int) : bodyK x20_ [(0, P20_0)] (denF x20_ 8) Tryz.f7 (domV [tI] (from_, ())) [] 0 (kOut [tI, tI]) = seek_First' from_ := by kernel_rfl
theorem con20_ : ConOk Tryz.prog 7 c20_ := con_ok xok20_ 8 fn20_ true [tI] [tI, tI] _ (by decide) (fun x => by rw [seek_First_eq]; exact e20_ x.1)
noncomputable def c21_ : Con := conV true [tN] [tN] fun x => seek_even x.1
noncomputable def x21_ : Cx := { ti := ti, con := [(70, c0b_), (69, c07_)], fns := [], un := 6 }
theorem xok21_ : CxOk Tryz.prog x21_ := CxOk.of mixed ti_ok (fc ⟨con0b_, fc ⟨con07_, fz⟩⟩) fz
theorem fn21_ : FnOk Tryz.prog 29 Tryz.f29 [] := ⟨Tryz.func29, Tryz.call29, lps_nil⟩
theorem e21_ (a : NI) : bodyK x21_ [] (denF x21_ 8) Tryz.f29 (domV [tN] (a, ())) [] 0 (kOut [tN]) = seek_even' a := by kernel_rfl
theorem con21_ : ConOk Tryz.prog 29 c21_ := con_ok xok21_ 8 fn21_ true [tN] [tN] _ (by decide) (fun x => by rw [seek_even_eq]; exact e21_ x.1)
noncomputable def c22_ : Con := conV true [tN, tN] [tN] fun x => seek_above x.1 x.2.1
noncomputable def x22_ : Cx := { ti := ti, con := [(38, c0h_), (32, c06_), (27, c0c_)], fns := [], un := 6 }
theorem xok22_ : CxOk Tryz.prog x22_ := CxOk.of mixed ti_ok (fc ⟨con0h_, fc ⟨con06_, fc ⟨con0c_, fz⟩⟩⟩) fz
theorem fn22_ : FnOk Tryz.prog 30 Tryz.f30 [] := ⟨Tryz.func30, Tryz.call30, lps_nil⟩
theorem e22_ (k : NI) (factor : NI) : bodyK x22_ [] (denF x22_ 8) Tryz.f30 (domV [tN, tN] (k, factor, ())) [] 0 (kOut [tN]) = seek_above' k factor := by kernel_rfl
theorem con22_ : ConOk Tryz.prog 30 c22_ := con_ok xok22_ 8 fn22_ true [tN, tN] [tN] _ (by decide) (fun x => by rw [seek_above_eq]; exact e22_ x.1 x.2.1)
abbrev S23_0 : Shape := { sl := [(pv 1 tI), (pc 2 tN 0), (pc 4 tN 1), (pc 5 tN 2)], ob := [(pv 0 tN), (pv 1 tN), (pv 2 tN)], lo := 4, nx := 4 }
abbrev E23_0 : List Ex := [(.normal, { sl := [(pc 4 tN 1), (pc 5 tN 2)], ob := [(pv 1 tN), (pv 2 tN)], lo := 4, nx := 4 })]
noncomputable def L23_0 : Code := loopIn (bodyOf Tryz.f28) 0
noncomputable def P23_0 : Lp := lpOf S23_0 E23_0 37 R_seek_least_0
noncomputable def c23_ : Con := conV true [tN, tI] [tN] fun x => seek_least x.1 x.2.1
noncomputable def x23_ : Cx := { ti := ti, con := [(32, c06_), (69, c07_), (36, c0g_), (29, c21_), (30, c22_), (26, c05_), (27, c0c_)], fns := [], un := 6 }
theorem xok23_ : CxOk Tryz.prog x23_ := CxOk.of mixed ti_ok (fc ⟨con06_, fc ⟨con07_, fc ⟨con0g_, fc ⟨con21_, fc ⟨con22_, fc ⟨con05_, fc ⟨con0c_, fz⟩⟩⟩⟩⟩⟩⟩) fz
theorem r23_0 (x : S23_0.X) : denC x23_ [] (denF x23_ 8) L23_0 (S23_0.mkS 37 x) (kRound 0 S23_0 E23_0) = R_seek_least_0 x := by kernel_rfl
theorem l23_0 : LpOk Tryz.prog 0 (.loop L23_0) P23_0 := lpOf_ok xok23_ 8 (lps_nil) S23_0 E23_0 37 R_seek_least_0 (by decide) r23_0
theorem fn23_ : FnOk Tryz.prog 28 Tryz.f28 [(0, P23_0)] := ⟨Tryz.func28, Tryz.call28, lps_of (by kernel_rfl) (lps_one l23_0 (by kernel_rfl) fz)⟩
theorem e23_ (factor : NI) (bits : Int) : bodyK x23_ [(0, P23_0)] (denF x23_ 8) Tryz.f28 (domV [tN, tI] (factor, bits, ())) [] 0 (kOut [tN]) = seek_least' factor bits := by kernel_rfl
theorem con23_ : ConOk Tryz.prog 28 c23_ := con_ok xok23_ 8 fn23_ true [tN, tI] [tN] _ (by decide) (fun x => by rw [seek_least_eq]; exact e23_ x.1 x.2.1)
noncomputable def c24_ : Con := conV true [tN, tN] [tI, tI] fun x => seek_witness x.1 x.2.1
noncomputable def x24_ : Cx := { ti := ti, con := [(33, c0m_), (32, c06_), (35, c09_), (37, c0v_), (71, c0z_)], fns := [], un := 6 }
theorem xok24_ : CxOk Tryz.prog x24_ := CxOk.of mixed ti_ok (fc ⟨con0m_, fc ⟨con06_, fc ⟨con09_, fc ⟨con0v_, fc ⟨con0z_, fz⟩⟩⟩⟩⟩) fz
theorem fn24_ : FnOk Tryz.prog 31 Tryz.f31 [] := ⟨Tryz.func31, Tryz.call31, lps_nil⟩
theorem e24_ (n : NI) (factor : NI) : bodyK x24_ [] (denF x24_ 8) Tryz.f31 (domV [tN, tN] (n, factor, ())) [] 0 (kOut [tI, tI]) = seek_witness' n factor := by kernel_rfl
theorem con24_ : ConOk Tryz.prog 31 c24_ := con_ok xok24_ 8 fn24_ true [tN, tN] [tI, tI] _ (by decide) (fun x => by rw [seek_witness_eq]; exact e24_ x.1 x.2.1)
abbrev S25_0 : Shape := { sl := [(pv 1 tI), (pc 3 tN 0), (pc 6 (.pair tN tI) 2), (pc 9 tN 3), (pc 11 (.pair tN tI) 4), (pv 57 tI)], ob := [(pv 0 tN), (pv 2 (.pair tN tI)), (pv 3 tN), (pv 4 (.pair tN tI))], lo := 5, nx := 5 }
abbrev E25_0 : List Ex := [(.normal, { sl := [(pc 6 (.pair tN tI) 2), (pc 11 (.pair tN tI) 4)], ob := [(pv 2 (.pair tN tI)), (pv 4 (.pair tN tI))], lo := 6, nx := 6 })]
noncomputable def L25_0 : Code := loopIn (bodyOf Tryz.f8) 0
noncomputable def P25_0 : Lp := lpOf S25_0 E25_0 89 R_seek_Next_0
noncomputable def c25_ : Con := conV true [tN, tI, tN] [(.pair tN tI), tI] fun x => seek_Next x.1 x.2.1 x.2.2.1
noncomputable def x25_ : Cx := { ti := ti, con := [(26, c05_), (28, c23_), (29, c21_), (27, c0c_), (30, c22_), (31, c24_), (32, c06_)], fns := [], un := 6 }
theorem xok25_ : CxOk Tryz.prog x25_ := CxOk.of mixed ti_ok (fc ⟨con05_, fc ⟨con23_, fc ⟨con21_, fc ⟨con0c_, fc ⟨con22_, fc ⟨con24_, fc ⟨con06_, fz⟩⟩⟩⟩⟩⟩⟩) fz
theorem r25_0 (x : S25_0.X) : denC x25_ [] (denF x25_ 8) L25_0 (S25_0.mkS 89 x) (kRound 0 S25_0 E25_0) = R_seek_Next_0 x := by kernel_rfl
theorem l25_0 : LpOk Tryz.prog 0 (.loop L25_0) P25_0 := lpOf_ok xok25_ 8 (lps_nil) S25_0 E25_0 89 R_seek_Next_0 (by decide) r25_0
theorem fn25_ : FnOk Tryz.prog 8 Tryz.f8 [(0, P25_0)] := ⟨Tryz.func8, Tryz.call8, lps_of (by kernel_rfl) (lps_one l25_0 (by kernel_rfl) fz)⟩
theorem e25_ (factor : NI) (bits : Int) (from_ : NI) : bodyK x25_ [(0, P25_0)] (denF x25_ 8) Tryz.f8 (domV [tN, tI, tN] (factor, bits, from_, ())) [] 0 (kOut [(.pair tN tI), tI]) = seek_Next' factor bits from_ := by kernel_rfl
theorem con25_ : ConOk Tryz.prog 8 c25_ := con_ok xok25_ 8 fn25_ true [tN, tI, tN] [(.pair tN tI), tI] _ (by decide) (fun x => by rw [seek_Next_eq]; exact e25_ x.1 x.2.1 x.2.2.1)
abbrev S26_0 : Shape := { sl := [(pc 4 tN 2), (6, (.pz (.pair tN (.pair tU (.pair tN tN))))), (pc 10 tN 4), (pv 12 tI)], ob := [(pv 2 tN), (pv 4 tN)], lo := 6, nx := 6 }
abbrev E26_0 : List Ex := [(.ret, { sl := [(pc 4 tN 2), (pv 5 tI)], ob := [(pv 2 tN)], lo := 7, nx := 7 }), (.normal, { sl := [(pc 4 tN 2)], ob := [(pv 2 tN)], lo := 6, nx := 6 })]
noncomputable def L26_0 : Code := loopIn (bodyOf Tryz.f10) 0
noncomputable def P26_0 : Lp := lpOf S26_0 E26_0 63 R_seek_Spawn_0
noncomputable def c26_ : Con := conV true [tN, tN] [tN, tI] fun x => seek_Spawn x.1 x.2.1
noncomputable def x26_ : Cx := { ti := ti, con := [(33, c0m_), (32, c06_), (34, c0a_), (35, c09_), (36, c0g_), (37, c0v_)], fns := [], un := 6 }
theorem xok26_ : CxOk Tryz.prog x26_ := CxOk.of mixed ti_ok (fc ⟨con0m_, fc ⟨con06_, fc ⟨con0a_, fc ⟨con09_, fc ⟨con0g_, fc ⟨con0v_, fz⟩⟩⟩⟩⟩⟩) fz
theorem r26_0 (x : S26_0.X) : denC x26_ [] (denF x26_ 8) L26_0 (S26_0.mkS 63 x) (kRound 0 S26_0 E26_0) = R_seek_Spawn_0 x := by kernel_rfl
theorem l26_0 : LpOk Tryz.prog 0 (.loop L26_0) P26_0 := lpOf_ok xok26_ 8 (lps_nil) S26_0 E26_0 63 R_seek_Spawn_0 (by decide) r26_0
theorem fn26_ : FnOk Tryz.prog 10 Tryz.f10 [(0, P26_0)] := ⟨Tryz.func10, Tryz.call10, lps_of (by kernel_rfl) (lps_one l26_0 (by kernel_rfl) fz)⟩
theorem e26_ (p : NI) (q : NI) : bodyK x26_ [(0, P26_0)] (denF x26_ 8) Tryz.f10 (domV [tN, tN] (p, q, ())) [] 0 (kOut [tN, tI]) = seek_Spawn' p q := by kernel_rfl
theorem con26_ : ConOk Tryz.prog 10 c26_ := con_ok xok26_ 8 fn26_ true [tN, tN] [tN, tI] _ (by decide) (fun x => by rw [seek_Spawn_eq]; exact e26_ x.1 x.2.1)
abbrev S27_0 : Shape := { sl := [(pc 0 (.pair .str (.pair .str tI)) 0), (pv 2 tI), (pc 6 tN 1), (pc 10 tN 9), (29, (.w 5 (.int .u8) 11)), (pv 30 tI), (pv 31 tI)], ob := [(pv 0 (.pair .str (.pair .str tI))), (pv 1 tN), (pv 9 tN)], lo := 11, nx := 12 }
abbrev E27_0 : List Ex := [(.normal, { sl := [(pc 0 (.pair .str (.pair .str tI)) 0), (pv 2 tI), (pc 6 tN 1), (pc 10 tN 9)], ob := [(pv 0 (.pair .str (.pair .str tI))), (pv 1 tN), (pv 9 tN)], lo := 12, nx := 12 })]
noncomputable def L27_0 : Code := loopIn (bodyOf Tryz.f45) 0
noncomputable def P27_0 : Lp := lpOf S27_0 E27_0 52 R_seek_number_m_0
abbrev I27_ : Shape := { sl := [(pc 0 (.pair .str (.pair .str tI)) 0), (pv 1 tI), (pv 2 tI)], ob := [(pv 0 (.pair .str (.pair .str tI)))], lo := 1, nx := 1 }
abbrev O27_ : List Shape := [{ sl := [(pv 0 tN), (pv 1 tI)], ob := [(pv 0 (.pair .str (.pair .str tI)))], lo := 12, nx := 12 }]
noncomputable def c27_ : Con := conS I27_ O27_ fun x => seek_number_m x.1.2.1 x.1.2.2.1 x.2.1
noncomputable def x27_ : Cx := { ti := ti, con := [(88, conIf 0 c1w_ c1x_), (69, c07_), (70, c0b_)], fns := [], un := 6 }
theorem xok27_ : CxOk Tryz.prog x27_ := CxOk.of mixed ti_ok (fc ⟨conIf_ok con1w_ con1x_, fc ⟨con07_, fc ⟨con0b_, fz⟩⟩⟩) fz
theorem r27_0 (x : S27_0.X) : denC x27_ [] (denF x27_ 8) L27_0 (S27_0.mkS 52 x) (kRound 0 S27_0 E27_0) = R_seek_number_m_0 x := by kernel_rfl
theorem l27_0 : LpOk Tryz.prog 0 (.loop L27_0) P27_0 := lpOf_ok xok27_ 8 (lps_nil) S27_0 E27_0 52 R_seek_number_m_0 (by decide) r27_0
theorem fn27_ : FnOk Tryz.prog 45 Tryz.f45 [(0, P27_0)] := ⟨Tryz.func45, Tryz.call45, lps_of (by kernel_rfl) (lps_one l27_0 (by kernel_rfl) fz)⟩
theorem e27_ (bytes : Int) (bits : Int) (s : (ByteArray × (ByteArray × Int))) : bodyK x27_ [(0, P27_0)] (denF x27_ 8) Tryz.f45 ((mkVals I27_.sl (show I27_.X from (((), (bytes, (bits, ()))), (s, ()))).1).map .v) (shHp I27_ (((), (bytes, (bits, ()))), (s, ()))) I27_.nx (kOutS 2 O27_) = seek_number_m' bytes bits s := by kernel_rfl
theorem con27_ : ConOk Tryz.prog 45 c27_ := conS_ok xok27_ 8 fn27_ 2 I27_ O27_ _ (by decide) (fun x => by rw [seek_number_m_eq]; exact e27_ x.1.2.1 x.1.2.2.1 x.2.1)
abbrev S28_0 : Shape := { sl := [(pv 2 tI), (pc 6 tN 0), (pc 10 tN 1), (29, (.w 5 (.int .u8) 3)), (pv 30 tI), (pv 31 tI)], ob := [(pv 0 tN), (pv 1 tN)], lo := 3, nx := 4 }
abbrev E28_0 : List Ex := [(.normal, { sl := [(pv 2 tI), (pc 6 tN 0), (pc 10 tN 1)], ob := [(pv 0 tN), (pv 1 tN)], lo := 4, nx := 4 })]
noncomputable def L28_0 : Code := loopIn (bodyOf Tryz.f45) 0
noncomputable def P28_0 : Lp := lpOf S28_0 E28_0 52 R_seek_number_0
noncomputable def c28_ : Con := conV true [(.ptr (.pair .str (.pair .str tI))), tI, tI] [tN, tI] fun x => seek_number x.1 x.2.1 x.2.2.1
noncomputable def x28_ : Cx := { ti := ti, con := [(88, conIf 0 c1w_ c1x_), (69, c07_), (70, c0b_)], fns := [], un := 6 }
theorem xok28_ : CxOk Tryz.prog x28_ := CxOk.of mixed ti_ok (fc ⟨conIf_ok con1w_ con1x_, fc ⟨con07_, fc ⟨con0b_, fz⟩⟩⟩) fz
theorem r28_0 (x : S28_0.X) : denC x28_ [] (denF x28_ 8) L28_0 (S28_0.mkS 52 x) (kRound 0 S28_0 E28_0) = R_seek_number_0 x := by kernel_rfl
theorem l28_0 : LpOk Tryz.prog 0 (.loop L28_0) P28_0 := lpOf_ok xok28_ 8 (lps_nil) S28_0 E28_0 52 R_seek_number_0 (by decide) r28_0
theorem fn28_ : FnOk Tryz.prog 45 Tryz.f45 [(0, P28_0)] := ⟨Tryz.func45, Tryz.call45, lps_of (by kernel_rfl) (lps_one l28_0 (by kernel_rfl) fz)⟩
theorem e28_ (s : (Option (ByteArray × (ByteArray × Int)))) (bytes : Int) (bits : Int) : bodyK x28_ [(0, P28_0)] (denF x28_ 8) Tryz.f45 (domV [(.ptr (.pair .str (.pair .str tI))), tI, tI] (s, bytes, bits, ())) [] 0 (kOut [tN, tI]) = seek_number' s bytes bits := by cases s <;> kernel_rfl
theorem con28_ : ConOk Tryz.prog 45 c28_ := con_ok xok28_ 8 fn28_ true [(.ptr (.pair .str (.pair .str tI))), tI, tI] [tN, tI] _ (by decide) (fun x => by rw [seek_number_eq]; exact e28_ x.1 x.2.1 x.2.2.1)
abbrev I29_ : Shape := { sl := [(pc 0 (.pair .str (.pair .str tI)) 0)], ob := [(pv 0 (.pair .str (.pair .str tI)))], lo := 1, nx := 1 }
abbrev O29_ : List Shape := [{ sl := [(pv 0 (.pair tN tI)), (pv 1 tI)], ob := [(pv 0 (.pair .str (.pair .str tI)))], lo := 14, nx := 14 }]
noncomputable def c29_ : Con := conS I29_ O29_ fun x => seek_first_m x.2.1
noncomputable def x29_ : Cx := { ti := ti, con := [(45, conIf 0 c27_ c28_), (87, c0d_), (7, c20_), (32, c06_)], fns := [], un := 6 }
theorem xok29_ : CxOk Tryz.prog x29_ := CxOk.of mixed ti_ok (fc ⟨conIf_ok con27_ con28_, fc ⟨con0d_, fc ⟨con20_, fc ⟨con06_, fz⟩⟩⟩⟩) fz
theorem fn29_ : FnOk Tryz.prog 44 Tryz.f44 [] := ⟨Tryz.func44, Tryz.call44, lps_nil⟩
theorem e29_ (s : (ByteArray × (ByteArray × Int))) : bodyK x29_ [] (denF x29_ 8) Tryz.f44 ((mkVals I29_.sl (show I29_.X from (((), ()), (s, ()))).1).map .v) (shHp I29_ (((), ()), (s, ()))) I29_.nx (kOutS 2 O29_) = seek_first_m' s := by kernel_rfl
theorem con29_ : ConOk Tryz.prog 44 c29_ := conS_ok xok29_ 8 fn29_ 2 I29_ O29_ _ (by decide) (fun x => by rw [seek_first_m_eq]; exact e29_ x.2.1)
noncomputable def c2a_ : Con := conV true [(.ptr (.pair .str (.pair .str tI)))] [(.pair tN tI), tI] fun x => seek_first x.1
noncomputable def x2a_ : Cx := { ti := ti, con := [(45, conIf 0 c27_ c28_), (87, c0d_), (7, c20_), (32, c06_)], fns := [], un := 6 }
theorem xok2a_ : CxOk Tryz.prog x2a_ := CxOk.of mixed ti_ok (fc ⟨conIf_ok con27_ con28_, fc ⟨con0d_, fc ⟨con20_, fc ⟨con06_, fz⟩⟩⟩⟩) fz
theorem fn2a_ : FnOk Tryz.prog 44 Tryz.f44 [] := ⟨Tryz.func44, Tryz.call44, lps_nil⟩
theorem e2a_ (s : (Option (ByteArray × (ByteArray × Int)))) : bodyK x2a_ [] (denF x2a_ 8) Tryz.f44 (domV [(.ptr (.pair .str (.pair .str tI)))] (s, ())) [] 0 (kOut [(.pair tN tI), tI]) = seek_first' s := by cases s <;> kernel_rfl
theorem con2a_ : ConOk Tryz.prog 44 c2a_ := con_ok xok2a_ 8 fn2a_ true [(.ptr (.pair .str (.pair .str tI)))] [(.pair tN tI), tI] _ (by decide) (fun x => by rw [seek_first_eq]; exact e2a_ x.1)
abbrev S2b_0 : Shape := { sl := [(pc 0 (.pair .str (.pair .str tI)) 0), (pc 6 (.pair tN tI) 14), (pv 7 tI), (8, (.w 34 (.pair tN tI) 16)), (20, (.sz tI)), (pv 21 tI), (pv 22 tI)], ob := [(pv 0 (.pair .str (.pair .str tI))), (pv 14 (.pair tN tI))], lo := 16, nx := 17 }
abbrev E2b_0 : List Ex := [(.normal, { sl := [(pc 0 (.pair .str (.pair .str tI)) 0), (pv 7 tI), (8, (.w 34 (.pair tN tI) 30))], ob := [(pv 0 (.pair .str (.pair .str tI)))], lo := 30, nx := 31 })]
noncomputable def L2b_0 : Code := loopIn (bodyOf Tryz.f13) 0
noncomputable def P2b_0 : Lp := lpOf S2b_0 E2b_0 63 R_seek_chain_m_0
abbrev I2b_ : Shape := { sl := [(pc 0 (.pair .str (.pair .str tI)) 0), (1, (.sz tI))], ob := [(pv 0 (.pair .str (.pair .str tI)))], lo := 1, nx := 1 }
abbrev O2b_ : List Shape := [{ sl := [(0, (.sz (.pair tN tI))), (pv 1 tI)], ob := [(pv 0 (.pair .str (.pair .str tI)))], lo := 31, nx := 31 }]
noncomputable def c2b_ : Con := conS I2b_ O2b_ fun x => seek_chain_m x.1.2.1.1 x.1.2.1.2 x.2.1
noncomputable def x2b_ : Cx := { ti := ti, con := [(44, conIf 0 c29_ c2a_), (26, c05_), (45, conIf 0 c27_ c28_), (8, c25_)], fns := [], un := 6 }
theorem xok2b_ : CxOk Tryz.prog x2b_ := CxOk.of mixed ti_ok (fc ⟨conIf_ok con29_ con2a_, fc ⟨con05_, fc ⟨conIf_ok con27_ con28_, fc ⟨con25_, fz⟩⟩⟩⟩) fz
theorem r2b_0 (x : S2b_0.X) : denC x2b_ [] (denF x2b_ 8) L2b_0 (S2b_0.mkS 63 x) (kRound 0 S2b_0 E2b_0) = R_seek_chain_m_0 x := by kernel_rfl
theorem l2b_0 : LpOk Tryz.prog 0 (.loop L2b_0) P2b_0 := lpOf_ok xok2b_ 8 (lps_nil) S2b_0 E2b_0 63 R_seek_chain_m_0 (by decide) r2b_0
theorem fn2b_ : FnOk Tryz.prog 13 Tryz.f13 [(0, P2b_0)] := ⟨Tryz.func13, Tryz.call13, lps_of (by kernel_rfl) (lps_one l2b_0 (by kernel_rfl) fz)⟩
theorem e2b_ (nbits : Nat) (bits : Nat → Int) (s : (ByteArray × (ByteArray × Int))) : bodyK x2b_ [(0, P2b_0)] (denF x2b_ 8) Tryz.f13 ((mkVals I2b_.sl (show I2b_.X from (((), ((nbits, bits), ())), (s, ()))).1).map .v) (shHp I2b_ (((), ((nbits, bits), ())), (s, ()))) I2b_.nx (kOutS 2 O2b_) = seek_chain_m' nbits bits s := by kernel_rfl
theorem con2b_ : ConOk Tryz.prog 13 c2b_ := conS_ok xok2b_ 8 fn2b_ 2 I2b_ O2b_ _ (by decide) (fun x => by rw [seek_chain_m_eq]; exact e2b_ x.1.2.1.1 x.1.2.1.2 x.2.1)
abbrev S2c_0 : Shape := { sl := [(0, (.pz (.pair .str (.pair .str tI)))), (pc 6 (.pair tN tI) 0), (pv 7 tI), (8, (.w 34 (.pair tN tI) 2)), (20, (.sz tI)), (pv 21 tI), (pv 22 tI)], ob := [(pv 0 (.pair tN tI))], lo := 2, nx := 3 }
abbrev E2c_0 : List Ex := [(.normal, { sl := [(pv 7 tI), (8, (.w 34 (.pair tN tI) 5))], ob := [], lo := 5, nx := 6 })]
noncomputable def L2c_0 : Code := loopIn (bodyOf Tryz.f13) 0
noncomputable def P2c_0 : Lp := lpOf S2c_0 E2c_0 63 R_seek_chain_0
noncomputable def c2c_ : Con := conV false [(.ptr (.pair .str (.pair .str tI))), (.sl tI)] [(.sl (.pair tN tI)), tI] fun x => seek_chain x.1 x.2.1.1 x.2.1.2
noncomputable def x2c_ : Cx := { ti := ti, con := [(44, conIf 0 c29_ c2a_), (26, c05_), (45, conIf 0 c27_ c28_), (8, c25_)], fns := [], un := 6 }
theorem xok2c_ : CxOk Tryz.prog x2c_ := CxOk.of mixed ti_ok (fc ⟨conIf_ok con29_ con2a_, fc ⟨con05_, fc ⟨conIf_ok con27_ con28_, fc ⟨con25_, fz⟩⟩⟩⟩) fz
theorem r2c_0 (x : S2c_0.X) : denC x2c_ [] (denF x2c_ 8) L2c_0 (S2c_0.mkS 63 x) (kRound 0 S2c_0 E2c_0) = R_seek_chain_0 x := by kernel_rfl
theorem l2c_0 : LpOk Tryz.prog 0 (.loop L2c_0) P2c_0 := lpOf_ok xok2c_ 8 (lps_nil) S2c_0 E2c_0 63 R_seek_chain_0 (by decide) r2c_0
theorem fn2c_ : FnOk Tryz.prog 13 Tryz.f13 [(0, P2c_0)] := ⟨Tryz.func13, Tryz.call13, lps_of (by kernel_rfl) (lps_one l2c_0 (by kernel_rfl) fz)⟩
theorem e2c_ (s : (Option (ByteArray × (ByteArray × Int)))) (nbits : Nat) (bits : Nat → Int) : bodyK x2c_ [(0, P2c_0)] (denF x2c_ 8) Tryz.f13 (domV [(.ptr (.pair .str (.pair .str tI))), (.sl tI)] (s, (nbits, bits), ())) [] 0 (kOut [(.sl (.pair tN tI)), tI]) = seek_chain' s nbits bits := by cases s <;> kernel_rfl
theorem con2c_ : ConOk Tryz.prog 13 c2c_ := con_ok xok2c_ 8 fn2c_ false [(.ptr (.pair .str (.pair .str tI))), (.sl tI)] [(.sl (.pair tN tI)), tI] _ (by decide) (fun x => by rw [seek_chain_eq]; exact e2c_ x.1 x.2.1.1 x.2.1.2)
noncomputable def c2d_ : Con := conV false [.str, (.sl tI)] [(.pair (.sl (.pair tN tI)) tN), tI] fun x => seek_Find x.1 x.2.1.1 x.2.1.2
noncomputable def x2d_ : Cx := { ti := ti, con := [(12, c1t_), (13, conIf 0 c2b_ c2c_), (10, c26_), (14, c1z_)], fns := [], un := 6 }
theorem xok2d_ : CxOk Tryz.prog x2d_ := CxOk.of mixed ti_ok (fc ⟨con1t_, fc ⟨conIf_ok con2b_ con2c_, fc ⟨con26_, fc ⟨con1z_, fz⟩⟩⟩⟩) fz
theorem fn2d_ : FnOk Tryz.prog 5 Tryz.f5 [] := ⟨Tryz.func5, Tryz.call5, lps_nil⟩
theorem e2d_ (seed : ByteArray) (nbits : Nat) (bits : Nat → Int) : bodyK x2d_ [] (denF x2d_ 8) Tryz.f5 (domV [.str, (.sl tI)] (seed, (nbits, bits), ())) [] 0 (kOut [(.pair (.sl (.pair tN tI)) tN), tI]) = seek_Find' seed nbits bits := by kernel_rfl
theorem con2d_ : ConOk Tryz.prog 5 c2d_ := con_ok xok2d_ 8 fn2d_ false [.str, (.sl tI)] [(.pair (.sl (.pair tN tI)) tN), tI] _ (by decide) (fun x => by rw [seek_Find_eq]; exact e2d_ x.1 x.2.1.1 x.2.1.2)
end Go.Proofs.YtkhhonbkgckjjaaGreat
