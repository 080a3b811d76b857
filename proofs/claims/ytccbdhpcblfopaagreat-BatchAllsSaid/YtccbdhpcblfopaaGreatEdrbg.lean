/-
  The functions of a package are the plain ones.
-/
import Derived.Test.YtccbdhpcblfopaaGreatEqA
import Derived.Test.YtccbdhpcblfopaaGreatLib
import Derived.Test.YtccbdhpcblfopaaGreatDenF
import Derived.Test.YtccbdhpcblfopaaGreatPdrbg
import Derived.Test.YtccbdhpcblfopaaGreatEhmac
set_option linter.unusedVariables false
set_option linter.unusedSimpArgs false
set_option maxRecDepth 100000
set_option maxHeartbeats 0
namespace Go.Pl
end Go.Pl
open Go Go.Den Go.Pl
namespace Go.Proofs.YtccbdhpcblfopaaGreat
noncomputable def c1x_ : Con := conV true [.str] [.bool] fun x => drbg_seeds x.1
noncomputable def x1x_ : Cx := { ti := ti, con := [], fns := [], un := 6 }
theorem xok1x_ : CxOk Tryz.prog x1x_ := CxOk.of mixed ti_ok fz fz
theorem fn1x_ : FnOk Tryz.prog 64 Tryz.f64 [] := ⟨Tryz.func64, Tryz.call64, lps_nil⟩
theorem e1x_ (x : ByteArray) : bodyK x1x_ [] (denF x1x_ 8) Tryz.f64 (domV [.str] (x, ())) [] 0 (kOut [.bool]) = drbg_seeds' x := by kernel_rfl
theorem con1x_ : ConOk Tryz.prog 64 c1x_ := con_ok xok1x_ 8 fn1x_ true [.str] [.bool] _ (by decide) (fun x => by rw [drbg_seeds_eq]; exact e1x_ x.1)
noncomputable def c1y_ : Con := conV true [(.sl .str)] [.str] fun x => drbg_text x.1.1 x.1.2
noncomputable def x1y_ : Cx := { ti := ti, con := [(141, c_strJoin)], fns := [], un := 6 }
theorem xok1y_ : CxOk Tryz.prog x1y_ := CxOk.of mixed ti_ok (fc ⟨con_strJoin, fz⟩) fz
theorem fn1y_ : FnOk Tryz.prog 107 Tryz.f107 [] := ⟨Tryz.func107, Tryz.call107, lps_nil⟩
theorem e1y_ (nl : Nat) (l : Nat → ByteArray) : bodyK x1y_ [] (denF x1y_ 8) Tryz.f107 (domV [(.sl .str)] ((nl, l), ())) [] 0 (kOut [.str]) = drbg_text' nl l := by kernel_rfl
theorem con1y_ : ConOk Tryz.prog 107 c1y_ := con_ok xok1y_ 8 fn1y_ true [(.sl .str)] [.str] _ (by decide) (fun x => by rw [drbg_text_eq]; exact e1y_ x.1.1 x.1.2)
abbrev I1z_ : Shape := { sl := [(pc 0 (.pair .str (.pair .str tI)) 0), (1, (.v .str))], ob := [(pv 0 (.pair .str (.pair .str tI)))], lo := 1, nx := 1 }
abbrev O1z_ : List Shape := [{ sl := [], ob := [(pv 0 (.pair .str (.pair .str tI)))], lo := 3, nx := 3 }]
noncomputable def c1z_ : Con := conS I1z_ O1z_ fun x => drbg_Source_stirs_m x.1.2.1 x.2.1
noncomputable def x1z_ : Cx := { ti := ti, con := [(107, c1y_), (69, c1w_)], fns := [], un := 6 }
theorem xok1z_ : CxOk Tryz.prog x1z_ := CxOk.of mixed ti_ok (fc ⟨con1y_, fc ⟨con1w_, fz⟩⟩) fz
theorem fn1z_ : FnOk Tryz.prog 66 Tryz.f66 [] := ⟨Tryz.func66, Tryz.call66, lps_nil⟩
theorem e1z_ (x1 : ByteArray) (s : (ByteArray × (ByteArray × Int))) : bodyK x1z_ [] (denF x1z_ 8) Tryz.f66 ((mkVals I1z_.sl (show I1z_.X from (((), (x1, ())), (s, ()))).1).map .v) (shHp I1z_ (((), (x1, ())), (s, ()))) I1z_.nx (kOutS 0 O1z_) = drbg_Source_stirs_m' x1 s := by kernel_rfl
theorem con1z_ : ConOk Tryz.prog 66 c1z_ := conS_ok xok1z_ 8 fn1z_ 0 I1z_ O1z_ _ (by decide) (fun x => by rw [drbg_Source_stirs_m_eq]; exact e1z_ x.1.2.1 x.2.1)
noncomputable def c20_ : Con := conV true [(.ptr (.pair .str (.pair .str tI))), .str] [] fun x => drbg_Source_stirs x.1 x.2.1
noncomputable def x20_ : Cx := { ti := ti, con := [(107, c1y_), (69, c1w_)], fns := [], un := 6 }
theorem xok20_ : CxOk Tryz.prog x20_ := CxOk.of mixed ti_ok (fc ⟨con1y_, fc ⟨con1w_, fz⟩⟩) fz
theorem fn20_ : FnOk Tryz.prog 66 Tryz.f66 [] := ⟨Tryz.func66, Tryz.call66, lps_nil⟩
theorem e20_ (s : (Option (ByteArray × (ByteArray × Int)))) (x : ByteArray) : bodyK x20_ [] (denF x20_ 8) Tryz.f66 (domV [(.ptr (.pair .str (.pair .str tI))), .str] (s, x, ())) [] 0 (kOut []) = drbg_Source_stirs' s x := by cases s <;> kernel_rfl
theorem con20_ : ConOk Tryz.prog 66 c20_ := con_ok xok20_ 8 fn20_ true [(.ptr (.pair .str (.pair .str tI))), .str] [] _ (by decide) (fun x => by rw [drbg_Source_stirs_eq]; exact e20_ x.1 x.2.1)
abbrev I21_ : Shape := { sl := [(0, (.v .str))], ob := [], lo := 0, nx := 0 }
abbrev O21_ : List Shape := [{ sl := [(0, (.c ⟨(.ptr (.pair .str (.pair .str tI))), .nil⟩)), (pv 1 tI)], ob := [], lo := 0, nx := 0 }, { sl := [(pc 0 (.pair .str (.pair .str tI)) 0), (pv 1 tI)], ob := [(pv 0 (.pair .str (.pair .str tI)))], lo := 3, nx := 3 }]
noncomputable def c21_ : Con := conS I21_ O21_ fun x => drbg_New_m x.1.1
noncomputable def x21_ : Cx := { ti := ti, con := [(64, c1x_), (65, c_strRepeat), (66, conIf 0 c1z_ c20_)], fns := [], un := 6 }
theorem xok21_ : CxOk Tryz.prog x21_ := CxOk.of mixed ti_ok (fc ⟨con1x_, fc ⟨con_strRepeat, fc ⟨conIf_ok con1z_ con20_, fz⟩⟩⟩) fz
theorem fn21_ : FnOk Tryz.prog 32 Tryz.f32 [] := ⟨Tryz.func32, Tryz.call32, lps_nil⟩
theorem e21_ (seed : ByteArray) : bodyK x21_ [] (denF x21_ 8) Tryz.f32 ((mkVals I21_.sl (show I21_.X from ((seed, ()), ())).1).map .v) (shHp I21_ ((seed, ()), ())) I21_.nx (kOutS 2 O21_) = drbg_New_m' seed := by kernel_rfl
theorem con21_ : ConOk Tryz.prog 32 c21_ := conS_ok xok21_ 8 fn21_ 2 I21_ O21_ _ (by decide) (fun x => by rw [drbg_New_m_eq]; exact e21_ x.1.1)
noncomputable def c23_ : Con := conV true [(.ptr (.pair .str (.pair .str tI)))] [.bool] fun x => drbg_Source_given x.1
noncomputable def x23_ : Cx := { ti := ti, con := [], fns := [], un := 6 }
theorem xok23_ : CxOk Tryz.prog x23_ := CxOk.of mixed ti_ok fz fz
theorem fn23_ : FnOk Tryz.prog 67 Tryz.f67 [] := ⟨Tryz.func67, Tryz.call67, lps_nil⟩
theorem e23_ (s : (Option (ByteArray × (ByteArray × Int)))) : bodyK x23_ [] (denF x23_ 8) Tryz.f67 (domV [(.ptr (.pair .str (.pair .str tI)))] (s, ())) [] 0 (kOut [.bool]) = drbg_Source_given' s := by cases s <;> kernel_rfl
theorem con23_ : ConOk Tryz.prog 67 c23_ := con_ok xok23_ 8 fn23_ true [(.ptr (.pair .str (.pair .str tI)))] [.bool] _ (by decide) (fun x => by rw [drbg_Source_given_eq]; exact e23_ x.1)
abbrev S24_1 : Shape := { sl := [(pc 0 (.pair .str (.pair .str tI)) 0), (pv 1 tI), (2, (.v .str)), (pc 8 (.pair (.sp 125) (.sl (.int .u8))) 3)], ob := [(pv 0 (.pair .str (.pair .str tI))), (3, (.p (.v (.sp 125)) (.w 5 (.int .u8) 4)))], lo := 4, nx := 5 }
abbrev E24_1 : List Ex := [(.normal, { sl := [(pc 0 (.pair .str (.pair .str tI)) 0), (pv 1 tI), (2, (.v .str)), (pc 8 (.pair (.sp 125) (.sl (.int .u8))) 3)], ob := [(pv 0 (.pair .str (.pair .str tI))), (3, (.p (.v (.sp 125)) (.w 5 (.int .u8) 5)))], lo := 5, nx := 6 })]
noncomputable def L24_1 : Code := loopIn (bodyOf Tryz.f33) 1
noncomputable def P24_1 : Lp := lpOf S24_1 E24_1 70 R_drbg_Source_Bytes_m_1
abbrev S24_1_v1 : Shape := { sl := [(pc 0 (.pair .str (.pair .str tI)) 0), (pv 1 tI), (2, (.v .str)), (pc 8 (.pair (.sp 125) (.sl (.int .u8))) 1)], ob := [(pv 0 (.pair .str (.pair .str tI))), (1, (.p (.v (.sp 125)) (.w 5 (.int .u8) 2)))], lo := 2, nx := 3 }
abbrev E24_1_v1 : List Ex := [(.normal, { sl := [(pc 0 (.pair .str (.pair .str tI)) 0), (pv 1 tI), (2, (.v .str)), (pc 8 (.pair (.sp 125) (.sl (.int .u8))) 1)], ob := [(pv 0 (.pair .str (.pair .str tI))), (1, (.p (.v (.sp 125)) (.w 5 (.int .u8) 3)))], lo := 3, nx := 4 })]
noncomputable def L24_1_v1 : Code := loopIn (bodyOf Tryz.f33) 1
noncomputable def P24_1_v1 : Lp := lpOf S24_1_v1 E24_1_v1 70 R_drbg_Source_Bytes_m_1_v1
abbrev I24_ : Shape := { sl := [(pc 0 (.pair .str (.pair .str tI)) 0), (pv 1 tI), (2, (.v .str))], ob := [(pv 0 (.pair .str (.pair .str tI)))], lo := 1, nx := 1 }
abbrev O24_ : List Shape := [{ sl := [(0, (.v .str)), (pv 1 tI)], ob := [(pv 0 (.pair .str (.pair .str tI)))], lo := 8, nx := 8 }]
noncomputable def c24_ : Con := conS I24_ O24_ fun x => drbg_Source_Bytes_m x.1.2.1 x.1.2.2.1 x.2.1
noncomputable def x24_ : Cx := { ti := ti, con := [(67, c23_), (66, conIf 0 c1z_ c20_), (69, c1w_), (110, c_copyCheck)], fns := [(68, Tryz.f68, []), (70, Tryz.f70, []), (71, Tryz.f71, [])], un := 6 }
theorem xok24_ : CxOk Tryz.prog x24_ := CxOk.of mixed ti_ok (fc ⟨con23_, fc ⟨conIf_ok con1z_ con20_, fc ⟨con1w_, fc ⟨con_copyCheck, fz⟩⟩⟩⟩) (fc ⟨⟨Tryz.func68, Tryz.call68, lps_nil⟩, fc ⟨⟨Tryz.func70, Tryz.call70, lps_nil⟩, fc ⟨⟨Tryz.func71, Tryz.call71, lps_nil⟩, fz⟩⟩⟩)
theorem r24_1 (x : S24_1.X) : denC x24_ [] (denF x24_ 8) L24_1 (S24_1.mkS 70 x) (kRound 1 S24_1 E24_1) = R_drbg_Source_Bytes_m_1 x := by kernel_rfl
theorem l24_1 : LpOk Tryz.prog 1 (.loop L24_1) P24_1 := lpOf_ok xok24_ 8 (lps_nil) S24_1 E24_1 70 R_drbg_Source_Bytes_m_1 (by decide) r24_1
theorem r24_1_v1 (x : S24_1_v1.X) : denC x24_ [] (denF x24_ 8) L24_1_v1 (S24_1_v1.mkS 70 x) (kRound 1 S24_1_v1 E24_1_v1) = R_drbg_Source_Bytes_m_1_v1 x := by kernel_rfl
theorem l24_1_v1 : LpOk Tryz.prog 1 (.loop L24_1_v1) P24_1_v1 := lpOf_ok xok24_ 8 (lps_nil) S24_1_v1 E24_1_v1 70 R_drbg_Source_Bytes_m_1_v1 (by decide) r24_1_v1
theorem fn24_ : FnOk Tryz.prog 33 Tryz.f33 [(1, (lpOr S24_1 P24_1 P24_1_v1))] := ⟨Tryz.func33, Tryz.call33, lps_of (by kernel_rfl) (lps_one (lpOr_ok l24_1 l24_1_v1) (by kernel_rfl) fz)⟩
theorem e24_ (n : Int) (more : ByteArray) (s : (ByteArray × (ByteArray × Int))) : bodyK x24_ [(1, (lpOr S24_1 P24_1 P24_1_v1))] (denF x24_ 8) Tryz.f33 ((mkVals I24_.sl (show I24_.X from (((), (n, (more, ()))), (s, ()))).1).map .v) (shHp I24_ (((), (n, (more, ()))), (s, ()))) I24_.nx (kOutS 2 O24_) = drbg_Source_Bytes_m' n more s := by kernel_rfl
theorem con24_ : ConOk Tryz.prog 33 c24_ := conS_ok xok24_ 8 fn24_ 2 I24_ O24_ _ (by decide) (fun x => by rw [drbg_Source_Bytes_m_eq]; exact e24_ x.1.2.1 x.1.2.2.1 x.2.1)
abbrev S25_1 : Shape := { sl := [(0, (.pz (.pair .str (.pair .str tI)))), (pv 1 tI), (2, (.v .str)), (pc 8 (.pair (.sp 125) (.sl (.int .u8))) 0)], ob := [(0, (.p (.v (.sp 125)) (.sz (.int .u8))))], lo := 1, nx := 1 }
abbrev E25_1 : List Ex := [(.normal, { sl := [(0, (.pz (.pair .str (.pair .str tI)))), (pv 1 tI), (2, (.v .str)), (pc 8 (.pair (.sp 125) (.sl (.int .u8))) 0)], ob := [(0, (.p (.v (.sp 125)) (.sz (.int .u8))))], lo := 1, nx := 1 })]
noncomputable def L25_1 : Code := loopIn (bodyOf Tryz.f33) 1
noncomputable def P25_1 : Lp := lpOf S25_1 E25_1 70 R_drbg_Source_Bytes_1
noncomputable def c25_ : Con := conV true [(.ptr (.pair .str (.pair .str tI))), tI, .str] [.str, tI] fun x => drbg_Source_Bytes x.1 x.2.1 x.2.2.1
noncomputable def x25_ : Cx := { ti := ti, con := [(67, c23_), (66, conIf 0 c1z_ c20_), (69, c1w_)], fns := [(68, Tryz.f68, [])], un := 6 }
theorem xok25_ : CxOk Tryz.prog x25_ := CxOk.of mixed ti_ok (fc ⟨con23_, fc ⟨conIf_ok con1z_ con20_, fc ⟨con1w_, fz⟩⟩⟩) (fc ⟨⟨Tryz.func68, Tryz.call68, lps_nil⟩, fz⟩)
theorem r25_1 (x : S25_1.X) : denC x25_ [] (denF x25_ 8) L25_1 (S25_1.mkS 70 x) (kRound 1 S25_1 E25_1) = R_drbg_Source_Bytes_1 x := by kernel_rfl
theorem l25_1 : LpOk Tryz.prog 1 (.loop L25_1) P25_1 := lpOf_ok xok25_ 8 (lps_nil) S25_1 E25_1 70 R_drbg_Source_Bytes_1 (by decide) r25_1
theorem fn25_ : FnOk Tryz.prog 33 Tryz.f33 [(1, P25_1)] := ⟨Tryz.func33, Tryz.call33, lps_of (by kernel_rfl) (lps_one l25_1 (by kernel_rfl) fz)⟩
theorem e25_ (s : (Option (ByteArray × (ByteArray × Int)))) (n : Int) (more : ByteArray) : bodyK x25_ [(1, P25_1)] (denF x25_ 8) Tryz.f33 (domV [(.ptr (.pair .str (.pair .str tI))), tI, .str] (s, n, more, ())) [] 0 (kOut [.str, tI]) = drbg_Source_Bytes' s n more := by cases s <;> kernel_rfl
theorem con25_ : ConOk Tryz.prog 33 c25_ := con_ok xok25_ 8 fn25_ true [(.ptr (.pair .str (.pair .str tI))), tI, .str] [.str, tI] _ (by decide) (fun x => by rw [drbg_Source_Bytes_eq]; exact e25_ x.1 x.2.1 x.2.2.1)
end Go.Proofs.YtccbdhpcblfopaaGreat
