/-
  The functions of a package are the plain ones.
-/
import Derived.Test.YtkhhonbkgckjjaaGreatEqA
import Derived.Test.YtkhhonbkgckjjaaGreatLib
import Derived.Test.YtkhhonbkgckjjaaGreatDenF
import Derived.Test.YtkhhonbkgckjjaaGreatPdrbg
import Derived.Test.YtkhhonbkgckjjaaGreatEhmac
set_option linter.unusedVariables false
set_option linter.unusedSimpArgs false
set_option maxRecDepth 100000
set_option maxHeartbeats 0
namespace Go.Pl
end Go.Pl
open Go Go.Den Go.Pl
namespace Go.Proofs.YtkhhonbkgckjjaaGreat
noncomputable def c1p_ : Con := conV true [.str] [.bool] fun x => drbg_seeds x.1
noncomputable def x1p_ : Cx := { ti := ti, con := [], fns := [], un := 6 }
theorem xok1p_ : CxOk Tryz.prog x1p_ := CxOk.of mixed ti_ok fz fz
theorem fn1p_ : FnOk Tryz.prog 41 Tryz.f41 [] := ⟨Tryz.func41, Tryz.call41, lps_nil⟩
theorem e1p_ (x : ByteArray) : bodyK x1p_ [] (denF x1p_ 8) Tryz.f41 (domV [.str] (x, ())) [] 0 (kOut [.bool]) = drbg_seeds' x := by kernel_rfl
theorem con1p_ : ConOk Tryz.prog 41 c1p_ := con_ok xok1p_ 8 fn1p_ true [.str] [.bool] _ (by decide) (fun x => by rw [drbg_seeds_eq]; exact e1p_ x.1)
noncomputable def c1q_ : Con := conV true [(.sl .str)] [.str] fun x => drbg_text x.1.1 x.1.2
noncomputable def x1q_ : Cx := { ti := ti, con := [(116, c_strJoin)], fns := [], un := 6 }
theorem xok1q_ : CxOk Tryz.prog x1q_ := CxOk.of mixed ti_ok (fc ⟨con_strJoin, fz⟩) fz
theorem fn1q_ : FnOk Tryz.prog 86 Tryz.f86 [] := ⟨Tryz.func86, Tryz.call86, lps_nil⟩
theorem e1q_ (nl : Nat) (l : Nat → ByteArray) : bodyK x1q_ [] (denF x1q_ 8) Tryz.f86 (domV [(.sl .str)] ((nl, l), ())) [] 0 (kOut [.str]) = drbg_text' nl l := by kernel_rfl
theorem con1q_ : ConOk Tryz.prog 86 c1q_ := con_ok xok1q_ 8 fn1q_ true [(.sl .str)] [.str] _ (by decide) (fun x => by rw [drbg_text_eq]; exact e1q_ x.1.1 x.1.2)
abbrev I1r_ : Shape := { sl := [(pc 0 (.pair .str (.pair .str tI)) 0), (1, (.v .str))], ob := [(pv 0 (.pair .str (.pair .str tI)))], lo := 1, nx := 1 }
abbrev O1r_ : List Shape := [{ sl := [], ob := [(pv 0 (.pair .str (.pair .str tI)))], lo := 3, nx := 3 }]
noncomputable def c1r_ : Con := conS I1r_ O1r_ fun x => drbg_Source_stirs_m x.1.2.1 x.2.1
noncomputable def x1r_ : Cx := { ti := ti, con := [(86, c1q_), (85, c1o_)], fns := [], un := 6 }
theorem xok1r_ : CxOk Tryz.prog x1r_ := CxOk.of mixed ti_ok (fc ⟨con1q_, fc ⟨con1o_, fz⟩⟩) fz
theorem fn1r_ : FnOk Tryz.prog 43 Tryz.f43 [] := ⟨Tryz.func43, Tryz.call43, lps_nil⟩
theorem e1r_ (x1 : ByteArray) (s : (ByteArray × (ByteArray × Int))) : bodyK x1r_ [] (denF x1r_ 8) Tryz.f43 ((mkVals I1r_.sl (show I1r_.X from (((), (x1, ())), (s, ()))).1).map .v) (shHp I1r_ (((), (x1, ())), (s, ()))) I1r_.nx (kOutS 0 O1r_) = drbg_Source_stirs_m' x1 s := by kernel_rfl
theorem con1r_ : ConOk Tryz.prog 43 c1r_ := conS_ok xok1r_ 8 fn1r_ 0 I1r_ O1r_ _ (by decide) (fun x => by rw [drbg_Source_stirs_m_eq]; exact e1r_ x.1.2.1 x.2.1)
noncomputable def c1s_ : Con := conV true [(.ptr (.pair .str (.pair .str tI))), .str] [] fun x => drbg_Source_stirs x.1 x.2.1
noncomputable def x1s_ : Cx := { ti := ti, con := [(86, c1q_), (85, c1o_)], fns := [], un := 6 }
theorem xok1s_ : CxOk Tryz.prog x1s_ := CxOk.of mixed ti_ok (fc ⟨con1q_, fc ⟨con1o_, fz⟩⟩) fz
theorem fn1s_ : FnOk Tryz.prog 43 Tryz.f43 [] := ⟨Tryz.func43, Tryz.call43, lps_nil⟩
theorem e1s_ (s : (Option (ByteArray × (ByteArray × Int)))) (x : ByteArray) : bodyK x1s_ [] (denF x1s_ 8) Tryz.f43 (domV [(.ptr (.pair .str (.pair .str tI))), .str] (s, x, ())) [] 0 (kOut []) = drbg_Source_stirs' s x := by cases s <;> kernel_rfl
theorem con1s_ : ConOk Tryz.prog 43 c1s_ := con_ok xok1s_ 8 fn1s_ true [(.ptr (.pair .str (.pair .str tI))), .str] [] _ (by decide) (fun x => by rw [drbg_Source_stirs_eq]; exact e1s_ x.1 x.2.1)
abbrev I1t_ : Shape := { sl := [(0, (.v .str))], ob := [], lo := 0, nx := 0 }
abbrev O1t_ : List Shape := [{ sl := [(0, (.c ⟨(.ptr (.pair .str (.pair .str tI))), .nil⟩)), (pv 1 tI)], ob := [], lo := 0, nx := 0 }, { sl := [(pc 0 (.pair .str (.pair .str tI)) 0), (pv 1 tI)], ob := [(pv 0 (.pair .str (.pair .str tI)))], lo := 3, nx := 3 }]
noncomputable def c1t_ : Con := conS I1t_ O1t_ fun x => drbg_New_m x.1.1
noncomputable def x1t_ : Cx := { ti := ti, con := [(41, c1p_), (42, c_strRepeat), (43, conIf 0 c1r_ c1s_)], fns := [], un := 6 }
theorem xok1t_ : CxOk Tryz.prog x1t_ := CxOk.of mixed ti_ok (fc ⟨con1p_, fc ⟨con_strRepeat, fc ⟨conIf_ok con1r_ con1s_, fz⟩⟩⟩) fz
theorem fn1t_ : FnOk Tryz.prog 12 Tryz.f12 [] := ⟨Tryz.func12, Tryz.call12, lps_nil⟩
theorem e1t_ (seed : ByteArray) : bodyK x1t_ [] (denF x1t_ 8) Tryz.f12 ((mkVals I1t_.sl (show I1t_.X from ((seed, ()), ())).1).map .v) (shHp I1t_ ((seed, ()), ())) I1t_.nx (kOutS 2 O1t_) = drbg_New_m' seed := by kernel_rfl
theorem con1t_ : ConOk Tryz.prog 12 c1t_ := conS_ok xok1t_ 8 fn1t_ 2 I1t_ O1t_ _ (by decide) (fun x => by rw [drbg_New_m_eq]; exact e1t_ x.1.1)
noncomputable def c1v_ : Con := conV true [(.ptr (.pair .str (.pair .str tI)))] [.bool] fun x => drbg_Source_given x.1
noncomputable def x1v_ : Cx := { ti := ti, con := [], fns := [], un := 6 }
theorem xok1v_ : CxOk Tryz.prog x1v_ := CxOk.of mixed ti_ok fz fz
theorem fn1v_ : FnOk Tryz.prog 117 Tryz.f117 [] := ⟨Tryz.func117, Tryz.call117, lps_nil⟩
theorem e1v_ (s : (Option (ByteArray × (ByteArray × Int)))) : bodyK x1v_ [] (denF x1v_ 8) Tryz.f117 (domV [(.ptr (.pair .str (.pair .str tI)))] (s, ())) [] 0 (kOut [.bool]) = drbg_Source_given' s := by cases s <;> kernel_rfl
theorem con1v_ : ConOk Tryz.prog 117 c1v_ := con_ok xok1v_ 8 fn1v_ true [(.ptr (.pair .str (.pair .str tI)))] [.bool] _ (by decide) (fun x => by rw [drbg_Source_given_eq]; exact e1v_ x.1)
abbrev S1w_1 : Shape := { sl := [(pc 0 (.pair .str (.pair .str tI)) 0), (pv 1 tI), (2, (.v .str)), (pc 8 (.pair (.sp 119) (.sl (.int .u8))) 3)], ob := [(pv 0 (.pair .str (.pair .str tI))), (3, (.p (.v (.sp 119)) (.w 5 (.int .u8) 4)))], lo := 4, nx := 5 }
abbrev E1w_1 : List Ex := [(.normal, { sl := [(pc 0 (.pair .str (.pair .str tI)) 0), (pv 1 tI), (2, (.v .str)), (pc 8 (.pair (.sp 119) (.sl (.int .u8))) 3)], ob := [(pv 0 (.pair .str (.pair .str tI))), (3, (.p (.v (.sp 119)) (.w 5 (.int .u8) 5)))], lo := 5, nx := 6 })]
noncomputable def L1w_1 : Code := loopIn (bodyOf Tryz.f88) 1
noncomputable def P1w_1 : Lp := lpOf S1w_1 E1w_1 70 R_drbg_Source_Bytes_m_1
abbrev S1w_1_v1 : Shape := { sl := [(pc 0 (.pair .str (.pair .str tI)) 0), (pv 1 tI), (2, (.v .str)), (pc 8 (.pair (.sp 119) (.sl (.int .u8))) 1)], ob := [(pv 0 (.pair .str (.pair .str tI))), (1, (.p (.v (.sp 119)) (.w 5 (.int .u8) 2)))], lo := 2, nx := 3 }
abbrev E1w_1_v1 : List Ex := [(.normal, { sl := [(pc 0 (.pair .str (.pair .str tI)) 0), (pv 1 tI), (2, (.v .str)), (pc 8 (.pair (.sp 119) (.sl (.int .u8))) 1)], ob := [(pv 0 (.pair .str (.pair .str tI))), (1, (.p (.v (.sp 119)) (.w 5 (.int .u8) 3)))], lo := 3, nx := 4 })]
noncomputable def L1w_1_v1 : Code := loopIn (bodyOf Tryz.f88) 1
noncomputable def P1w_1_v1 : Lp := lpOf S1w_1_v1 E1w_1_v1 70 R_drbg_Source_Bytes_m_1_v1
abbrev I1w_ : Shape := { sl := [(pc 0 (.pair .str (.pair .str tI)) 0), (pv 1 tI), (2, (.v .str))], ob := [(pv 0 (.pair .str (.pair .str tI)))], lo := 1, nx := 1 }
abbrev O1w_ : List Shape := [{ sl := [(0, (.v .str)), (pv 1 tI)], ob := [(pv 0 (.pair .str (.pair .str tI)))], lo := 8, nx := 8 }]
noncomputable def c1w_ : Con := conS I1w_ O1w_ fun x => drbg_Source_Bytes_m x.1.2.1 x.1.2.2.1 x.2.1
noncomputable def x1w_ : Cx := { ti := ti, con := [(117, c1v_), (43, conIf 0 c1r_ c1s_), (85, c1o_), (112, c_copyCheck)], fns := [(83, Tryz.f83, []), (82, Tryz.f82, []), (84, Tryz.f84, [])], un := 6 }
theorem xok1w_ : CxOk Tryz.prog x1w_ := CxOk.of mixed ti_ok (fc ⟨con1v_, fc ⟨conIf_ok con1r_ con1s_, fc ⟨con1o_, fc ⟨con_copyCheck, fz⟩⟩⟩⟩) (fc ⟨⟨Tryz.func83, Tryz.call83, lps_nil⟩, fc ⟨⟨Tryz.func82, Tryz.call82, lps_nil⟩, fc ⟨⟨Tryz.func84, Tryz.call84, lps_nil⟩, fz⟩⟩⟩)
theorem r1w_1 (x : S1w_1.X) : denC x1w_ [] (denF x1w_ 8) L1w_1 (S1w_1.mkS 70 x) (kRound 1 S1w_1 E1w_1) = R_drbg_Source_Bytes_m_1 x := by kernel_rfl
theorem l1w_1 : LpOk Tryz.prog 1 (.loop L1w_1) P1w_1 := lpOf_ok xok1w_ 8 (lps_nil) S1w_1 E1w_1 70 R_drbg_Source_Bytes_m_1 (by decide) r1w_1
theorem r1w_1_v1 (x : S1w_1_v1.X) : denC x1w_ [] (denF x1w_ 8) L1w_1_v1 (S1w_1_v1.mkS 70 x) (kRound 1 S1w_1_v1 E1w_1_v1) = R_drbg_Source_Bytes_m_1_v1 x := by kernel_rfl
theorem l1w_1_v1 : LpOk Tryz.prog 1 (.loop L1w_1_v1) P1w_1_v1 := lpOf_ok xok1w_ 8 (lps_nil) S1w_1_v1 E1w_1_v1 70 R_drbg_Source_Bytes_m_1_v1 (by decide) r1w_1_v1
theorem fn1w_ : FnOk Tryz.prog 88 Tryz.f88 [(1, (lpOr S1w_1 P1w_1 P1w_1_v1))] := ⟨Tryz.func88, Tryz.call88, lps_of (by kernel_rfl) (lps_one (lpOr_ok l1w_1 l1w_1_v1) (by kernel_rfl) fz)⟩
theorem e1w_ (n : Int) (more : ByteArray) (s : (ByteArray × (ByteArray × Int))) : bodyK x1w_ [(1, (lpOr S1w_1 P1w_1 P1w_1_v1))] (denF x1w_ 8) Tryz.f88 ((mkVals I1w_.sl (show I1w_.X from (((), (n, (more, ()))), (s, ()))).1).map .v) (shHp I1w_ (((), (n, (more, ()))), (s, ()))) I1w_.nx (kOutS 2 O1w_) = drbg_Source_Bytes_m' n more s := by kernel_rfl
theorem con1w_ : ConOk Tryz.prog 88 c1w_ := conS_ok xok1w_ 8 fn1w_ 2 I1w_ O1w_ _ (by decide) (fun x => by rw [drbg_Source_Bytes_m_eq]; exact e1w_ x.1.2.1 x.1.2.2.1 x.2.1)
abbrev S1x_1 : Shape := { sl := [(0, (.pz (.pair .str (.pair .str tI)))), (pv 1 tI), (2, (.v .str)), (pc 8 (.pair (.sp 119) (.sl (.int .u8))) 0)], ob := [(0, (.p (.v (.sp 119)) (.sz (.int .u8))))], lo := 1, nx := 1 }
abbrev E1x_1 : List Ex := [(.normal, { sl := [(0, (.pz (.pair .str (.pair .str tI)))), (pv 1 tI), (2, (.v .str)), (pc 8 (.pair (.sp 119) (.sl (.int .u8))) 0)], ob := [(0, (.p (.v (.sp 119)) (.sz (.int .u8))))], lo := 1, nx := 1 })]
noncomputable def L1x_1 : Code := loopIn (bodyOf Tryz.f88) 1
noncomputable def P1x_1 : Lp := lpOf S1x_1 E1x_1 70 R_drbg_Source_Bytes_1
noncomputable def c1x_ : Con := conV true [(.ptr (.pair .str (.pair .str tI))), tI, .str] [.str, tI] fun x => drbg_Source_Bytes x.1 x.2.1 x.2.2.1
noncomputable def x1x_ : Cx := { ti := ti, con := [(117, c1v_), (43, conIf 0 c1r_ c1s_), (85, c1o_)], fns := [(83, Tryz.f83, [])], un := 6 }
theorem xok1x_ : CxOk Tryz.prog x1x_ := CxOk.of mixed ti_ok (fc ⟨con1v_, fc ⟨conIf_ok con1r_ con1s_, fc ⟨con1o_, fz⟩⟩⟩) (fc ⟨⟨Tryz.func83, Tryz.call83, lps_nil⟩, fz⟩)
theorem r1x_1 (x : S1x_1.X) : denC x1x_ [] (denF x1x_ 8) L1x_1 (S1x_1.mkS 70 x) (kRound 1 S1x_1 E1x_1) = R_drbg_Source_Bytes_1 x := by kernel_rfl
theorem l1x_1 : LpOk Tryz.prog 1 (.loop L1x_1) P1x_1 := lpOf_ok xok1x_ 8 (lps_nil) S1x_1 E1x_1 70 R_drbg_Source_Bytes_1 (by decide) r1x_1
theorem fn1x_ : FnOk Tryz.prog 88 Tryz.f88 [(1, P1x_1)] := ⟨Tryz.func88, Tryz.call88, lps_of (by kernel_rfl) (lps_one l1x_1 (by kernel_rfl) fz)⟩
theorem e1x_ (s : (Option (ByteArray × (ByteArray × Int)))) (n : Int) (more : ByteArray) : bodyK x1x_ [(1, P1x_1)] (denF x1x_ 8) Tryz.f88 (domV [(.ptr (.pair .str (.pair .str tI))), tI, .str] (s, n, more, ())) [] 0 (kOut [.str, tI]) = drbg_Source_Bytes' s n more := by cases s <;> kernel_rfl
theorem con1x_ : ConOk Tryz.prog 88 c1x_ := con_ok xok1x_ 8 fn1x_ true [(.ptr (.pair .str (.pair .str tI))), tI, .str] [.str, tI] _ (by decide) (fun x => by rw [drbg_Source_Bytes_eq]; exact e1x_ x.1 x.2.1 x.2.2.1)
end Go.Proofs.YtkhhonbkgckjjaaGreat
