/-
  The functions of a package are the plain ones.
-/
import Derived.Test.YtccbdhpcblfopaaGreatEqA
import Derived.Test.YtccbdhpcblfopaaGreatDenH
import Derived.Test.YtccbdhpcblfopaaGreatDenM
import Derived.Test.YtccbdhpcblfopaaGreatDenF
import Derived.Test.YtccbdhpcblfopaaGreatPbatch
import Derived.Test.YtccbdhpcblfopaaGreatEcommit
import Derived.Test.YtccbdhpcblfopaaGreatEdrbg
set_option linter.unusedVariables false
set_option linter.unusedSimpArgs false
set_option maxRecDepth 100000
set_option maxHeartbeats 0
namespace Go.Pl
end Go.Pl
open Go Go.Den Go.Pl
namespace Go.Proofs.YtccbdhpcblfopaaGreat
abbrev S26_2 : Shape := { sl := [(6, (.c ⟨(.ptr (.pair .str (.pair .str tI))), .nil⟩)), (8, (.w 49 tN 2)), (pv 11 tU), (pv 28 tI), (pv 29 tI), (40, (.w 5 (.int .u8) 3)), (pv 41 tI), (pv 42 tI)], ob := [], lo := 2, nx := 4 }
abbrev E26_2 : List Ex := [(.normal, { sl := [(6, (.c ⟨(.ptr (.pair .str (.pair .str tI))), .nil⟩)), (8, (.w 49 tN 4)), (pv 11 tU), (pv 28 tI), (pv 29 tI)], ob := [], lo := 4, nx := 5 })]
noncomputable def L26_2 : Code := loopIn (bodyOf Tryz.f15) 2
noncomputable def P26_2 : Lp := lpOf S26_2 E26_2 60 R_batch_Weights_2
abbrev S26_0 : Shape := { sl := [(6, (.c ⟨(.ptr (.pair .str (.pair .str tI))), .nil⟩)), (8, (.w 49 tN 0)), (pv 28 tI), (pv 29 tI)], ob := [], lo := 0, nx := 1 }
abbrev E26_0 : List Ex := [(.ret, { sl := [(4, (.sz tN)), (pv 5 tI)], ob := [], lo := 1, nx := 1 }), (.normal, { sl := [(8, (.w 49 tN 1))], ob := [], lo := 1, nx := 2 })]
noncomputable def L26_0 : Code := loopIn (bodyOf Tryz.f15) 0
noncomputable def P26_0 : Lp := lpOf S26_0 E26_0 60 R_batch_Weights_0
abbrev S26_2_v1 : Shape := { sl := [(pc 6 (.pair .str (.pair .str tI)) 0), (8, (.w 49 tN 12)), (pv 11 tU), (pv 28 tI), (pv 29 tI), (40, (.w 5 (.int .u8) 13)), (pv 41 tI), (pv 42 tI)], ob := [(pv 0 (.pair .str (.pair .str tI)))], lo := 12, nx := 14 }
abbrev E26_2_v1 : List Ex := [(.normal, { sl := [(pc 6 (.pair .str (.pair .str tI)) 0), (8, (.w 49 tN 14)), (pv 11 tU), (pv 28 tI), (pv 29 tI)], ob := [(pv 0 (.pair .str (.pair .str tI)))], lo := 14, nx := 15 })]
noncomputable def L26_2_v1 : Code := loopIn (bodyOf Tryz.f15) 2
noncomputable def P26_2_v1 : Lp := lpOf S26_2_v1 E26_2_v1 60 R_batch_Weights_2_v1
abbrev S26_0_v1 : Shape := { sl := [(pc 6 (.pair .str (.pair .str tI)) 0), (8, (.w 49 tN 3)), (pv 28 tI), (pv 29 tI)], ob := [(pv 0 (.pair .str (.pair .str tI)))], lo := 3, nx := 4 }
abbrev E26_0_v1 : List Ex := [(.ret, { sl := [(4, (.sz tN)), (pv 5 tI)], ob := [], lo := 11, nx := 11 }), (.normal, { sl := [(8, (.w 49 tN 4))], ob := [], lo := 4, nx := 5 })]
noncomputable def L26_0_v1 : Code := loopIn (bodyOf Tryz.f15) 0
noncomputable def P26_0_v1 : Lp := lpOf S26_0_v1 E26_0_v1 60 R_batch_Weights_0_v1
noncomputable def c26_ : Con := conV false [.str, tI] [(.sl tN), tI] fun x => batch_Weights x.1 x.2.1
noncomputable def x26_ : Cx := { ti := ti, con := [(32, c21_), (33, conIf 0 c24_ c25_)], fns := [], un := 6 }
theorem xok26_ : CxOk Tryz.prog x26_ := CxOk.of mixed ti_ok (fc ⟨con21_, fc ⟨conIf_ok con24_ con25_, fz⟩⟩) fz
theorem r26_2 (x : S26_2.X) : denC x26_ [] (denF x26_ 8) L26_2 (S26_2.mkS 60 x) (kRound 2 S26_2 E26_2) = R_batch_Weights_2 x := by kernel_rfl
theorem l26_2 : LpOk Tryz.prog 2 (.loop L26_2) P26_2 := lpOf_ok xok26_ 8 (lps_nil) S26_2 E26_2 60 R_batch_Weights_2 (by decide) r26_2
theorem r26_0 (x : S26_0.X) : denC x26_ [(2, P26_2)] (denF x26_ 8) L26_0 (S26_0.mkS 60 x) (kRound 0 S26_0 E26_0) = R_batch_Weights_0 x := by kernel_rfl
theorem l26_0 : LpOk Tryz.prog 0 (.loop L26_0) P26_0 := lpOf_ok xok26_ 8 (lps_of (by kernel_rfl) (lps_one l26_2 (by kernel_rfl) fz)) S26_0 E26_0 60 R_batch_Weights_0 (by decide) r26_0
theorem r26_2_v1 (x : S26_2_v1.X) : denC x26_ [] (denF x26_ 8) L26_2_v1 (S26_2_v1.mkS 60 x) (kRound 2 S26_2_v1 E26_2_v1) = R_batch_Weights_2_v1 x := by kernel_rfl
theorem l26_2_v1 : LpOk Tryz.prog 2 (.loop L26_2_v1) P26_2_v1 := lpOf_ok xok26_ 8 (lps_nil) S26_2_v1 E26_2_v1 60 R_batch_Weights_2_v1 (by decide) r26_2_v1
theorem r26_0_v1 (x : S26_0_v1.X) : denC x26_ [(2, P26_2_v1)] (denF x26_ 8) L26_0_v1 (S26_0_v1.mkS 60 x) (kRound 0 S26_0_v1 E26_0_v1) = R_batch_Weights_0_v1 x := by kernel_rfl
theorem l26_0_v1 : LpOk Tryz.prog 0 (.loop L26_0_v1) P26_0_v1 := lpOf_ok xok26_ 8 (lps_of (by kernel_rfl) (lps_one l26_2_v1 (by kernel_rfl) fz)) S26_0_v1 E26_0_v1 60 R_batch_Weights_0_v1 (by decide) r26_0_v1
theorem fn26_ : FnOk Tryz.prog 15 Tryz.f15 [(2, (lpOr S26_2 P26_2 P26_2_v1)), (0, (lpOr S26_0 P26_0 P26_0_v1))] := ⟨Tryz.func15, Tryz.call15, lps_of (by kernel_rfl) (lps_one (lpOr_ok l26_2 l26_2_v1) (by kernel_rfl) (lps_one (lpOr_ok l26_0 l26_0_v1) (by kernel_rfl) fz))⟩
theorem e26_ (seed : ByteArray) (n : Int) : bodyK x26_ [(2, (lpOr S26_2 P26_2 P26_2_v1)), (0, (lpOr S26_0 P26_0 P26_0_v1))] (denF x26_ 8) Tryz.f15 (domV [.str, tI] (seed, n, ())) [] 0 (kOut [(.sl tN), tI]) = batch_Weights' seed n := by kernel_rfl
theorem con26_ : ConOk Tryz.prog 15 c26_ := con_ok xok26_ 8 fn26_ false [.str, tI] [(.sl tN), tI] _ (by decide) (fun x => by rw [batch_Weights_eq]; exact e26_ x.1 x.2.1)
noncomputable def c27_ : Con := conV true [(.ptr (.pair (.pair (.ptr (.pair tN (.pair tU (.pair tN tN)))) (.ptr (.pair tN (.pair tU (.pair tN tN))))) tN)), (.sl (.pair (.sl tN) (.pair tI tN))), (.sl tN)] [.bool] fun x => batch_fits x.1 x.2.1.1 x.2.1.2 x.2.2.1.1 x.2.2.1.2
noncomputable def x27_ : Cx := { ti := ti, con := [(52, c14_)], fns := [], un := 6 }
theorem xok27_ : CxOk Tryz.prog x27_ := CxOk.of mixed ti_ok (fc ⟨con14_, fz⟩) fz
theorem fn27_ : FnOk Tryz.prog 27 Tryz.f27 [] := ⟨Tryz.func27, Tryz.call27, lps_nil⟩
theorem e27_ (g : (Option (((PtrV (NI × (Int × (NI × NI)))) × (PtrV (NI × (Int × (NI × NI))))) × NI))) (nl : Nat) (l : Nat → ((SlV NI) × (Int × NI))) (nweights : Nat) (weights : Nat → NI) : bodyK x27_ [] (denF x27_ 8) Tryz.f27 (domV [(.ptr (.pair (.pair (.ptr (.pair tN (.pair tU (.pair tN tN)))) (.ptr (.pair tN (.pair tU (.pair tN tN))))) tN)), (.sl (.pair (.sl tN) (.pair tI tN))), (.sl tN)] (g, (nl, l), (nweights, weights), ())) [] 0 (kOut [.bool]) = batch_fits' g nl l nweights weights := by cases g <;> kernel_rfl
theorem con27_ : ConOk Tryz.prog 27 c27_ := con_ok xok27_ 8 fn27_ true [(.ptr (.pair (.pair (.ptr (.pair tN (.pair tU (.pair tN tN)))) (.ptr (.pair tN (.pair tU (.pair tN tN))))) tN)), (.sl (.pair (.sl tN) (.pair tI tN))), (.sl tN)] [.bool] _ (by decide) (fun x => by rw [batch_fits_eq]; exact e27_ x.1 x.2.1.1 x.2.1.2 x.2.2.1.1 x.2.2.1.2)
noncomputable def c28_ : Con := conV true [(.ptr (.pair (.pair (.ptr (.pair tN (.pair tU (.pair tN tN)))) (.ptr (.pair tN (.pair tU (.pair tN tN))))) tN)), (.pair (.sl tN) (.pair tI tN))] [.bool] fun x => batch_may x.1 x.2.1
noncomputable def x28_ : Cx := { ti := ti, con := [(45, c1a_), (46, c1i_)], fns := [], un := 6 }
theorem xok28_ : CxOk Tryz.prog x28_ := CxOk.of mixed ti_ok (fc ⟨con1a_, fc ⟨con1i_, fz⟩⟩) fz
theorem fn28_ : FnOk Tryz.prog 53 Tryz.f53 [] := ⟨Tryz.func53, Tryz.call53, lps_nil⟩
theorem e28_ (g : (Option (((PtrV (NI × (Int × (NI × NI)))) × (PtrV (NI × (Int × (NI × NI))))) × NI))) (c : ((Nat × (Nat → NI)) × (Int × NI))) : bodyK x28_ [] (denF x28_ 8) Tryz.f53 (domV [(.ptr (.pair (.pair (.ptr (.pair tN (.pair tU (.pair tN tN)))) (.ptr (.pair tN (.pair tU (.pair tN tN))))) tN)), (.pair (.sl tN) (.pair tI tN))] (g, c, ())) [] 0 (kOut [.bool]) = batch_may' g c := by cases g <;> kernel_rfl
theorem con28_ : ConOk Tryz.prog 53 c28_ := con_ok xok28_ 8 fn28_ true [(.ptr (.pair (.pair (.ptr (.pair tN (.pair tU (.pair tN tN)))) (.ptr (.pair tN (.pair tU (.pair tN tN))))) tN)), (.pair (.sl tN) (.pair tI tN))] [.bool] _ (by decide) (fun x => by rw [batch_may_eq]; exact e28_ x.1 x.2.1)
abbrev S29_0 : Shape := { sl := [(0, (.pz (.pair (.pair (.ptr (.pair tN (.pair tU (.pair tN tN)))) (.ptr (.pair tN (.pair tU (.pair tN tN))))) tN))), (2, (.sz tN)), (pc 7 tN 0), (8, (.w 49 tN 1)), (13, (.sz (.pair (.sl tN) (.pair tI tN)))), (pv 14 tI), (pv 15 tI)], ob := [(pv 0 tN)], lo := 1, nx := 2 }
abbrev E29_0 : List Ex := [(.ret, { sl := [(6, (.v .bool))], ob := [], lo := 3, nx := 3 }), (.normal, { sl := [(0, (.pz (.pair (.pair (.ptr (.pair tN (.pair tU (.pair tN tN)))) (.ptr (.pair tN (.pair tU (.pair tN tN))))) tN))), (2, (.sz tN)), (pc 7 tN 0), (8, (.w 49 tN 2))], ob := [(pv 0 tN)], lo := 2, nx := 3 })]
noncomputable def L29_0 : Code := loopIn (bodyOf Tryz.f29) 0
noncomputable def P29_0 : Lp := lpOf S29_0 E29_0 63 R_batch_together_0
noncomputable def c29_ : Con := conV true [(.ptr (.pair (.pair (.ptr (.pair tN (.pair tU (.pair tN tN)))) (.ptr (.pair tN (.pair tU (.pair tN tN))))) tN)), (.sl (.pair (.sl tN) (.pair tI tN))), (.sl tN)] [.bool] fun x => batch_together x.1 x.2.1.1 x.2.1.2 x.2.2.1.1 x.2.2.1.2
noncomputable def x29_ : Cx := { ti := ti, con := [(53, c28_), (55, c19_), (54, c18_), (48, c1j_), (56, c1g_), (47, c1e_)], fns := [], un := 6 }
theorem xok29_ : CxOk Tryz.prog x29_ := CxOk.of mixed ti_ok (fc ⟨con28_, fc ⟨con19_, fc ⟨con18_, fc ⟨con1j_, fc ⟨con1g_, fc ⟨con1e_, fz⟩⟩⟩⟩⟩⟩) fz
theorem r29_0 (x : S29_0.X) : denC x29_ [] (denF x29_ 8) L29_0 (S29_0.mkS 63 x) (kRound 0 S29_0 E29_0) = R_batch_together_0 x := by kernel_rfl
theorem l29_0 : LpOk Tryz.prog 0 (.loop L29_0) P29_0 := lpOf_ok xok29_ 8 (lps_nil) S29_0 E29_0 63 R_batch_together_0 (by decide) r29_0
theorem fn29_ : FnOk Tryz.prog 29 Tryz.f29 [(0, P29_0)] := ⟨Tryz.func29, Tryz.call29, lps_of (by kernel_rfl) (lps_one l29_0 (by kernel_rfl) fz)⟩
theorem e29_ (g : (Option (((PtrV (NI × (Int × (NI × NI)))) × (PtrV (NI × (Int × (NI × NI))))) × NI))) (nl : Nat) (l : Nat → ((SlV NI) × (Int × NI))) (nweights : Nat) (weights : Nat → NI) : bodyK x29_ [(0, P29_0)] (denF x29_ 8) Tryz.f29 (domV [(.ptr (.pair (.pair (.ptr (.pair tN (.pair tU (.pair tN tN)))) (.ptr (.pair tN (.pair tU (.pair tN tN))))) tN)), (.sl (.pair (.sl tN) (.pair tI tN))), (.sl tN)] (g, (nl, l), (nweights, weights), ())) [] 0 (kOut [.bool]) = batch_together' g nl l nweights weights := by cases g <;> kernel_rfl
theorem con29_ : ConOk Tryz.prog 29 c29_ := con_ok xok29_ 8 fn29_ true [(.ptr (.pair (.pair (.ptr (.pair tN (.pair tU (.pair tN tN)))) (.ptr (.pair tN (.pair tU (.pair tN tN))))) tN)), (.sl (.pair (.sl tN) (.pair tI tN))), (.sl tN)] [.bool] _ (by decide) (fun x => by rw [batch_together_eq]; exact e29_ x.1 x.2.1.1 x.2.1.2 x.2.2.1.1 x.2.2.1.2)
noncomputable def c2a_ : Con := conV true [(.ptr (.pair (.pair (.ptr (.pair tN (.pair tU (.pair tN tN)))) (.ptr (.pair tN (.pair tU (.pair tN tN))))) tN)), (.sl (.pair (.sl tN) (.pair tI tN))), (.sl tN)] [.bool] fun x => batch_All x.1 x.2.1.1 x.2.1.2 x.2.2.1.1 x.2.2.1.2
noncomputable def x2a_ : Cx := { ti := ti, con := [(27, c27_), (29, c29_)], fns := [], un := 6 }
theorem xok2a_ : CxOk Tryz.prog x2a_ := CxOk.of mixed ti_ok (fc ⟨con27_, fc ⟨con29_, fz⟩⟩) fz
theorem fn2a_ : FnOk Tryz.prog 12 Tryz.f12 [] := ⟨Tryz.func12, Tryz.call12, lps_nil⟩
theorem e2a_ (g : (Option (((PtrV (NI × (Int × (NI × NI)))) × (PtrV (NI × (Int × (NI × NI))))) × NI))) (nl : Nat) (l : Nat → ((SlV NI) × (Int × NI))) (nweights : Nat) (weights : Nat → NI) : bodyK x2a_ [] (denF x2a_ 8) Tryz.f12 (domV [(.ptr (.pair (.pair (.ptr (.pair tN (.pair tU (.pair tN tN)))) (.ptr (.pair tN (.pair tU (.pair tN tN))))) tN)), (.sl (.pair (.sl tN) (.pair tI tN))), (.sl tN)] (g, (nl, l), (nweights, weights), ())) [] 0 (kOut [.bool]) = batch_All' g nl l nweights weights := by cases g <;> kernel_rfl
theorem con2a_ : ConOk Tryz.prog 12 c2a_ := con_ok xok2a_ 8 fn2a_ true [(.ptr (.pair (.pair (.ptr (.pair tN (.pair tU (.pair tN tN)))) (.ptr (.pair tN (.pair tU (.pair tN tN))))) tN)), (.sl (.pair (.sl tN) (.pair tI tN))), (.sl tN)] [.bool] _ (by decide) (fun x => by rw [batch_All_eq]; exact e2a_ x.1 x.2.1.1 x.2.1.2 x.2.2.1.1 x.2.2.1.2)
abbrev I2b_ : Shape := { sl := [(pv 0 tI), (pv 1 tI), (2, (.c ⟨(.ptr (.ptr (.pair (.pair (.ptr (.pair tN (.pair tU (.pair tN tN)))) (.ptr (.pair tN (.pair tU (.pair tN tN))))) tN))), (.rf 0 [])⟩)), (pc 3 (.sl (.pair (.sl tN) (.pair tI tN))) 1), (pc 4 (.sl tN) 2), (pc 5 (.sl tI) 3), (6, (.c ⟨(.ptr .fn), (.rf 4 [])⟩))], ob := [(0, (.pz (.pair (.pair (.ptr (.pair tN (.pair tU (.pair tN tN)))) (.ptr (.pair tN (.pair tU (.pair tN tN))))) tN))), (1, (.sz (.pair (.sl tN) (.pair tI tN)))), (2, (.sz tN)), (3, (.w 3 tI 5)), (4, (.c ⟨.fn, (.mk 28 [((.ptr (.pair (.pair (.ptr (.pair tN (.pair tU (.pair tN tN)))) (.ptr (.pair tN (.pair tU (.pair tN tN))))) tN)), 0, []), ((.sl (.pair (.sl tN) (.pair tI tN))), 1, []), ((.sl tN), 2, []), ((.sl tI), 3, []), (.fn, 4, [])])⟩))], lo := 5, nx := 6 }
abbrev O2b_ : List Shape := [{ sl := [], ob := [(0, (.pz (.pair (.pair (.ptr (.pair tN (.pair tU (.pair tN tN)))) (.ptr (.pair tN (.pair tU (.pair tN tN))))) tN))), (1, (.sz (.pair (.sl tN) (.pair tI tN)))), (2, (.sz tN)), (3, (.w 3 tI 6)), (4, (.c ⟨.fn, (.mk 28 [((.ptr (.pair (.pair (.ptr (.pair tN (.pair tU (.pair tN tN)))) (.ptr (.pair tN (.pair tU (.pair tN tN))))) tN)), 0, []), ((.sl (.pair (.sl tN) (.pair tI tN))), 1, []), ((.sl tN), 2, []), ((.sl tI), 3, []), (.fn, 4, [])])⟩))], lo := 6, nx := 7 }]
noncomputable def c2b_ (n : Nat) : Con := conS I2b_ O2b_ fun x => batch_Bad_1_m n x.1.1 x.1.2.1 x.2.1 x.2.2.1.1 x.2.2.1.2 x.2.2.2.1.1 x.2.2.2.1.2 x.2.2.2.2.1.1 x.2.2.2.2.1.2
noncomputable def x2b_ (n : Nat) : Cx := { ti := ti, con := [(29, c29_), (28, c2b_ n)], fns := [], un := 6 }
theorem xok2b_ (n : Nat) (ih : ConOk Tryz.prog 28 (c2b_ n)) : CxOk Tryz.prog (x2b_ n) := CxOk.of mixed ti_ok (fc ⟨con29_, fc ⟨ih, fz⟩⟩) fz
theorem fn2b_ : FnOk Tryz.prog 28 Tryz.f28 [] := ⟨Tryz.func28, Tryz.call28, lps_nil⟩
theorem e2b_ (n : Nat) (from_ : Int) (to_ : Int) (o : (((PtrV (NI × (Int × (NI × NI)))) × (PtrV (NI × (Int × (NI × NI))))) × NI)) (no : Nat) (o1 : Nat → ((SlV NI) × (Int × NI))) (no1 : Nat) (o2 : Nat → NI) (no2 : Nat) (o3 : Nat → Int) : bodyK (x2b_ n) [] (denF (x2b_ n) 8) Tryz.f28 ((mkVals I2b_.sl (show I2b_.X from ((from_, (to_, ((), ((), ((), ((), ((), ()))))))), (o, ((no, o1), ((no1, o2), ((no2, o3), ((), ()))))))).1).map .v) (shHp I2b_ ((from_, (to_, ((), ((), ((), ((), ((), ()))))))), (o, ((no, o1), ((no1, o2), ((no2, o3), ((), ()))))))) I2b_.nx (kOutS 0 O2b_) = batch_Bad_1_m' (batch_Bad_1_m n) from_ to_ o no o1 no1 o2 no2 o3 := by kernel_rfl
theorem con2b_ : ∀ n, ConOk Tryz.prog 28 (c2b_ n)
  | 0 => conS_none fun x => by rw [batch_Bad_1_m_zero]; exact Eq.refl none
  | n + 1 => conS_ok (xok2b_ n (con2b_ n)) 8 fn2b_ 0 I2b_ O2b_ _ (by decide) (fun x => by rw [batch_Bad_1_m_succ]; exact e2b_ n x.1.1 x.1.2.1 x.2.1 x.2.2.1.1 x.2.2.1.2 x.2.2.2.1.1 x.2.2.2.1.2 x.2.2.2.2.1.1 x.2.2.2.2.1.2)
abbrev O2c_ : List Shape := [{ sl := [(0, (.w 3 tI 7)), (pv 1 tI)], ob := [], lo := 7, nx := 8 }]
noncomputable def c2c_ : Con := conO [(.ptr (.pair (.pair (.ptr (.pair tN (.pair tU (.pair tN tN)))) (.ptr (.pair tN (.pair tU (.pair tN tN))))) tN)), (.sl (.pair (.sl tN) (.pair tI tN))), (.sl tN)] O2c_ fun x => batch_Bad x.1 x.2.1.1 x.2.1.2 x.2.2.1.1 x.2.2.1.2
noncomputable def x2c_ : Cx := { ti := ti, con := [(27, c27_), (28, c2b_ 10)], fns := [], un := 6 }
theorem xok2c_ : CxOk Tryz.prog x2c_ := CxOk.of mixed ti_ok (fc ⟨con27_, fc ⟨(con2b_ 10), fz⟩⟩) fz
theorem fn2c_ : FnOk Tryz.prog 10 Tryz.f10 [] := ⟨Tryz.func10, Tryz.call10, lps_nil⟩
theorem e2c_ (g : (Option (((PtrV (NI × (Int × (NI × NI)))) × (PtrV (NI × (Int × (NI × NI))))) × NI))) (nl : Nat) (l : Nat → ((SlV NI) × (Int × NI))) (nweights : Nat) (weights : Nat → NI) : bodyK x2c_ [] (denF x2c_ 8) Tryz.f10 (domV [(.ptr (.pair (.pair (.ptr (.pair tN (.pair tU (.pair tN tN)))) (.ptr (.pair tN (.pair tU (.pair tN tN))))) tN)), (.sl (.pair (.sl tN) (.pair tI tN))), (.sl tN)] (g, (nl, l), (nweights, weights), ())) [] 0 (kOutS 2 O2c_) = batch_Bad' g nl l nweights weights := by cases g <;> kernel_rfl
theorem con2c_ : ConOk Tryz.prog 10 c2c_ := conO_ok xok2c_ 8 fn2c_ 2 [(.ptr (.pair (.pair (.ptr (.pair tN (.pair tU (.pair tN tN)))) (.ptr (.pair tN (.pair tU (.pair tN tN))))) tN)), (.sl (.pair (.sl tN) (.pair tI tN))), (.sl tN)] O2c_ _ (by decide) (fun x => by rw [batch_Bad_eq]; exact e2c_ x.1 x.2.1.1 x.2.1.2 x.2.2.1.1 x.2.2.1.2)
end Go.Proofs.YtccbdhpcblfopaaGreat
