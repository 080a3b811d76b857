/-
  The functions of a package are the plain ones.
-/
import Derived.Test.YtccbdhpcblfopaaGreatEqA
import Derived.Test.YtccbdhpcblfopaaGreatDenH
import Derived.Test.YtccbdhpcblfopaaGreatPpoly
set_option linter.unusedVariables false
set_option linter.unusedSimpArgs false
set_option maxRecDepth 100000
set_option maxHeartbeats 0
namespace Go.Pl
end Go.Pl
open Go Go.Den Go.Pl
namespace Go.Proofs.YtccbdhpcblfopaaGreat
noncomputable def c1b_ : Con := conV true [tN] [.bool] fun x => poly_zero x.1
noncomputable def x1b_ : Cx := { ti := ti, con := [], fns := [], un := 6 }
theorem xok1b_ : CxOk Tryz.prog x1b_ := CxOk.of mixed ti_ok fz fz
theorem fn1b_ : FnOk Tryz.prog 124 Tryz.f124 [] := ⟨Tryz.func124, Tryz.call124, lps_nil⟩
theorem e1b_ (a : NI) : bodyK x1b_ [] (denF x1b_ 8) Tryz.f124 (domV [tN] (a, ())) [] 0 (kOut [.bool]) = poly_zero' a := by kernel_rfl
theorem con1b_ : ConOk Tryz.prog 124 c1b_ := con_ok xok1b_ 8 fn1b_ true [tN] [.bool] _ (by decide) (fun x => by rw [poly_zero_eq]; exact e1b_ x.1)
abbrev S1c_0 : Shape := { sl := [(0, (.pz (.pair (.pair (.ptr (.pair tN (.pair tU (.pair tN tN)))) (.ptr (.pair tN (.pair tU (.pair tN tN))))) tN))), (5, (.w 49 tN 0)), (11, (.sz tN)), (pv 12 tI), (pv 13 tI)], ob := [], lo := 0, nx := 1 }
abbrev E1c_0 : List Ex := [(.normal, { sl := [(5, (.w 49 tN 1))], ob := [], lo := 1, nx := 2 })]
noncomputable def L1c_0 : Code := loopIn (bodyOf Tryz.f85) 0
noncomputable def P1c_0 : Lp := lpOf S1c_0 E1c_0 43 R_poly_Trim_0
abbrev S1c_2 : Shape := { sl := [(5, (.w 49 tN 2))], ob := [], lo := 2, nx := 3 }
abbrev E1c_2 : List Ex := [(.normal, { sl := [(5, (.w 49 tN 3))], ob := [], lo := 3, nx := 4 })]
noncomputable def L1c_2 : Code := loopIn (bodyOf Tryz.f85) 2
noncomputable def P1c_2 : Lp := lpOf S1c_2 E1c_2 43 R_poly_Trim_2
abbrev O1c_ : List Shape := [{ sl := [(0, (.w 49 tN 4))], ob := [], lo := 4, nx := 5 }]
noncomputable def c1c_ : Con := conO [(.ptr (.pair (.pair (.ptr (.pair tN (.pair tU (.pair tN tN)))) (.ptr (.pair tN (.pair tU (.pair tN tN))))) tN)), (.sl tN)] O1c_ fun x => poly_Trim x.1 x.2.1.1 x.2.1.2
noncomputable def x1c_ : Cx := { ti := ti, con := [(52, c14_), (54, c18_), (124, c1b_)], fns := [], un := 6 }
theorem xok1c_ : CxOk Tryz.prog x1c_ := CxOk.of mixed ti_ok (fc ⟨con14_, fc ⟨con18_, fc ⟨con1b_, fz⟩⟩⟩) fz
theorem r1c_0 (x : S1c_0.X) : denC x1c_ [] (denF x1c_ 8) L1c_0 (S1c_0.mkS 43 x) (kRound 0 S1c_0 E1c_0) = R_poly_Trim_0 x := by kernel_rfl
theorem l1c_0 : LpOk Tryz.prog 0 (.loop L1c_0) P1c_0 := lpOf_ok xok1c_ 8 (lps_nil) S1c_0 E1c_0 43 R_poly_Trim_0 (by decide) r1c_0
theorem r1c_2 (x : S1c_2.X) : denC x1c_ [] (denF x1c_ 8) L1c_2 (S1c_2.mkS 43 x) (kRound 2 S1c_2 E1c_2) = R_poly_Trim_2 x := by kernel_rfl
theorem l1c_2 : LpOk Tryz.prog 2 (.loop L1c_2) P1c_2 := lpOf_ok xok1c_ 8 (lps_nil) S1c_2 E1c_2 43 R_poly_Trim_2 (by decide) r1c_2
theorem fn1c_ : FnOk Tryz.prog 85 Tryz.f85 [(0, P1c_0), (2, P1c_2)] := ⟨Tryz.func85, Tryz.call85, lps_of (by kernel_rfl) (lps_one l1c_0 (by kernel_rfl) (lps_one l1c_2 (by kernel_rfl) fz))⟩
theorem e1c_ (g : (Option (((PtrV (NI × (Int × (NI × NI)))) × (PtrV (NI × (Int × (NI × NI))))) × NI))) (nf : Nat) (f : Nat → NI) : bodyK x1c_ [(0, P1c_0), (2, P1c_2)] (denF x1c_ 8) Tryz.f85 (domV [(.ptr (.pair (.pair (.ptr (.pair tN (.pair tU (.pair tN tN)))) (.ptr (.pair tN (.pair tU (.pair tN tN))))) tN)), (.sl tN)] (g, (nf, f), ())) [] 0 (kOutS 1 O1c_) = poly_Trim' g nf f := by cases g <;> kernel_rfl
theorem con1c_ : ConOk Tryz.prog 85 c1c_ := conO_ok xok1c_ 8 fn1c_ 1 [(.ptr (.pair (.pair (.ptr (.pair tN (.pair tU (.pair tN tN)))) (.ptr (.pair tN (.pair tU (.pair tN tN))))) tN)), (.sl tN)] O1c_ _ (by decide) (fun x => by rw [poly_Trim_eq]; exact e1c_ x.1 x.2.1.1 x.2.1.2)
end Go.Proofs.YtccbdhpcblfopaaGreat
