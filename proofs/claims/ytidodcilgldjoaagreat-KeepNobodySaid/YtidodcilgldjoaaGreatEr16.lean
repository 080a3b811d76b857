/-
  The functions of a package are the plain ones.
-/
import Derived.Test.YtidodcilgldjoaaGreatEqA
import Derived.Test.YtidodcilgldjoaaGreatPr16
set_option linter.unusedVariables false
set_option linter.unusedSimpArgs false
set_option maxRecDepth 100000
set_option maxHeartbeats 0
namespace Go.Pl
end Go.Pl
open Go Go.Den Go.Pl
namespace Go.Proofs.YtidodcilgldjoaaGreat
abbrev S1n_0 : Shape := { sl := [(0, (.sz (.sl tN))), (pv 1 tI), (pv 5 tI)], ob := [], lo := 0, nx := 0 }
abbrev E1n_0 : List Ex := [(.ret, { sl := [(4, (.v .bool))], ob := [], lo := 0, nx := 0 }), (.normal, { sl := [(0, (.sz (.sl tN))), (pv 1 tI)], ob := [], lo := 0, nx := 0 })]
noncomputable def L1n_0 : Code := loopIn (bodyOf Tryz.f71) 0
noncomputable def P1n_0 : Lp := lpOf S1n_0 E1n_0 27 R_r16_Few_0
noncomputable def c1n_ : Con := conV true [(.sl (.sl tN)), tI] [.bool] fun x => r16_Few x.1.1 x.1.2 x.2.1
noncomputable def x1n_ : Cx := { ti := ti, con := [], fns := [], un := 6 }
theorem xok1n_ : CxOk Tryz.prog x1n_ := CxOk.of mixed ti_ok fz fz
theorem r1n_0 (x : S1n_0.X) : denC x1n_ [] (denF x1n_ 8) L1n_0 (S1n_0.mkS 27 x) (kRound 0 S1n_0 E1n_0) = R_r16_Few_0 x := by kernel_rfl
theorem l1n_0 : LpOk Tryz.prog 0 (.loop L1n_0) P1n_0 := lpOf_ok xok1n_ 8 (lps_nil) S1n_0 E1n_0 27 R_r16_Few_0 (by decide) r1n_0
theorem fn1n_ : FnOk Tryz.prog 71 Tryz.f71 [(0, P1n_0)] := ⟨Tryz.func71, Tryz.call71, lps_of (by kernel_rfl) (lps_one l1n_0 (by kernel_rfl) fz)⟩
theorem e1n_ (nm : Nat) (m : Nat → (SlV NI)) (most : Int) : bodyK x1n_ [(0, P1n_0)] (denF x1n_ 8) Tryz.f71 (domV [(.sl (.sl tN)), tI] ((nm, m), most, ())) [] 0 (kOut [.bool]) = r16_Few' nm m most := by kernel_rfl
theorem con1n_ : ConOk Tryz.prog 71 c1n_ := con_ok xok1n_ 8 fn1n_ true [(.sl (.sl tN)), tI] [.bool] _ (by decide) (fun x => by rw [r16_Few_eq]; exact e1n_ x.1.1 x.1.2 x.2.1)
abbrev S1o_0 : Shape := { sl := [(0, (.sz (.sl tN))), (1, (.sz (.sl tN))), (pv 5 tI)], ob := [], lo := 0, nx := 0 }
abbrev E1o_0 : List Ex := [(.ret, { sl := [(4, (.v .bool))], ob := [], lo := 0, nx := 0 }), (.normal, { sl := [], ob := [], lo := 0, nx := 0 })]
noncomputable def L1o_0 : Code := loopIn (bodyOf Tryz.f139) 0
noncomputable def P1o_0 : Lp := lpOf S1o_0 E1o_0 27 R_r16_Same_0
noncomputable def c1o_ : Con := conV true [(.sl (.sl tN)), (.sl (.sl tN))] [.bool] fun x => r16_Same x.1.1 x.1.2 x.2.1.1 x.2.1.2
noncomputable def x1o_ : Cx := { ti := ti, con := [(140, c1m_)], fns := [], un := 6 }
theorem xok1o_ : CxOk Tryz.prog x1o_ := CxOk.of mixed ti_ok (fc ⟨con1m_, fz⟩) fz
theorem r1o_0 (x : S1o_0.X) : denC x1o_ [] (denF x1o_ 8) L1o_0 (S1o_0.mkS 27 x) (kRound 0 S1o_0 E1o_0) = R_r16_Same_0 x := by kernel_rfl
theorem l1o_0 : LpOk Tryz.prog 0 (.loop L1o_0) P1o_0 := lpOf_ok xok1o_ 8 (lps_nil) S1o_0 E1o_0 27 R_r16_Same_0 (by decide) r1o_0
theorem fn1o_ : FnOk Tryz.prog 139 Tryz.f139 [(0, P1o_0)] := ⟨Tryz.func139, Tryz.call139, lps_of (by kernel_rfl) (lps_one l1o_0 (by kernel_rfl) fz)⟩
theorem e1o_ (na : Nat) (a : Nat → (SlV NI)) (nb : Nat) (b : Nat → (SlV NI)) : bodyK x1o_ [(0, P1o_0)] (denF x1o_ 8) Tryz.f139 (domV [(.sl (.sl tN)), (.sl (.sl tN))] ((na, a), (nb, b), ())) [] 0 (kOut [.bool]) = r16_Same' na a nb b := by kernel_rfl
theorem con1o_ : ConOk Tryz.prog 139 c1o_ := con_ok xok1o_ 8 fn1o_ true [(.sl (.sl tN)), (.sl (.sl tN))] [.bool] _ (by decide) (fun x => by rw [r16_Same_eq]; exact e1o_ x.1.1 x.1.2 x.2.1.1 x.2.1.2)
end Go.Proofs.YtidodcilgldjoaaGreat
