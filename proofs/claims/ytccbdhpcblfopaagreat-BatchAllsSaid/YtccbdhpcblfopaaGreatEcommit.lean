/-
  The functions of a package are the plain ones.
-/
import Derived.Test.YtccbdhpcblfopaaGreatEqA
import Derived.Test.YtccbdhpcblfopaaGreatPcommit
import Derived.Test.YtccbdhpcblfopaaGreatEpoly
set_option linter.unusedVariables false
set_option linter.unusedSimpArgs false
set_option maxRecDepth 100000
set_option maxHeartbeats 0
namespace Go.Pl
end Go.Pl
open Go Go.Den Go.Pl
namespace Go.Proofs.YtccbdhpcblfopaaGreat
abbrev S1h_0 : Shape := { sl := [(0, (.pz (.pair (.pair (.ptr (.pair tN (.pair tU (.pair tN tN)))) (.ptr (.pair tN (.pair tU (.pair tN tN))))) tN))), (1, (.sz tN)), (8, (.w 49 tN 6)), (pv 31 tI), (pv 32 tI)], ob := [], lo := 6, nx := 7 }
abbrev E1h_0 : List Ex := [(.normal, { sl := [(8, (.w 49 tN 7))], ob := [], lo := 7, nx := 8 })]
noncomputable def L1h_0 : Code := loopIn (bodyOf Tryz.f42) 0
noncomputable def P1h_0 : Lp := lpOf S1h_0 E1h_0 56 R_commit_To_0
noncomputable def c1h_ : Con := conV false [(.ptr (.pair (.pair (.ptr (.pair tN (.pair tU (.pair tN tN)))) (.ptr (.pair tN (.pair tU (.pair tN tN))))) tN)), (.sl tN), tI] [(.sl tN), tI] fun x => commit_To x.1 x.2.1.1 x.2.1.2 x.2.2.1
noncomputable def x1h_ : Cx := { ti := ti, con := [(52, c14_), (85, c1c_), (47, c1e_)], fns := [], un := 6 }
theorem xok1h_ : CxOk Tryz.prog x1h_ := CxOk.of mixed ti_ok (fc ⟨con14_, fc ⟨con1c_, fc ⟨con1e_, fz⟩⟩⟩) fz
theorem r1h_0 (x : S1h_0.X) : denC x1h_ [] (denF x1h_ 8) L1h_0 (S1h_0.mkS 56 x) (kRound 0 S1h_0 E1h_0) = R_commit_To_0 x := by kernel_rfl
theorem l1h_0 : LpOk Tryz.prog 0 (.loop L1h_0) P1h_0 := lpOf_ok xok1h_ 8 (lps_nil) S1h_0 E1h_0 56 R_commit_To_0 (by decide) r1h_0
theorem fn1h_ : FnOk Tryz.prog 42 Tryz.f42 [(0, P1h_0)] := ⟨Tryz.func42, Tryz.call42, lps_of (by kernel_rfl) (lps_one l1h_0 (by kernel_rfl) fz)⟩
theorem e1h_ (g : (Option (((PtrV (NI × (Int × (NI × NI)))) × (PtrV (NI × (Int × (NI × NI))))) × NI))) (nf : Nat) (f : Nat → NI) (n : Int) : bodyK x1h_ [(0, P1h_0)] (denF x1h_ 8) Tryz.f42 (domV [(.ptr (.pair (.pair (.ptr (.pair tN (.pair tU (.pair tN tN)))) (.ptr (.pair tN (.pair tU (.pair tN tN))))) tN)), (.sl tN), tI] (g, (nf, f), n, ())) [] 0 (kOut [(.sl tN), tI]) = commit_To' g nf f n := by cases g <;> kernel_rfl
theorem con1h_ : ConOk Tryz.prog 42 c1h_ := con_ok xok1h_ 8 fn1h_ false [(.ptr (.pair (.pair (.ptr (.pair tN (.pair tU (.pair tN tN)))) (.ptr (.pair tN (.pair tU (.pair tN tN))))) tN)), (.sl tN), tI] [(.sl tN), tI] _ (by decide) (fun x => by rw [commit_To_eq]; exact e1h_ x.1 x.2.1.1 x.2.1.2 x.2.2.1)
abbrev S1i_90_0 : Shape := { sl := [(0, (.sz tN)), (1, (.c ⟨.fn, (.mk 89 [((.ptr (.pair (.pair (.ptr (.pair tN (.pair tU (.pair tN tN)))) (.ptr (.pair tN (.pair tU (.pair tN tN))))) tN)), 0, [])])⟩)), (pv 7 tI), (pv 8 tI)], ob := [(0, (.pz (.pair (.pair (.ptr (.pair tN (.pair tU (.pair tN tN)))) (.ptr (.pair tN (.pair tU (.pair tN tN))))) tN)))], lo := 1, nx := 1 }
abbrev E1i_90_0 : List Ex := [(.ret, { sl := [(pv 4 tI)], ob := [(0, (.pz (.pair (.pair (.ptr (.pair tN (.pair tU (.pair tN tN)))) (.ptr (.pair tN (.pair tU (.pair tN tN))))) tN))), (pv 1 tN)], lo := 2, nx := 2 }), (.normal, { sl := [], ob := [(0, (.pz (.pair (.pair (.ptr (.pair tN (.pair tU (.pair tN tN)))) (.ptr (.pair tN (.pair tU (.pair tN tN))))) tN)))], lo := 1, nx := 1 })]
noncomputable def L1i_90_0 : Code := loopIn (bodyOf Tryz.f126) 0
noncomputable def P1i_90_0 : Lp := lpOf S1i_90_0 E1i_90_0 19 R_commit_May_90_0
noncomputable def c1i_ : Con := conV true [(.ptr (.pair (.pair (.ptr (.pair tN (.pair tU (.pair tN tN)))) (.ptr (.pair tN (.pair tU (.pair tN tN))))) tN)), (.sl tN)] [.bool] fun x => commit_May x.1 x.2.1.1 x.2.1.2
noncomputable def x1i_ : Cx := { ti := ti, con := [(90, c1f_)], fns := [(88, Tryz.f88, []), (126, Tryz.f126, [(0, P1i_90_0)]), (89, Tryz.f89, [])], un := 6 }
noncomputable def x_commit_May_i126 : Cx := { ti := ti, con := [(90, c1f_)], fns := [(88, Tryz.f88, []), (89, Tryz.f89, [])], un := 6 }
theorem xok_commit_May_i126 : CxOk Tryz.prog x_commit_May_i126 := CxOk.of mixed ti_ok (fc ⟨con1f_, fz⟩) (fc ⟨⟨Tryz.func88, Tryz.call88, lps_nil⟩, fc ⟨⟨Tryz.func89, Tryz.call89, lps_nil⟩, fz⟩⟩)
theorem r1i_90_0 (x : S1i_90_0.X) : denC x_commit_May_i126 [] (denF x_commit_May_i126 8) L1i_90_0 (S1i_90_0.mkS 19 x) (kRound 0 S1i_90_0 E1i_90_0) = R_commit_May_90_0 x := by kernel_rfl
theorem l1i_90_0 : LpOk Tryz.prog 0 (.loop L1i_90_0) P1i_90_0 := lpOf_ok xok_commit_May_i126 8 (lps_nil) S1i_90_0 E1i_90_0 19 R_commit_May_90_0 (by decide) r1i_90_0
theorem xok1i_ : CxOk Tryz.prog x1i_ := CxOk.of mixed ti_ok (fc ⟨con1f_, fz⟩) (fc ⟨⟨Tryz.func88, Tryz.call88, lps_nil⟩, fc ⟨⟨Tryz.func126, Tryz.call126, lps_of (by kernel_rfl) (lps_one l1i_90_0 (by kernel_rfl) fz)⟩, fc ⟨⟨Tryz.func89, Tryz.call89, lps_nil⟩, fz⟩⟩⟩)
theorem fn1i_ : FnOk Tryz.prog 46 Tryz.f46 [] := ⟨Tryz.func46, Tryz.call46, lps_nil⟩
theorem e1i_ (g : (Option (((PtrV (NI × (Int × (NI × NI)))) × (PtrV (NI × (Int × (NI × NI))))) × NI))) (nc : Nat) (c : Nat → NI) : bodyK x1i_ [] (denF x1i_ 8) Tryz.f46 (domV [(.ptr (.pair (.pair (.ptr (.pair tN (.pair tU (.pair tN tN)))) (.ptr (.pair tN (.pair tU (.pair tN tN))))) tN)), (.sl tN)] (g, (nc, c), ())) [] 0 (kOut [.bool]) = commit_May' g nc c := by cases g <;> kernel_rfl
theorem con1i_ : ConOk Tryz.prog 46 c1i_ := con_ok xok1i_ 8 fn1i_ true [(.ptr (.pair (.pair (.ptr (.pair tN (.pair tU (.pair tN tN)))) (.ptr (.pair tN (.pair tU (.pair tN tN))))) tN)), (.sl tN)] [.bool] _ (by decide) (fun x => by rw [commit_May_eq]; exact e1i_ x.1 x.2.1.1 x.2.1.2)
abbrev S1j_0 : Shape := { sl := [(0, (.pz (.pair (.pair (.ptr (.pair tN (.pair tU (.pair tN tN)))) (.ptr (.pair tN (.pair tU (.pair tN tN))))) tN))), (1, (.sz tN)), (pv 2 tI), (pc 6 tN 0), (7, (.w 49 tN 1)), (pv 8 tI), (pv 24 tI), (pv 25 tI)], ob := [(pv 0 tN)], lo := 1, nx := 2 }
abbrev E1j_0 : List Ex := [(.normal, { sl := [(0, (.pz (.pair (.pair (.ptr (.pair tN (.pair tU (.pair tN tN)))) (.ptr (.pair tN (.pair tU (.pair tN tN))))) tN))), (1, (.sz tN)), (pc 6 tN 0), (7, (.w 49 tN 2))], ob := [(pv 0 tN)], lo := 2, nx := 3 })]
noncomputable def L1j_0 : Code := loopIn (bodyOf Tryz.f48) 0
noncomputable def P1j_0 : Lp := lpOf S1j_0 E1j_0 44 R_commit_At_0
noncomputable def c1j_ : Con := conV true [(.ptr (.pair (.pair (.ptr (.pair tN (.pair tU (.pair tN tN)))) (.ptr (.pair tN (.pair tU (.pair tN tN))))) tN)), (.sl tN), tI] [tN] fun x => commit_At x.1 x.2.1.1 x.2.1.2 x.2.2.1
noncomputable def x1j_ : Cx := { ti := ti, con := [(39, c06_), (56, c1g_)], fns := [], un := 6 }
theorem xok1j_ : CxOk Tryz.prog x1j_ := CxOk.of mixed ti_ok (fc ⟨con06_, fc ⟨con1g_, fz⟩⟩) fz
theorem r1j_0 (x : S1j_0.X) : denC x1j_ [] (denF x1j_ 8) L1j_0 (S1j_0.mkS 44 x) (kRound 0 S1j_0 E1j_0) = R_commit_At_0 x := by kernel_rfl
theorem l1j_0 : LpOk Tryz.prog 0 (.loop L1j_0) P1j_0 := lpOf_ok xok1j_ 8 (lps_nil) S1j_0 E1j_0 44 R_commit_At_0 (by decide) r1j_0
theorem fn1j_ : FnOk Tryz.prog 48 Tryz.f48 [(0, P1j_0)] := ⟨Tryz.func48, Tryz.call48, lps_of (by kernel_rfl) (lps_one l1j_0 (by kernel_rfl) fz)⟩
theorem e1j_ (g : (Option (((PtrV (NI × (Int × (NI × NI)))) × (PtrV (NI × (Int × (NI × NI))))) × NI))) (nc : Nat) (c : Nat → NI) (i : Int) : bodyK x1j_ [(0, P1j_0)] (denF x1j_ 8) Tryz.f48 (domV [(.ptr (.pair (.pair (.ptr (.pair tN (.pair tU (.pair tN tN)))) (.ptr (.pair tN (.pair tU (.pair tN tN))))) tN)), (.sl tN), tI] (g, (nc, c), i, ())) [] 0 (kOut [tN]) = commit_At' g nc c i := by cases g <;> kernel_rfl
theorem con1j_ : ConOk Tryz.prog 48 c1j_ := con_ok xok1j_ 8 fn1j_ true [(.ptr (.pair (.pair (.ptr (.pair tN (.pair tU (.pair tN tN)))) (.ptr (.pair tN (.pair tU (.pair tN tN))))) tN)), (.sl tN), tI] [tN] _ (by decide) (fun x => by rw [commit_At_eq]; exact e1j_ x.1 x.2.1.1 x.2.1.2 x.2.2.1)
end Go.Proofs.YtccbdhpcblfopaaGreat
