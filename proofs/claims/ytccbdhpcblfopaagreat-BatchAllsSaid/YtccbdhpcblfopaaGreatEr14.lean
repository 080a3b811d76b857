/-
  The functions of a package are the plain ones.
-/
import Derived.Test.YtccbdhpcblfopaaGreatEqA
import Derived.Test.YtccbdhpcblfopaaGreatPr14
set_option linter.unusedVariables false
set_option linter.unusedSimpArgs false
set_option maxRecDepth 100000
set_option maxHeartbeats 0
namespace Go.Pl
end Go.Pl
open Go Go.Den Go.Pl
namespace Go.Proofs.YtccbdhpcblfopaaGreat
abbrev S3a_0 : Shape := { sl := [(1, (.sz tN)), (pc 2 (.pair tI (.pair tI tI)) 0), (pv 5 tI)], ob := [(pv 0 (.pair tI (.pair tI tI)))], lo := 1, nx := 1 }
abbrev E3a_0 : List Ex := [(.ret, { sl := [(4, (.v .bool))], ob := [], lo := 1, nx := 1 }), (.normal, { sl := [(1, (.sz tN))], ob := [], lo := 1, nx := 1 })]
noncomputable def L3a_0 : Code := loopIn (bodyOf Tryz.f99) 0
noncomputable def P3a_0 : Lp := lpOf S3a_0 E3a_0 27 R_r14_May_0
noncomputable def c3a_ : Con := conV true [(.pair tI (.pair tI tI)), (.sl tN)] [.bool] fun x => r14_May x.1 x.2.1.1 x.2.1.2
noncomputable def x3a_ : Cx := { ti := ti, con := [(131, c2u_)], fns := [], un := 6 }
theorem xok3a_ : CxOk Tryz.prog x3a_ := CxOk.of mixed ti_ok (fc ⟨con2u_, fz⟩) fz
theorem r3a_0 (x : S3a_0.X) : denC x3a_ [] (denF x3a_ 8) L3a_0 (S3a_0.mkS 27 x) (kRound 0 S3a_0 E3a_0) = R_r14_May_0 x := by kernel_rfl
theorem l3a_0 : LpOk Tryz.prog 0 (.loop L3a_0) P3a_0 := lpOf_ok xok3a_ 8 (lps_nil) S3a_0 E3a_0 27 R_r14_May_0 (by decide) r3a_0
theorem fn3a_ : FnOk Tryz.prog 99 Tryz.f99 [(0, P3a_0)] := ⟨Tryz.func99, Tryz.call99, lps_of (by kernel_rfl) (lps_one l3a_0 (by kernel_rfl) fz)⟩
theorem e3a_ (s : (Int × (Int × Int))) (nc : Nat) (c : Nat → NI) : bodyK x3a_ [(0, P3a_0)] (denF x3a_ 8) Tryz.f99 (domV [(.pair tI (.pair tI tI)), (.sl tN)] (s, (nc, c), ())) [] 0 (kOut [.bool]) = r14_May' s nc c := by kernel_rfl
theorem con3a_ : ConOk Tryz.prog 99 c3a_ := con_ok xok3a_ 8 fn3a_ true [(.pair tI (.pair tI tI)), (.sl tN)] [.bool] _ (by decide) (fun x => by rw [r14_May_eq]; exact e3a_ x.1 x.2.1.1 x.2.1.2)
abbrev S3b_0 : Shape := { sl := [(1, (.sz tN)), (pv 2 tI), (pc 3 (.pair tI (.pair tI tI)) 0), (pv 7 tI), (pv 8 tI), (pv 9 tI)], ob := [(pv 0 (.pair tI (.pair tI tI)))], lo := 1, nx := 1 }
abbrev E3b_0 : List Ex := [(.normal, { sl := [(pv 7 tI)], ob := [], lo := 1, nx := 1 })]
noncomputable def L3b_0 : Code := loopIn (bodyOf Tryz.f63) 0
noncomputable def P3b_0 : Lp := lpOf S3b_0 E3b_0 34 R_r14_At_0
noncomputable def c3b_ : Con := conV true [(.pair tI (.pair tI tI)), (.sl tN), tI] [tI] fun x => r14_At x.1 x.2.1.1 x.2.1.2 x.2.2.1
noncomputable def x3b_ : Cx := { ti := ti, con := [(58, c36_), (44, c2h_), (62, c2t_), (61, c2v_)], fns := [], un := 6 }
theorem xok3b_ : CxOk Tryz.prog x3b_ := CxOk.of mixed ti_ok (fc ⟨con36_, fc ⟨con2h_, fc ⟨con2t_, fc ⟨con2v_, fz⟩⟩⟩⟩) fz
theorem r3b_0 (x : S3b_0.X) : denC x3b_ [] (denF x3b_ 8) L3b_0 (S3b_0.mkS 34 x) (kRound 0 S3b_0 E3b_0) = R_r14_At_0 x := by kernel_rfl
theorem l3b_0 : LpOk Tryz.prog 0 (.loop L3b_0) P3b_0 := lpOf_ok xok3b_ 8 (lps_nil) S3b_0 E3b_0 34 R_r14_At_0 (by decide) r3b_0
theorem fn3b_ : FnOk Tryz.prog 63 Tryz.f63 [(0, P3b_0)] := ⟨Tryz.func63, Tryz.call63, lps_of (by kernel_rfl) (lps_one l3b_0 (by kernel_rfl) fz)⟩
theorem e3b_ (s : (Int × (Int × Int))) (nc : Nat) (c : Nat → NI) (i : Int) : bodyK x3b_ [(0, P3b_0)] (denF x3b_ 8) Tryz.f63 (domV [(.pair tI (.pair tI tI)), (.sl tN), tI] (s, (nc, c), i, ())) [] 0 (kOut [tI]) = r14_At' s nc c i := by kernel_rfl
theorem con3b_ : ConOk Tryz.prog 63 c3b_ := con_ok xok3b_ 8 fn3b_ true [(.pair tI (.pair tI tI)), (.sl tN), tI] [tI] _ (by decide) (fun x => by rw [r14_At_eq]; exact e3b_ x.1 x.2.1.1 x.2.1.2 x.2.2.1)
end Go.Proofs.YtccbdhpcblfopaaGreat
