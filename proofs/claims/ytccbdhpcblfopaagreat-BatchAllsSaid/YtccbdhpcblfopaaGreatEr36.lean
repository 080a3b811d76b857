/-
  The functions of a package are the plain ones.
-/
import Derived.Test.YtccbdhpcblfopaaGreatEqA
import Derived.Test.YtccbdhpcblfopaaGreatDenH
import Derived.Test.YtccbdhpcblfopaaGreatDenM
import Derived.Test.YtccbdhpcblfopaaGreatPr36
import Derived.Test.YtccbdhpcblfopaaGreatEr14
import Derived.Test.YtccbdhpcblfopaaGreatEr34
set_option linter.unusedVariables false
set_option linter.unusedSimpArgs false
set_option maxRecDepth 100000
set_option maxHeartbeats 0
namespace Go.Pl
end Go.Pl
open Go Go.Den Go.Pl
namespace Go.Proofs.YtccbdhpcblfopaaGreat
noncomputable def c3q_ : Con := conV true [(.pair tI (.pair tI tI)), (.pair (.sl tN) (.pair tI tN))] [.bool] fun x => r36_may x.1 x.2.1
noncomputable def x3q_ : Cx := { ti := ti, con := [(99, c3a_), (44, c2h_), (100, c2j_)], fns := [], un := 6 }
theorem xok3q_ : CxOk Tryz.prog x3q_ := CxOk.of mixed ti_ok (fc ⟨con3a_, fc ⟨con2h_, fc ⟨con2j_, fz⟩⟩⟩) fz
theorem fn3q_ : FnOk Tryz.prog 57 Tryz.f57 [] := ⟨Tryz.func57, Tryz.call57, lps_nil⟩
theorem e3q_ (s : (Int × (Int × Int))) (c : ((Nat × (Nat → NI)) × (Int × NI))) : bodyK x3q_ [] (denF x3q_ 8) Tryz.f57 (domV [(.pair tI (.pair tI tI)), (.pair (.sl tN) (.pair tI tN))] (s, c, ())) [] 0 (kOut [.bool]) = r36_may' s c := by kernel_rfl
theorem con3q_ : ConOk Tryz.prog 57 c3q_ := con_ok xok3q_ 8 fn3q_ true [(.pair tI (.pair tI tI)), (.pair (.sl tN) (.pair tI tN))] [.bool] _ (by decide) (fun x => by rw [r36_may_eq]; exact e3q_ x.1 x.2.1)
abbrev S3r_0 : Shape := { sl := [(1, (.sz (.pair (.sl tN) (.pair tI tN)))), (2, (.sz tN)), (pc 3 (.pair tI (.pair tI tI)) 0), (pv 7 tI), (pv 8 tI), (pv 9 tI)], ob := [(pv 0 (.pair tI (.pair tI tI)))], lo := 1, nx := 1 }
abbrev E3r_0 : List Ex := [(.ret, { sl := [(6, (.v .bool))], ob := [], lo := 1, nx := 1 }), (.normal, { sl := [(pc 3 (.pair tI (.pair tI tI)) 0), (pv 7 tI), (pv 8 tI)], ob := [(pv 0 (.pair tI (.pair tI tI)))], lo := 1, nx := 1 })]
noncomputable def L3r_0 : Code := loopIn (bodyOf Tryz.f31) 0
noncomputable def P3r_0 : Lp := lpOf S3r_0 E3r_0 82 R_r36_Together_0
noncomputable def c3r_ : Con := conV true [(.pair tI (.pair tI tI)), (.sl (.pair (.sl tN) (.pair tI tN))), (.sl tN)] [.bool] fun x => r36_Together x.1 x.2.1.1 x.2.1.2 x.2.2.1.1 x.2.2.1.2
noncomputable def x3r_ : Cx := { ti := ti, con := [(57, c3q_), (58, c36_), (60, c37_), (59, c38_), (63, c3b_), (44, c2h_), (62, c2t_), (61, c2v_)], fns := [], un := 6 }
theorem xok3r_ : CxOk Tryz.prog x3r_ := CxOk.of mixed ti_ok (fc ⟨con3q_, fc ⟨con36_, fc ⟨con37_, fc ⟨con38_, fc ⟨con3b_, fc ⟨con2h_, fc ⟨con2t_, fc ⟨con2v_, fz⟩⟩⟩⟩⟩⟩⟩⟩) fz
theorem r3r_0 (x : S3r_0.X) : denC x3r_ [] (denF x3r_ 8) L3r_0 (S3r_0.mkS 82 x) (kRound 0 S3r_0 E3r_0) = R_r36_Together_0 x := by kernel_rfl
theorem l3r_0 : LpOk Tryz.prog 0 (.loop L3r_0) P3r_0 := lpOf_ok xok3r_ 8 (lps_nil) S3r_0 E3r_0 82 R_r36_Together_0 (by decide) r3r_0
theorem fn3r_ : FnOk Tryz.prog 31 Tryz.f31 [(0, P3r_0)] := ⟨Tryz.func31, Tryz.call31, lps_of (by kernel_rfl) (lps_one l3r_0 (by kernel_rfl) fz)⟩
theorem e3r_ (s : (Int × (Int × Int))) (nl : Nat) (l : Nat → ((SlV NI) × (Int × NI))) (nweights : Nat) (weights : Nat → NI) : bodyK x3r_ [(0, P3r_0)] (denF x3r_ 8) Tryz.f31 (domV [(.pair tI (.pair tI tI)), (.sl (.pair (.sl tN) (.pair tI tN))), (.sl tN)] (s, (nl, l), (nweights, weights), ())) [] 0 (kOut [.bool]) = r36_Together' s nl l nweights weights := by kernel_rfl
theorem con3r_ : ConOk Tryz.prog 31 c3r_ := con_ok xok3r_ 8 fn3r_ true [(.pair tI (.pair tI tI)), (.sl (.pair (.sl tN) (.pair tI tN))), (.sl tN)] [.bool] _ (by decide) (fun x => by rw [r36_Together_eq]; exact e3r_ x.1 x.2.1.1 x.2.1.2 x.2.2.1.1 x.2.2.1.2)
abbrev O3s_ : List Shape := [{ sl := [(0, (.w 3 tI 0))], ob := [], lo := 0, nx := 1 }]
noncomputable def c3s_ (n : Nat) : Con := conO [(.pair tI (.pair tI tI)), (.sl (.pair (.sl tN) (.pair tI tN))), (.sl tN), tI, tI] O3s_ fun x => r36_looks n x.1 x.2.1.1 x.2.1.2 x.2.2.1.1 x.2.2.1.2 x.2.2.2.1 x.2.2.2.2.1
noncomputable def x3s_ (n : Nat) : Cx := { ti := ti, con := [(31, c3r_), (30, c3s_ n)], fns := [], un := 6 }
theorem xok3s_ (n : Nat) (ih : ConOk Tryz.prog 30 (c3s_ n)) : CxOk Tryz.prog (x3s_ n) := CxOk.of mixed ti_ok (fc ⟨con3r_, fc ⟨ih, fz⟩⟩) fz
theorem fn3s_ : FnOk Tryz.prog 30 Tryz.f30 [] := ⟨Tryz.func30, Tryz.call30, lps_nil⟩
theorem e3s_ (n : Nat) (s : (Int × (Int × Int))) (nl : Nat) (l : Nat → ((SlV NI) × (Int × NI))) (nweights : Nat) (weights : Nat → NI) (from_ : Int) (to_ : Int) : bodyK (x3s_ n) [] (denF (x3s_ n) 8) Tryz.f30 (domV [(.pair tI (.pair tI tI)), (.sl (.pair (.sl tN) (.pair tI tN))), (.sl tN), tI, tI] (s, (nl, l), (nweights, weights), from_, to_, ())) [] 0 (kOutS 1 O3s_) = r36_looks' (r36_looks n) s nl l nweights weights from_ to_ := by kernel_rfl
theorem con3s_ : ∀ n, ConOk Tryz.prog 30 (c3s_ n)
  | 0 => conO_none fun x => by rw [r36_looks_zero]; exact Eq.refl none
  | n + 1 => conO_ok (xok3s_ n (con3s_ n)) 8 fn3s_ 1 [(.pair tI (.pair tI tI)), (.sl (.pair (.sl tN) (.pair tI tN))), (.sl tN), tI, tI] O3s_ _ (by decide) (fun x => by rw [r36_looks_succ]; exact e3s_ n x.1 x.2.1.1 x.2.1.2 x.2.2.1.1 x.2.2.1.2 x.2.2.2.1 x.2.2.2.2.1)
noncomputable def c3t_ : Con := conV false [(.pair tI (.pair tI tI)), (.sl (.pair (.sl tN) (.pair tI tN))), (.sl tN)] [(.sl tI), tI] fun x => r36_Bad x.1 x.2.1.1 x.2.1.2 x.2.2.1.1 x.2.2.1.2
noncomputable def x3t_ : Cx := { ti := ti, con := [(30, c3s_ 10)], fns := [], un := 6 }
theorem xok3t_ : CxOk Tryz.prog x3t_ := CxOk.of mixed ti_ok (fc ⟨(con3s_ 10), fz⟩) fz
theorem fn3t_ : FnOk Tryz.prog 11 Tryz.f11 [] := ⟨Tryz.func11, Tryz.call11, lps_nil⟩
theorem e3t_ (s : (Int × (Int × Int))) (nl : Nat) (l : Nat → ((SlV NI) × (Int × NI))) (nweights : Nat) (weights : Nat → NI) : bodyK x3t_ [] (denF x3t_ 8) Tryz.f11 (domV [(.pair tI (.pair tI tI)), (.sl (.pair (.sl tN) (.pair tI tN))), (.sl tN)] (s, (nl, l), (nweights, weights), ())) [] 0 (kOut [(.sl tI), tI]) = r36_Bad' s nl l nweights weights := by kernel_rfl
theorem con3t_ : ConOk Tryz.prog 11 c3t_ := con_ok xok3t_ 8 fn3t_ false [(.pair tI (.pair tI tI)), (.sl (.pair (.sl tN) (.pair tI tN))), (.sl tN)] [(.sl tI), tI] _ (by decide) (fun x => by rw [r36_Bad_eq]; exact e3t_ x.1 x.2.1.1 x.2.1.2 x.2.2.1.1 x.2.2.1.2)
noncomputable def c3u_ : Con := conV true [(.pair tI (.pair tI tI)), (.sl (.pair (.sl tN) (.pair tI tN))), (.sl tN)] [.bool] fun x => r36_All x.1 x.2.1.1 x.2.1.2 x.2.2.1.1 x.2.2.1.2
noncomputable def x3u_ : Cx := { ti := ti, con := [(31, c3r_)], fns := [], un := 6 }
theorem xok3u_ : CxOk Tryz.prog x3u_ := CxOk.of mixed ti_ok (fc ⟨con3r_, fz⟩) fz
theorem fn3u_ : FnOk Tryz.prog 13 Tryz.f13 [] := ⟨Tryz.func13, Tryz.call13, lps_nil⟩
theorem e3u_ (s : (Int × (Int × Int))) (nl : Nat) (l : Nat → ((SlV NI) × (Int × NI))) (nweights : Nat) (weights : Nat → NI) : bodyK x3u_ [] (denF x3u_ 8) Tryz.f13 (domV [(.pair tI (.pair tI tI)), (.sl (.pair (.sl tN) (.pair tI tN))), (.sl tN)] (s, (nl, l), (nweights, weights), ())) [] 0 (kOut [.bool]) = r36_All' s nl l nweights weights := by kernel_rfl
theorem con3u_ : ConOk Tryz.prog 13 c3u_ := con_ok xok3u_ 8 fn3u_ true [(.pair tI (.pair tI tI)), (.sl (.pair (.sl tN) (.pair tI tN))), (.sl tN)] [.bool] _ (by decide) (fun x => by rw [r36_All_eq]; exact e3u_ x.1 x.2.1.1 x.2.1.2 x.2.2.1.1 x.2.2.1.2)
end Go.Proofs.YtccbdhpcblfopaaGreat
