/-
  The functions of a package are the plain ones.
-/
import Derived.Test.YtkhhonbkgckjjaaGreatEqA
import Derived.Test.YtkhhonbkgckjjaaGreatPr37
import Derived.Test.YtkhhonbkgckjjaaGreatEr34
set_option linter.unusedVariables false
set_option linter.unusedSimpArgs false
set_option maxRecDepth 100000
set_option maxHeartbeats 0
namespace Go.Pl
end Go.Pl
open Go Go.Den Go.Pl
namespace Go.Proofs.YtkhhonbkgckjjaaGreat
abbrev S3h_0 : Shape := { sl := [(0, (.v .str)), (pv 1 tI), (pc 4 tN 0), (pc 5 tN 1), (pv 6 tI)], ob := [(pv 0 tN), (pv 1 tN)], lo := 2, nx := 2 }
abbrev E3h_0 : List Ex := [(.normal, { sl := [(pv 1 tI), (pc 4 tN 0), (pc 5 tN 1)], ob := [(pv 0 tN), (pv 1 tN)], lo := 2, nx := 2 })]
noncomputable def L3h_0 : Code := loopIn (bodyOf Tryz.f18) 0
noncomputable def P3h_0 : Lp := lpOf S3h_0 E3h_0 40 R_r37_number_0
noncomputable def c3h_ : Con := conV true [.str, tI] [tN] fun x => r37_number x.1 x.2.1
noncomputable def x3h_ : Cx := { ti := ti, con := [(53, c14_), (20, c12_), (52, c15_), (54, c16_)], fns := [], un := 6 }
theorem xok3h_ : CxOk Tryz.prog x3h_ := CxOk.of mixed ti_ok (fc ⟨con14_, fc ⟨con12_, fc ⟨con15_, fc ⟨con16_, fz⟩⟩⟩⟩) fz
theorem r3h_0 (x : S3h_0.X) : denC x3h_ [] (denF x3h_ 8) L3h_0 (S3h_0.mkS 40 x) (kRound 0 S3h_0 E3h_0) = R_r37_number_0 x := by kernel_rfl
theorem l3h_0 : LpOk Tryz.prog 0 (.loop L3h_0) P3h_0 := lpOf_ok xok3h_ 8 (lps_nil) S3h_0 E3h_0 40 R_r37_number_0 (by decide) r3h_0
theorem fn3h_ : FnOk Tryz.prog 18 Tryz.f18 [(0, P3h_0)] := ⟨Tryz.func18, Tryz.call18, lps_of (by kernel_rfl) (lps_one l3h_0 (by kernel_rfl) fz)⟩
theorem e3h_ (s : ByteArray) (bits : Int) : bodyK x3h_ [(0, P3h_0)] (denF x3h_ 8) Tryz.f18 (domV [.str, tI] (s, bits, ())) [] 0 (kOut [tN]) = r37_number' s bits := by kernel_rfl
theorem con3h_ : ConOk Tryz.prog 18 c3h_ := con_ok xok3h_ 8 fn3h_ true [.str, tI] [tN] _ (by decide) (fun x => by rw [r37_number_eq]; exact e3h_ x.1 x.2.1)
abbrev S3i_0 : Shape := { sl := [(pv 0 tI), (pv 4 tI)], ob := [], lo := 0, nx := 0 }
abbrev E3i_0 : List Ex := [(.ret, { sl := [(pv 2 tI), (pv 3 tI)], ob := [], lo := 0, nx := 0 }), (.normal, { sl := [], ob := [], lo := 0, nx := 0 })]
noncomputable def L3i_0 : Code := loopIn (bodyOf Tryz.f19) 0
noncomputable def P3i_0 : Lp := lpOf S3i_0 E3i_0 18 R_r37_First_0
noncomputable def c3i_ : Con := conV true [tI] [tI, tI] fun x => r37_First x.1
noncomputable def x3i_ : Cx := { ti := ti, con := [(55, c2w_)], fns := [], un := 6 }
theorem xok3i_ : CxOk Tryz.prog x3i_ := CxOk.of mixed ti_ok (fc ⟨con2w_, fz⟩) fz
theorem r3i_0 (x : S3i_0.X) : denC x3i_ [] (denF x3i_ 8) L3i_0 (S3i_0.mkS 18 x) (kRound 0 S3i_0 E3i_0) = R_r37_First_0 x := by kernel_rfl
theorem l3i_0 : LpOk Tryz.prog 0 (.loop L3i_0) P3i_0 := lpOf_ok xok3i_ 8 (lps_nil) S3i_0 E3i_0 18 R_r37_First_0 (by decide) r3i_0
theorem fn3i_ : FnOk Tryz.prog 19 Tryz.f19 [(0, P3i_0)] := ⟨Tryz.func19, Tryz.call19, lps_of (by kernel_rfl) (lps_one l3i_0 (by kernel_rfl) fz)⟩
theorem e3i_ (from_ : Int) : bodyK x3i_ [(0, P3i_0)] (denF x3i_ 8) Tryz.f19 (domV [tI] (from_, ())) [] 0 (kOut [tI, tI]) = r37_First' from_ := by kernel_rfl
theorem con3i_ : ConOk Tryz.prog 19 c3i_ := con_ok xok3i_ 8 fn3i_ true [tI] [tI, tI] _ (by decide) (fun x => by rw [r37_First_eq]; exact e3i_ x.1)
noncomputable def c3j_ : Con := conV true [tI, tN] [tN] fun x => r37_at x.1 x.2.1
noncomputable def x3j_ : Cx := { ti := ti, con := [(20, c12_), (94, c2l_), (52, c15_)], fns := [], un := 6 }
theorem xok3j_ : CxOk Tryz.prog x3j_ := CxOk.of mixed ti_ok (fc ⟨con12_, fc ⟨con2l_, fc ⟨con15_, fz⟩⟩⟩) fz
theorem fn3j_ : FnOk Tryz.prog 59 Tryz.f59 [] := ⟨Tryz.func59, Tryz.call59, lps_nil⟩
theorem e3j_ (k : Int) (factor : NI) : bodyK x3j_ [] (denF x3j_ 8) Tryz.f59 (domV [tI, tN] (k, factor, ())) [] 0 (kOut [tN]) = r37_at' k factor := by kernel_rfl
theorem con3j_ : ConOk Tryz.prog 59 c3j_ := con_ok xok3j_ 8 fn3j_ true [tI, tN] [tN] _ (by decide) (fun x => by rw [r37_at_eq]; exact e3j_ x.1 x.2.1)
abbrev S3k_0 : Shape := { sl := [(pv 1 tI), (pc 2 tN 0), (pv 8 tI)], ob := [(pv 0 tN)], lo := 3, nx := 3 }
abbrev E3k_0 : List Ex := [(.normal, { sl := [(pv 8 tI)], ob := [], lo := 3, nx := 3 })]
noncomputable def L3k_0 : Code := loopIn (bodyOf Tryz.f58) 0
noncomputable def P3k_0 : Lp := lpOf S3k_0 E3k_0 39 R_r37_least_0
noncomputable def c3k_ : Con := conV true [tN, tI] [tI] fun x => r37_least x.1 x.2.1
noncomputable def x3k_ : Cx := { ti := ti, con := [(20, c12_), (53, c14_), (62, c2k_), (17, c18_), (59, c3j_), (22, c17_)], fns := [], un := 6 }
theorem xok3k_ : CxOk Tryz.prog x3k_ := CxOk.of mixed ti_ok (fc ⟨con12_, fc ⟨con14_, fc ⟨con2k_, fc ⟨con18_, fc ⟨con3j_, fc ⟨con17_, fz⟩⟩⟩⟩⟩⟩) fz
theorem r3k_0 (x : S3k_0.X) : denC x3k_ [] (denF x3k_ 8) L3k_0 (S3k_0.mkS 39 x) (kRound 0 S3k_0 E3k_0) = R_r37_least_0 x := by kernel_rfl
theorem l3k_0 : LpOk Tryz.prog 0 (.loop L3k_0) P3k_0 := lpOf_ok xok3k_ 8 (lps_nil) S3k_0 E3k_0 39 R_r37_least_0 (by decide) r3k_0
theorem fn3k_ : FnOk Tryz.prog 58 Tryz.f58 [(0, P3k_0)] := ⟨Tryz.func58, Tryz.call58, lps_of (by kernel_rfl) (lps_one l3k_0 (by kernel_rfl) fz)⟩
theorem e3k_ (factor : NI) (bits : Int) : bodyK x3k_ [(0, P3k_0)] (denF x3k_ 8) Tryz.f58 (domV [tN, tI] (factor, bits, ())) [] 0 (kOut [tI]) = r37_least' factor bits := by kernel_rfl
theorem con3k_ : ConOk Tryz.prog 58 c3k_ := con_ok xok3k_ 8 fn3k_ true [tN, tI] [tI] _ (by decide) (fun x => by rw [r37_least_eq]; exact e3k_ x.1 x.2.1)
abbrev S3l_0 : Shape := { sl := [(pc 2 tN 0), (pc 3 tN 1), (pv 7 tI)], ob := [(pv 0 tN), (pv 1 tN)], lo := 2, nx := 2 }
abbrev E3l_0 : List Ex := [(.ret, { sl := [(pv 4 tI)], ob := [], lo := 2, nx := 2 }), (.normal, { sl := [], ob := [], lo := 2, nx := 2 })]
noncomputable def L3l_0 : Code := loopIn (bodyOf Tryz.f60) 0
noncomputable def P3l_0 : Lp := lpOf S3l_0 E3l_0 32 R_r37_witness_0
noncomputable def c3l_ : Con := conV true [tN, tN] [tI] fun x => r37_witness x.1 x.2.1
noncomputable def x3l_ : Cx := { ti := ti, con := [(17, c18_), (93, c2v_), (95, c2y_)], fns := [], un := 6 }
theorem xok3l_ : CxOk Tryz.prog x3l_ := CxOk.of mixed ti_ok (fc ⟨con18_, fc ⟨con2v_, fc ⟨con2y_, fz⟩⟩⟩) fz
theorem r3l_0 (x : S3l_0.X) : denC x3l_ [] (denF x3l_ 8) L3l_0 (S3l_0.mkS 32 x) (kRound 0 S3l_0 E3l_0) = R_r37_witness_0 x := by kernel_rfl
theorem l3l_0 : LpOk Tryz.prog 0 (.loop L3l_0) P3l_0 := lpOf_ok xok3l_ 8 (lps_nil) S3l_0 E3l_0 32 R_r37_witness_0 (by decide) r3l_0
theorem fn3l_ : FnOk Tryz.prog 60 Tryz.f60 [(0, P3l_0)] := ⟨Tryz.func60, Tryz.call60, lps_of (by kernel_rfl) (lps_one l3l_0 (by kernel_rfl) fz)⟩
theorem e3l_ (n : NI) (factor : NI) : bodyK x3l_ [(0, P3l_0)] (denF x3l_ 8) Tryz.f60 (domV [tN, tN] (n, factor, ())) [] 0 (kOut [tI]) = r37_witness' n factor := by kernel_rfl
theorem con3l_ : ConOk Tryz.prog 60 c3l_ := con_ok xok3l_ 8 fn3l_ true [tN, tN] [tI] _ (by decide) (fun x => by rw [r37_witness_eq]; exact e3l_ x.1 x.2.1)
abbrev S3m_0 : Shape := { sl := [(pv 1 tI), (pc 3 tN 0), (pc 6 (.pair tN tI) 2), (pv 11 tI), (pv 12 tI)], ob := [(pv 0 tN), (pv 2 (.pair tN tI))], lo := 3, nx := 3 }
abbrev E3m_0 : List Ex := [(.ret, { sl := [(pc 6 (.pair tN tI) 2), (pv 7 tI)], ob := [(pv 2 (.pair tN tI))], lo := 4, nx := 4 }), (.normal, { sl := [(pc 6 (.pair tN tI) 2)], ob := [(pv 2 (.pair tN tI))], lo := 3, nx := 3 })]
noncomputable def L3m_0 : Code := loopIn (bodyOf Tryz.f21) 0
noncomputable def P3m_0 : Lp := lpOf S3m_0 E3m_0 94 R_r37_Next_0
noncomputable def c3m_ : Con := conV true [tN, tI, tN] [(.pair tN tI), tI] fun x => r37_Next x.1 x.2.1 x.2.2.1
noncomputable def x3m_ : Cx := { ti := ti, con := [(22, c17_), (20, c12_), (57, c19_), (17, c18_), (58, c3k_), (59, c3j_), (60, c3l_)], fns := [], un := 6 }
theorem xok3m_ : CxOk Tryz.prog x3m_ := CxOk.of mixed ti_ok (fc ⟨con17_, fc ⟨con12_, fc ⟨con19_, fc ⟨con18_, fc ⟨con3k_, fc ⟨con3j_, fc ⟨con3l_, fz⟩⟩⟩⟩⟩⟩⟩) fz
theorem r3m_0 (x : S3m_0.X) : denC x3m_ [] (denF x3m_ 8) L3m_0 (S3m_0.mkS 94 x) (kRound 0 S3m_0 E3m_0) = R_r37_Next_0 x := by kernel_rfl
theorem l3m_0 : LpOk Tryz.prog 0 (.loop L3m_0) P3m_0 := lpOf_ok xok3m_ 8 (lps_nil) S3m_0 E3m_0 94 R_r37_Next_0 (by decide) r3m_0
theorem fn3m_ : FnOk Tryz.prog 21 Tryz.f21 [(0, P3m_0)] := ⟨Tryz.func21, Tryz.call21, lps_of (by kernel_rfl) (lps_one l3m_0 (by kernel_rfl) fz)⟩
theorem e3m_ (factor : NI) (bits : Int) (from_ : NI) : bodyK x3m_ [(0, P3m_0)] (denF x3m_ 8) Tryz.f21 (domV [tN, tI, tN] (factor, bits, from_, ())) [] 0 (kOut [(.pair tN tI), tI]) = r37_Next' factor bits from_ := by kernel_rfl
theorem con3m_ : ConOk Tryz.prog 21 c3m_ := con_ok xok3m_ 8 fn3m_ true [tN, tI, tN] [(.pair tN tI), tI] _ (by decide) (fun x => by rw [r37_Next_eq]; exact e3m_ x.1 x.2.1 x.2.2.1)
abbrev S3n_0 : Shape := { sl := [(pc 2 tN 0), (pc 4 tN 2), (pc 8 tN 4), (pv 11 tI)], ob := [(pv 0 tN), (pv 2 tN), (pv 4 tN)], lo := 6, nx := 6 }
abbrev E3n_0 : List Ex := [(.ret, { sl := [(pc 4 tN 2), (pv 5 tI)], ob := [(pv 2 tN)], lo := 7, nx := 7 }), (.normal, { sl := [(pc 4 tN 2)], ob := [(pv 2 tN)], lo := 6, nx := 6 })]
noncomputable def L3n_0 : Code := loopIn (bodyOf Tryz.f23) 0
noncomputable def P3n_0 : Lp := lpOf S3n_0 E3n_0 60 R_r37_Spawn_0
noncomputable def c3n_ : Con := conV true [tN, tN] [tN, tI] fun x => r37_Spawn x.1 x.2.1
noncomputable def x3n_ : Cx := { ti := ti, con := [(20, c12_), (57, c19_), (61, c1c_), (62, c2k_), (63, c2u_)], fns := [], un := 6 }
theorem xok3n_ : CxOk Tryz.prog x3n_ := CxOk.of mixed ti_ok (fc ⟨con12_, fc ⟨con19_, fc ⟨con1c_, fc ⟨con2k_, fc ⟨con2u_, fz⟩⟩⟩⟩⟩) fz
theorem r3n_0 (x : S3n_0.X) : denC x3n_ [] (denF x3n_ 8) L3n_0 (S3n_0.mkS 60 x) (kRound 0 S3n_0 E3n_0) = R_r37_Spawn_0 x := by kernel_rfl
theorem l3n_0 : LpOk Tryz.prog 0 (.loop L3n_0) P3n_0 := lpOf_ok xok3n_ 8 (lps_nil) S3n_0 E3n_0 60 R_r37_Spawn_0 (by decide) r3n_0
theorem fn3n_ : FnOk Tryz.prog 23 Tryz.f23 [(0, P3n_0)] := ⟨Tryz.func23, Tryz.call23, lps_of (by kernel_rfl) (lps_one l3n_0 (by kernel_rfl) fz)⟩
theorem e3n_ (p : NI) (q : NI) : bodyK x3n_ [(0, P3n_0)] (denF x3n_ 8) Tryz.f23 (domV [tN, tN] (p, q, ())) [] 0 (kOut [tN, tI]) = r37_Spawn' p q := by kernel_rfl
theorem con3n_ : ConOk Tryz.prog 23 c3n_ := con_ok xok3n_ 8 fn3n_ true [tN, tN] [tN, tI] _ (by decide) (fun x => by rw [r37_Spawn_eq]; exact e3n_ x.1 x.2.1)
abbrev S3o_0 : Shape := { sl := [(1, (.sz tI)), (pc 4 (.pair (.sl (.pair tN tI)) tN) 0), (pc 6 (.pair .str (.pair .str tI)) 1), (15, (.w 34 (.pair tN tI) 4)), (pv 16 tI)], ob := [(0, (.p (.sz (.pair tN tI)) (.v tN))), (pv 1 (.pair .str (.pair .str tI)))], lo := 4, nx := 5 }
abbrev E3o_0 : List Ex := [(.ret, { sl := [(pc 4 (.pair (.sl (.pair tN tI)) tN) 0), (pv 5 tI)], ob := [(0, (.p (.sz (.pair tN tI)) (.v tN)))], lo := 8, nx := 8 }), (.normal, { sl := [(pc 4 (.pair (.sl (.pair tN tI)) tN) 0), (15, (.w 34 (.pair tN tI) 5))], ob := [(0, (.p (.sz (.pair tN tI)) (.v tN)))], lo := 5, nx := 6 })]
noncomputable def L3o_0 : Code := loopIn (bodyOf Tryz.f6) 0
noncomputable def P3o_0 : Lp := lpOf S3o_0 E3o_0 148 R_r37_Find_0
noncomputable def c3o_ : Con := conV false [.str, (.sl tI)] [(.pair (.sl (.pair tN tI)) tN), tI] fun x => r37_Find x.1 x.2.1.1 x.2.1.2
noncomputable def x3o_ : Cx := { ti := ti, con := [(15, c3f_), (16, c3g_), (18, c3h_), (17, c18_), (19, c3i_), (20, c12_), (22, c17_), (21, c3m_), (23, c3n_), (24, c32_)], fns := [], un := 6 }
theorem xok3o_ : CxOk Tryz.prog x3o_ := CxOk.of mixed ti_ok (fc ⟨con3f_, fc ⟨con3g_, fc ⟨con3h_, fc ⟨con18_, fc ⟨con3i_, fc ⟨con12_, fc ⟨con17_, fc ⟨con3m_, fc ⟨con3n_, fc ⟨con32_, fz⟩⟩⟩⟩⟩⟩⟩⟩⟩⟩) fz
theorem r3o_0 (x : S3o_0.X) : denC x3o_ [] (denF x3o_ 8) L3o_0 (S3o_0.mkS 148 x) (kRound 0 S3o_0 E3o_0) = R_r37_Find_0 x := by kernel_rfl
theorem l3o_0 : LpOk Tryz.prog 0 (.loop L3o_0) P3o_0 := lpOf_ok xok3o_ 8 (lps_nil) S3o_0 E3o_0 148 R_r37_Find_0 (by decide) r3o_0
theorem fn3o_ : FnOk Tryz.prog 6 Tryz.f6 [(0, P3o_0)] := ⟨Tryz.func6, Tryz.call6, lps_of (by kernel_rfl) (lps_one l3o_0 (by kernel_rfl) fz)⟩
theorem e3o_ (seed : ByteArray) (nbits : Nat) (bits : Nat → Int) : bodyK x3o_ [(0, P3o_0)] (denF x3o_ 8) Tryz.f6 (domV [.str, (.sl tI)] (seed, (nbits, bits), ())) [] 0 (kOut [(.pair (.sl (.pair tN tI)) tN), tI]) = r37_Find' seed nbits bits := by kernel_rfl
theorem con3o_ : ConOk Tryz.prog 6 c3o_ := con_ok xok3o_ 8 fn3o_ false [.str, (.sl tI)] [(.pair (.sl (.pair tN tI)) tN), tI] _ (by decide) (fun x => by rw [r37_Find_eq]; exact e3o_ x.1 x.2.1.1 x.2.1.2)
end Go.Proofs.YtkhhonbkgckjjaaGreat
