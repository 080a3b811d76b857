/-
  One statement, plainly.
-/
import Derived.Test.YtennopklknlecaaDenD
import Derived.Test.YtennopklknlecaaL12
import Derived.Test.YtennopklknlecaaPpoly
import Derived.Test.YtennopklknlecaaPlA
import Derived.Test.YtennopklknlecaaPr12
import Derived.Test.YtennopklknlecaaEqA
import Derived.Test.YtennopklknlecaaEpoly
import Derived.Test.YtennopklknlecaaEr12
set_option linter.unusedVariables false
set_option linter.unusedSimpArgs false
set_option maxRecDepth 100000
set_option maxHeartbeats 0
namespace Go.Pl
end Go.Pl
open Go Go.Den Go.Pl
namespace Go.Pl
noncomputable def l12_PolyDivs' (which : Int) (na : Nat) (a : Nat → (Nat → Int)) (nb : Nat) (b : Nat → (Nat → Int)) : Option (Unit) :=
 bif (decide (((na : Nat) : Int) > 8)) then (
 match l12_awake with
 | none => none
 | some r => (
 bif r then (
 some ())
 else (
 none)))
 else (
 bif (decide (((nb : Nat) : Int) > 8)) then (
 match l12_awake with
 | none => none
 | some r1 => (
 bif r1 then (
 some ())
 else (
 none)))
 else (
 match (l12_small which) with
 | none => none
 | some r2 => (
 match r2.1 with
 | none => (
 match (r08_All_o na a r2.2.1) with
 | none => none
 | some y7 => (
 let nr8 := y7.1.1.1
 let r21 := y7.1.1.2
 match (r12_Trim nr8 (fun j => r21 (0 + j))) with
 | none => none
 | some r22 => (
 match (r08_All_o nb b r2.2.1) with
 | none => none
 | some y8 => (
 let nr9 := y8.1.1.1
 let r23 := y8.1.1.2
 match (r12_Trim nr9 (fun j => r23 (0 + j))) with
 | none => none
 | some r24 => (
 match (poly_Div none na a nb b) with
 | none => none
 | some y9 => (
 let nr10 := y9.1.1.1
 let r25 := y9.1.1.2
 let nr11 := y9.1.2.1.1
 let r26 := y9.1.2.1.2
 let r27 := y9.1.2.2.1
 bif (!r2.2.2) then (
 none)
 else (
 bif (((r24.1 : Nat) : Int) == 0) then (
 bif (((nr10 : Nat) : Int) == 0) then (
 bif (((nr11 : Nat) : Int) == 0) then (
 bif (r27 == 1) then (
 match l12_awake with
 | none => none
 | some r28 => (
 bif r28 then (
 some ())
 else (
 none)))
 else (
 none))
 else (
 none))
 else (
 none))
 else (
 match (r08_All_o nr10 (fun j => r25 (0 + j)) r2.2.1) with
 | none => none
 | some y10 => (
 let nr12 := y10.1.1.1
 let r29 := y10.1.1.2
 match (r08_All_o nr11 (fun j => r26 (0 + j)) r2.2.1) with
 | none => none
 | some y11 => (
 let nr13 := y11.1.1.1
 let r30 := y11.1.1.2
 match (r12_Mul nr12 (fun j => r29 (0 + j)) r24.1 r24.2 r2.2.1) with
 | none => none
 | some y12 => (
 let nr14 := y12.1.1.1
 let r31 := y12.1.1.2
 match (r12_Add nr14 (fun j => r31 (0 + j)) nr13 (fun j => r30 (0 + j)) r2.2.1) with
 | none => none
 | some y13 => (
 let nr15 := y13.1.1.1
 let r32 := y13.1.1.2
 bif (r27 == 0) then (
 match (r12_Trim nr12 (fun j => r29 (0 + j))) with
 | none => none
 | some r33 => (
 match (l12_is nr10 (fun j => r25 (0 + j)) r33.1 r33.2) with
 | none => none
 | some r34 => (
 bif r34 then (
 match (r12_Trim nr13 (fun j => r30 (0 + j))) with
 | none => none
 | some r35 => (
 match (l12_is nr11 (fun j => r26 (0 + j)) r35.1 r35.2) with
 | none => none
 | some r36 => (
 bif r36 then (
 match (r12_Same nr15 (fun j => r32 (0 + j)) r22.1 r22.2) with
 | none => none
 | some r37 => (
 bif r37 then (
 bif (decide (((nr13 : Nat) : Int) < ((r24.1 : Nat) : Int))) then (
 match l12_awake with
 | none => none
 | some r38 => (
 bif r38 then (
 some ())
 else (
 none)))
 else (
 none))
 else (
 none)))
 else (
 none))))
 else (
 none))))
 else (
 none)))))))))))))
 | some p => (
 match (r08_All_o na a r2.2.1) with
 | none => none
 | some y => (
 let nr := y.1.1.1
 let r3 := y.1.1.2
 match (r12_Trim nr (fun j => r3 (0 + j))) with
 | none => none
 | some r4 => (
 match (r08_All_o nb b r2.2.1) with
 | none => none
 | some y1 => (
 let nr1 := y1.1.1.1
 let r5 := y1.1.1.2
 match (r12_Trim nr1 (fun j => r5 (0 + j))) with
 | none => none
 | some r6 => (
 match (poly_Div (some p) na a nb b) with
 | none => none
 | some y2 => (
 let nr2 := y2.1.1.1
 let r7 := y2.1.1.2
 let nr3 := y2.1.2.1.1
 let r8 := y2.1.2.1.2
 let r9 := y2.1.2.2.1
 bif (!r2.2.2) then (
 none)
 else (
 bif (((r6.1 : Nat) : Int) == 0) then (
 bif (((nr2 : Nat) : Int) == 0) then (
 bif (((nr3 : Nat) : Int) == 0) then (
 bif (r9 == 1) then (
 match l12_awake with
 | none => none
 | some r10 => (
 bif r10 then (
 some ())
 else (
 none)))
 else (
 none))
 else (
 none))
 else (
 none))
 else (
 match (r08_All_o nr2 (fun j => r7 (0 + j)) r2.2.1) with
 | none => none
 | some y3 => (
 let nr4 := y3.1.1.1
 let r11 := y3.1.1.2
 match (r08_All_o nr3 (fun j => r8 (0 + j)) r2.2.1) with
 | none => none
 | some y4 => (
 let nr5 := y4.1.1.1
 let r12 := y4.1.1.2
 match (r12_Mul nr4 (fun j => r11 (0 + j)) r6.1 r6.2 r2.2.1) with
 | none => none
 | some y5 => (
 let nr6 := y5.1.1.1
 let r13 := y5.1.1.2
 match (r12_Add nr6 (fun j => r13 (0 + j)) nr5 (fun j => r12 (0 + j)) r2.2.1) with
 | none => none
 | some y6 => (
 let nr7 := y6.1.1.1
 let r14 := y6.1.1.2
 bif (r9 == 0) then (
 match (r12_Trim nr4 (fun j => r11 (0 + j))) with
 | none => none
 | some r15 => (
 match (l12_is nr2 (fun j => r7 (0 + j)) r15.1 r15.2) with
 | none => none
 | some r16 => (
 bif r16 then (
 match (r12_Trim nr5 (fun j => r12 (0 + j))) with
 | none => none
 | some r17 => (
 match (l12_is nr3 (fun j => r8 (0 + j)) r17.1 r17.2) with
 | none => none
 | some r18 => (
 bif r18 then (
 match (r12_Same nr7 (fun j => r14 (0 + j)) r4.1 r4.2) with
 | none => none
 | some r19 => (
 bif r19 then (
 bif (decide (((nr5 : Nat) : Int) < ((r6.1 : Nat) : Int))) then (
 match l12_awake with
 | none => none
 | some r20 => (
 bif r20 then (
 some ())
 else (
 none)))
 else (
 none))
 else (
 none)))
 else (
 none))))
 else (
 none))))
 else (
 none))))))))))))))))
end Go.Pl

set_option linter.unusedVariables false
set_option linter.unusedSimpArgs false
set_option maxRecDepth 100000
set_option maxHeartbeats 0
namespace Go.Pl
end Go.Pl
open Go Go.Den Go.Pl
namespace Go.Proofs.Ytennopklknlecaa
noncomputable def x_l12_PolyDivs : Cx := { ti := ti, con := [(47, c_l12_awake), (48, c_l12_small), (49, c_r08_All_o), (52, c_r12_Trim), (60, c_poly_Div), (59, c_r12_Mul), (57, c_r12_Add), (50, c_l12_is), (61, c_r12_Same)], fns := [], un := 6 }
theorem xok_l12_PolyDivs : CxOk Try.prog x_l12_PolyDivs := CxOk.of mixed ti_ok (List.forall_mem_cons.2 ⟨con_l12_awake, List.forall_mem_cons.2 ⟨con_l12_small, List.forall_mem_cons.2 ⟨con_r08_All_o, List.forall_mem_cons.2 ⟨con_r12_Trim, List.forall_mem_cons.2 ⟨con_poly_Div, List.forall_mem_cons.2 ⟨con_r12_Mul, List.forall_mem_cons.2 ⟨con_r12_Add, List.forall_mem_cons.2 ⟨con_l12_is, List.forall_mem_cons.2 ⟨con_r12_Same, List.forall_mem_nil _⟩⟩⟩⟩⟩⟩⟩⟩⟩) (List.forall_mem_nil _)
theorem fn_l12_PolyDivs : FnOk Try.prog 12 Try.f12 [] := ⟨Try.func12, Try.call12, lps_nil⟩
theorem e_l12_PolyDivs (which : Int) (na : Nat) (a : Nat → (Nat → Int)) (nb : Nat) (b : Nat → (Nat → Int)) : bodyK x_l12_PolyDivs [] (denF x_l12_PolyDivs 8) Try.f12 (domV [(.int .i64), (.sl (.arr 4 (.int .u64))), (.sl (.arr 4 (.int .u64)))] (which, (na, a), (nb, b), ())) [] 0 kTrue = l12_PolyDivs' which na a nb b := by kernel_rfl
end Go.Proofs.Ytennopklknlecaa

set_option linter.unusedVariables false
set_option linter.unusedSimpArgs false
namespace Go.Pl
open Go Go.Den Go.Num

theorem r08_All_o_spec {n : Nat} (hn : n ≤ 100000) {l : Nat → (Nat → Int)} {A : Nat → Nat} (hl : ∀ i, i < n → IsN (l i) (A i)) {q : Nat} (hq : 0 < q) (hq2 : q < 9223372036854775808) : ∃ f, r08_All_o n l (q : Int) = some (((n, f), ()), ()) ∧ IsR n f (fun i => A i % q) := by
  rw [r08_All_o_eq]; unfold r08_All_o'
  obtain ⟨z, hy, hP⟩ := loop_for (R := R_r08_All_o_0) (fun i (out : Nat → Int) => T_r08_All_o_0 n l (q : Int) i out (i : Int)) (fun out => Y_r08_All_o_0_0 n out) (fun i out => IsR i out (fun i => A i % q)) n
    (fun i hi out hP => by
      have b1 : Nat.ble ((i + 1) * 8) 140737488355328 = true := Nat.ble_eq_true_of_le (by omega)
      have b2 : Nat.ble (i + 1) 9223372036854775807 = true := Nat.ble_eq_true_of_le (by omega)
      refine ⟨_, ?_, rowI_snoc hP rfl⟩
      unfold R_r08_All_o_0
      simp (disch := omega) only [add_c, add_l, l_add, mul_c, mul_l, l_mul, sub_c, sub_l, l_sub, div_c, div_l, mod_c, mod_l, tdiv_c, tdiv_l, tmod_c, tmod_l, wrap_i64n, wrapun, dec_t, dec_f, inb_t, cond_true, cond_false, Int.toNat_natCast, beq_t, beq_f, bne_t, bne_f, Bool.not_true, Bool.not_false, Int.reduceToNat, ft_b, tf_b, tt_b, ff_b, decide_true, decide_false, r08_By_spec (hl i hi) hq hq2, b1, b2, Bool.and_self])
    (fun out hP => by
      unfold R_r08_All_o_0
      simp (disch := omega) only [add_c, add_l, l_add, mul_c, mul_l, l_mul, sub_c, sub_l, l_sub, div_c, div_l, mod_c, mod_l, tdiv_c, tdiv_l, tmod_c, tmod_l, wrap_i64n, wrapun, dec_t, dec_f, inb_t, cond_true, cond_false, Int.toNat_natCast, beq_t, beq_f, bne_t, bne_f, Bool.not_true, Bool.not_false, Int.reduceToNat, ft_b, tf_b, tt_b, ff_b, decide_true, decide_false]) (fun _ => 0) (fun i hi => absurd hi (Nat.not_lt_zero i))
  have hy' : loopF R_r08_All_o_0 (((n, l), ((q : Int), ((0, fun _ => 0), (0, ())))), ()) = some (Y_r08_All_o_0_0 n z) := hy
  exact ⟨z, by simp only [hy'], hP⟩
theorem IsPolI.size {n m : Nat} {v w : Nat → Int} {c : Nat → Nat} (a : IsPolI n v c) (b : IsPolI m w c) : n = m := by
  rcases Nat.lt_trichotomy n m with h1 | h1 | h1
  · rcases b.top with h2 | h2
    · omega
    · exact absurd (a.zero _ (by omega)) h2
  · exact h1
  · rcases a.top with h2 | h2
    · omega
    · exact absurd (b.zero _ (by omega)) h2
theorem IsPol.back {q n : Nat} {f : Nat → (Nat → Int)} {c : Nat → Nat} (h : IsPol q n f c) {v : Nat → Int} (hv : IsR n v (fun i => c i % q)) : IsPolI n v c :=
  ⟨fun i hi => by rw [hv i hi]; simp only [Nat.mod_eq_of_lt (h.lt i)], h.zero, h.top⟩
theorem IsPolI.pad {n : Nat} {v : Nat → Int} {c : Nat → Nat} (h : IsPolI n v c) : pad c n = c := funext fun k => by
  unfold Go.Pl.pad
  split
  · rfl
  · exact (h.zero k (by omega)).symm
/-- the law of division, of polynomials -/
theorem div_law {Q nq nd : Nat} (hQ : 0 < Q) {cq cd cr ca : Nat → Nat} (hnq : nq ≤ 1000) (hq : ∀ k, nq ≤ k → cq k = 0) (hd : pad cd nd = cd) (la : ∀ k, ca k < Q) (h : ∀ t, Cg Q (Mu cq cd t + cr t) (ca t)) : (fun t => (mulN cq cd nq nd t % Q + cr t) % Q) = ca := funext fun t => by
  refine Cg.eq ((Cg.nat Q _).trans (Cg.trans ?_ (h t))) (Nat.mod_lt _ hQ) (la t)
  rw [Int.natCast_add]
  refine Cg.add ((Cg.nat Q _).trans (Cg.of_eq ?_)) (Cg.refl _ _)
  rw [mulN_cast, hd]
  unfold Mu mulC
  exact (sumI_ext (fun i hi => by simp only [cI, hq i hi]; simp) hnq).symm
theorem l12_PolyDivs_true {which : Int} {na nb : Nat} {a b : Nat → Nat → Int} (hw : Go.Den.Good (.int .i64) which) (ha : Go.Den.Good (.sl (.arr 4 (.int .u64))) (.fz na a)) (hb : Go.Den.Good (.sl (.arr 4 (.int .u64))) (.fz nb b)) : l12_PolyDivs' which na a nb b = some () := by
  obtain ⟨A, hA⟩ := good_nats ha
  obtain ⟨B, hB⟩ := good_nats hb
  unfold l12_PolyDivs'
  by_cases h1 : na ≤ 8
  rotate_left
  · simp (disch := first | omega | assumption) only [add_c, add_l, l_add, mul_c, mul_l, l_mul, sub_c, sub_l, l_sub, div_c, div_l, mod_c, mod_l, tdiv_c, tdiv_l, tmod_c, tmod_l, wrap_i64n, wrapun, dec_t, dec_f, inb_t, cond_true, cond_false, Int.toNat_natCast, beq_t, beq_f, bne_t, bne_f, Bool.not_true, Bool.not_false, Int.reduceToNat, ft_b, tf_b, tt_b, ff_b, decide_true, decide_false, l12_awake_spec]
  by_cases h2 : nb ≤ 8
  rotate_left
  · simp (disch := first | omega | assumption) only [add_c, add_l, l_add, mul_c, mul_l, l_mul, sub_c, sub_l, l_sub, div_c, div_l, mod_c, mod_l, tdiv_c, tdiv_l, tmod_c, tmod_l, wrap_i64n, wrapun, dec_t, dec_f, inb_t, cond_true, cond_false, Int.toNat_natCast, beq_t, beq_f, bne_t, bne_f, Bool.not_true, Bool.not_false, Int.reduceToNat, ft_b, tf_b, tt_b, ff_b, decide_true, decide_false, l12_awake_spec]
  obtain ⟨k, l, ga, g, P, Q, G, s1, hg, hQ⟩ := l12_small_spec which
  have hgg := hg.group
  have hq1 := hgg.pq.1
  obtain ⟨c, c1, c2⟩ := r08_All_o_spec (n := na) (by omega) hA (q := Q) (by omega) (by omega)
  obtain ⟨d, d1, d2⟩ := r08_All_o_spec (n := nb) (by omega) hB (q := Q) (by omega) (by omega)
  obtain ⟨ma, wa, p1, p2, p3⟩ := r12_Trim_spec (N := na) (by omega) c2
  obtain ⟨mb, wb, q1, q2, q3⟩ := r12_Trim_spec (N := nb) (by omega) d2
  rcases poly_Div_spec hgg (na := na) (nb := nb) (by omega) (by omega) hA hB with ⟨r1, r2⟩ | ⟨nq, q, cq, nr, r, cr, nd, dd, r1, r2, r3, r4, r5, r6, r7, r8⟩
  · have : mb = 0 := by
      rcases q3.top with h | h
      · exact h
      · exfalso
        apply h
        unfold pad
        split
        · exact r2 _ (by omega)
        · rfl
    subst this
    simp (disch := first | omega | assumption) only [add_c, add_l, l_add, mul_c, mul_l, l_mul, sub_c, sub_l, l_sub, div_c, div_l, mod_c, mod_l, tdiv_c, tdiv_l, tmod_c, tmod_l, wrap_i64n, wrapun, dec_t, dec_f, inb_t, cond_true, cond_false, Int.toNat_natCast, beq_t, beq_f, bne_t, bne_f, Bool.not_true, Bool.not_false, Int.reduceToNat, ft_b, tf_b, tt_b, ff_b, decide_true, decide_false, Nat.zero_add, s1, c1, d1, p1, q1, r1, Int.natCast_zero, l12_awake_spec]
  · obtain rfl := r7.sizeI q3
    obtain ⟨c', e1, e2⟩ := r08_All_o_spec (n := nq) (by omega) r2.is (q := Q) (by omega) (by omega)
    obtain ⟨d', e3, e4⟩ := r08_All_o_spec (n := nr) (by omega) r3.is (q := Q) (by omega) (by omega)
    have f1 := r2.back e2
    have f2 := r3.back e4
    obtain ⟨m4, w4, g1, g2, g3⟩ := r12_Mul_spec (q := Q) (by omega) hQ (na := nq) (nb := nd) (by omega) (by omega) f1.is q3.is
    obtain ⟨m5, w5, g4, g5, g6⟩ := r12_Add_spec (q := Q) (by omega) hQ (na := m4) (nb := nr) (by omega) (by omega) g3.is f2.is (fun i _ => Nat.mod_lt _ (by omega)) (fun i _ => r3.lt i)
    rw [g3.pad, f2.pad, div_law (by omega) (ca := pad (fun i => A i % Q) na) (by omega) r2.zero q3.pad (fun k => by
      unfold pad
      split
      · exact Nat.mod_lt _ (by omega)
      · omega) r8] at g6
    obtain rfl := g6.size p3
    have x1 := r12_Same_spec (by omega) g6.is p3.is
    obtain ⟨m6, w6, g7, g8, g9⟩ := r12_Trim_spec (N := nq) (by omega) f1.is
    obtain ⟨m7, w7, g10, g11, g12⟩ := r12_Trim_spec (N := nr) (by omega) f2.is
    rw [f1.pad] at g9
    rw [f2.pad] at g12
    have i1 := l12_is_spec (by omega) (by omega) r2 g9
    have i2 := l12_is_spec (by omega) (by omega) r3 g12
    simp only [Nat.zero_add] at i1 i2
    simp (disch := first | omega | assumption) only [add_c, add_l, l_add, mul_c, mul_l, l_mul, sub_c, sub_l, l_sub, div_c, div_l, mod_c, mod_l, tdiv_c, tdiv_l, tmod_c, tmod_l, wrap_i64n, wrapun, dec_t, dec_f, inb_t, cond_true, cond_false, Int.toNat_natCast, beq_t, beq_f, bne_t, bne_f, Bool.not_true, Bool.not_false, Int.reduceToNat, ft_b, tf_b, tt_b, ff_b, decide_true, decide_false, Nat.zero_add, s1, c1, d1, p1, q1, r1, e1, e3, g1, g4, g7, g10, i1, i2, x1, l12_awake_spec]
end Go.Pl
