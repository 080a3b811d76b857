/-
  One statement, plainly.
-/
import Derived.Test.YtennopklknlecaaDenD
import Derived.Test.YtennopklknlecaaL12
import Derived.Test.YtennopklknlecaaPpoly
import Derived.Test.YtennopklknlecaaPpolyEval
import Derived.Test.YtennopklknlecaaPlA
import Derived.Test.YtennopklknlecaaPr12
import Derived.Test.YtennopklknlecaaEqA
import Derived.Test.YtennopklknlecaaEpoly
import Derived.Test.YtennopklknlecaaEpolyEval
import Derived.Test.YtennopklknlecaaEr12
set_option linter.unusedVariables false
set_option linter.unusedSimpArgs false
set_option maxRecDepth 100000
set_option maxHeartbeats 0
namespace Go.Pl
end Go.Pl
open Go Go.Den Go.Pl
namespace Go.Pl
noncomputable def l12_PolyDoes' (which : Int) (fs : Nat → (Nat × (Nat → (Nat → Int)))) (x : (Nat → Int)) : Option (Unit) :=
 bif (decide ((((fs 0).1 : Nat) : Int) > 8)) then (
 match l12_awake with
 | none => none
 | some r => (
 bif r then (
 some ())
 else (
 none)))
 else (
 bif (decide ((((fs 1).1 : Nat) : Int) > 8)) then (
 match l12_awake with
 | none => none
 | some r1 => (
 bif r1 then (
 some ())
 else (
 none)))
 else (
 match (l12_small which) with
 | none => none
 | some r2 => (
 match r2.1 with
 | none => (
 match (r08_All (fs 0).1 (fs 0).2 r2.2.1) with
 | none => none
 | some r19 => (
 match (r08_All (fs 1).1 (fs 1).2 r2.2.1) with
 | none => none
 | some r20 => (
 bif r2.2.2 then (
 match (poly_Trim none (fs 0).1 (fs 0).2) with
 | none => none
 | some y5 => (
 let nr5 := y5.1.1.1
 let r21 := y5.1.1.2
 match (r12_Trim r19.1 r19.2) with
 | none => none
 | some r22 => (
 match (l12_is nr5 (fun j => r21 (0 + j)) r22.1 r22.2) with
 | none => none
 | some r23 => (
 bif r23 then (
 match (poly_Eval none (fs 0).1 (fs 0).2 x) with
 | none => none
 | some r24 => (
 match (r08_By x r2.2.1) with
 | none => none
 | some r25 => (
 match (r12_Eval r19.1 r19.2 r25 r2.2.1) with
 | none => none
 | some r26 => (
 match (l12_of r26) with
 | none => none
 | some r27 => (
 bif (eqF (.arr 4 (.int .u64)) r24 r27) then (
 match (poly_Add none (fs 0).1 (fs 0).2 (fs 1).1 (fs 1).2) with
 | none => none
 | some y6 => (
 let nr6 := y6.1.1.1
 let r28 := y6.1.1.2
 match (r12_Add r19.1 r19.2 r20.1 r20.2 r2.2.1) with
 | none => none
 | some y7 => (
 let nr7 := y7.1.1.1
 let r29 := y7.1.1.2
 match (l12_is nr6 (fun j => r28 (0 + j)) nr7 (fun j => r29 (0 + j))) with
 | none => none
 | some r30 => (
 bif r30 then (
 match (poly_Mul none (fs 0).1 (fs 0).2 (fs 1).1 (fs 1).2) with
 | none => none
 | some y8 => (
 let nr8 := y8.1.1.1
 let r31 := y8.1.1.2
 match (r12_Mul r19.1 r19.2 r20.1 r20.2 r2.2.1) with
 | none => none
 | some y9 => (
 let nr9 := y9.1.1.1
 let r32 := y9.1.1.2
 match (l12_is nr8 (fun j => r31 (0 + j)) nr9 (fun j => r32 (0 + j))) with
 | none => none
 | some r33 => (
 bif r33 then (
 match l12_awake with
 | none => none
 | some r34 => (
 bif r34 then (
 some ())
 else (
 none)))
 else (
 none)))))
 else (
 none)))))
 else (
 none))))))
 else (
 none)))))
 else (
 none))))
 | some p => (
 match (r08_All (fs 0).1 (fs 0).2 r2.2.1) with
 | none => none
 | some r3 => (
 match (r08_All (fs 1).1 (fs 1).2 r2.2.1) with
 | none => none
 | some r4 => (
 bif r2.2.2 then (
 match (poly_Trim (some p) (fs 0).1 (fs 0).2) with
 | none => none
 | some y => (
 let nr := y.1.1.1
 let r5 := y.1.1.2
 match (r12_Trim r3.1 r3.2) with
 | none => none
 | some r6 => (
 match (l12_is nr (fun j => r5 (0 + j)) r6.1 r6.2) with
 | none => none
 | some r7 => (
 bif r7 then (
 match (poly_Eval (some p) (fs 0).1 (fs 0).2 x) with
 | none => none
 | some r8 => (
 match (r08_By x r2.2.1) with
 | none => none
 | some r9 => (
 match (r12_Eval r3.1 r3.2 r9 r2.2.1) with
 | none => none
 | some r10 => (
 match (l12_of r10) with
 | none => none
 | some r11 => (
 bif (eqF (.arr 4 (.int .u64)) r8 r11) then (
 match (poly_Add (some p) (fs 0).1 (fs 0).2 (fs 1).1 (fs 1).2) with
 | none => none
 | some y1 => (
 let nr1 := y1.1.1.1
 let r12 := y1.1.1.2
 match (r12_Add r3.1 r3.2 r4.1 r4.2 r2.2.1) with
 | none => none
 | some y2 => (
 let nr2 := y2.1.1.1
 let r13 := y2.1.1.2
 match (l12_is nr1 (fun j => r12 (0 + j)) nr2 (fun j => r13 (0 + j))) with
 | none => none
 | some r14 => (
 bif r14 then (
 match (poly_Mul (some p) (fs 0).1 (fs 0).2 (fs 1).1 (fs 1).2) with
 | none => none
 | some y3 => (
 let nr3 := y3.1.1.1
 let r15 := y3.1.1.2
 match (r12_Mul r3.1 r3.2 r4.1 r4.2 r2.2.1) with
 | none => none
 | some y4 => (
 let nr4 := y4.1.1.1
 let r16 := y4.1.1.2
 match (l12_is nr3 (fun j => r15 (0 + j)) nr4 (fun j => r16 (0 + j))) with
 | none => none
 | some r17 => (
 bif r17 then (
 match l12_awake with
 | none => none
 | some r18 => (
 bif r18 then (
 some ())
 else (
 none)))
 else (
 none)))))
 else (
 none)))))
 else (
 none))))))
 else (
 none)))))
 else (
 none)))))))
end Go.Pl

set_option linter.unusedVariables false
set_option linter.unusedSimpArgs false
set_option maxRecDepth 100000
set_option maxHeartbeats 0
namespace Go.Pl
end Go.Pl
open Go Go.Den Go.Pl
namespace Go.Proofs.Ytennopklknlecaa
noncomputable def x_l12_PolyDoes : Cx := { ti := ti, con := [(47, c_l12_awake), (48, c_l12_small), (49, c_r08_All), (51, c_poly_Trim), (52, c_r12_Trim), (50, c_l12_is), (53, c_poly_Eval), (30, c_r08_By), (55, c_r12_Eval), (54, c_l12_of), (56, c_poly_Add), (57, c_r12_Add), (58, c_poly_Mul), (59, c_r12_Mul)], fns := [], un := 6 }
theorem xok_l12_PolyDoes : CxOk Try.prog x_l12_PolyDoes := CxOk.of mixed ti_ok (List.forall_mem_cons.2 ⟨con_l12_awake, List.forall_mem_cons.2 ⟨con_l12_small, List.forall_mem_cons.2 ⟨con_r08_All, List.forall_mem_cons.2 ⟨con_poly_Trim, List.forall_mem_cons.2 ⟨con_r12_Trim, List.forall_mem_cons.2 ⟨con_l12_is, List.forall_mem_cons.2 ⟨con_poly_Eval, List.forall_mem_cons.2 ⟨con_r08_By, List.forall_mem_cons.2 ⟨con_r12_Eval, List.forall_mem_cons.2 ⟨con_l12_of, List.forall_mem_cons.2 ⟨con_poly_Add, List.forall_mem_cons.2 ⟨con_r12_Add, List.forall_mem_cons.2 ⟨con_poly_Mul, List.forall_mem_cons.2 ⟨con_r12_Mul, List.forall_mem_nil _⟩⟩⟩⟩⟩⟩⟩⟩⟩⟩⟩⟩⟩⟩) (List.forall_mem_nil _)
theorem fn_l12_PolyDoes : FnOk Try.prog 11 Try.f11 [] := ⟨Try.func11, Try.call11, lps_nil⟩
theorem e_l12_PolyDoes (which : Int) (fs : Nat → (Nat × (Nat → (Nat → Int)))) (x : (Nat → Int)) : bodyK x_l12_PolyDoes [] (denF x_l12_PolyDoes 8) Try.f11 (domV [(.int .i64), (.arr 2 (.sl (.arr 4 (.int .u64)))), (.arr 4 (.int .u64))] (which, (fun i => .fz (fs i).1 (fs i).2), x, ())) [] 0 kTrue = l12_PolyDoes' which fs x := by kernel_rfl
end Go.Proofs.Ytennopklknlecaa

set_option linter.unusedVariables false
set_option linter.unusedSimpArgs false
namespace Go.Pl
open Go Go.Den Go.Num

theorem mulN_mod {q : Nat} (A B : Nat → Nat) (nb k : Nat) : ∀ na, mulN (fun i => A i % q) (fun i => B i % q) na nb k % q = mulN A B na nb k % q
  | 0 => rfl
  | n + 1 => by
    rw [mulN_succ, mulN_succ, Nat.add_mod, mulN_mod A B nb k n, Nat.add_mod (mulN A B n nb k)]
    congr 2
    rw [Nat.mul_mod, Nat.mul_mod (A n)]
    congr 1
    rw [Nat.mod_mod]
    congr 1
    split
    · unfold pad
      split
      · exact Nat.mod_mod _ _
      · rfl
    · rfl
theorem mulN_fun {q : Nat} (A B : Nat → Nat) (na nb : Nat) : (fun k => mulN (fun i => A i % q) (fun i => B i % q) na nb k % q) = (fun k => mulN A B na nb k % q) := funext fun k => mulN_mod A B nb k na
theorem addN_fun {q : Nat} (A B : Nat → Nat) (na nb : Nat) : (fun k => (pad (fun i => A i % q) na k + pad (fun i => B i % q) nb k) % q) = (fun k => (pad A na k + pad B nb k) % q) := funext fun k => by
  rw [Nat.add_mod, Nat.add_mod (pad A na k)]
  congr 1
  have h : ∀ (C : Nat → Nat) (n : Nat), pad (fun i => C i % q) n k % q = pad C n k % q := fun C n => by
    unfold pad
    split
    · exact Nat.mod_mod _ _
    · rfl
  rw [h, h]
theorem value_eq {q : Nat} (hq : 0 < q) {A : Nat → Nat} {X n w : Nat} (hw : w < q) (h : Cg q (w : Int) (ev (cI A) n X)) : w = dotN (fun i => A i % q) (fun i => (X % q) ^ i) n % q := by
  refine Cg.eq (h.trans (Cg.symm ((Cg.nat q _).trans ?_))) hw (Nat.mod_lt _ hq)
  rw [dotN_cast]
  refine Cg.trans (b := ev (cI A) n ((X % q : Nat) : Int)) ?_ (ev_place (Cg.nat q X))
  exact sumI_dvd fun i _ => by
    rw [Int.natCast_pow]
    exact (Cg.nat q (A i)).mul (Cg.refl q _)
theorem l12_PolyDoes_true {which : Int} {fs : Nat → Nat × (Nat → Nat → Int)} {x : Nat → Int} (hw : Go.Den.Good (.int .i64) which) (hfs : Go.Den.Good (.arr 2 (.sl (.arr 4 (.int .u64)))) (fun i => .fz (fs i).1 (fs i).2)) (hx : Go.Den.Good (.arr 4 (.int .u64)) x) : l12_PolyDoes' which fs x = some () := by
  obtain ⟨X, hX⟩ := good_nat hx
  obtain ⟨A, hA⟩ := good_nats (hfs 0 (by decide))
  obtain ⟨B, hB⟩ := good_nats (hfs 1 (by decide))
  unfold l12_PolyDoes'
  generalize (fs 0).1 = na at *
  generalize (fs 0).2 = a at *
  generalize (fs 1).1 = nb at *
  generalize (fs 1).2 = b at *
  by_cases h1 : na ≤ 8
  rotate_left
  · simp (disch := first | omega | assumption) only [add_c, add_l, l_add, mul_c, mul_l, l_mul, sub_c, sub_l, l_sub, div_c, div_l, mod_c, mod_l, tdiv_c, tdiv_l, tmod_c, tmod_l, wrap_i64n, wrapun, dec_t, dec_f, inb_t, cond_true, cond_false, Int.toNat_natCast, beq_t, beq_f, bne_t, bne_f, Bool.not_true, Bool.not_false, Int.reduceToNat, ft_b, tf_b, tt_b, ff_b, decide_true, decide_false, l12_awake_spec]
  by_cases h2 : nb ≤ 8
  rotate_left
  · simp (disch := first | omega | assumption) only [add_c, add_l, l_add, mul_c, mul_l, l_mul, sub_c, sub_l, l_sub, div_c, div_l, mod_c, mod_l, tdiv_c, tdiv_l, tmod_c, tmod_l, wrap_i64n, wrapun, dec_t, dec_f, inb_t, cond_true, cond_false, Int.toNat_natCast, beq_t, beq_f, bne_t, bne_f, Bool.not_true, Bool.not_false, Int.reduceToNat, ft_b, tf_b, tt_b, ff_b, decide_true, decide_false, l12_awake_spec]
  obtain ⟨k, l, ga, g, P, Q, G, s1, hg, hQ⟩ := l12_small_spec which
  have hgg := hg.group
  have hq1 := hgg.pq.1
  obtain ⟨c, c1, c2⟩ := r08_All_spec (n := na) (by omega) hA (q := Q) (by omega) (by omega)
  obtain ⟨d, d1, d2⟩ := r08_All_spec (n := nb) (by omega) hB (q := Q) (by omega) (by omega)
  obtain ⟨m1, z1, p1, p2, p3⟩ := poly_Trim_spec hgg (n := na) (by omega) hA
  obtain ⟨n1, w1, q1, q2, q3⟩ := r12_Trim_spec (N := na) (by omega) c2
  have i1 := l12_is_spec (by omega) (by omega) p3 q3
  obtain ⟨e, w, e1, e2, e3, e4⟩ := poly_Eval_spec hgg (n := na) (by omega) hA hX
  have y1 := r08_By_spec hX (q := Q) (by omega) (by omega)
  have v1 := r12_Eval_spec (q := Q) (by omega) hQ (n := na) (by omega) c2 (X := X % Q)
  rw [← value_eq (by omega) e3 e4] at v1
  obtain ⟨o, o1, o2⟩ := l12_of_spec (n := (w : Int)) (by omega)
  obtain ⟨m2, z2, p4, p5, p6⟩ := poly_Add_spec hgg (na := na) (nb := nb) (by omega) (by omega) hA hB
  obtain ⟨n2, w2, q4, q5, q6⟩ := r12_Add_spec (q := Q) (by omega) hQ (na := na) (nb := nb) (by omega) (by omega) c2 d2 (fun i _ => Nat.mod_lt _ (by omega)) (fun i _ => Nat.mod_lt _ (by omega))
  rw [addN_fun] at q6
  have i2 := l12_is_spec (w := fun j => w2 (0 + j)) (by omega) (by omega) p6 (by simpa only [Nat.zero_add] using q6)
  obtain ⟨m3, z3, p7, p8, p9⟩ := poly_Mul_spec hgg (na := na) (nb := nb) (by omega) (by omega) hA hB
  obtain ⟨n3, w3, q7, q8, q9⟩ := r12_Mul_spec (q := Q) (by omega) hQ (na := na) (nb := nb) (by omega) (by omega) c2 d2
  rw [mulN_fun] at q9
  have i3 := l12_is_spec (w := fun j => w3 (0 + j)) (by omega) (by omega) p9 (by simpa only [Nat.zero_add] using q9)
  simp (disch := first | omega | assumption) only [add_c, add_l, l_add, mul_c, mul_l, l_mul, sub_c, sub_l, l_sub, div_c, div_l, mod_c, mod_l, tdiv_c, tdiv_l, tmod_c, tmod_l, wrap_i64n, wrapun, dec_t, dec_f, inb_t, cond_true, cond_false, Int.toNat_natCast, beq_t, beq_f, bne_t, bne_f, Bool.not_true, Bool.not_false, Int.reduceToNat, ft_b, tf_b, tt_b, ff_b, decide_true, decide_false, s1, c1, d1, p1, q1, i1, e1, y1, v1, o1, e2.eqb o2, Int.toNat_natCast, p4, q4, i2, p7, q7, i3, l12_awake_spec]
end Go.Pl
