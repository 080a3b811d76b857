/-
  One statement, plainly.
-/
import Derived.Test.YtoofellokbgmaaaDenD
import Derived.Test.YtoofellokbgmaaaPlA
import Derived.Test.YtoofellokbgmaaaL09
import Derived.Test.YtoofellokbgmaaaEqA
set_option linter.unusedVariables false
set_option linter.unusedSimpArgs false
set_option maxRecDepth 100000
set_option maxHeartbeats 0
namespace Go.Pl
end Go.Pl
open Go Go.Den Go.Pl
namespace Go.Pl
noncomputable def l09_PowerDoes' (which : Int) (a : (Nat → Int)) (b : (Nat → Int)) : Option (Unit) :=
  match (r07_Pick which) with
  | none => none
  | some r => (
    match (group_New ((r.1.1, r.1.2), r.2)) with
    | none => none
    | some r1 => (
      match r1.1 with
      | none => (
        match (r09_Of ((r.1.1, r.1.2), r.2)) with
        | none => none
        | some r23 => (
          match (r08_By a r23.1) with
          | none => none
          | some r24 => (
            match (r08_By b r23.1) with
            | none => none
            | some r25 => (
              bif (r1.2 != 0) then (
                none)
              else (
                match (r07_Q ((r.1.1, r.1.2), r.2)) with
                | none => none
                | some r26 => (
                  match (l09_of 1) with
                  | none => none
                  | some r27 => (
                    match (r01_Sub r26 r27) with
                    | none => none
                    | some r28 => (
                      match (power_In none a) with
                      | none => none
                      | some r29 => (
                        match (r09_In r23 a) with
                        | none => none
                        | some r30 => (
                          bif (r29 == r30) then (
                            match (power_Mul none a b) with
                            | none => none
                            | some r31 => (
                              match (r09_Mul r23 r24 r25) with
                              | none => none
                              | some r32 => (
                                match (l09_of r32) with
                                | none => none
                                | some r33 => (
                                  bif (eqF (.arr 4 (.int .u64)) r31 r33) then (
                                    match (power_Exp none a b) with
                                    | none => none
                                    | some r34 => (
                                      match (r09_Exp r23 r24 b) with
                                      | none => none
                                      | some r35 => (
                                        match (l09_of r35) with
                                        | none => none
                                        | some r36 => (
                                          bif (eqF (.arr 4 (.int .u64)) r34 r36) then (
                                            match (power_Of none b) with
                                            | none => none
                                            | some r37 => (
                                              match (r09_Exp r23 r23.2.2 b) with
                                              | none => none
                                              | some r38 => (
                                                match (l09_of r38) with
                                                | none => none
                                                | some r39 => (
                                                  bif (eqF (.arr 4 (.int .u64)) r37 r39) then (
                                                    match (power_Inv none a) with
                                                    | none => none
                                                    | some r40 => (
                                                      match (r09_Exp r23 r24 r28.1) with
                                                      | none => none
                                                      | some r41 => (
                                                        match (l09_of r41) with
                                                        | none => none
                                                        | some r42 => (
                                                          bif (eqF (.arr 4 (.int .u64)) r40 r42) then (
                                                            match l09_awake with
                                                            | none => none
                                                            | some r43 => (
                                                              bif r43 then (
                                                                some ())
                                                              else (
                                                                none)))
                                                          else (
                                                            none)))))
                                                  else (
                                                    none)))))
                                          else (
                                            none)))))
                                  else (
                                    none)))))
                          else (
                            none)))))))))))
      | some p => (
        match (r09_Of ((r.1.1, r.1.2), r.2)) with
        | none => none
        | some r2 => (
          match (r08_By a r2.1) with
          | none => none
          | some r3 => (
            match (r08_By b r2.1) with
            | none => none
            | some r4 => (
              bif (r1.2 != 0) then (
                none)
              else (
                match (r07_Q ((r.1.1, r.1.2), r.2)) with
                | none => none
                | some r5 => (
                  match (l09_of 1) with
                  | none => none
                  | some r6 => (
                    match (r01_Sub r5 r6) with
                    | none => none
                    | some r7 => (
                      match (power_In (some p) a) with
                      | none => none
                      | some r8 => (
                        match (r09_In r2 a) with
                        | none => none
                        | some r9 => (
                          bif (r8 == r9) then (
                            match (power_Mul (some p) a b) with
                            | none => none
                            | some r10 => (
                              match (r09_Mul r2 r3 r4) with
                              | none => none
                              | some r11 => (
                                match (l09_of r11) with
                                | none => none
                                | some r12 => (
                                  bif (eqF (.arr 4 (.int .u64)) r10 r12) then (
                                    match (power_Exp (some p) a b) with
                                    | none => none
                                    | some r13 => (
                                      match (r09_Exp r2 r3 b) with
                                      | none => none
                                      | some r14 => (
                                        match (l09_of r14) with
                                        | none => none
                                        | some r15 => (
                                          bif (eqF (.arr 4 (.int .u64)) r13 r15) then (
                                            match (power_Of (some p) b) with
                                            | none => none
                                            | some r16 => (
                                              match (r09_Exp r2 r2.2.2 b) with
                                              | none => none
                                              | some r17 => (
                                                match (l09_of r17) with
                                                | none => none
                                                | some r18 => (
                                                  bif (eqF (.arr 4 (.int .u64)) r16 r18) then (
                                                    match (power_Inv (some p) a) with
                                                    | none => none
                                                    | some r19 => (
                                                      match (r09_Exp r2 r3 r7.1) with
                                                      | none => none
                                                      | some r20 => (
                                                        match (l09_of r20) with
                                                        | none => none
                                                        | some r21 => (
                                                          bif (eqF (.arr 4 (.int .u64)) r19 r21) then (
                                                            match l09_awake with
                                                            | none => none
                                                            | some r22 => (
                                                              bif r22 then (
                                                                some ())
                                                              else (
                                                                none)))
                                                          else (
                                                            none)))))
                                                  else (
                                                    none)))))
                                          else (
                                            none)))))
                                  else (
                                    none)))))
                          else (
                            none)))))))))))))
end Go.Pl

set_option linter.unusedVariables false
set_option linter.unusedSimpArgs false
set_option maxRecDepth 100000
set_option maxHeartbeats 0
namespace Go.Pl
end Go.Pl
open Go Go.Den Go.Pl
namespace Go.Proofs.Ytoofellokbgmaaa
noncomputable def x_l09_PowerDoes : Cx := { ti := ti, con := [(16, c_r07_Pick), (17, c_group_New), (21, c_r09_Of), (47, c_r08_By), (29, c_r07_Q), (19, c_l09_of), (48, c_r01_Sub), (49, c_power_In), (50, c_r09_In), (51, c_power_Mul), (52, c_r09_Mul), (53, c_power_Exp), (54, c_r09_Exp), (55, c_power_Of), (56, c_power_Inv), (15, c_l09_awake)], fns := [], un := 6 }
theorem xok_l09_PowerDoes : CxOk Try.prog x_l09_PowerDoes := CxOk.of mixed ti_ok (List.forall_mem_cons.2 ⟨con_r07_Pick, List.forall_mem_cons.2 ⟨con_group_New, List.forall_mem_cons.2 ⟨con_r09_Of, List.forall_mem_cons.2 ⟨con_r08_By, List.forall_mem_cons.2 ⟨con_r07_Q, List.forall_mem_cons.2 ⟨con_l09_of, List.forall_mem_cons.2 ⟨con_r01_Sub, List.forall_mem_cons.2 ⟨con_power_In, List.forall_mem_cons.2 ⟨con_r09_In, List.forall_mem_cons.2 ⟨con_power_Mul, List.forall_mem_cons.2 ⟨con_r09_Mul, List.forall_mem_cons.2 ⟨con_power_Exp, List.forall_mem_cons.2 ⟨con_r09_Exp, List.forall_mem_cons.2 ⟨con_power_Of, List.forall_mem_cons.2 ⟨con_power_Inv, List.forall_mem_cons.2 ⟨con_l09_awake, List.forall_mem_nil _⟩⟩⟩⟩⟩⟩⟩⟩⟩⟩⟩⟩⟩⟩⟩⟩) (List.forall_mem_nil _)
theorem fn_l09_PowerDoes : FnOk Try.prog 8 Try.f8 [] := ⟨Try.func8, Try.call8, lps_nil⟩
theorem e_l09_PowerDoes (which : Int) (a : (Nat → Int)) (b : (Nat → Int)) : bodyK x_l09_PowerDoes [] (denF x_l09_PowerDoes 8) Try.f8 (domV [(.int .i64), (.arr 4 (.int .u64)), (.arr 4 (.int .u64))] (which, a, b, ())) [] 0 kTrue = l09_PowerDoes' which a b := by kernel_rfl
end Go.Proofs.Ytoofellokbgmaaa

set_option linter.unusedVariables false
set_option linter.unusedSimpArgs false
namespace Go.Pl
open Go Go.Den Go.Num

theorem l09_PowerDoes_true {which : Int} {a b : Nat → Int} (hw : Go.Den.Good (.int .i64) which) (ha : Go.Den.Good (.arr 4 (.int .u64)) a) (hb : Go.Den.Good (.arr 4 (.int .u64)) b) : l09_PowerDoes' which a b = some () := by
  obtain ⟨x, hx⟩ := good_nat ha
  obtain ⟨y, hy⟩ := good_nat hb
  obtain ⟨k, l, ga, g, P, Q, G, p1, hg, hP, hQ⟩ := r07_Pick_spec which
  unfold l09_PowerDoes'
  have hgg := hg.group
  have hppos := hgg.ppos
  have hGP := hgg.gP
  have hQ1 := hgg.pq.1
  have p63 : P < 9223372036854775808 := by omega
  have hof := r09_Of_spec hg.k2 (by have := hg.k8; omega) hg.p hg.q hg.gen p63 (by omega) (by omega)
  obtain ⟨o, o1, o2⟩ := l09_of_spec (n := 1) (by decide)
  have o2' : IsN o 1 := o2
  obtain ⟨d, d1, d2⟩ := r01_Sub_spec hg.q o2'
  have hq := hg.q.1
  have d3 : IsN d (Q - 1) := d2.of_eq (by omega)
  obtain ⟨m, m1, m2⟩ := power_Mul_spec hgg hx hy
  obtain ⟨e, e1, e2⟩ := power_Exp_spec hgg hx hy
  obtain ⟨f, f1, f2⟩ := power_Of_spec hgg hy
  obtain ⟨v, v1, v2⟩ := power_Inv_spec hgg hx
  have lt := fun n => Nat.mod_lt n hppos
  obtain ⟨om, om1, om2⟩ := l09_of_spec (n := (((x % P) * (y % P) % P : Nat) : Int)) (by have := lt ((x % P) * (y % P)); omega)
  obtain ⟨oe, oe1, oe2⟩ := l09_of_spec (n := (((x % P) ^ y % P : Nat) : Int)) (by have := lt ((x % P) ^ y); omega)
  obtain ⟨og, of1, of2⟩ := l09_of_spec (n := ((G ^ y % P : Nat) : Int)) (by have := lt (G ^ y); omega)
  obtain ⟨ov, ov1, ov2⟩ := l09_of_spec (n := (((x % P) ^ (Q - 1) % P : Nat) : Int)) (by have := lt ((x % P) ^ (Q - 1)); omega)
  rw [Int.toNat_natCast] at om2 oe2 of2 ov2
  have q1 : x * y % P = (x % P) * (y % P) % P := Nat.mul_mod ..
  have q2 : x ^ y % P = (x % P) ^ y % P := Nat.pow_mod ..
  have q3 : x ^ (Q - 1) % P = (x % P) ^ (Q - 1) % P := Nat.pow_mod ..
  simp (disch := first | omega | assumption) only [wrap_i64n, wrapun, dec_t, dec_f, inb_t, cond_true, cond_false, Int.toNat_natCast, beq_t, beq_f, bne_t, bne_f, Bool.not_true, Bool.not_false, Int.reduceToNat, ft_b, tf_b, tt_b, ff_b, decide_true, decide_false, p1, hg.made, hof, r08_By_spec hx hppos p63, r08_By_spec hy hppos p63, hg.rQ, o1, d1, power_In_spec hgg hx, r09_In_spec hx hppos p63 (show Q < 9223372036854775808 by omega), m1, r09_Mul_spec hppos p63, om1, m2.eqb om2, q1, e1, r09_Exp_spec hy hppos p63, oe1, e2.eqb oe2, q2, f1, of1, f2.eqb of2, v1, r09_Exp_spec d3 hppos p63, ov1, v2.eqb ov2, q3, l09_awake_spec, beq_self_eq_true]
end Go.Pl
