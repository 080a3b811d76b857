/-
  One statement, plainly.
-/
import Derived.Test.YtoofellokbgmaaaDenD
import Derived.Test.YtoofellokbgmaaaPlA
import Derived.Test.YtoofellokbgmaaaL08
import Derived.Test.YtoofellokbgmaaaEqA
set_option linter.unusedVariables false
set_option linter.unusedSimpArgs false
set_option maxRecDepth 100000
set_option maxHeartbeats 0
namespace Go.Pl
end Go.Pl
open Go Go.Den Go.Pl
namespace Go.Pl
noncomputable def l08_FieldDoes' (which : Int) (a : (Nat → Int)) (b : (Nat → Int)) : Option (Unit) :=
  match (r07_Pick which) with
  | none => none
  | some r => (
    match (group_New ((r.1.1, r.1.2), r.2)) with
    | none => none
    | some r1 => (
      match r1.1 with
      | none => (
        match (r07_Q ((r.1.1, r.1.2), r.2)) with
        | none => none
        | some r22 => (
          match (r01_Low r22) with
          | none => none
          | some r23 => (
            match (r08_By a r23.1) with
            | none => none
            | some r24 => (
              match (r08_By b r23.1) with
              | none => none
              | some r25 => (
                bif (r1.2 == 0) then (
                  match (field_In none a) with
                  | none => none
                  | some r26 => (
                    match (r07_Q ((r.1.1, r.1.2), r.2)) with
                    | none => none
                    | some r27 => (
                      match (r01_Cmp a r27) with
                      | none => none
                      | some r28 => (
                        bif (r26 == (decide (r28 < 0))) then (
                          match (field_Add none a b) with
                          | none => none
                          | some r29 => (
                            match (r08_Add r24 r25 r23.1) with
                            | none => none
                            | some r30 => (
                              match (l08_of r30) with
                              | none => none
                              | some r31 => (
                                bif (eqF (.arr 4 (.int .u64)) r29 r31) then (
                                  match (field_Sub none a b) with
                                  | none => none
                                  | some r32 => (
                                    match (r08_Sub r24 r25 r23.1) with
                                    | none => none
                                    | some r33 => (
                                      match (l08_of r33) with
                                      | none => none
                                      | some r34 => (
                                        bif (eqF (.arr 4 (.int .u64)) r32 r34) then (
                                          match (field_Mul none a b) with
                                          | none => none
                                          | some r35 => (
                                            match (r08_Mul r24 r25 r23.1) with
                                            | none => none
                                            | some r36 => (
                                              match (l08_of r36) with
                                              | none => none
                                              | some r37 => (
                                                bif (eqF (.arr 4 (.int .u64)) r35 r37) then (
                                                  match (field_Inv none a) with
                                                  | none => none
                                                  | some r38 => (
                                                    match (r08_Inv r24 r23.1) with
                                                    | none => none
                                                    | some r39 => (
                                                      match (l08_of r39) with
                                                      | none => none
                                                      | some r40 => (
                                                        bif (eqF (.arr 4 (.int .u64)) r38 r40) then (
                                                          match l08_awake with
                                                          | none => none
                                                          | some r41 => (
                                                            bif r41 then (
                                                              some ())
                                                            else (
                                                              none)))
                                                        else (
                                                          none)))))
                                                else (
                                                  none)))))
                                        else (
                                          none)))))
                                else (
                                  none)))))
                        else (
                          none)))))
                else (
                  none))))))
      | some p => (
        match (r07_Q ((r.1.1, r.1.2), r.2)) with
        | none => none
        | some r2 => (
          match (r01_Low r2) with
          | none => none
          | some r3 => (
            match (r08_By a r3.1) with
            | none => none
            | some r4 => (
              match (r08_By b r3.1) with
              | none => none
              | some r5 => (
                bif (r1.2 == 0) then (
                  match (field_In (some p) a) with
                  | none => none
                  | some r6 => (
                    match (r07_Q ((r.1.1, r.1.2), r.2)) with
                    | none => none
                    | some r7 => (
                      match (r01_Cmp a r7) with
                      | none => none
                      | some r8 => (
                        bif (r6 == (decide (r8 < 0))) then (
                          match (field_Add (some p) a b) with
                          | none => none
                          | some r9 => (
                            match (r08_Add r4 r5 r3.1) with
                            | none => none
                            | some r10 => (
                              match (l08_of r10) with
                              | none => none
                              | some r11 => (
                                bif (eqF (.arr 4 (.int .u64)) r9 r11) then (
                                  match (field_Sub (some p) a b) with
                                  | none => none
                                  | some r12 => (
                                    match (r08_Sub r4 r5 r3.1) with
                                    | none => none
                                    | some r13 => (
                                      match (l08_of r13) with
                                      | none => none
                                      | some r14 => (
                                        bif (eqF (.arr 4 (.int .u64)) r12 r14) then (
                                          match (field_Mul (some p) a b) with
                                          | none => none
                                          | some r15 => (
                                            match (r08_Mul r4 r5 r3.1) with
                                            | none => none
                                            | some r16 => (
                                              match (l08_of r16) with
                                              | none => none
                                              | some r17 => (
                                                bif (eqF (.arr 4 (.int .u64)) r15 r17) then (
                                                  match (field_Inv (some p) a) with
                                                  | none => none
                                                  | some r18 => (
                                                    match (r08_Inv r4 r3.1) with
                                                    | none => none
                                                    | some r19 => (
                                                      match (l08_of r19) with
                                                      | none => none
                                                      | some r20 => (
                                                        bif (eqF (.arr 4 (.int .u64)) r18 r20) then (
                                                          match l08_awake with
                                                          | none => none
                                                          | some r21 => (
                                                            bif r21 then (
                                                              some ())
                                                            else (
                                                              none)))
                                                        else (
                                                          none)))))
                                                else (
                                                  none)))))
                                        else (
                                          none)))))
                                else (
                                  none)))))
                        else (
                          none)))))
                else (
                  none))))))))
end Go.Pl

set_option linter.unusedVariables false
set_option linter.unusedSimpArgs false
set_option maxRecDepth 100000
set_option maxHeartbeats 0
namespace Go.Pl
end Go.Pl
open Go Go.Den Go.Pl
namespace Go.Proofs.Ytoofellokbgmaaa
noncomputable def x_l08_FieldDoes : Cx := { ti := ti, con := [(16, c_r07_Pick), (17, c_group_New), (29, c_r07_Q), (60, c_r01_Low), (47, c_r08_By), (61, c_field_In), (62, c_r01_Cmp), (58, c_field_Add), (64, c_r08_Add), (63, c_l08_of), (59, c_field_Sub), (65, c_r08_Sub), (57, c_field_Mul), (66, c_r08_Mul), (67, c_field_Inv), (68, c_r08_Inv), (69, c_l08_awake)], fns := [], un := 6 }
theorem xok_l08_FieldDoes : CxOk Try.prog x_l08_FieldDoes := CxOk.of mixed ti_ok (List.forall_mem_cons.2 ⟨con_r07_Pick, List.forall_mem_cons.2 ⟨con_group_New, List.forall_mem_cons.2 ⟨con_r07_Q, List.forall_mem_cons.2 ⟨con_r01_Low, List.forall_mem_cons.2 ⟨con_r08_By, List.forall_mem_cons.2 ⟨con_field_In, List.forall_mem_cons.2 ⟨con_r01_Cmp, List.forall_mem_cons.2 ⟨con_field_Add, List.forall_mem_cons.2 ⟨con_r08_Add, List.forall_mem_cons.2 ⟨con_l08_of, List.forall_mem_cons.2 ⟨con_field_Sub, List.forall_mem_cons.2 ⟨con_r08_Sub, List.forall_mem_cons.2 ⟨con_field_Mul, List.forall_mem_cons.2 ⟨con_r08_Mul, List.forall_mem_cons.2 ⟨con_field_Inv, List.forall_mem_cons.2 ⟨con_r08_Inv, List.forall_mem_cons.2 ⟨con_l08_awake, List.forall_mem_nil _⟩⟩⟩⟩⟩⟩⟩⟩⟩⟩⟩⟩⟩⟩⟩⟩⟩) (List.forall_mem_nil _)
theorem fn_l08_FieldDoes : FnOk Try.prog 11 Try.f11 [] := ⟨Try.func11, Try.call11, lps_nil⟩
theorem e_l08_FieldDoes (which : Int) (a : (Nat → Int)) (b : (Nat → Int)) : bodyK x_l08_FieldDoes [] (denF x_l08_FieldDoes 8) Try.f11 (domV [(.int .i64), (.arr 4 (.int .u64)), (.arr 4 (.int .u64))] (which, a, b, ())) [] 0 kTrue = l08_FieldDoes' which a b := by kernel_rfl
end Go.Proofs.Ytoofellokbgmaaa

set_option linter.unusedVariables false
set_option linter.unusedSimpArgs false
namespace Go.Pl
open Go Go.Den Go.Num

theorem l08_FieldDoes_true {which : Int} {a b : Nat → Int} (hw : Go.Den.Good (.int .i64) which) (ha : Go.Den.Good (.arr 4 (.int .u64)) a) (hb : Go.Den.Good (.arr 4 (.int .u64)) b) : l08_FieldDoes' which a b = some () := by
  obtain ⟨x, hx⟩ := good_nat ha
  obtain ⟨y, hy⟩ := good_nat hb
  obtain ⟨k, l, ga, g, P, Q, G, p1, hg, hP, hQ⟩ := r07_Pick_spec which
  unfold l08_FieldDoes'
  have hqpos := hg.group.qpos
  have hq2 := hg.group.pq.1
  have hx1 := Nat.mod_lt x hqpos
  have hy1 := Nat.mod_lt y hqpos
  obtain ⟨s, s1, s2⟩ := field_Add_spec hg.group hx hy
  obtain ⟨t, t1, t2⟩ := field_Sub_spec hg.group hx hy
  obtain ⟨m, m1, m2⟩ := field_Mul_spec hg.group hx hy
  obtain ⟨v, V, v1, v2, v3, v4, v5⟩ := field_Inv_spec hg.group hx
  obtain ⟨os, os1, os2⟩ := l08_of_spec (n := (((x % Q + y % Q) % Q : Nat) : Int)) (by have := Nat.mod_lt (x % Q + y % Q) hqpos; omega)
  obtain ⟨ot, ot1, ot2⟩ := l08_of_spec (n := (((x % Q + (Q - y % Q)) % Q : Nat) : Int)) (by have := Nat.mod_lt (x % Q + (Q - y % Q)) hqpos; omega)
  obtain ⟨om, om1, om2⟩ := l08_of_spec (n := (((x % Q) * (y % Q) % Q : Nat) : Int)) (by have := Nat.mod_lt ((x % Q) * (y % Q)) hqpos; omega)
  have hvq : V = if x % Q = 0 then 0 else (x % Q) ^ (Q - 2) % Q := by
    split
    · rename_i h0; exact v4 h0
    · rename_i h0
      rw [← Nat.pow_mod]
      exact inv_pow hg.group.pq h0 v3 (v5 h0)
  obtain ⟨ov, ov1, ov2⟩ := l08_of_spec (n := (((if x % Q = 0 then 0 else (x % Q) ^ (Q - 2) % Q : Nat) : Nat) : Int)) (by rw [← hvq]; omega)
  rw [Int.toNat_natCast] at os2 ot2 om2 ov2
  have e1 : (x + y) % Q = (x % Q + y % Q) % Q := Nat.add_mod ..
  have e2 : (x + (Q - y % Q)) % Q = (x % Q + (Q - y % Q)) % Q := (Nat.mod_add_mod ..).symm
  have e3 : x * y % Q = (x % Q) * (y % Q) % Q := Nat.mul_mod ..
  have hcmp : (decide (x < Q) == decide (cmpI x Q < 0)) = true := by
    unfold cmpI
    by_cases hlt : x < Q
    · simp [hlt]
    · rw [if_neg hlt, decide_eq_false hlt, decide_eq_false (by split <;> decide)]; rfl
  simp (disch := first | omega | assumption) only [wrap_i64n, wrapun, dec_t, dec_f, inb_t, cond_true, cond_false, Int.toNat_natCast, beq_t, beq_f, bne_t, bne_f, Bool.not_true, Bool.not_false, Int.reduceToNat, ft_b, tf_b, tt_b, ff_b, decide_true, decide_false, p1, hg.made, hg.rQ, r01_Low_spec hg.q, if_pos (show Q < 9223372036854775808 by omega), r08_By_spec hx hqpos (show Q < 9223372036854775808 by omega), r08_By_spec hy hqpos (show Q < 9223372036854775808 by omega),
    field_In_spec hg.group hx, r01_Cmp_spec hx hg.q, hcmp, s1, r08_Add_spec (show 0 < Q by omega) (show x % Q < 4611686018427387904 by omega) (show y % Q < 4611686018427387904 by omega), os1, s2.eqb os2, e1, t1, r08_Sub_spec (show 0 < Q by omega) (show Q < 4611686018427387904 by omega) (show x % Q < 4611686018427387904 by omega) (show y % Q ≤ Q by omega), ot1, t2.eqb ot2, e2, m1, r08_Mul_spec (show 0 < Q by omega) (show Q < 9223372036854775808 by omega), om1, m2.eqb om2, e3, v1, r08_Inv_spec hq2 (show Q < 9223372036854775808 by omega), ov1, v2.eqb ov2, l08_awake_spec]

end Go.Pl
