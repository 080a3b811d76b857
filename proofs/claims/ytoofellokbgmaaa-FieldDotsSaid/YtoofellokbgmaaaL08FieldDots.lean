/-
  One statement, plainly.
-/
import Derived.Test.YtoofellokbgmaaaDenD
import Derived.Test.YtoofellokbgmaaaPlA
import Derived.Test.YtoofellokbgmaaaL08
import Derived.Test.YtoofellokbgmaaaEqA
set_option linter.unusedVariables false
set_option linter.unusedSimpArgs false
set_option maxRecDepth 100000
set_option maxHeartbeats 0
namespace Go.Pl
end Go.Pl
open Go Go.Den Go.Pl
namespace Go.Pl
abbrev T_l08_FieldDots_0 (na : Nat) (a : Nat → (Nat → Int)) (nb : Nat) (b : Nat → (Nat → Int)) (q : Int) (f : Int) (want : Int) (i : Int) (d : (Nat → Int)) : (((Nat × (Nat → (Nat → Int))) × ((Nat × (Nat → (Nat → Int))) × (Int × (Unit × (Int × (Int × (Int × Unit))))))) × ((Nat → Int) × Unit)) := (((na, a), ((nb, b), (q, ((), (f, (want, (i, ()))))))), (d, ()))
abbrev Y_l08_FieldDots_0_0 (f : Int) (want : Int) (d : (Nat → Int)) : ((Unit × (Int × (Int × Unit))) × ((Nat → Int) × Unit)) := (((), (f, (want, ()))), (d, ()))
noncomputable def R_l08_FieldDots_0 : (((Nat × (Nat → (Nat → Int))) × ((Nat × (Nat → (Nat → Int))) × (Int × (Unit × (Int × (Int × (Int × Unit))))))) × ((Nat → Int) × Unit)) → Option ((((Nat × (Nat → (Nat → Int))) × ((Nat × (Nat → (Nat → Int))) × (Int × (Unit × (Int × (Int × (Int × Unit))))))) × ((Nat → Int) × Unit)) ⊕ ((Unit × (Int × (Int × Unit))) × ((Nat → Int) × Unit))) := fun x =>
  let na := x.1.1.1
  let a := x.1.1.2
  let nb := x.1.2.1.1
  let b := x.1.2.1.2
  let q := x.1.2.2.1
  let f := x.1.2.2.2.2.1
  let want := x.1.2.2.2.2.2.1
  let i := x.1.2.2.2.2.2.2.1
  let d := x.2.1
  bif (decide (i < ((na : Nat) : Int))) then (
    bif (decide (i < ((nb : Nat) : Int))) then (
      bif (inb i na) then (
        match (r08_By (a (Int.toNat i)) q) with
        | none => none
        | some r => (
          bif (inb i nb) then (
            match (r08_By (b (Int.toNat i)) q) with
            | none => none
            | some r1 => (
              match (r08_Mul r r1 q) with
              | none => none
              | some r2 => (
                match (r08_Add want r2 q) with
                | none => none
                | some r3 => (
                  some (.inl (((na, a), ((nb, b), (q, ((), (f, (r3, ((IntKind.i64.wrap (i + 1)), ()))))))), (d, ())))))))
          else (
            none)))
      else (
        none))
    else (
      some (.inr (((), (f, (want, ()))), (d, ())))))
  else (
    some (.inr (((), (f, (want, ()))), (d, ()))))
noncomputable def l08_FieldDots' (which : Int) (na : Nat) (a : Nat → (Nat → Int)) (nb : Nat) (b : Nat → (Nat → Int)) : Option (Unit) :=
  bif (decide (((na : Nat) : Int) > 12)) then (
    match l08_awake with
    | none => none
    | some r => (
      bif r then (
        some ())
      else (
        none)))
  else (
    bif (decide (((nb : Nat) : Int) > 12)) then (
      match l08_awake with
      | none => none
      | some r1 => (
        bif r1 then (
          some ())
        else (
          none)))
    else (
      match (r07_Pick which) with
      | none => none
      | some r2 => (
        match (group_New ((r2.1.1, r2.1.2), r2.2)) with
        | none => none
        | some r3 => (
          match r3.1 with
          | none => (
            match (r07_Q ((r2.1.1, r2.1.2), r2.2)) with
            | none => none
            | some r10 => (
              match (r01_Low r10) with
              | none => none
              | some r11 => (
                match (field_Dot none na a nb b) with
                | none => none
                | some r12 => (
                  bif (r3.2 != 0) then (
                    none)
                  else (
                    bif (((na : Nat) : Int) != ((nb : Nat) : Int)) then (
                      bif (eqF (.arr 4 (.int .u64)) r12.1 (fun _ => 0)) then (
                        bif (r12.2 == 1) then (
                          match l08_awake with
                          | none => none
                          | some r13 => (
                            bif r13 then (
                              some ())
                            else (
                              none)))
                        else (
                          none))
                      else (
                        none))
                    else (
                      match (loopF R_l08_FieldDots_0 (((na, a), ((nb, b), (r11.1, ((), (r12.2, (0, (0, ()))))))), (r12.1, ()))) with
                      | none => none
                      | some y1 => (
                        let f1 := y1.1.2.1
                        let want1 := y1.1.2.2.1
                        let d1 := y1.2.1
                        match (l08_of want1) with
                        | none => none
                        | some r14 => (
                          bif (eqF (.arr 4 (.int .u64)) d1 r14) then (
                            bif (f1 == 0) then (
                              match l08_awake with
                              | none => none
                              | some r15 => (
                                bif r15 then (
                                  some ())
                                else (
                                  none)))
                            else (
                              none))
                          else (
                            none)))))))))
          | some p => (
            match (r07_Q ((r2.1.1, r2.1.2), r2.2)) with
            | none => none
            | some r4 => (
              match (r01_Low r4) with
              | none => none
              | some r5 => (
                match (field_Dot (some p) na a nb b) with
                | none => none
                | some r6 => (
                  bif (r3.2 != 0) then (
                    none)
                  else (
                    bif (((na : Nat) : Int) != ((nb : Nat) : Int)) then (
                      bif (eqF (.arr 4 (.int .u64)) r6.1 (fun _ => 0)) then (
                        bif (r6.2 == 1) then (
                          match l08_awake with
                          | none => none
                          | some r7 => (
                            bif r7 then (
                              some ())
                            else (
                              none)))
                        else (
                          none))
                      else (
                        none))
                    else (
                      match (loopF R_l08_FieldDots_0 (((na, a), ((nb, b), (r5.1, ((), (r6.2, (0, (0, ()))))))), (r6.1, ()))) with
                      | none => none
                      | some y => (
                        let f := y.1.2.1
                        let want := y.1.2.2.1
                        let d := y.2.1
                        match (l08_of want) with
                        | none => none
                        | some r8 => (
                          bif (eqF (.arr 4 (.int .u64)) d r8) then (
                            bif (f == 0) then (
                              match l08_awake with
                              | none => none
                              | some r9 => (
                                bif r9 then (
                                  some ())
                                else (
                                  none)))
                            else (
                              none))
                          else (
                            none)))))))))))))
end Go.Pl

set_option linter.unusedVariables false
set_option linter.unusedSimpArgs false
set_option maxRecDepth 100000
set_option maxHeartbeats 0
namespace Go.Pl
end Go.Pl
open Go Go.Den Go.Pl
namespace Go.Proofs.Ytoofellokbgmaaa
abbrev S_l08_FieldDots_0 : Shape := { sl := [(1, (.sz (.arr 4 (.int .u64)))), (2, (.sz (.arr 4 (.int .u64)))), (10, (.v (.int .i64))), (12, (.c ⟨(.ptr (.arr 4 (.int .u64))), (.rf 1 [])⟩)), (13, (.v (.int .i64))), (14, (.v (.int .i64))), (15, (.v (.int .i64)))], ob := [(1, (.v (.arr 4 (.int .u64))))], lo := 2, nx := 2 }
abbrev E_l08_FieldDots_0 : List Ex := [(.normal, { sl := [(12, (.c ⟨(.ptr (.arr 4 (.int .u64))), (.rf 1 [])⟩)), (13, (.v (.int .i64))), (14, (.v (.int .i64)))], ob := [(1, (.v (.arr 4 (.int .u64))))], lo := 2, nx := 2 })]
noncomputable def L_l08_FieldDots_0 : Code := loopIn (bodyOf Try.f12) 0
noncomputable def P_l08_FieldDots_0 : Lp := lpOf S_l08_FieldDots_0 E_l08_FieldDots_0 102 R_l08_FieldDots_0
noncomputable def x_l08_FieldDots : Cx := { ti := ti, con := [(69, c_l08_awake), (16, c_r07_Pick), (17, c_group_New), (29, c_r07_Q), (60, c_r01_Low), (70, c_field_Dot), (47, c_r08_By), (66, c_r08_Mul), (64, c_r08_Add), (63, c_l08_of)], fns := [], un := 6 }
theorem xok_l08_FieldDots : CxOk Try.prog x_l08_FieldDots := CxOk.of mixed ti_ok (List.forall_mem_cons.2 ⟨con_l08_awake, List.forall_mem_cons.2 ⟨con_r07_Pick, List.forall_mem_cons.2 ⟨con_group_New, List.forall_mem_cons.2 ⟨con_r07_Q, List.forall_mem_cons.2 ⟨con_r01_Low, List.forall_mem_cons.2 ⟨con_field_Dot, List.forall_mem_cons.2 ⟨con_r08_By, List.forall_mem_cons.2 ⟨con_r08_Mul, List.forall_mem_cons.2 ⟨con_r08_Add, List.forall_mem_cons.2 ⟨con_l08_of, List.forall_mem_nil _⟩⟩⟩⟩⟩⟩⟩⟩⟩⟩) (List.forall_mem_nil _)
theorem r_l08_FieldDots_0 (x : S_l08_FieldDots_0.X) : denC x_l08_FieldDots [] (denF x_l08_FieldDots 8) L_l08_FieldDots_0 (S_l08_FieldDots_0.mkS 102 x) (kRound 0 S_l08_FieldDots_0 E_l08_FieldDots_0) = R_l08_FieldDots_0 x := by kernel_rfl
theorem l_l08_FieldDots_0 : LpOk Try.prog 0 (.loop L_l08_FieldDots_0) P_l08_FieldDots_0 := lpOf_ok xok_l08_FieldDots 8 (lps_nil) S_l08_FieldDots_0 E_l08_FieldDots_0 102 R_l08_FieldDots_0 (by decide) r_l08_FieldDots_0
theorem fn_l08_FieldDots : FnOk Try.prog 12 Try.f12 [(0, P_l08_FieldDots_0)] := ⟨Try.func12, Try.call12, lps_of (by kernel_rfl) (lps_one l_l08_FieldDots_0 (by kernel_rfl) (List.forall_mem_nil _))⟩
theorem e_l08_FieldDots (which : Int) (na : Nat) (a : Nat → (Nat → Int)) (nb : Nat) (b : Nat → (Nat → Int)) : bodyK x_l08_FieldDots [(0, P_l08_FieldDots_0)] (denF x_l08_FieldDots 8) Try.f12 (domV [(.int .i64), (.sl (.arr 4 (.int .u64))), (.sl (.arr 4 (.int .u64)))] (which, (na, a), (nb, b), ())) [] 0 kTrue = l08_FieldDots' which na a nb b := by kernel_rfl
end Go.Proofs.Ytoofellokbgmaaa

set_option linter.unusedVariables false
set_option linter.unusedSimpArgs false
namespace Go.Pl
open Go Go.Den Go.Num

theorem l08_FieldDots_true {which : Int} {n k : Nat} {a b : Nat → Nat → Int} (hw : Go.Den.Good (.int .i64) which) (ha : Go.Den.Good (.sl (.arr 4 (.int .u64))) (.fz n a)) (hb : Go.Den.Good (.sl (.arr 4 (.int .u64))) (.fz k b)) : l08_FieldDots' which n a k b = some () := by
  obtain ⟨A, hA⟩ := good_nats ha
  obtain ⟨B, hB⟩ := good_nats hb
  unfold l08_FieldDots'
  by_cases hn : 12 < n
  · simp (disch := omega) only [wrap_i64n, wrapun, dec_t, dec_f, inb_t, cond_true, cond_false, Int.toNat_natCast, beq_t, beq_f, bne_t, bne_f, Bool.not_true, Bool.not_false, Int.reduceToNat, ft_b, tf_b, tt_b, ff_b, decide_true, decide_false, l08_awake_spec]
  · by_cases hk : 12 < k
    · simp (disch := omega) only [wrap_i64n, wrapun, dec_t, dec_f, inb_t, cond_true, cond_false, Int.toNat_natCast, beq_t, beq_f, bne_t, bne_f, Bool.not_true, Bool.not_false, Int.reduceToNat, ft_b, tf_b, tt_b, ff_b, decide_true, decide_false, l08_awake_spec]
    · obtain ⟨kk, l, ga, g, P, Q, G, p1, hg, hP, hQ⟩ := r07_Pick_spec which
      have hqpos := hg.group.qpos
      by_cases hnk : n = k
      · subst hnk
        obtain ⟨d, d1, d2⟩ := field_Dot_spec hg.group (by omega) hA hB
        have L : ∃ z : Nat, loopF R_l08_FieldDots_0 (T_l08_FieldDots_0 n a n b (Q : Int) 0 ((0 : Nat) : Int) ((0 : Nat) : Int) d) = some (Y_l08_FieldDots_0_0 0 (z : Int) d) ∧ z = dotN A B n % Q :=
          loop_for (R := R_l08_FieldDots_0) (fun i (z : Nat) => T_l08_FieldDots_0 n a n b (Q : Int) 0 (z : Int) (i : Int) d) (fun z => Y_l08_FieldDots_0_0 0 (z : Int) d) (fun i z => z = dotN A B i % Q) n
            (fun i hi z hP => by
              have h1 := Nat.mod_lt (A i) hqpos
              have h2 := Nat.mod_lt (A i % Q * (B i % Q)) hqpos
              have h3 := Nat.mod_lt (dotN A B i) hqpos
              refine ⟨(z + A i % Q * (B i % Q) % Q) % Q, ?_, ?_⟩
              · unfold R_l08_FieldDots_0
                simp (disch := omega) only [add_c, add_l, l_add, mul_c, mul_l, l_mul, sub_c, sub_l, l_sub, div_c, div_l, mod_c, mod_l, tdiv_c, tdiv_l, tmod_c, tmod_l, wrap_i64n, wrapun, dec_t, dec_f, inb_t, cond_true, cond_false, Int.toNat_natCast, beq_t, beq_f, bne_t, bne_f, Bool.not_true, Bool.not_false, Int.reduceToNat, ft_b, tf_b, tt_b, ff_b, decide_true, decide_false, r08_By_spec (hA i hi) hqpos (show Q < 9223372036854775808 by omega), r08_By_spec (hB i hi) hqpos (show Q < 9223372036854775808 by omega), r08_Mul_spec hqpos (show Q < 9223372036854775808 by omega), r08_Add_spec hqpos (show z < 4611686018427387904 by omega) (show A i % Q * (B i % Q) % Q < 4611686018427387904 by omega)]
              · rw [hP, ← Nat.mul_mod, ← Nat.add_mod]; rfl)
            (fun z hP => by
              unfold R_l08_FieldDots_0
              simp (disch := omega) only [wrap_i64n, wrapun, dec_t, dec_f, inb_t, cond_true, cond_false, Int.toNat_natCast, beq_t, beq_f, bne_t, bne_f, Bool.not_true, Bool.not_false, Int.reduceToNat, ft_b, tf_b, tt_b, ff_b, decide_true, decide_false]) 0 (by rw [show dotN A B 0 = 0 from rfl, Nat.zero_mod])
        obtain ⟨z, z1, z2⟩ := L
        have z1' : loopF R_l08_FieldDots_0 (T_l08_FieldDots_0 n a n b (Q : Int) 0 0 0 d) = some (Y_l08_FieldDots_0_0 0 (z : Int) d) := z1
        simp only [T_l08_FieldDots_0] at z1'
        obtain ⟨o, o1, o2⟩ := l08_of_spec (n := (z : Int)) (by have := Nat.mod_lt (dotN A B n) hqpos; omega)
        rw [Int.toNat_natCast, z2] at o2
        simp (disch := omega) only [wrap_i64n, wrapun, dec_t, dec_f, inb_t, cond_true, cond_false, Int.toNat_natCast, beq_t, beq_f, bne_t, bne_f, Bool.not_true, Bool.not_false, Int.reduceToNat, ft_b, tf_b, tt_b, ff_b, decide_true, decide_false, p1, hg.made, hg.rQ, r01_Low_spec hg.q, if_pos (show Q < 9223372036854775808 by omega), d1, z1', o1, d2.eqb o2, l08_awake_spec]
      · simp (disch := omega) only [wrap_i64n, wrapun, dec_t, dec_f, inb_t, cond_true, cond_false, Int.toNat_natCast, beq_t, beq_f, bne_t, bne_f, Bool.not_true, Bool.not_false, Int.reduceToNat, ft_b, tf_b, tt_b, ff_b, decide_true, decide_false, p1, hg.made, hg.rQ, r01_Low_spec hg.q, if_pos (show Q < 9223372036854775808 by omega), field_Dot_odd hg.group hnk, IsN.zero.isZero, l08_awake_spec]

end Go.Pl
