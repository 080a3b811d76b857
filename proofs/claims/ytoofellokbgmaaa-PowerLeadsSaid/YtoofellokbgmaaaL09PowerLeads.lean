/-
  One statement, plainly.
-/
import Derived.Test.YtoofellokbgmaaaDenD
import Derived.Test.YtoofellokbgmaaaPlA
import Derived.Test.YtoofellokbgmaaaL09
import Derived.Test.YtoofellokbgmaaaEqA
set_option linter.unusedVariables false
set_option linter.unusedSimpArgs false
set_option maxRecDepth 100000
set_option maxHeartbeats 0
namespace Go.Pl
end Go.Pl
open Go Go.Den Go.Pl
namespace Go.Pl
noncomputable def l09_PowerLeads' (which : Int) (a : (Nat → Int)) (b : (Nat → Int)) : Option (Unit) :=
  match r07_Least with
  | none => none
  | some r => (
    match r07_Other with
    | none => none
    | some r1 => (
      match r07_Great with
      | none => none
      | some r2 => (
        bif (inb (Int.tmod (bitsOp .and .i64 which 255) 3) 3) then (
          match (takeArgs false (fun _ => none) [(.pair (.sl (.pair (.arr 4 (.int .u64)) (.int .i64))) (.arr 4 (.int .u64)))] [.v ⟨(.pair (.sl (.pair (.arr 4 (.int .u64)) (.int .i64))) (.arr 4 (.int .u64))), ((upd (upd (upd (fun _ => (.nil, (fun _ => 0))) 0 ((.fz r.1.1 r.1.2), r.2)) 1 ((.fz r1.1.1 r1.1.2), r1.2)) 2 ((.fz r2.1.1 r2.1.2), r2.2)) (0 + (Int.toNat (Int.tmod (bitsOp .and .i64 which 255) 3))))⟩]) with
          | none => none
          | some q => (
            match (group_New q.1) with
            | none => none
            | some r3 => (
              match r3.1 with
              | none => (
                bif (r3.2 != 0) then (
                  none)
                else (
                  match (power_Of none a) with
                  | none => none
                  | some r22 => (
                    match (power_Of none b) with
                    | none => none
                    | some r23 => (
                      match (power_Multi none 2 (fun j => (upd (upd (fun _ => (fun _ => 0)) 0 r22) 1 r23) (0 + j)) 2 (fun j => (upd (upd (fun _ => (fun _ => 0)) 0 b) 1 a) (0 + j))) with
                      | none => none
                      | some r24 => (
                        match (field_Mul none a b) with
                        | none => none
                        | some r25 => (
                          match (field_Add none r25 r25) with
                          | none => none
                          | some r26 => (
                            match (field_Sub none (fun _ => 0) a) with
                            | none => none
                            | some r27 => (
                              match (power_Of none r27) with
                              | none => none
                              | some r28 => (
                                match (power_Mul none r22 r23) with
                                | none => none
                                | some r29 => (
                                  match (field_Add none a b) with
                                  | none => none
                                  | some r30 => (
                                    match (power_Of none r30) with
                                    | none => none
                                    | some r31 => (
                                      bif (eqF (.arr 4 (.int .u64)) r29 r31) then (
                                        match (power_Exp none r22 b) with
                                        | none => none
                                        | some r32 => (
                                          match (power_Of none r25) with
                                          | none => none
                                          | some r33 => (
                                            bif (eqF (.arr 4 (.int .u64)) r32 r33) then (
                                              match (power_Of none r26) with
                                              | none => none
                                              | some r34 => (
                                                bif (eqF (.arr 4 (.int .u64)) r24.1 r34) then (
                                                  bif (r24.2 == 0) then (
                                                    match (power_In none r22) with
                                                    | none => none
                                                    | some r35 => (
                                                      bif r35 then (
                                                        match (power_Inv none r22) with
                                                        | none => none
                                                        | some r36 => (
                                                          bif (eqF (.arr 4 (.int .u64)) r36 r28) then (
                                                            match (power_Mul none r22 r28) with
                                                            | none => none
                                                            | some r37 => (
                                                              match (l09_of 1) with
                                                              | none => none
                                                              | some r38 => (
                                                                bif (eqF (.arr 4 (.int .u64)) r37 r38) then (
                                                                  match l09_awake with
                                                                  | none => none
                                                                  | some r39 => (
                                                                    bif r39 then (
                                                                      some ())
                                                                    else (
                                                                      none)))
                                                                else (
                                                                  none))))
                                                          else (
                                                            none)))
                                                      else (
                                                        none)))
                                                  else (
                                                    none))
                                                else (
                                                  none)))
                                            else (
                                              none))))
                                      else (
                                        none)))))))))))))
              | some p => (
                bif (r3.2 != 0) then (
                  none)
                else (
                  match (power_Of (some p) a) with
                  | none => none
                  | some r4 => (
                    match (power_Of (some p) b) with
                    | none => none
                    | some r5 => (
                      match (power_Multi (some p) 2 (fun j => (upd (upd (fun _ => (fun _ => 0)) 0 r4) 1 r5) (0 + j)) 2 (fun j => (upd (upd (fun _ => (fun _ => 0)) 0 b) 1 a) (0 + j))) with
                      | none => none
                      | some r6 => (
                        match (field_Mul (some p) a b) with
                        | none => none
                        | some r7 => (
                          match (field_Add (some p) r7 r7) with
                          | none => none
                          | some r8 => (
                            match (field_Sub (some p) (fun _ => 0) a) with
                            | none => none
                            | some r9 => (
                              match (power_Of (some p) r9) with
                              | none => none
                              | some r10 => (
                                match (power_Mul (some p) r4 r5) with
                                | none => none
                                | some r11 => (
                                  match (field_Add (some p) a b) with
                                  | none => none
                                  | some r12 => (
                                    match (power_Of (some p) r12) with
                                    | none => none
                                    | some r13 => (
                                      bif (eqF (.arr 4 (.int .u64)) r11 r13) then (
                                        match (power_Exp (some p) r4 b) with
                                        | none => none
                                        | some r14 => (
                                          match (power_Of (some p) r7) with
                                          | none => none
                                          | some r15 => (
                                            bif (eqF (.arr 4 (.int .u64)) r14 r15) then (
                                              match (power_Of (some p) r8) with
                                              | none => none
                                              | some r16 => (
                                                bif (eqF (.arr 4 (.int .u64)) r6.1 r16) then (
                                                  bif (r6.2 == 0) then (
                                                    match (power_In (some p) r4) with
                                                    | none => none
                                                    | some r17 => (
                                                      bif r17 then (
                                                        match (power_Inv (some p) r4) with
                                                        | none => none
                                                        | some r18 => (
                                                          bif (eqF (.arr 4 (.int .u64)) r18 r10) then (
                                                            match (power_Mul (some p) r4 r10) with
                                                            | none => none
                                                            | some r19 => (
                                                              match (l09_of 1) with
                                                              | none => none
                                                              | some r20 => (
                                                                bif (eqF (.arr 4 (.int .u64)) r19 r20) then (
                                                                  match l09_awake with
                                                                  | none => none
                                                                  | some r21 => (
                                                                    bif r21 then (
                                                                      some ())
                                                                    else (
                                                                      none)))
                                                                else (
                                                                  none))))
                                                          else (
                                                            none)))
                                                      else (
                                                        none)))
                                                  else (
                                                    none))
                                                else (
                                                  none)))
                                            else (
                                              none))))
                                      else (
                                        none))))))))))))))))
        else (
          none))))
end Go.Pl

set_option linter.unusedVariables false
set_option linter.unusedSimpArgs false
set_option maxRecDepth 100000
set_option maxHeartbeats 0
namespace Go.Pl
end Go.Pl
open Go Go.Den Go.Pl
namespace Go.Proofs.Ytoofellokbgmaaa
noncomputable def x_l09_PowerLeads : Cx := { ti := ti, con := [(36, c_r07_Least), (38, c_r07_Other), (40, c_r07_Great), (17, c_group_New), (55, c_power_Of), (18, c_power_Multi), (57, c_field_Mul), (58, c_field_Add), (59, c_field_Sub), (51, c_power_Mul), (53, c_power_Exp), (49, c_power_In), (56, c_power_Inv), (19, c_l09_of), (15, c_l09_awake)], fns := [], un := 6 }
theorem xok_l09_PowerLeads : CxOk Try.prog x_l09_PowerLeads := CxOk.of mixed ti_ok (List.forall_mem_cons.2 ⟨con_r07_Least, List.forall_mem_cons.2 ⟨con_r07_Other, List.forall_mem_cons.2 ⟨con_r07_Great, List.forall_mem_cons.2 ⟨con_group_New, List.forall_mem_cons.2 ⟨con_power_Of, List.forall_mem_cons.2 ⟨con_power_Multi, List.forall_mem_cons.2 ⟨con_field_Mul, List.forall_mem_cons.2 ⟨con_field_Add, List.forall_mem_cons.2 ⟨con_field_Sub, List.forall_mem_cons.2 ⟨con_power_Mul, List.forall_mem_cons.2 ⟨con_power_Exp, List.forall_mem_cons.2 ⟨con_power_In, List.forall_mem_cons.2 ⟨con_power_Inv, List.forall_mem_cons.2 ⟨con_l09_of, List.forall_mem_cons.2 ⟨con_l09_awake, List.forall_mem_nil _⟩⟩⟩⟩⟩⟩⟩⟩⟩⟩⟩⟩⟩⟩⟩) (List.forall_mem_nil _)
theorem fn_l09_PowerLeads : FnOk Try.prog 10 Try.f10 [] := ⟨Try.func10, Try.call10, lps_nil⟩
theorem e_l09_PowerLeads (which : Int) (a : (Nat → Int)) (b : (Nat → Int)) : bodyK x_l09_PowerLeads [] (denF x_l09_PowerLeads 8) Try.f10 (domV [(.int .i64), (.arr 4 (.int .u64)), (.arr 4 (.int .u64))] (which, a, b, ())) [] 0 kTrue = l09_PowerLeads' which a b := by kernel_rfl
end Go.Proofs.Ytoofellokbgmaaa

set_option linter.unusedVariables false
set_option linter.unusedSimpArgs false
namespace Go.Pl
open Go Go.Den Go.Num

section
variable {g : GroupT} {P Q G : Nat}
theorem IsGroup.same (h : IsGroup g P Q G) {a b : Nat} (hab : a % Q = b % Q) : G ^ a % P = G ^ b % P := (pow_order h.pp h.pq h.g1 h.gP h.order a b).2 hab
end
theorem l09_PowerLeads_true {which : Int} {a b : Nat → Int} (hw : Go.Den.Good (.int .i64) which) (ha : Go.Den.Good (.arr 4 (.int .u64)) a) (hb : Go.Den.Good (.arr 4 (.int .u64)) b) : l09_PowerLeads' which a b = some () := by
  obtain ⟨x, hx⟩ := good_nat ha
  obtain ⟨y, hy⟩ := good_nat hb
  obtain ⟨i, hi, hi2⟩ := three_idx which
  obtain ⟨k, l, ga, g, P, Q, G, t1, hg⟩ := three_spec hi
  unfold l09_PowerLeads'
  have hgg := hg.group
  have hppos := hgg.ppos
  have hqpos := hgg.qpos
  have hP1 := hgg.pp.1
  obtain ⟨o, o1, o2⟩ := l09_of_spec (n := 1) (by decide)
  have o2' : IsN o 1 := o2
  obtain ⟨A, A1, A2⟩ := power_Of_spec hgg hx
  obtain ⟨B, B1, B2⟩ := power_Of_spec hgg hy
  obtain ⟨m, m1, m2⟩ := power_Multi_spec hgg (n := 2) (by decide) (two_nats A2 B2) (two_nats hy hx)
  have m3 : IsN m (G ^ ((x * y % Q + x * y % Q) % Q) % P) := m2.of_eq (by
    show 1 * (G ^ x % P) ^ y * (G ^ y % P) ^ x % P = _
    rw [Nat.one_mul, Nat.mul_mod, ← Nat.pow_mod, ← Nat.pow_mod, ← Nat.pow_mul, ← Nat.pow_mul, ← Nat.mul_mod, ← Nat.pow_add]
    refine hgg.same ?_
    rw [Nat.mod_mod, Nat.mul_comm y x, Nat.add_mod])
  obtain ⟨p, p1, p2⟩ := field_Mul_spec hgg hx hy
  obtain ⟨d, d1, d2⟩ := field_Add_spec hgg p2 p2
  obtain ⟨n, n1, n2⟩ := field_Sub_spec hgg IsN.zero hx
  obtain ⟨w, w1, w2⟩ := power_Of_spec hgg n2
  obtain ⟨ab, ab1, ab2⟩ := power_Mul_spec hgg A2 B2
  have ab3 : IsN ab (G ^ ((x + y) % Q) % P) := ab2.of_eq (by
    rw [← Nat.mul_mod, ← Nat.pow_add]
    exact hgg.same (Nat.mod_mod ..).symm)
  obtain ⟨s, s1, s2⟩ := field_Add_spec hgg hx hy
  obtain ⟨gs, gs1, gs2⟩ := power_Of_spec hgg s2
  obtain ⟨e, e1, e2⟩ := power_Exp_spec hgg A2 hy
  have e3 : IsN e (G ^ (x * y % Q) % P) := e2.of_eq (by
    rw [← Nat.pow_mod, ← Nat.pow_mul]
    exact hgg.same (Nat.mod_mod ..).symm)
  obtain ⟨gp, gp1, gp2⟩ := power_Of_spec hgg p2
  obtain ⟨gd, gd1, gd2⟩ := power_Of_spec hgg d2
  have hin : power_In (some g) A = some true := by
    rw [power_In_spec hgg A2, decide_eq_true (hgg.pow_in x)]
  obtain ⟨v, v1, v2⟩ := power_Inv_spec hgg A2
  have hneg : (x * (Q - 1)) % Q = ((0 + (Q - x % Q)) % Q) % Q := by
    have hx1 := Nat.mod_lt x hqpos
    rw [Nat.mod_mod]
    have e1 : (x * (Q - 1) + x) % Q = 0 := by
      have : x * (Q - 1) + x = x * Q := by
        have h1 : Q = (Q - 1) + 1 := by omega
        conv => rhs; rw [h1, Nat.mul_add, Nat.mul_one]
      rw [this]; exact Nat.mul_mod_left _ _
    rw [Nat.add_mod] at e1
    have h2 := Nat.mod_lt (x * (Q - 1)) hqpos
    generalize x * (Q - 1) % Q = u at *
    generalize x % Q = z at *
    by_cases h0 : u + z < Q
    · rw [Nat.mod_eq_of_lt h0] at e1
      have : z = 0 := by omega
      subst this
      have : u = 0 := by omega
      subst this
      simp
    · rw [Nat.mod_eq_sub_mod (by omega), Nat.mod_eq_of_lt (by omega)] at e1
      rw [Nat.mod_eq_of_lt (by omega)]
      omega
  have v3 : IsN v (G ^ ((0 + (Q - x % Q)) % Q) % P) := v2.of_eq (by
    rw [← Nat.pow_mod, ← Nat.pow_mul]
    exact hgg.same hneg)
  obtain ⟨u, u1, u2⟩ := power_Mul_spec hgg A2 w2
  have u3 : IsN u 1 := u2.of_eq (by
    rw [← Nat.mul_mod, ← Nat.pow_add]
    have h1 : G ^ (x + (0 + (Q - x % Q)) % Q) % P = G ^ 0 % P := hgg.same (by
      rw [Nat.add_mod, ← hneg, ← Nat.add_mod]
      have : x + x * (Q - 1) = x * Q := by
        have h1 : Q = (Q - 1) + 1 := by omega
        conv => rhs; rw [h1, Nat.mul_add, Nat.mul_one]
        omega
      rw [this, Nat.mul_mod_left, Nat.zero_mod])
    rw [h1, Nat.pow_zero]
    exact Nat.mod_eq_of_lt hP1)
  have hi3 : inb ((i : Nat) : Int) 3 = true := by
    rw [inb_t] <;> omega
  simp (disch := first | omega | assumption) only [wrap_i64n, wrapun, dec_t, dec_f, inb_t, cond_true, cond_false, Int.toNat_natCast, beq_t, beq_f, bne_t, bne_f, Bool.not_true, Bool.not_false, Int.reduceToNat, ft_b, tf_b, tt_b, ff_b, decide_true, decide_false, hi2, hi3, r07_Least_eq2, r07_Other_eq2, r07_Great_eq2, t1, hg.made, A1, B1, m1, p1, d1, n1, w1, ab1, s1, gs1, ab3.eqb gs2, e1, gp1, e3.eqb gp2, gd1, m3.eqb gd2, hin, v1, v3.eqb w2, u1, o1, u3.eqb o2', l09_awake_spec]
end Go.Pl
