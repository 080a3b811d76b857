/-
  One statement, plainly.
-/
import Derived.Test.YtoofellokbgmaaaDenD
import Derived.Test.YtoofellokbgmaaaPlA
import Derived.Test.YtoofellokbgmaaaL07
import Derived.Test.YtoofellokbgmaaaEqA
set_option linter.unusedVariables false
set_option linter.unusedSimpArgs false
set_option maxRecDepth 100000
set_option maxHeartbeats 0
namespace Go.Pl
end Go.Pl
open Go Go.Den Go.Pl
namespace Go.Pl
noncomputable def l07_GroupChecks' (p : ((Nat × (Nat → ((Nat → Int) × Int))) × (Nat → Int))) : Option (Unit) :=
  match (r07_Light ((p.1.1, p.1.2), p.2)) with
  | none => none
  | some r => (
    bif (!r) then (
      match l07_awake with
      | none => none
      | some r1 => (
        bif r1 then (
          some ())
        else (
          none)))
    else (
      match (group_Check ((p.1.1, p.1.2), p.2)) with
      | none => none
      | some r2 => (
        match (group_New ((p.1.1, p.1.2), p.2)) with
        | none => none
        | some r3 => (
          match r3.1 with
          | none => (
            match (r07_May ((p.1.1, p.1.2), p.2)) with
            | none => none
            | some r23 => (
              bif (!((r2 == 0) == r23)) then (
                none)
              else (
                bif (r2 != r3.2) then (
                  none)
                else (
                  bif (!(false == r23)) then (
                    none)
                  else (
                    bif (r2 != 0) then (
                      bif (r2 != 4) then (
                        none)
                      else (
                        bif (!r23) then (
                          match l07_awake with
                          | none => none
                          | some r24 => (
                            bif r24 then (
                              some ())
                            else (
                              none)))
                        else (
                          match (group_Group_P none) with
                          | none => none
                          | some r25 => (
                            match (r07_P ((p.1.1, p.1.2), p.2)) with
                            | none => none
                            | some r26 => (
                              bif (eqF (.arr 4 (.int .u64)) r25 r26) then (
                                match (group_Group_Q none) with
                                | none => none
                                | some r27 => (
                                  match (r07_Q ((p.1.1, p.1.2), p.2)) with
                                  | none => none
                                  | some r28 => (
                                    bif (eqF (.arr 4 (.int .u64)) r27 r28) then (
                                      match (group_Group_G none) with
                                      | none => none
                                      | some r29 => (
                                        bif (eqF (.arr 4 (.int .u64)) r29 p.2) then (
                                          match (group_Group_Size none) with
                                          | none => none
                                          | some r30 => (
                                            match (r07_Size ((p.1.1, p.1.2), p.2)) with
                                            | none => none
                                            | some r31 => (
                                              bif (r30 == r31) then (
                                                match l07_awake with
                                                | none => none
                                                | some r32 => (
                                                  bif r32 then (
                                                    some ())
                                                  else (
                                                    none)))
                                              else (
                                                none))))
                                        else (
                                          none)))
                                    else (
                                      none))))
                              else (
                                none))))))
                    else (
                      bif (!r23) then (
                        match l07_awake with
                        | none => none
                        | some r33 => (
                          bif r33 then (
                            some ())
                          else (
                            none)))
                      else (
                        match (group_Group_P none) with
                        | none => none
                        | some r34 => (
                          match (r07_P ((p.1.1, p.1.2), p.2)) with
                          | none => none
                          | some r35 => (
                            bif (eqF (.arr 4 (.int .u64)) r34 r35) then (
                              match (group_Group_Q none) with
                              | none => none
                              | some r36 => (
                                match (r07_Q ((p.1.1, p.1.2), p.2)) with
                                | none => none
                                | some r37 => (
                                  bif (eqF (.arr 4 (.int .u64)) r36 r37) then (
                                    match (group_Group_G none) with
                                    | none => none
                                    | some r38 => (
                                      bif (eqF (.arr 4 (.int .u64)) r38 p.2) then (
                                        match (group_Group_Size none) with
                                        | none => none
                                        | some r39 => (
                                          match (r07_Size ((p.1.1, p.1.2), p.2)) with
                                          | none => none
                                          | some r40 => (
                                            bif (r39 == r40) then (
                                              match l07_awake with
                                              | none => none
                                              | some r41 => (
                                                bif r41 then (
                                                  some ())
                                                else (
                                                  none)))
                                            else (
                                              none))))
                                      else (
                                        none)))
                                  else (
                                    none))))
                            else (
                              none))))))))))
          | some p1 => (
            match (r07_May ((p.1.1, p.1.2), p.2)) with
            | none => none
            | some r4 => (
              bif (!((r2 == 0) == r4)) then (
                none)
              else (
                bif (r2 != r3.2) then (
                  none)
                else (
                  bif (!(true == r4)) then (
                    none)
                  else (
                    bif (r2 != 0) then (
                      bif (r2 != 4) then (
                        none)
                      else (
                        bif (!r4) then (
                          match l07_awake with
                          | none => none
                          | some r5 => (
                            bif r5 then (
                              some ())
                            else (
                              none)))
                        else (
                          match (group_Group_P (some p1)) with
                          | none => none
                          | some r6 => (
                            match (r07_P ((p.1.1, p.1.2), p.2)) with
                            | none => none
                            | some r7 => (
                              bif (eqF (.arr 4 (.int .u64)) r6 r7) then (
                                match (group_Group_Q (some p1)) with
                                | none => none
                                | some r8 => (
                                  match (r07_Q ((p.1.1, p.1.2), p.2)) with
                                  | none => none
                                  | some r9 => (
                                    bif (eqF (.arr 4 (.int .u64)) r8 r9) then (
                                      match (group_Group_G (some p1)) with
                                      | none => none
                                      | some r10 => (
                                        bif (eqF (.arr 4 (.int .u64)) r10 p.2) then (
                                          match (group_Group_Size (some p1)) with
                                          | none => none
                                          | some r11 => (
                                            match (r07_Size ((p.1.1, p.1.2), p.2)) with
                                            | none => none
                                            | some r12 => (
                                              bif (r11 == r12) then (
                                                match l07_awake with
                                                | none => none
                                                | some r13 => (
                                                  bif r13 then (
                                                    some ())
                                                  else (
                                                    none)))
                                              else (
                                                none))))
                                        else (
                                          none)))
                                    else (
                                      none))))
                              else (
                                none))))))
                    else (
                      bif (!r4) then (
                        match l07_awake with
                        | none => none
                        | some r14 => (
                          bif r14 then (
                            some ())
                          else (
                            none)))
                      else (
                        match (group_Group_P (some p1)) with
                        | none => none
                        | some r15 => (
                          match (r07_P ((p.1.1, p.1.2), p.2)) with
                          | none => none
                          | some r16 => (
                            bif (eqF (.arr 4 (.int .u64)) r15 r16) then (
                              match (group_Group_Q (some p1)) with
                              | none => none
                              | some r17 => (
                                match (r07_Q ((p.1.1, p.1.2), p.2)) with
                                | none => none
                                | some r18 => (
                                  bif (eqF (.arr 4 (.int .u64)) r17 r18) then (
                                    match (group_Group_G (some p1)) with
                                    | none => none
                                    | some r19 => (
                                      bif (eqF (.arr 4 (.int .u64)) r19 p.2) then (
                                        match (group_Group_Size (some p1)) with
                                        | none => none
                                        | some r20 => (
                                          match (r07_Size ((p.1.1, p.1.2), p.2)) with
                                          | none => none
                                          | some r21 => (
                                            bif (r20 == r21) then (
                                              match l07_awake with
                                              | none => none
                                              | some r22 => (
                                                bif r22 then (
                                                  some ())
                                                else (
                                                  none)))
                                            else (
                                              none))))
                                      else (
                                        none)))
                                  else (
                                    none))))
                            else (
                              none))))))))))))))
end Go.Pl

set_option linter.unusedVariables false
set_option linter.unusedSimpArgs false
set_option maxRecDepth 100000
set_option maxHeartbeats 0
namespace Go.Pl
end Go.Pl
open Go Go.Den Go.Pl
namespace Go.Proofs.Ytoofellokbgmaaa
noncomputable def x_l07_GroupChecks : Cx := { ti := ti, con := [(22, c_r07_Light), (23, c_l07_awake), (24, c_group_Check), (17, c_group_New), (25, c_r07_May), (26, c_group_Group_P), (27, c_r07_P), (28, c_group_Group_Q), (29, c_r07_Q), (30, c_group_Group_G), (31, c_group_Group_Size), (32, c_r07_Size)], fns := [], un := 6 }
theorem xok_l07_GroupChecks : CxOk Try.prog x_l07_GroupChecks := CxOk.of mixed ti_ok (List.forall_mem_cons.2 ⟨con_r07_Light, List.forall_mem_cons.2 ⟨con_l07_awake, List.forall_mem_cons.2 ⟨con_group_Check, List.forall_mem_cons.2 ⟨con_group_New, List.forall_mem_cons.2 ⟨con_r07_May, List.forall_mem_cons.2 ⟨con_group_Group_P, List.forall_mem_cons.2 ⟨con_r07_P, List.forall_mem_cons.2 ⟨con_group_Group_Q, List.forall_mem_cons.2 ⟨con_r07_Q, List.forall_mem_cons.2 ⟨con_group_Group_G, List.forall_mem_cons.2 ⟨con_group_Group_Size, List.forall_mem_cons.2 ⟨con_r07_Size, List.forall_mem_nil _⟩⟩⟩⟩⟩⟩⟩⟩⟩⟩⟩⟩) (List.forall_mem_nil _)
theorem fn_l07_GroupChecks : FnOk Try.prog 4 Try.f4 [] := ⟨Try.func4, Try.call4, lps_nil⟩
theorem e_l07_GroupChecks (p : ((Nat × (Nat → ((Nat → Int) × Int))) × (Nat → Int))) : bodyK x_l07_GroupChecks [] (denF x_l07_GroupChecks 8) Try.f4 (domV [(.pair (.sl (.pair (.arr 4 (.int .u64)) (.int .i64))) (.arr 4 (.int .u64)))] (p, ())) [] 0 kTrue = l07_GroupChecks' p := by kernel_rfl
end Go.Proofs.Ytoofellokbgmaaa

set_option linter.unusedVariables false
set_option linter.unusedSimpArgs false
namespace Go.Pl
open Go Go.Den Go.Num

theorem l07_GroupChecks_true {p : (Nat × (Nat → (Nat → Int) × Int)) × (Nat → Int)} (h : Go.Den.Good (.pair (.sl (.pair (.arr 4 (.int .u64)) (.int .i64))) (.arr 4 (.int .u64))) (.fz p.1.1 p.1.2, p.2)) : l07_GroupChecks' p = some () := by
  obtain ⟨⟨k, l⟩, ga⟩ := p
  have h1 : Go.Den.Good (.sl (.pair (.arr 4 (.int .u64)) (.int .i64))) (.fz k l) := h.1
  have h2 : Go.Den.Good (.arr 4 (.int .u64)) ga := h.2
  have h63 : k ≤ 9223372036854775807 := by have := h1.1; omega
  obtain ⟨N, hN⟩ := good_links h1
  obtain ⟨G, hG⟩ := good_nat h2
  obtain ⟨b, b1, b2⟩ := r07_Light_spec (ga := ga) h63 hN
  obtain ⟨m, m1, m2⟩ := r07_May_spec h63 hN hG
  unfold l07_GroupChecks'
  cases b with
  | false => simp (disch := omega) only [wrap_i64n, wrapun, dec_t, dec_f, inb_t, cond_true, cond_false, Int.toNat_natCast, beq_t, beq_f, bne_t, bne_f, Bool.not_true, Bool.not_false, Int.reduceToNat, ft_b, tf_b, tt_b, ff_b, decide_true, decide_false, b1, l07_awake_spec]
  | true =>
    by_cases hp : GroupP k N (fun i => (l i).2) G
    · have hm : m = true := m2.2 hp
      subst hm
      obtain ⟨g, g1, g2, g3⟩ := (group_New_spec hN hG).1 hp
      have c1 := (group_Check_spec hN hG).1 hp
      obtain ⟨q, q1, q2⟩ := group_Q_spec g2
      obtain ⟨P, P1, P2⟩ := group_P_spec g2
      have hk := hp.1
      have hs := group_Size_spec g2
      have hs2 := r07_Size_spec (ga := ga) hk h63 (hN (k - 2) (by omega)) hp.2.2.1
      have hb : ((2 : Nat) : Int) = 2 := rfl
      simp (disch := first | omega | decide) only [wrap_i64n, wrapun, dec_t, dec_f, inb_t, cond_true, cond_false, Int.toNat_natCast, beq_t, beq_f, bne_t, bne_f, Bool.not_true, Bool.not_false, Int.reduceToNat, ft_b, tf_b, tt_b, ff_b, decide_true, decide_false, b1, m1, c1, g1, q1, P1, group_G_spec g2, hs, hs2, r07_P_spec hk h63, r07_Q_spec hk h63, P2.eqb (hN (k - 1) (by omega)), q2.eqb (hN (k - 2) (by omega)), g3, hG.eqb hG, l07_awake_spec]
    · have hm : m = false := by
        cases m with
        | true => exact absurd (m2.1 rfl) hp
        | false => rfl
      subst hm
      have g1 := (group_New_spec hN hG).2 hp
      have c1 := (group_Check_spec hN hG).2 hp
      simp (disch := first | omega | decide) only [wrap_i64n, wrapun, dec_t, dec_f, inb_t, cond_true, cond_false, Int.toNat_natCast, beq_t, beq_f, bne_t, bne_f, Bool.not_true, Bool.not_false, Int.reduceToNat, ft_b, tf_b, tt_b, ff_b, decide_true, decide_false, b1, m1, c1, g1, l07_awake_spec]
end Go.Pl
