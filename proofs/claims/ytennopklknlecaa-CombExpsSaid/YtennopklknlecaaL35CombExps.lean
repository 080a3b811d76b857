/-
  One statement, plainly.
-/
import Derived.Test.YtennopklknlecaaDenD
import Derived.Test.YtennopklknlecaaPcomb
import Derived.Test.YtennopklknlecaaL35
import Derived.Test.YtennopklknlecaaPlA
import Derived.Test.YtennopklknlecaaPr35
import Derived.Test.YtennopklknlecaaEqA
import Derived.Test.YtennopklknlecaaEcomb
import Derived.Test.YtennopklknlecaaEr35
set_option linter.unusedVariables false
set_option linter.unusedSimpArgs false
set_option maxRecDepth 100000
set_option maxHeartbeats 0
namespace Go.Pl
end Go.Pl
open Go Go.Den Go.Pl
namespace Go.Pl
noncomputable def l35_CombExps' (which : Int) (l : (Nat → (Nat → Int))) (bits : Int) : Option (Unit) :=
  match (l35_small which) with
  | none => none
  | some r => (
    match r.1 with
    | none => (
      match (comb_New none (l 0) bits) with
      | none => none
      | some r14 => (
        match r14.1 with
        | none => (
          bif (!r.2.2) then (
            none)
          else (
            match (l35_of r.2.1.1) with
            | none => none
            | some r22 => (
              match (r01_Cmp (l 0) r22) with
              | none => none
              | some r23 => (
                bif (decide (r23 ≥ 0)) then (
                  bif (r14.2 == 1) then (
                    match l35_awake with
                    | none => none
                    | some r24 => (
                      bif r24 then (
                        some ())
                      else (
                        none)))
                  else (
                    none))
                else (
                  bif (decide (bits < 1)) then (
                    bif (r14.2 == 1) then (
                      match l35_awake with
                      | none => none
                      | some r25 => (
                        bif r25 then (
                          some ())
                        else (
                          none)))
                    else (
                      none))
                  else (
                    bif (decide (bits > 256)) then (
                      bif (r14.2 == 1) then (
                        match l35_awake with
                        | none => none
                        | some r26 => (
                          bif r26 then (
                            some ())
                          else (
                            none)))
                      else (
                        none))
                    else (
                      bif (r14.2 != 0) then (
                        none)
                      else (
                        none))))))))
        | some p2 => (
          bif (!r.2.2) then (
            none)
          else (
            match (l35_of r.2.1.1) with
            | none => none
            | some r15 => (
              match (r01_Cmp (l 0) r15) with
              | none => none
              | some r16 => (
                bif (decide (r16 ≥ 0)) then (
                  none)
                else (
                  bif (decide (bits < 1)) then (
                    none)
                  else (
                    bif (decide (bits > 256)) then (
                      none)
                    else (
                      bif (r14.2 != 0) then (
                        none)
                      else (
                        match (comb_Table_Exp (some p2) (l 1)) with
                        | none => none
                        | some r17 => (
                          match (r35_Exp r.2.1 (l 0) bits (l 1)) with
                          | none => none
                          | some r18 => (
                            bif (eqF (.arr 4 (.int .u64)) r17.1 r18.1) then (
                              bif (r17.2 == r18.2) then (
                                match (comb_Table_Bits (some p2)) with
                                | none => none
                                | some r19 => (
                                  bif (r19 == bits) then (
                                    match (comb_Table_Base (some p2)) with
                                    | none => none
                                    | some r20 => (
                                      bif (eqF (.arr 4 (.int .u64)) r20 (l 0)) then (
                                        match l35_awake with
                                        | none => none
                                        | some r21 => (
                                          bif r21 then (
                                            some ())
                                          else (
                                            none)))
                                      else (
                                        none)))
                                  else (
                                    none)))
                              else (
                                none))
                            else (
                              none)))))))))))))
    | some p => (
      match (comb_New (some p) (l 0) bits) with
      | none => none
      | some r1 => (
        match r1.1 with
        | none => (
          bif (!r.2.2) then (
            none)
          else (
            match (l35_of r.2.1.1) with
            | none => none
            | some r9 => (
              match (r01_Cmp (l 0) r9) with
              | none => none
              | some r10 => (
                bif (decide (r10 ≥ 0)) then (
                  bif (r1.2 == 1) then (
                    match l35_awake with
                    | none => none
                    | some r11 => (
                      bif r11 then (
                        some ())
                      else (
                        none)))
                  else (
                    none))
                else (
                  bif (decide (bits < 1)) then (
                    bif (r1.2 == 1) then (
                      match l35_awake with
                      | none => none
                      | some r12 => (
                        bif r12 then (
                          some ())
                        else (
                          none)))
                    else (
                      none))
                  else (
                    bif (decide (bits > 256)) then (
                      bif (r1.2 == 1) then (
                        match l35_awake with
                        | none => none
                        | some r13 => (
                          bif r13 then (
                            some ())
                          else (
                            none)))
                      else (
                        none))
                    else (
                      bif (r1.2 != 0) then (
                        none)
                      else (
                        none))))))))
        | some p1 => (
          bif (!r.2.2) then (
            none)
          else (
            match (l35_of r.2.1.1) with
            | none => none
            | some r2 => (
              match (r01_Cmp (l 0) r2) with
              | none => none
              | some r3 => (
                bif (decide (r3 ≥ 0)) then (
                  none)
                else (
                  bif (decide (bits < 1)) then (
                    none)
                  else (
                    bif (decide (bits > 256)) then (
                      none)
                    else (
                      bif (r1.2 != 0) then (
                        none)
                      else (
                        match (comb_Table_Exp (some p1) (l 1)) with
                        | none => none
                        | some r4 => (
                          match (r35_Exp r.2.1 (l 0) bits (l 1)) with
                          | none => none
                          | some r5 => (
                            bif (eqF (.arr 4 (.int .u64)) r4.1 r5.1) then (
                              bif (r4.2 == r5.2) then (
                                match (comb_Table_Bits (some p1)) with
                                | none => none
                                | some r6 => (
                                  bif (r6 == bits) then (
                                    match (comb_Table_Base (some p1)) with
                                    | none => none
                                    | some r7 => (
                                      bif (eqF (.arr 4 (.int .u64)) r7 (l 0)) then (
                                        match l35_awake with
                                        | none => none
                                        | some r8 => (
                                          bif r8 then (
                                            some ())
                                          else (
                                            none)))
                                      else (
                                        none)))
                                  else (
                                    none)))
                              else (
                                none))
                            else (
                              none))))))))))))))
end Go.Pl

set_option linter.unusedVariables false
set_option linter.unusedSimpArgs false
set_option maxRecDepth 100000
set_option maxHeartbeats 0
namespace Go.Pl
end Go.Pl
open Go Go.Den Go.Pl
namespace Go.Proofs.Ytennopklknlecaa
noncomputable def x_l35_CombExps : Cx := { ti := ti, con := [(32, c_l35_small), (33, c_comb_New), (35, c_l35_of), (34, c_r01_Cmp), (37, c_comb_Table_Exp), (38, c_r35_Exp), (39, c_comb_Table_Bits), (40, c_comb_Table_Base), (36, c_l35_awake)], fns := [], un := 6 }
theorem xok_l35_CombExps : CxOk Try.prog x_l35_CombExps := CxOk.of mixed ti_ok (List.forall_mem_cons.2 ⟨con_l35_small, List.forall_mem_cons.2 ⟨con_comb_New, List.forall_mem_cons.2 ⟨con_l35_of, List.forall_mem_cons.2 ⟨con_r01_Cmp, List.forall_mem_cons.2 ⟨con_comb_Table_Exp, List.forall_mem_cons.2 ⟨con_r35_Exp, List.forall_mem_cons.2 ⟨con_comb_Table_Bits, List.forall_mem_cons.2 ⟨con_comb_Table_Base, List.forall_mem_cons.2 ⟨con_l35_awake, List.forall_mem_nil _⟩⟩⟩⟩⟩⟩⟩⟩⟩) (List.forall_mem_nil _)
theorem fn_l35_CombExps : FnOk Try.prog 7 Try.f7 [] := ⟨Try.func7, Try.call7, lps_nil⟩
theorem e_l35_CombExps (which : Int) (l : (Nat → (Nat → Int))) (bits : Int) : bodyK x_l35_CombExps [] (denF x_l35_CombExps 8) Try.f7 (domV [(.int .i64), (.arr 2 (.arr 4 (.int .u64))), (.int .i64)] (which, l, bits, ())) [] 0 kTrue = l35_CombExps' which l bits := by kernel_rfl
end Go.Proofs.Ytennopklknlecaa

set_option linter.unusedVariables false
set_option linter.unusedSimpArgs false
namespace Go.Pl
open Go Go.Den Go.Num

theorem l35_CombExps_true {which : Int} {l : Nat → Nat → Int} {bits : Int} (hw : Go.Den.Good (.int .i64) which) (hl : Go.Den.Good (.arr 2 (.arr 4 (.int .u64))) l) (hb : Go.Den.Good (.int .i64) bits) : l35_CombExps' which l bits = some () := by
  obtain ⟨x, hx⟩ := good_nat (hl 0 (by decide))
  obtain ⟨E, hE⟩ := good_nat (hl 1 (by decide))
  obtain ⟨k, cl, ga, g, P, Q, G, s1, hg, hP, hQ⟩ := l35_small_spec which
  have hgg := hg.group
  have hppos := hgg.ppos
  obtain ⟨o, o1, o2⟩ := l35_of_spec (n := (P : Int)) (by omega)
  rw [Int.toNat_natCast] at o2
  have hc := r01_Cmp_spec hx o2
  have hz : eqF (.arr 4 (.int .u64)) (fun _ => 0) (fun _ => 0) = true := IsN.eqb IsN.zero IsN.zero
  unfold l35_CombExps'
  by_cases h : x < P ∧ 1 ≤ bits ∧ bits ≤ 256
  · obtain ⟨h1, h2, h3⟩ := h
    obtain ⟨b, rfl⟩ : ∃ b : Nat, bits = (b : Int) := ⟨bits.toNat, by omega⟩
    obtain ⟨t, r, t1, t2, t3⟩ := comb_New_spec hgg hx h1 (show 1 ≤ b by omega) (show b ≤ 256 by omega)
    obtain ⟨z, z1, z2⟩ := r35_Exp_spec (Q := Q) (G := G) (bits := b) hx hE hppos (show P < 9223372036854775808 by omega)
    have hc2 : cmpI x P = -1 := by unfold cmpI; rw [if_pos h1]
    rw [hc2] at hc
    by_cases hlt : E < 2 ^ b
    · rw [if_pos hlt] at z2
      obtain ⟨w, w1, w2⟩ := comb_Exp_spec t2 hE hlt
      simp (disch := omega) only [wrap_i64n, wrapun, dec_t, dec_f, inb_t, cond_true, cond_false, Int.toNat_natCast, beq_t, beq_f, bne_t, bne_f, Bool.not_true, Bool.not_false, Int.reduceToNat, ft_b, tf_b, tt_b, ff_b, decide_true, decide_false, s1, t1, o1, hc, w1, z2, w2.eqb z1, comb_Bits_spec t2, comb_Base_spec t2, t3, hx.eqb hx, l35_awake_spec]
    · rw [if_neg hlt] at z2
      simp (disch := omega) only [wrap_i64n, wrapun, dec_t, dec_f, inb_t, cond_true, cond_false, Int.toNat_natCast, beq_t, beq_f, bne_t, bne_f, Bool.not_true, Bool.not_false, Int.reduceToNat, ft_b, tf_b, tt_b, ff_b, decide_true, decide_false, s1, t1, o1, hc, comb_Exp_full t2 hE hlt, z2, hz, comb_Bits_spec t2, comb_Base_spec t2, t3, hx.eqb hx, l35_awake_spec]
  · have hn := comb_New_odd hgg hx h
    by_cases h1 : x < P
    · have hc2 : cmpI x P = -1 := by unfold cmpI; rw [if_pos h1]
      rw [hc2] at hc
      by_cases h2 : bits < 1
      · simp (disch := omega) only [wrap_i64n, wrapun, dec_t, dec_f, inb_t, cond_true, cond_false, Int.toNat_natCast, beq_t, beq_f, bne_t, bne_f, Bool.not_true, Bool.not_false, Int.reduceToNat, ft_b, tf_b, tt_b, ff_b, decide_true, decide_false, s1, hn, o1, hc, l35_awake_spec]
      · simp (disch := omega) only [wrap_i64n, wrapun, dec_t, dec_f, inb_t, cond_true, cond_false, Int.toNat_natCast, beq_t, beq_f, bne_t, bne_f, Bool.not_true, Bool.not_false, Int.reduceToNat, ft_b, tf_b, tt_b, ff_b, decide_true, decide_false, s1, hn, o1, hc, l35_awake_spec]
    · have hc2 : (0 : Int) ≤ cmpI x P := by unfold cmpI; rw [if_neg h1]; split <;> decide
      simp (disch := omega) only [wrap_i64n, wrapun, dec_t, dec_f, inb_t, cond_true, cond_false, Int.toNat_natCast, beq_t, beq_f, bne_t, bne_f, Bool.not_true, Bool.not_false, Int.reduceToNat, ft_b, tf_b, tt_b, ff_b, decide_true, decide_false, s1, hn, o1, hc, l35_awake_spec]
end Go.Pl
