/-
  One statement, plainly.
-/
import Derived.Test.YtoofellokbgmaaaDenD
import Derived.Test.YtoofellokbgmaaaPlA
import Derived.Test.YtoofellokbgmaaaL09
import Derived.Test.YtoofellokbgmaaaEqA
set_option linter.unusedVariables false
set_option linter.unusedSimpArgs false
set_option maxRecDepth 100000
set_option maxHeartbeats 0
namespace Go.Pl
end Go.Pl
open Go Go.Den Go.Pl
namespace Go.Pl
noncomputable def l09_PowerMultis' (which : Int) (nbases : Nat) (bases : Nat → (Nat → Int)) (nexps : Nat) (exps : Nat → (Nat → Int)) : Option (Unit) :=
  bif (decide (((nbases : Nat) : Int) > 8)) then (
    match l09_awake with
    | none => none
    | some r => (
      bif r then (
        some ())
      else (
        none)))
  else (
    bif (decide (((nexps : Nat) : Int) > 8)) then (
      match l09_awake with
      | none => none
      | some r1 => (
        bif r1 then (
          some ())
        else (
          none)))
    else (
      match (r07_Pick which) with
      | none => none
      | some r2 => (
        match (group_New ((r2.1.1, r2.1.2), r2.2)) with
        | none => none
        | some r3 => (
          match r3.1 with
          | none => (
            match (power_Multi none nbases bases nexps exps) with
            | none => none
            | some r10 => (
              bif (r3.2 != 0) then (
                none)
              else (
                bif (((nbases : Nat) : Int) != ((nexps : Nat) : Int)) then (
                  bif (eqF (.arr 4 (.int .u64)) r10.1 (fun _ => 0)) then (
                    bif (r10.2 == 1) then (
                      match l09_awake with
                      | none => none
                      | some r11 => (
                        bif r11 then (
                          some ())
                        else (
                          none)))
                    else (
                      none))
                  else (
                    none))
                else (
                  match (r09_Of ((r2.1.1, r2.1.2), r2.2)) with
                  | none => none
                  | some r12 => (
                    match (r09_Multi r12 nbases bases nexps exps) with
                    | none => none
                    | some r13 => (
                      match (l09_of r13) with
                      | none => none
                      | some r14 => (
                        bif (eqF (.arr 4 (.int .u64)) r10.1 r14) then (
                          bif (r10.2 == 0) then (
                            match l09_awake with
                            | none => none
                            | some r15 => (
                              bif r15 then (
                                some ())
                              else (
                                none)))
                          else (
                            none))
                        else (
                          none))))))))
          | some p => (
            match (power_Multi (some p) nbases bases nexps exps) with
            | none => none
            | some r4 => (
              bif (r3.2 != 0) then (
                none)
              else (
                bif (((nbases : Nat) : Int) != ((nexps : Nat) : Int)) then (
                  bif (eqF (.arr 4 (.int .u64)) r4.1 (fun _ => 0)) then (
                    bif (r4.2 == 1) then (
                      match l09_awake with
                      | none => none
                      | some r5 => (
                        bif r5 then (
                          some ())
                        else (
                          none)))
                    else (
                      none))
                  else (
                    none))
                else (
                  match (r09_Of ((r2.1.1, r2.1.2), r2.2)) with
                  | none => none
                  | some r6 => (
                    match (r09_Multi r6 nbases bases nexps exps) with
                    | none => none
                    | some r7 => (
                      match (l09_of r7) with
                      | none => none
                      | some r8 => (
                        bif (eqF (.arr 4 (.int .u64)) r4.1 r8) then (
                          bif (r4.2 == 0) then (
                            match l09_awake with
                            | none => none
                            | some r9 => (
                              bif r9 then (
                                some ())
                              else (
                                none)))
                          else (
                            none))
                        else (
                          none))))))))))))
end Go.Pl

set_option linter.unusedVariables false
set_option linter.unusedSimpArgs false
set_option maxRecDepth 100000
set_option maxHeartbeats 0
namespace Go.Pl
end Go.Pl
open Go Go.Den Go.Pl
namespace Go.Proofs.Ytoofellokbgmaaa
noncomputable def x_l09_PowerMultis : Cx := { ti := ti, con := [(15, c_l09_awake), (16, c_r07_Pick), (17, c_group_New), (18, c_power_Multi), (21, c_r09_Of), (20, c_r09_Multi), (19, c_l09_of)], fns := [], un := 6 }
theorem xok_l09_PowerMultis : CxOk Try.prog x_l09_PowerMultis := CxOk.of mixed ti_ok (List.forall_mem_cons.2 ⟨con_l09_awake, List.forall_mem_cons.2 ⟨con_r07_Pick, List.forall_mem_cons.2 ⟨con_group_New, List.forall_mem_cons.2 ⟨con_power_Multi, List.forall_mem_cons.2 ⟨con_r09_Of, List.forall_mem_cons.2 ⟨con_r09_Multi, List.forall_mem_cons.2 ⟨con_l09_of, List.forall_mem_nil _⟩⟩⟩⟩⟩⟩⟩) (List.forall_mem_nil _)
theorem fn_l09_PowerMultis : FnOk Try.prog 3 Try.f3 [] := ⟨Try.func3, Try.call3, lps_nil⟩
theorem e_l09_PowerMultis (which : Int) (nbases : Nat) (bases : Nat → (Nat → Int)) (nexps : Nat) (exps : Nat → (Nat → Int)) : bodyK x_l09_PowerMultis [] (denF x_l09_PowerMultis 8) Try.f3 (domV [(.int .i64), (.sl (.arr 4 (.int .u64))), (.sl (.arr 4 (.int .u64)))] (which, (nbases, bases), (nexps, exps), ())) [] 0 kTrue = l09_PowerMultis' which nbases bases nexps exps := by kernel_rfl
end Go.Proofs.Ytoofellokbgmaaa

set_option linter.unusedVariables false
set_option linter.unusedSimpArgs false
namespace Go.Pl
open Go Go.Den Go.Num

theorem l09_PowerMultis_true {which : Int} {n k : Nat} {a b : Nat → Nat → Int} (hw : Go.Den.Good (.int .i64) which) (ha : Go.Den.Good (.sl (.arr 4 (.int .u64))) (.fz n a)) (hb : Go.Den.Good (.sl (.arr 4 (.int .u64))) (.fz k b)) : l09_PowerMultis' which n a k b = some () := by
  unfold l09_PowerMultis'
  by_cases hn : n ≤ 8
  · by_cases hk : k ≤ 8
    · obtain ⟨B, hB⟩ := good_nats ha
      obtain ⟨E, hE⟩ := good_nats hb
      obtain ⟨j, l, ga, g, P, Q, G, p1, hg, hP, hQ⟩ := r07_Pick_spec which
      have hgg := hg.group
      have hppos := hgg.ppos
      have hGP := hgg.gP
      have hP1 := hgg.pp.1
      have p63 : P < 9223372036854775808 := by omega
      by_cases hnk : n = k
      · subst hnk
        have hof := r09_Of_spec hg.k2 (by have := hg.k8; omega) hg.p hg.q hg.gen p63 (by omega) (by omega)
        obtain ⟨m, m1, m2⟩ := power_Multi_spec hgg (show n ≤ 64 by omega) hB hE
        obtain ⟨om, om1, om2⟩ := l09_of_spec (n := ((prodN (fun i => B i ^ E i) n % P : Nat) : Int)) (by have := Nat.mod_lt (prodN (fun i => B i ^ E i) n) hppos; omega)
        rw [Int.toNat_natCast] at om2
        simp (disch := first | omega | assumption) only [wrap_i64n, wrapun, dec_t, dec_f, inb_t, cond_true, cond_false, Int.toNat_natCast, beq_t, beq_f, bne_t, bne_f, Bool.not_true, Bool.not_false, Int.reduceToNat, ft_b, tf_b, tt_b, ff_b, decide_true, decide_false, p1, hg.made, m1, hof, r09_Multi_spec (Q := Q) (G := G) (show n ≤ 9223372036854775807 by omega) hB hE (show 1 < P by omega) p63, om1, m2.eqb om2, l09_awake_spec]
      · have hz : eqF (.arr 4 (.int .u64)) (fun _ => 0) (fun _ => 0) = true := IsN.eqb IsN.zero IsN.zero
        simp (disch := first | omega | assumption) only [wrap_i64n, wrapun, dec_t, dec_f, inb_t, cond_true, cond_false, Int.toNat_natCast, beq_t, beq_f, bne_t, bne_f, Bool.not_true, Bool.not_false, Int.reduceToNat, ft_b, tf_b, tt_b, ff_b, decide_true, decide_false, p1, hg.made, power_Multi_odd hgg hnk, hz, l09_awake_spec]
    · simp (disch := omega) only [wrap_i64n, wrapun, dec_t, dec_f, inb_t, cond_true, cond_false, Int.toNat_natCast, beq_t, beq_f, bne_t, bne_f, Bool.not_true, Bool.not_false, Int.reduceToNat, ft_b, tf_b, tt_b, ff_b, decide_true, decide_false, l09_awake_spec]
  · simp (disch := omega) only [wrap_i64n, wrapun, dec_t, dec_f, inb_t, cond_true, cond_false, Int.toNat_natCast, beq_t, beq_f, bne_t, bne_f, Bool.not_true, Bool.not_false, Int.reduceToNat, ft_b, tf_b, tt_b, ff_b, decide_true, decide_false, l09_awake_spec]
end Go.Pl
