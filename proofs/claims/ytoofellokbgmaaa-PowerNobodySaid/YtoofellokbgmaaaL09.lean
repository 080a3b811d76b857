/-
  What the statements of a layer share.
-/
import Derived.Test.YtoofellokbgmaaaDenD
import Derived.Test.YtoofellokbgmaaaPlA
import Derived.Test.YtoofellokbgmaaaEqA
import Derived.Test.YtoofellokbgmaaaME
set_option linter.unusedVariables false
set_option linter.unusedSimpArgs false
set_option maxRecDepth 100000
set_option maxHeartbeats 0
namespace Go.Pl
end Go.Pl
open Go Go.Den Go.Pl
namespace Go.Pl
noncomputable def l09_of' (n : Int) : Option ((Nat → Int)) :=
  match (r01_Int n) with
  | none => none
  | some r => (
    some r)
noncomputable def l09_of : (Int) → Option ((Nat → Int)) := veil l09_of'
theorem l09_of_eq : l09_of = l09_of' := veil_eq _
noncomputable def l09_awake'  : Option (Bool) :=
  match r07_Least with
  | none => none
  | some r => (
    match (group_New ((r.1.1, r.1.2), r.2)) with
    | none => none
    | some r1 => (
      match r1.1 with
      | none => (
        match r07_Least with
        | none => none
        | some r18 => (
          match r07_Least with
          | none => none
          | some r19 => (
            match (l09_of 2) with
            | none => none
            | some r20 => (
              match (l09_of 3) with
              | none => none
              | some r21 => (
                match (power_Multi none 2 (fun j => (upd (upd (fun _ => (fun _ => 0)) 0 r18.2) 1 r19.2) (0 + j)) 2 (fun j => (upd (upd (fun _ => (fun _ => 0)) 0 r20) 1 r21) (0 + j))) with
                | none => none
                | some r22 => (
                  bif (r1.2 == 0) then (
                    match (power_Of none (fun _ => 0)) with
                    | none => none
                    | some r23 => (
                      match (l09_of 1) with
                      | none => none
                      | some r24 => (
                        bif (eqF (.arr 4 (.int .u64)) r23 r24) then (
                          match (l09_of 1) with
                          | none => none
                          | some r25 => (
                            match (power_Of none r25) with
                            | none => none
                            | some r26 => (
                              match r07_Least with
                              | none => none
                              | some r27 => (
                                bif (eqF (.arr 4 (.int .u64)) r26 r27.2) then (
                                  match (l09_of 5) with
                                  | none => none
                                  | some r28 => (
                                    match (power_Of none r28) with
                                    | none => none
                                    | some r29 => (
                                      bif (eqF (.arr 4 (.int .u64)) r22.1 r29) then (
                                        bif (r22.2 == 0) then (
                                          match (power_In none r22.1) with
                                          | none => none
                                          | some r30 => (
                                            bif r30 then (
                                              match (l09_of 2) with
                                              | none => none
                                              | some r31 => (
                                                match (power_In none r31) with
                                                | none => none
                                                | some r32 => (
                                                  bif (!r32) then (
                                                    match (power_In none (fun _ => 0)) with
                                                    | none => none
                                                    | some r33 => (
                                                      some (!r33)))
                                                  else (
                                                    some false))))
                                            else (
                                              some false)))
                                        else (
                                          some false))
                                      else (
                                        some false))))
                                else (
                                  some false)))))
                        else (
                          some false))))
                  else (
                    some false)))))))
      | some p => (
        match r07_Least with
        | none => none
        | some r2 => (
          match r07_Least with
          | none => none
          | some r3 => (
            match (l09_of 2) with
            | none => none
            | some r4 => (
              match (l09_of 3) with
              | none => none
              | some r5 => (
                match (power_Multi (some p) 2 (fun j => (upd (upd (fun _ => (fun _ => 0)) 0 r2.2) 1 r3.2) (0 + j)) 2 (fun j => (upd (upd (fun _ => (fun _ => 0)) 0 r4) 1 r5) (0 + j))) with
                | none => none
                | some r6 => (
                  bif (r1.2 == 0) then (
                    match (power_Of (some p) (fun _ => 0)) with
                    | none => none
                    | some r7 => (
                      match (l09_of 1) with
                      | none => none
                      | some r8 => (
                        bif (eqF (.arr 4 (.int .u64)) r7 r8) then (
                          match (l09_of 1) with
                          | none => none
                          | some r9 => (
                            match (power_Of (some p) r9) with
                            | none => none
                            | some r10 => (
                              match r07_Least with
                              | none => none
                              | some r11 => (
                                bif (eqF (.arr 4 (.int .u64)) r10 r11.2) then (
                                  match (l09_of 5) with
                                  | none => none
                                  | some r12 => (
                                    match (power_Of (some p) r12) with
                                    | none => none
                                    | some r13 => (
                                      bif (eqF (.arr 4 (.int .u64)) r6.1 r13) then (
                                        bif (r6.2 == 0) then (
                                          match (power_In (some p) r6.1) with
                                          | none => none
                                          | some r14 => (
                                            bif r14 then (
                                              match (l09_of 2) with
                                              | none => none
                                              | some r15 => (
                                                match (power_In (some p) r15) with
                                                | none => none
                                                | some r16 => (
                                                  bif (!r16) then (
                                                    match (power_In (some p) (fun _ => 0)) with
                                                    | none => none
                                                    | some r17 => (
                                                      some (!r17)))
                                                  else (
                                                    some false))))
                                            else (
                                              some false)))
                                        else (
                                          some false))
                                      else (
                                        some false))))
                                else (
                                  some false)))))
                        else (
                          some false))))
                  else (
                    some false)))))))))
noncomputable def l09_awake : Option (Bool) := veil l09_awake'
theorem l09_awake_eq : l09_awake = l09_awake' := veil_eq _
end Go.Pl

set_option linter.unusedVariables false
set_option linter.unusedSimpArgs false
set_option maxRecDepth 100000
set_option maxHeartbeats 0
namespace Go.Pl
end Go.Pl
open Go Go.Den Go.Pl
namespace Go.Proofs.Ytoofellokbgmaaa
noncomputable def c_l09_of : Con := conV true [(.int .i64)] [(.arr 4 (.int .u64))] fun x => l09_of x.1
noncomputable def x_l09_of : Cx := { ti := ti, con := [(45, c_r01_Int)], fns := [], un := 6 }
theorem xok_l09_of : CxOk Try.prog x_l09_of := CxOk.of mixed ti_ok (List.forall_mem_cons.2 ⟨con_r01_Int, List.forall_mem_nil _⟩) (List.forall_mem_nil _)
theorem fn_l09_of : FnOk Try.prog 19 Try.f19 [] := ⟨Try.func19, Try.call19, lps_nil⟩
theorem e_l09_of (n : Int) : bodyK x_l09_of [] (denF x_l09_of 8) Try.f19 (domV [(.int .i64)] (n, ())) [] 0 (kOut [(.arr 4 (.int .u64))]) = l09_of' n := by kernel_rfl
theorem con_l09_of : ConOk Try.prog 19 c_l09_of := con_ok xok_l09_of 8 fn_l09_of true [(.int .i64)] [(.arr 4 (.int .u64))] _ (by decide) (fun x => by rw [l09_of_eq]; exact e_l09_of x.1)
noncomputable def c_l09_awake : Con := conV true [] [.bool] fun x => l09_awake 
noncomputable def x_l09_awake : Cx := { ti := ti, con := [(36, c_r07_Least), (17, c_group_New), (19, c_l09_of), (18, c_power_Multi), (55, c_power_Of), (49, c_power_In)], fns := [], un := 6 }
theorem xok_l09_awake : CxOk Try.prog x_l09_awake := CxOk.of mixed ti_ok (List.forall_mem_cons.2 ⟨con_r07_Least, List.forall_mem_cons.2 ⟨con_group_New, List.forall_mem_cons.2 ⟨con_l09_of, List.forall_mem_cons.2 ⟨con_power_Multi, List.forall_mem_cons.2 ⟨con_power_Of, List.forall_mem_cons.2 ⟨con_power_In, List.forall_mem_nil _⟩⟩⟩⟩⟩⟩) (List.forall_mem_nil _)
theorem fn_l09_awake : FnOk Try.prog 15 Try.f15 [] := ⟨Try.func15, Try.call15, lps_nil⟩
theorem e_l09_awake  : bodyK x_l09_awake [] (denF x_l09_awake 8) Try.f15 (domV [] (())) [] 0 (kOut [.bool]) = l09_awake'  := by kernel_rfl
theorem con_l09_awake : ConOk Try.prog 15 c_l09_awake := con_ok xok_l09_awake 8 fn_l09_awake true [] [.bool] _ (by decide) (fun x => by rw [l09_awake_eq]; exact e_l09_awake )
end Go.Proofs.Ytoofellokbgmaaa

set_option linter.unusedVariables false
set_option linter.unusedSimpArgs false
namespace Go.Pl
open Go Go.Den Go.Num

theorem l09_of_spec {n : Int} (hn : n < 9223372036854775808) : ∃ a, l09_of n = some a ∧ IsN a n.toNat := by
  rw [l09_of_eq]; unfold l09_of'
  obtain ⟨a, h1, h2⟩ := r01_Int_spec hn
  simp only [h1]
  exact ⟨a, rfl, h2⟩
theorem awake_pow (b e m : Nat) (hb : b = 2) (he : e = 1966023127) (hm : m = 1055500680322183127) : ¬ (b ^ e % m = 1) := by
  rw [← pm_eq m 256 b e (by subst he; decide)]
  subst hb; subst he; subst hm
  decide +kernel

theorem awake_gen {g : GroupT} {P Q : Nat} (hgg : IsGroup g P Q 316543771439780984) (made : group_New ((3, leastL), leastG) = some (some g, 0)) (h2p : ¬ 2 ^ Q % P = 1) (hG : 316543771439780984 < P) : l09_awake' = some true := by
  unfold l09_awake'
  obtain ⟨a1, a1a, a1b⟩ := l09_of_spec (n := 1) (by decide)
  obtain ⟨a2, a2a, a2b⟩ := l09_of_spec (n := 2) (by decide)
  obtain ⟨a3, a3a, a3b⟩ := l09_of_spec (n := 3) (by decide)
  obtain ⟨a5, a5a, a5b⟩ := l09_of_spec (n := 5) (by decide)
  obtain ⟨m, m1, m2⟩ := power_Multi_spec hgg (n := 2) (by decide) (two_nats leastG_n leastG_n) (two_nats a2b a3b)
  have hp2 : prodN (fun i => (if i = 0 then 316543771439780984 else 316543771439780984) ^ (if i = 0 then Int.toNat 2 else Int.toNat 3)) 2 = 316543771439780984 ^ 5 := by decide
  have m3 := m2.of_eq (m := 316543771439780984 ^ 5 % P) (by rw [hp2])
  obtain ⟨o0, o0a, o0b⟩ := power_Of_spec hgg IsN.zero
  have o0c := o0b.of_eq (m := Int.toNat 1) (by rw [Nat.pow_zero]; exact Nat.mod_eq_of_lt hgg.pp.1)
  obtain ⟨o1, o1a, o1b⟩ := power_Of_spec hgg a1b
  have o1c := o1b.of_eq (m := 316543771439780984) (by rw [show Int.toNat 1 = 1 from rfl, Nat.pow_one]; exact Nat.mod_eq_of_lt hG)
  obtain ⟨o5, o5a, o5b⟩ := power_Of_spec hgg a5b
  have hi := hgg.pow_in 5
  have hin : power_In (some g) m = some true := by
    rw [power_In_spec hgg m3, decide_eq_true hi]
  have hin2 : power_In (some g) a2 = some false := by
    rw [power_In_spec hgg a2b, decide_eq_false]
    exact fun h => h2p h.2.2
  have hin0 : power_In (some g) (fun _ => 0) = some false := by
    rw [power_In_spec hgg IsN.zero, decide_eq_false]
    exact fun h => h.1 rfl
  have e5 : (316543771439780984 ^ 5 % P = 316543771439780984 ^ Int.toNat 5 % P) := rfl
  simp (disch := first | omega | decide | assumption) only [wrap_i64n, wrapun, dec_t, dec_f, inb_t, cond_true, cond_false, Int.toNat_natCast, beq_t, beq_f, bne_t, bne_f, Bool.not_true, Bool.not_false, Int.reduceToNat, ft_b, tf_b, tt_b, ff_b, decide_true, decide_false, a1a, a2a, a3a, a5a, r07_Least_eq2, made, m1, o0a, o1a, o5a, hin, hin2, hin0, o0c.eqb a1b, o1c.eqb leastG_n, m3.eqb o5b, e5]
theorem l09_awake_spec : l09_awake = some true := by
  rw [l09_awake_eq]
  obtain ⟨g, hg⟩ := least_pick
  have h : ∀ P Q : Nat, P = 1055500680322183127 → Q = 1966023127 → IsGroup g P Q 316543771439780984 → l09_awake' = some true := fun P Q hP hQ hgg =>
    awake_gen hgg hg.made (awake_pow 2 Q P rfl hQ hP) (by omega)
  exact h _ _ rfl rfl hg.group
end Go.Pl
