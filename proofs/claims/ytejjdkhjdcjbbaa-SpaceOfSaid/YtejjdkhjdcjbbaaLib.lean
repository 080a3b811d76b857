/-
  The library's functions, by contracts.
-/
import Derived.Test.YtejjdkhjdcjbbaaEqA
import Derived.Test.YtejjdkhjdcjbbaaShelf
import Derived.Test.YtejjdkhjdcjbbaaDenL
import Derived.WalkKit
import Derived.WalkSpells
import Derived.StillTactics
import Derived.Laws.Pointers
import Derived.RowKit3
import Derived.BigQuiet
import Derived.Deep.QuietTactic
import Derived.IntWalk
set_option linter.unusedVariables false
set_option linter.unusedSimpArgs false
set_option maxRecDepth 100000
set_option maxHeartbeats 0
namespace Go.Pl
end Go.Pl
open Go Go.Den Go.Pl
namespace Go.Proofs.Ytejjdkhjdcjbbaa
noncomputable def c_sClone : Con := conClone 9
theorem con_sClone : ConOk Try.prog 43 c_sClone := conClone_ok Try.call43 Try.slices_Clone_string_nil Try.slices_Clone_string_zero Try.slices_Clone_string
open Go.RowKit in
theorem quota (b o : Nat) (n m e : Int) (w : World) (h0 : w.cell? ⟨b, o, none⟩ = some (.int .i64 n)) (h1 : w.cell? ⟨b, o + 1, none⟩ = some (.int .i64 m)) :
    Calls Try.prog 30 #[.pointer (some ⟨b, o, none⟩), .int .i64 e] w fun r w' => r = .returned (.int .i64 (quotaV n m e)) ∧ w'.heap = w.heap ∧ w'.os = w.os ∧ w'.tape = w.tape ∧ w'.output = w.output := by
  have hw : ∀ x, IntKind.i64.wrap x = wrap64 x := fun x => by rw [IntKind.wrap_i64]; unfold wrap64; rfl
  by_cases c1 : e < 1
  · have d1 : decide (e < 1) = true := by simpa using c1
    have hv : quotaV n m e = 0 := by unfold quotaV; rw [if_pos (.inl c1)]
    go_enter Try.func30, Try.ntmps30
    go_wp2
    go_quiet (fail)
    go_wp2
    go_ret
    exact ⟨by rw [hv]; rfl, rfl, rfl, rfl, rfl⟩
  · have d1 : decide (e < 1) = false := by simpa using c1
    by_cases c2 : IntKind.i64.wrap (n + m) < e
    · have d2 : decide (wrap64 (n + m) < e) = true := decide_eq_true (by rw [← hw]; exact c2)
      have hv : quotaV n m e = 0 := by unfold quotaV; rw [if_pos (.inr c2)]
      go_enter Try.func30, Try.ntmps30
      go_wp2
      go_quiet (fail)
      go_wp2
      go_ret
      exact ⟨by rw [hv]; rfl, rfl, rfl, rfl, rfl⟩
    · have d2 : decide (wrap64 (n + m) < e) = false := decide_eq_false (by rw [← hw]; exact c2)
      have c12 : ¬ (e < 1 ∨ IntKind.i64.wrap (n + m) < e) := fun h => h.elim c1 c2
      by_cases c3 : e ≤ n
      · have d3 : decide (e ≤ n) = true := by simpa using c3
        have hv : quotaV n m e = IntKind.i64.wrap (IntKind.i64.wrap (m * n) * 4) := by unfold quotaV; rw [if_neg c12, if_pos c3]
        rw [hw, hw] at hv
        go_enter Try.func30, Try.ntmps30
        go_wp2
        go_quiet (fail)
        go_wp2
        go_quiet (fail)
        go_wp2
        go_ret
        exact ⟨by rw [hv]; rfl, rfl, rfl, rfl, rfl⟩
      · have d3 : decide (e ≤ n) = false := by simpa using c3
        have hv : quotaV n m e = 4 := by unfold quotaV; rw [if_neg c12, if_neg c3]
        go_enter Try.func30, Try.ntmps30
        go_wp2
        go_quiet (fail)
        go_wp2
        go_ret
        exact ⟨by rw [hv]; rfl, rfl, rfl, rfl, rfl⟩
open Go.RowKit in
theorem quota0 (e : Int) (w : World) : Calls Try.prog 30 #[.pointer none, .int .i64 e] w fun r w' => r = .returned (.int .i64 0) ∧ w'.heap = w.heap ∧ w'.os = w.os ∧ w'.tape = w.tape ∧ w'.output = w.output := by
  go_enter Try.func30, Try.ntmps30
  go_wp2
  go_quiet (fail)
  go_wp2
  go_ret
  exact ⟨rfl, rfl, rfl, rfl, rfl⟩
noncomputable def c_sQuota : Con := conTwo (.pair (.sl .str) .mp) quotaV
theorem con_sQuota : ConOk Try.prog 30 c_sQuota := conTwo_ok Try.call30 quota quota0
noncomputable def c_strCompare : Con := conV true [.str, .str] [.int .i64] fun x => strCompare x.1 x.2.1
theorem con_strCompare : ConOk Try.prog 47 c_strCompare := strCompare_ok Try.call47 Try.strings_Compare
def insRen : Go.Shelf.Ren := ⟨fun | 22 => 42 | 17 => 53 | 29 => 48 | 30 => 49 | 36 => 51 | n => n, fun | 0 => 0 | 3 => 3 | 4 => 4 | 9 => 9 | 24 => 61 | n => n, fun | n => n⟩
theorem insLay : Go.Proofs.Lays2.n22 Try.prog insRen := {
  mixed := by kernel_rfl
  f17 := Try.func53.trans (congrArg some (by kernel_rfl))
  f22 := Try.func42.trans (congrArg some (by kernel_rfl))
  f29 := Try.func48.trans (congrArg some (by kernel_rfl))
  f30 := Try.func49.trans (congrArg some (by kernel_rfl))
  f36 := Try.func51.trans (congrArg some (by kernel_rfl))
  t0 := Try.underlying0
  a0 := Try.isAgg0
  z0 := Try.sizeOf0
  v0 := Try.zeroValue0
  t3 := Try.underlying3
  a3 := Try.isAgg3
  z3 := Try.sizeOf3
  v3 := Try.zeroValue3
  t4 := Try.underlying4
  a4 := Try.isAgg4
  z4 := Try.sizeOf4
  v4 := Try.zeroValue4
  t9 := Try.underlying9
  a9 := Try.isAgg9
  z9 := Try.sizeOf9
  v9 := Try.zeroValue9
  t24 := Try.underlying61
  a24 := Try.isAgg61
  z24 := Try.sizeOf61
  v24 := Try.zeroValue61
  i9 := by kernel_rfl }
noncomputable def c_sInsert : Con := conIns 9
theorem con_sInsert : ConOk Try.prog 42 c_sInsert := conIns_kit insLay Try.call42
end Go.Proofs.Ytejjdkhjdcjbbaa
