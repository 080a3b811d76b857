/-
  As many keys as an end's quota is, and no more; a space that nobody made answers nothing: for every input.
-/
import Derived.Test.YtejjdkhjdcjbbaaRows
import Derived.WalkKit
import Derived.ProofKit
import Derived.OpenShut
import Derived.Test.YtejjdkhjdcjbbaaL22SpaceFull
namespace Go.Pl
end Go.Pl
namespace Go.Proofs.Ytejjdkhjdcjbbaa.spaceFull
open Go.ChangeShapes Go.WideShapes Go.ChangeAt Go.RowKit Go.Den Go.Pl
set_option linter.unusedVariables false
set_option maxRecDepth 100000

theorem own : ownKnob Try.prog.godebug = none := by kernel_rfl
theorem laid : laidOutB Try.prog = true := by kernel_rfl
theorem hands : handed x_l22_SpaceFull.ti Try.f8.params.toList [(.arr 2 (.int .i64)), (.int .i64)] = true := by kernel_rfl
theorem reads : (Try.f8.params.toList.all fun t => Try.prog.readableRec t && decide (t < Try.prog.types.size)) = true := by kernel_rfl
/-- the law is true of what is handed in -/
theorem law : ∀ xs, GoodD [(.arr 2 (.int .i64)), (.int .i64)] xs → bodyK x_l22_SpaceFull [(0, P_l22_SpaceFull_0)] (denF x_l22_SpaceFull 8) Try.f8 (domV [(.arr 2 (.int .i64)), (.int .i64)] xs) [] 0 kTrue = some () := fun xs hg =>
  match xs, hg with
  | (x0, x1, ()), ⟨h0, h1, _⟩ => (e_l22_SpaceFull x0 x1).trans (l22_SpaceFull_true h0.1 h1.1)

theorem lifted (os : Os) (started : os.Started) (H : Type) (enc : TypeId × Value → H) :
    ReturnsInHanded {} Try.checked os 8 .any (Rows.spaceFullSpec.pre6 enc Try.prog Try.f8 Rows.spaceFullRow.domain false) (Rows.spaceFullSpec.post enc Try.prog Try.f8 false true false false) := by
  refine returnsInHanded_of_change (C := Try.checked) own started (by kernel_rfl) Try.func8
    (ChangeSpec.witness6 (enc := enc) (C := Try.checked) false ⟨#[], #[.agg #[.int .i64 0, .int .i64 0], .int .i64 0], []⟩ 8 (by kernel_rfl) (by kernel_rfl) (by kernel_rfl) (by kernel_rfl)) ?_
  intro W base args ds gs before hval0 hW hcnd _
  have hval : ∀ (j : Nat) t v, Try.f8.params[j]? = some t → args[j]? = some v → Value.okWide Try.prog W .any base t v := hval0
  have hW' := hW
  obtain ⟨p, q, hA0, hV, rfl, hfz, hnd⟩ := hW
  have hA : DataW.TrodAll enc Try.prog W 0 (fun _ => true) true Try.f8.params.toList args.toList ds p := hA0
  obtain ⟨rfl, rfl⟩ := trodVars_none hV
  have hds : Rows.spaceFullSpec.fn H (ds ++ []) = { results := [.lit (.bool true)], args := ds } := by
    have hA1 : DataW.TrodAll enc Try.prog W 0 (fun _ => true) true [55, 3] args.toList ds p := hA
    obtain ⟨v0, vs0, d0, ds0, p0, q0, _, rfl, _, t0, r0⟩ := trodAll_cons hA1
    obtain ⟨v1, vs1, d1, ds1, p1, q1, _, rfl, _, t1, r1⟩ := trodAll_cons r0
    obtain ⟨_, rfl, _⟩ := trodAll_nil r1
    rfl
  simp only [List.append_nil] at hW'
  refine (law_walk xok_l22_SpaceFull 8 Try.func8 fn_l22_SpaceFull.blocks [(.arr 2 (.int .i64)), (.int .i64)] hands law hval hA).mono fun e W' ⟨he, hg⟩ => ?_
  subst he
  rw [List.append_nil] at hds
  exact ⟨_, rfl, Go.Den.post_grown (pa := p) (pv := []) hW' (fun _ _ _ => by rw [List.append_nil, hds]; exact (trodAll_cons_mk (shut_bool Try.underlying4 _) trodAll_mk0)) (fun sp hs => by rw [List.append_nil, hds]; exact stays_all hg laid reads hA sp hs) (fun _ _ => by rw [List.append_nil, hds]; rfl) (by rw [List.append_nil])
    (hg.frame _) hg.2.1 (ok_one (by kernel_rfl) rfl (okWide_bool_mk Try.underlying4 _))⟩

theorem over : Rows.spaceFullRow.holds Try.pinned (OpenSpec.ofChange Rows.spaceFullSpec) :=
  OpenClaim.holds_of_wide 8 Try.f8 rfl rfl rfl rfl rfl rfl rfl ⟨rfl, rfl, rfl, rfl, rfl⟩ rfl rfl rfl rfl rfl (by kernel_rfl) Try.func8 (by kernel_rfl)
    (of_decide_eq_true (by kernel_rfl)) (by unfold Func.isWrapper; first | (rw [if_pos (by decide +kernel)]; kernel_rfl) | (rw [if_neg (by decide +kernel)]; exact ⟨rfl, rfl⟩))
    (fun os started H enc _ => lifted os started H enc)

theorem proved : Rows.SpaceFullSaid := over
end Go.Proofs.Ytejjdkhjdcjbbaa.spaceFull
