/-
  Whatever is named, the keys are the document's: for every input.
-/
import Derived.Test.YtejjdkhjdcjbbaaRows
import Derived.WalkKit
import Derived.ProofKit
import Derived.OpenShut
import Derived.Test.YtejjdkhjdcjbbaaL22SpacePlays
namespace Go.Pl
end Go.Pl
namespace Go.Proofs.Ytejjdkhjdcjbbaa.spacePlays
open Go.ChangeShapes Go.WideShapes Go.ChangeAt Go.RowKit Go.Den Go.Pl
set_option linter.unusedVariables false
set_option maxRecDepth 100000

theorem own : ownKnob Try.prog.godebug = none := by kernel_rfl
theorem laid : laidOutB Try.prog = true := by kernel_rfl
theorem hands : handed x_l22_SpacePlays.ti Try.f6.params.toList [(.arr 2 (.int .i64)), (.sl (.pair .str (.int .i64)))] = true := by kernel_rfl
theorem reads : (Try.f6.params.toList.all fun t => Try.prog.readableRec t && decide (t < Try.prog.types.size)) = true := by kernel_rfl
/-- the law is true of what is handed in -/
theorem law : ∀ xs, GoodD [(.arr 2 (.int .i64)), (.sl (.pair .str (.int .i64)))] xs → bodyK x_l22_SpacePlays [(0, P_l22_SpacePlays_0)] (denF x_l22_SpacePlays 8) Try.f6 (domV [(.arr 2 (.int .i64)), (.sl (.pair .str (.int .i64)))] xs) [] 0 kTrue = some () := fun xs hg =>
  match xs, hg with
  | (x0, x1, ()), ⟨h0, h1, _⟩ => (e_l22_SpacePlays x0 x1.1 x1.2).trans (l22_SpacePlays_true h0.1 h1.1)

theorem lifted (os : Os) (started : os.Started) (H : Type) (enc : TypeId × Value → H) :
    ReturnsInHanded {} Try.checked os 6 .any (Rows.spacePlaysSpec.pre6 enc Try.prog Try.f6 Rows.spacePlaysRow.domain false) (Rows.spacePlaysSpec.post enc Try.prog Try.f6 false true false false) := by
  refine returnsInHanded_of_change (C := Try.checked) own started (by kernel_rfl) Try.func6
    (ChangeSpec.witness6 (enc := enc) (C := Try.checked) false ⟨#[], #[.agg #[.int .i64 0, .int .i64 0], .slice none 0 0], []⟩ 8 (by kernel_rfl) (by kernel_rfl) (by kernel_rfl) (by kernel_rfl)) ?_
  intro W base args ds gs before hval0 hW hcnd _
  have hval : ∀ (j : Nat) t v, Try.f6.params[j]? = some t → args[j]? = some v → Value.okWide Try.prog W .any base t v := hval0
  have hW' := hW
  obtain ⟨p, q, hA0, hV, rfl, hfz, hnd⟩ := hW
  have hA : DataW.TrodAll enc Try.prog W 0 (fun _ => true) true Try.f6.params.toList args.toList ds p := hA0
  obtain ⟨rfl, rfl⟩ := trodVars_none hV
  have hds : Rows.spacePlaysSpec.fn H (ds ++ []) = { results := [.lit (.bool true)], args := ds } := by
    have hA1 : DataW.TrodAll enc Try.prog W 0 (fun _ => true) true [55, 56] args.toList ds p := hA
    obtain ⟨v0, vs0, d0, ds0, p0, q0, _, rfl, _, t0, r0⟩ := trodAll_cons hA1
    obtain ⟨v1, vs1, d1, ds1, p1, q1, _, rfl, _, t1, r1⟩ := trodAll_cons r0
    obtain ⟨_, rfl, _⟩ := trodAll_nil r1
    rfl
  simp only [List.append_nil] at hW'
  refine (law_walk xok_l22_SpacePlays 8 Try.func6 fn_l22_SpacePlays.blocks [(.arr 2 (.int .i64)), (.sl (.pair .str (.int .i64)))] hands law hval hA).mono fun e W' ⟨he, hg⟩ => ?_
  subst he
  rw [List.append_nil] at hds
  exact ⟨_, rfl, Go.Den.post_grown (pa := p) (pv := []) hW' (fun _ _ _ => by rw [List.append_nil, hds]; exact (trodAll_cons_mk (shut_bool Try.underlying4 _) trodAll_mk0)) (fun sp hs => by rw [List.append_nil, hds]; exact stays_all hg laid reads hA sp hs) (fun _ _ => by rw [List.append_nil, hds]; rfl) (by rw [List.append_nil])
    (hg.frame _) hg.2.1 (ok_one (by kernel_rfl) rfl (okWide_bool_mk Try.underlying4 _))⟩

theorem over : Rows.spacePlaysRow.holds Try.pinned (OpenSpec.ofChange Rows.spacePlaysSpec) :=
  OpenClaim.holds_of_wide 6 Try.f6 rfl rfl rfl rfl rfl rfl rfl ⟨rfl, rfl, rfl, rfl, rfl⟩ rfl rfl rfl rfl rfl (by kernel_rfl) Try.func6 (by kernel_rfl)
    (of_decide_eq_true (by kernel_rfl)) (by unfold Func.isWrapper; first | (rw [if_pos (by decide +kernel)]; kernel_rfl) | (rw [if_neg (by decide +kernel)]; exact ⟨rfl, rfl⟩))
    (fun os started H enc _ => lifted os started H enc)

theorem proved : Rows.SpacePlaysSaid := over
end Go.Proofs.Ytejjdkhjdcjbbaa.spacePlays
