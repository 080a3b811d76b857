/-
  An end that names no more keys than its quota is never refused: for every input.
-/
import Derived.Test.YtejjdkhjdcjbbaaRows
import Derived.WalkKit
import Derived.ProofKit
import Derived.OpenShut
import Derived.Test.YtejjdkhjdcjbbaaL22SpaceFair
namespace Go.Pl
end Go.Pl
namespace Go.Proofs.Ytejjdkhjdcjbbaa.spaceFair
open Go.ChangeShapes Go.WideShapes Go.ChangeAt Go.RowKit Go.Den Go.Pl
set_option linter.unusedVariables false
set_option maxRecDepth 100000

theorem own : ownKnob Try.prog.godebug = none := by kernel_rfl
theorem laid : laidOutB Try.prog = true := by kernel_rfl
theorem hands : handed x_l22_SpaceFair.ti Try.f7.params.toList [(.sl (.pair .str (.int .i64))), (.arr 4 .str), (.arr 4 (.int .i64))] = true := by kernel_rfl
theorem reads : (Try.f7.params.toList.all fun t => Try.prog.readableRec t && decide (t < Try.prog.types.size)) = true := by kernel_rfl
/-- the law is true of what is handed in -/
theorem law : ∀ xs, GoodD [(.sl (.pair .str (.int .i64))), (.arr 4 .str), (.arr 4 (.int .i64))] xs → bodyK x_l22_SpaceFair [(2, P_l22_SpaceFair_2), (0, P_l22_SpaceFair_0), (4, P_l22_SpaceFair_4)] (denF x_l22_SpaceFair 8) Try.f7 (domV [(.sl (.pair .str (.int .i64))), (.arr 4 .str), (.arr 4 (.int .i64))] xs) [] 0 kTrue = some () := fun xs hg =>
  match xs, hg with
  | (x0, x1, x2, ()), ⟨h0, h1, h2, _⟩ => (e_l22_SpaceFair x0.1 x0.2 x1 x2).trans (l22_SpaceFair_true h0.1 h1.1 h2.1)

theorem lifted (os : Os) (started : os.Started) (H : Type) (enc : TypeId × Value → H) :
    ReturnsInHanded {} Try.checked os 7 .any (Rows.spaceFairSpec.pre6 enc Try.prog Try.f7 Rows.spaceFairRow.domain false) (Rows.spaceFairSpec.post enc Try.prog Try.f7 false true false false) := by
  refine returnsInHanded_of_change (C := Try.checked) own started (by kernel_rfl) Try.func7
    (ChangeSpec.witness6 (enc := enc) (C := Try.checked) false ⟨#[], #[.slice none 0 0, .agg #[.string ByteArray.empty, .string ByteArray.empty, .string ByteArray.empty, .string ByteArray.empty], .agg #[.int .i64 0, .int .i64 0, .int .i64 0, .int .i64 0]], []⟩ 8 (by kernel_rfl) (by kernel_rfl) (by kernel_rfl) (by kernel_rfl)) ?_
  intro W base args ds gs before hval0 hW hcnd _
  have hval : ∀ (j : Nat) t v, Try.f7.params[j]? = some t → args[j]? = some v → Value.okWide Try.prog W .any base t v := hval0
  have hW' := hW
  obtain ⟨p, q, hA0, hV, rfl, hfz, hnd⟩ := hW
  have hA : DataW.TrodAll enc Try.prog W 0 (fun _ => true) true Try.f7.params.toList args.toList ds p := hA0
  obtain ⟨rfl, rfl⟩ := trodVars_none hV
  have hds : Rows.spaceFairSpec.fn H (ds ++ []) = { results := [.lit (.bool true)], args := ds } := by
    have hA1 : DataW.TrodAll enc Try.prog W 0 (fun _ => true) true [56, 80, 81] args.toList ds p := hA
    obtain ⟨v0, vs0, d0, ds0, p0, q0, _, rfl, _, t0, r0⟩ := trodAll_cons hA1
    obtain ⟨v1, vs1, d1, ds1, p1, q1, _, rfl, _, t1, r1⟩ := trodAll_cons r0
    obtain ⟨v2, vs2, d2, ds2, p2, q2, _, rfl, _, t2, r2⟩ := trodAll_cons r1
    obtain ⟨_, rfl, _⟩ := trodAll_nil r2
    rfl
  simp only [List.append_nil] at hW'
  refine (law_walk xok_l22_SpaceFair 8 Try.func7 fn_l22_SpaceFair.blocks [(.sl (.pair .str (.int .i64))), (.arr 4 .str), (.arr 4 (.int .i64))] hands law hval hA).mono fun e W' ⟨he, hg⟩ => ?_
  subst he
  rw [List.append_nil] at hds
  exact ⟨_, rfl, Go.Den.post_grown (pa := p) (pv := []) hW' (fun _ _ _ => by rw [List.append_nil, hds]; exact (trodAll_cons_mk (shut_bool Try.underlying4 _) trodAll_mk0)) (fun sp hs => by rw [List.append_nil, hds]; exact stays_all hg laid reads hA sp hs) (fun _ _ => by rw [List.append_nil, hds]; rfl) (by rw [List.append_nil])
    (hg.frame _) hg.2.1 (ok_one (by kernel_rfl) rfl (okWide_bool_mk Try.underlying4 _))⟩

theorem over : Rows.spaceFairRow.holds Try.pinned (OpenSpec.ofChange Rows.spaceFairSpec) :=
  OpenClaim.holds_of_wide 7 Try.f7 rfl rfl rfl rfl rfl rfl rfl ⟨rfl, rfl, rfl, rfl, rfl⟩ rfl rfl rfl rfl rfl (by kernel_rfl) Try.func7 (by kernel_rfl)
    (of_decide_eq_true (by kernel_rfl)) (by unfold Func.isWrapper; first | (rw [if_pos (by decide +kernel)]; kernel_rfl) | (rw [if_neg (by decide +kernel)]; exact ⟨rfl, rfl⟩))
    (fun os started H enc _ => lifted os started H enc)

theorem proved : Rows.SpaceFairSaid := over
end Go.Proofs.Ytejjdkhjdcjbbaa.spaceFair
