/-
  The space that knows any keys is the document's, or there is none such; it goes on alike: for every input.
-/
import Derived.Test.YtejjdkhjdcjbbaaRows
import Derived.WalkKit
import Derived.ProofKit
import Derived.OpenShut
import Derived.Test.YtejjdkhjdcjbbaaL22SpaceOf
namespace Go.Pl
end Go.Pl
namespace Go.Proofs.Ytejjdkhjdcjbbaa.spaceOf
open Go.ChangeShapes Go.WideShapes Go.ChangeAt Go.RowKit Go.Den Go.Pl
set_option linter.unusedVariables false
set_option maxRecDepth 100000

theorem own : ownKnob Try.prog.godebug = none := by kernel_rfl
theorem laid : laidOutB Try.prog = true := by kernel_rfl
theorem hands : handed x_l22_SpaceOf.ti Try.f9.params.toList [(.arr 2 (.int .i64)), (.sl .str), (.sl (.int .i64))] = true := by kernel_rfl
theorem reads : (Try.f9.params.toList.all fun t => Try.prog.readableRec t && decide (t < Try.prog.types.size)) = true := by kernel_rfl
/-- the law is true of what is handed in -/
theorem law : ∀ xs, GoodD [(.arr 2 (.int .i64)), (.sl .str), (.sl (.int .i64))] xs → bodyK x_l22_SpaceOf [(0, P_l22_SpaceOf_0), (4, (lpOr S_l22_SpaceOf_4 P_l22_SpaceOf_4 P_l22_SpaceOf_4_v1)), (2, (lpOr S_l22_SpaceOf_2 P_l22_SpaceOf_2 P_l22_SpaceOf_2_v1)), (6, (lpOr S_l22_SpaceOf_6 P_l22_SpaceOf_6 P_l22_SpaceOf_6_v1)), (8, (lpFz 16 [.R, .R, .R] P_l22_SpaceOf_8))] (denF x_l22_SpaceOf 8) Try.f9 (domV [(.arr 2 (.int .i64)), (.sl .str), (.sl (.int .i64))] xs) [] 0 kTrue = some () := fun xs hg =>
  match xs, hg with
  | (x0, x1, x2, ()), ⟨h0, h1, h2, _⟩ => (e_l22_SpaceOf x0 x1.1 x1.2 x2.1 x2.2).trans (l22_SpaceOf_true h0.1 h1.1 h2.1)

theorem lifted (os : Os) (started : os.Started) (H : Type) (enc : TypeId × Value → H) :
    ReturnsInHanded {} Try.checked os 9 .any (Rows.spaceOfSpec.pre6 enc Try.prog Try.f9 Rows.spaceOfRow.domain false) (Rows.spaceOfSpec.post enc Try.prog Try.f9 false true false false) := by
  refine returnsInHanded_of_change (C := Try.checked) own started (by kernel_rfl) Try.func9
    (ChangeSpec.witness6 (enc := enc) (C := Try.checked) false ⟨#[], #[.agg #[.int .i64 0, .int .i64 0], .slice none 0 0, .slice none 0 0], []⟩ 8 (by kernel_rfl) (by kernel_rfl) (by kernel_rfl) (by kernel_rfl)) ?_
  intro W base args ds gs before hval0 hW hcnd _
  have hval : ∀ (j : Nat) t v, Try.f9.params[j]? = some t → args[j]? = some v → Value.okWide Try.prog W .any base t v := hval0
  have hW' := hW
  obtain ⟨p, q, hA0, hV, rfl, hfz, hnd⟩ := hW
  have hA : DataW.TrodAll enc Try.prog W 0 (fun _ => true) true Try.f9.params.toList args.toList ds p := hA0
  obtain ⟨rfl, rfl⟩ := trodVars_none hV
  have hds : Rows.spaceOfSpec.fn H (ds ++ []) = { results := [.lit (.bool true)], args := ds } := by
    have hA1 : DataW.TrodAll enc Try.prog W 0 (fun _ => true) true [55, 61, 62] args.toList ds p := hA
    obtain ⟨v0, vs0, d0, ds0, p0, q0, _, rfl, _, t0, r0⟩ := trodAll_cons hA1
    obtain ⟨v1, vs1, d1, ds1, p1, q1, _, rfl, _, t1, r1⟩ := trodAll_cons r0
    obtain ⟨v2, vs2, d2, ds2, p2, q2, _, rfl, _, t2, r2⟩ := trodAll_cons r1
    obtain ⟨_, rfl, _⟩ := trodAll_nil r2
    rfl
  simp only [List.append_nil] at hW'
  refine (law_walk xok_l22_SpaceOf 8 Try.func9 fn_l22_SpaceOf.blocks [(.arr 2 (.int .i64)), (.sl .str), (.sl (.int .i64))] hands law hval hA).mono fun e W' ⟨he, hg⟩ => ?_
  subst he
  rw [List.append_nil] at hds
  exact ⟨_, rfl, Go.Den.post_grown (pa := p) (pv := []) hW' (fun _ _ _ => by rw [List.append_nil, hds]; exact (trodAll_cons_mk (shut_bool Try.underlying4 _) trodAll_mk0)) (fun sp hs => by rw [List.append_nil, hds]; exact stays_all hg laid reads hA sp hs) (fun _ _ => by rw [List.append_nil, hds]; rfl) (by rw [List.append_nil])
    (hg.frame _) hg.2.1 (ok_one (by kernel_rfl) rfl (okWide_bool_mk Try.underlying4 _))⟩

theorem over : Rows.spaceOfRow.holds Try.pinned (OpenSpec.ofChange Rows.spaceOfSpec) :=
  OpenClaim.holds_of_wide 9 Try.f9 rfl rfl rfl rfl rfl rfl rfl ⟨rfl, rfl, rfl, rfl, rfl⟩ rfl rfl rfl rfl rfl (by kernel_rfl) Try.func9 (by kernel_rfl)
    (of_decide_eq_true (by kernel_rfl)) (by unfold Func.isWrapper; first | (rw [if_pos (by decide +kernel)]; kernel_rfl) | (rw [if_neg (by decide +kernel)]; exact ⟨rfl, rfl⟩))
    (fun os started H enc _ => lifted os started H enc)

theorem proved : Rows.SpaceOfSaid := over
end Go.Proofs.Ytejjdkhjdcjbbaa.spaceOf
