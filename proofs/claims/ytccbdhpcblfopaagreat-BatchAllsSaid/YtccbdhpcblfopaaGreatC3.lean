/-
  Whether any claims hold together, and which are found wrong, is the document's: for every input.
-/
import Derived.Test.YtccbdhpcblfopaaGreatRows
import Derived.WalkKit
import Derived.ProofKit
import Derived.OpenShut
import Derived.Test.YtccbdhpcblfopaaGreatL36BatchAlls
namespace Go.Pl
end Go.Pl
namespace Go.Proofs.YtccbdhpcblfopaaGreat.batchAlls
open Go.ChangeShapes Go.WideShapes Go.ChangeAt Go.RowKit Go.Den Go.Pl
set_option linter.unusedVariables false
set_option maxRecDepth 100000

theorem own : ownKnob Tryz.prog.godebug = none := by kernel_rfl
theorem laid : laidOutB Tryz.prog = true := by kernel_rfl
theorem hands : handed x_l36_BatchAlls.ti Tryz.f3.params.toList [(.int .i64), (.sl (.pair (.sl (.arr 4 (.int .u64))) (.pair (.int .i64) (.arr 4 (.int .u64))))), (.sl (.arr 4 (.int .u64)))] = true := by kernel_rfl
theorem reads : (Tryz.f3.params.toList.all fun t => Tryz.prog.readableRec t && decide (t < Tryz.prog.types.size)) = true := by kernel_rfl
/-- the law is true of what is handed in -/
theorem law : ∀ xs, GoodD [(.int .i64), (.sl (.pair (.sl (.arr 4 (.int .u64))) (.pair (.int .i64) (.arr 4 (.int .u64))))), (.sl (.arr 4 (.int .u64)))] xs → bodyK x_l36_BatchAlls [] (denF x_l36_BatchAlls 8) Tryz.f3 (domV [(.int .i64), (.sl (.pair (.sl (.arr 4 (.int .u64))) (.pair (.int .i64) (.arr 4 (.int .u64))))), (.sl (.arr 4 (.int .u64)))] xs) [] 0 kTrue = some () := fun xs hg =>
  match xs, hg with
  | (x0, x1, x2, ()), ⟨h0, h1, h2, _⟩ => (e_l36_BatchAlls x0 x1.1 x1.2 x2.1 x2.2).trans (l36_BatchAlls_true h0.1 h1.1 h2.1)

theorem lifted (os : Os) (started : os.Started) (H : Type) (enc : TypeId × Value → H) :
    ReturnsInHanded {} Tryz.checked os 3 .any (Rows.batchAllsSpec.pre6 enc Tryz.prog Tryz.f3 Rows.batchAllsRow.domain false) (Rows.batchAllsSpec.post enc Tryz.prog Tryz.f3 false true false false) := by
  refine returnsInHanded_of_change (C := Tryz.checked) own started (by kernel_rfl) Tryz.func3
    (ChangeSpec.witness6 (enc := enc) (C := Tryz.checked) false ⟨#[], #[.int .i64 0, .slice none 0 0, .slice none 0 0], []⟩ 8 (by kernel_rfl) (by kernel_rfl) (by kernel_rfl) (by kernel_rfl)) ?_
  intro W base args ds gs before hval0 hW hcnd _
  have hval : ∀ (j : Nat) t v, Tryz.f3.params[j]? = some t → args[j]? = some v → Value.okWide Tryz.prog W .any base t v := hval0
  have hW' := hW
  obtain ⟨p, q, hA0, hV, rfl, hfz, hnd⟩ := hW
  have hA : DataW.TrodAll enc Tryz.prog W 0 (fun _ => true) true Tryz.f3.params.toList args.toList ds p := hA0
  obtain ⟨rfl, rfl⟩ := trodVars_none hV
  have hds : Rows.batchAllsSpec.fn H (ds ++ []) = { results := [.lit (.bool true)], args := ds } := by
    have hA1 : DataW.TrodAll enc Tryz.prog W 0 (fun _ => true) true [3, 22, 23] args.toList ds p := hA
    obtain ⟨v0, vs0, d0, ds0, p0, q0, _, rfl, _, t0, r0⟩ := trodAll_cons hA1
    obtain ⟨v1, vs1, d1, ds1, p1, q1, _, rfl, _, t1, r1⟩ := trodAll_cons r0
    obtain ⟨v2, vs2, d2, ds2, p2, q2, _, rfl, _, t2, r2⟩ := trodAll_cons r1
    obtain ⟨_, rfl, _⟩ := trodAll_nil r2
    rfl
  simp only [List.append_nil] at hW'
  refine (law_walk xok_l36_BatchAlls 8 Tryz.func3 fn_l36_BatchAlls.blocks [(.int .i64), (.sl (.pair (.sl (.arr 4 (.int .u64))) (.pair (.int .i64) (.arr 4 (.int .u64))))), (.sl (.arr 4 (.int .u64)))] hands law hval hA).mono fun e W' ⟨he, hg⟩ => ?_
  subst he
  rw [List.append_nil] at hds
  exact ⟨_, rfl, Go.Den.post_grown (pa := p) (pv := []) hW' (fun _ _ _ => by rw [List.append_nil, hds]; exact (trodAll_cons_mk (shut_bool Tryz.underlying4 _) trodAll_mk0)) (fun sp hs => by rw [List.append_nil, hds]; exact stays_all hg laid reads hA sp hs) (fun _ _ => by rw [List.append_nil, hds]; rfl) (by rw [List.append_nil])
    (hg.frame _) hg.2.1 (ok_one (by kernel_rfl) rfl (okWide_bool_mk Tryz.underlying4 _))⟩

theorem over : Rows.batchAllsRow.holds Tryz.pinned (OpenSpec.ofChange Rows.batchAllsSpec) :=
  OpenClaim.holds_of_wide 3 Tryz.f3 rfl rfl rfl rfl rfl rfl rfl ⟨rfl, rfl, rfl, rfl, rfl⟩ rfl rfl rfl rfl rfl (by kernel_rfl) Tryz.func3 (by kernel_rfl)
    (of_decide_eq_true (by kernel_rfl)) (by unfold Func.isWrapper; first | (rw [if_pos (by decide +kernel)]; kernel_rfl) | (rw [if_neg (by decide +kernel)]; exact ⟨rfl, rfl⟩))
    (fun os started H enc _ => lifted os started H enc)

theorem proved : Rows.BatchAllsSaid := over
end Go.Proofs.YtccbdhpcblfopaaGreat.batchAlls
