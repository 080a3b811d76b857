/-
  Nobody's polynomials are nothing, and too many places are refused: for every input.
-/
import Derived.Test.YtennopklknlecaaRows
import Derived.WalkKit
import Derived.ProofKit
import Derived.OpenShut
import Derived.Test.YtennopklknlecaaL12PolyNobody
namespace Go.Pl
end Go.Pl
namespace Go.Proofs.Ytennopklknlecaa.polyNobody
open Go.ChangeShapes Go.WideShapes Go.ChangeAt Go.RowKit Go.Den Go.Pl
set_option linter.unusedVariables false
set_option maxRecDepth 100000

theorem own : ownKnob Try.prog.godebug = none := by kernel_rfl
theorem laid : laidOutB Try.prog = true := by kernel_rfl
theorem hands : handed x_l12_PolyNobody.ti Try.f14.params.toList [(.sl (.arr 4 (.int .u64))), (.arr 4 (.int .u64))] = true := by kernel_rfl
theorem reads : (Try.f14.params.toList.all fun t => Try.prog.readableRec t && decide (t < Try.prog.types.size)) = true := by kernel_rfl
/-- the law is true of what is handed in -/
theorem law : ∀ xs, GoodD [(.sl (.arr 4 (.int .u64))), (.arr 4 (.int .u64))] xs → bodyK x_l12_PolyNobody [(2, P_l12_PolyNobody_2)] (denF x_l12_PolyNobody 8) Try.f14 (domV [(.sl (.arr 4 (.int .u64))), (.arr 4 (.int .u64))] xs) [] 0 kTrue = some () := fun xs hg =>
  match xs, hg with
  | (x0, x1, ()), ⟨h0, h1, _⟩ => (e_l12_PolyNobody x0.1 x0.2 x1).trans (l12_PolyNobody_true h0.1 h1.1)

theorem lifted (os : Os) (started : os.Started) (H : Type) (enc : TypeId × Value → H) :
    ReturnsInHanded {} Try.checked os 14 .any (Rows.polyNobodySpec.pre6 enc Try.prog Try.f14 Rows.polyNobodyRow.domain false) (Rows.polyNobodySpec.post enc Try.prog Try.f14 false true false false) := by
  refine returnsInHanded_of_change (C := Try.checked) own started (by kernel_rfl) Try.func14
    (ChangeSpec.witness6 (enc := enc) (C := Try.checked) false ⟨#[], #[.slice none 0 0, .agg #[.int .u64 0, .int .u64 0, .int .u64 0, .int .u64 0]], []⟩ 8 (by kernel_rfl) (by kernel_rfl) (by kernel_rfl) (by kernel_rfl)) ?_
  intro W base args ds gs before hval0 hW hcnd _
  have hval : ∀ (j : Nat) t v, Try.f14.params[j]? = some t → args[j]? = some v → Value.okWide Try.prog W .any base t v := hval0
  have hW' := hW
  obtain ⟨p, q, hA0, hV, rfl, hfz, hnd⟩ := hW
  have hA : DataW.TrodAll enc Try.prog W 0 (fun _ => true) true Try.f14.params.toList args.toList ds p := hA0
  obtain ⟨rfl, rfl⟩ := trodVars_none hV
  have hds : Rows.polyNobodySpec.fn H (ds ++ []) = { results := [.lit (.bool true)], args := ds } := by
    have hA1 : DataW.TrodAll enc Try.prog W 0 (fun _ => true) true [43, 35] args.toList ds p := hA
    obtain ⟨v0, vs0, d0, ds0, p0, q0, _, rfl, _, t0, r0⟩ := trodAll_cons hA1
    obtain ⟨v1, vs1, d1, ds1, p1, q1, _, rfl, _, t1, r1⟩ := trodAll_cons r0
    obtain ⟨_, rfl, _⟩ := trodAll_nil r1
    rfl
  simp only [List.append_nil] at hW'
  refine (law_walk xok_l12_PolyNobody 8 Try.func14 fn_l12_PolyNobody.blocks [(.sl (.arr 4 (.int .u64))), (.arr 4 (.int .u64))] hands law hval hA).mono fun e W' ⟨he, hg⟩ => ?_
  subst he
  rw [List.append_nil] at hds
  exact ⟨_, rfl, Go.Den.post_grown (pa := p) (pv := []) hW' (fun _ _ _ => by rw [List.append_nil, hds]; exact (trodAll_cons_mk (shut_bool Try.underlying4 _) trodAll_mk0)) (fun sp hs => by rw [List.append_nil, hds]; exact stays_all hg laid reads hA sp hs) (fun _ _ => by rw [List.append_nil, hds]; rfl) (by rw [List.append_nil])
    (hg.frame _) hg.2.1 (ok_one (by kernel_rfl) rfl (okWide_bool_mk Try.underlying4 _))⟩

theorem over : Rows.polyNobodyRow.holds Try.pinned (OpenSpec.ofChange Rows.polyNobodySpec) :=
  OpenClaim.holds_of_wide 14 Try.f14 rfl rfl rfl rfl rfl rfl rfl ⟨rfl, rfl, rfl, rfl, rfl⟩ rfl rfl rfl rfl rfl (by kernel_rfl) Try.func14 (by kernel_rfl)
    (of_decide_eq_true (by kernel_rfl)) (by unfold Func.isWrapper; first | (rw [if_pos (by decide +kernel)]; kernel_rfl) | (rw [if_neg (by decide +kernel)]; exact ⟨rfl, rfl⟩))
    (fun os started H enc _ => lifted os started H enc)

theorem proved : Rows.PolyNobodySaid := over
end Go.Proofs.Ytennopklknlecaa.polyNobody
