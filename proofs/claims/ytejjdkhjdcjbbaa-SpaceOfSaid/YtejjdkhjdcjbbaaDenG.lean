/-
 The plain reading of code: code in a round of a range over a function.
-/
import Derived.Test.YtejjdkhjdcjbbaaDenF
import Derived.RangeFuncNested
import Derived.RangeFuncBound
import Derived.RangeFuncCalls
import Derived.RangeFuncLeaves
import Derived.OrdersIn
set_option linter.unusedVariables false
set_option linter.unusedSimpArgs false
namespace Go.Den
open Go.RowKit
variable {P : Program}
def OpenF (F : Fence) : Prop := F.fn = (fun _ => True) ∧ F.depth = none ∧ F.alive = false
theorem OpenF.wide : OpenF Fence.wide := ⟨rfl, rfl, rfl⟩
theorem OpenF.round (l : Nat) : OpenF (Fence.wide.inRound l) := ⟨rfl, rfl, rfl⟩
theorem OpenF.eq {F : Fence} (h : OpenF F) : Machine.fenced P F = Machine.fenced P Fence.wide := by
 obtain ⟨h1, h2, h3⟩ := h
 unfold Machine.fenced Fence.room
 rw [h1, h2, h3]; rfl
theorem OpenF.room {F : Fence} (h : OpenF F) (n : Nat) : F.room n := fun _ h' => by rw [h.2.1] at h'; cases h'
theorem OpenF.fn {F : Fence} (h : OpenF F) (f : FuncId) : F.fn f := by rw [h.1]; trivial
theorem OpenF.rows {F : Fence} (h : OpenF F) {n : Nat} {row : String} {args : Array Value} {w : World} {R : Value → World → Prop} (hc : Rows P row args w R) : RowsIn F n P row args w R :=
 fun c cs _ => by
  obtain ⟨v, w', r, s⟩ := hc c cs
  refine ⟨v, w', r, ?_⟩
  rw [h.eq]; exact stepsIn_wide.2 s
section
variable {F : Fence} (hF : OpenF F) {n : Nat} {ops : Array Oper} {Q Q' : Exit → Act → World → Prop} (ds : List Deferred)
end
theorem conV_of {f : FuncId} (hent : ∀ args w, (callFunc f args).run P w = .ok (.enter f args) w) (dom cod : List Ty) (impl : Dom dom → Option (Cod cod)) (hst : cod.all Ty.flat = true)
  (H : ∀ (w : World) (xs : Dom dom) (res : Cod cod) (vargs : List Value), VPs (Rho.of fun _ => False) w (domV dom xs) vargs → impl xs = some res →
   Calls P f vargs.toArray w fun e w' => ∃ v, e = .returned v ∧ Below w.heap.size w w' ∧ VP (Rho.of fun _ => False) w' (pvOf (codV cod res)) v) : ConOk P f (conV true dom cod impl) where
 loc args h h' nx r hh hr := ⟨by rw [← conV_loc hh]; exact hr, rfl⟩
 upd args h nx r hr := conV_upd hr
 nat R args h nx K := conV_nat
 sound B ρ s a w nx args vargs r hr hnx hv h := by
  simp only [conV] at h
  split at h
  ·rename_i args' u hfr
   cases hfr
   split at h
   ·rename_i xs hxs
    split at h
    ·rename_i res hres
     rw [spread_eq] at h
     cases h
     have hargs := takeArgs_sound hr (fun _ => False) (fun _ h => h.elim) (fun _ _ _ h => h) hv hxs
     refine .inr ⟨hent _ _, (H w xs res vargs hargs hres).mono ?_⟩
     rintro e w' ⟨v, rfl, hb, hv'⟩
     have hsame := hr.same hb.size (fun b h => hb.block b h) hb.os hb.tape hb.output (fun a ha => hb.frozen ha)
     exact ⟨v, rfl, ρ, hsame.1, hsame.2, pvOf_flat hst hv', fun id _ => rfl⟩
    ·cases h
   ·cases h
  ·cases h
end Go.Den
