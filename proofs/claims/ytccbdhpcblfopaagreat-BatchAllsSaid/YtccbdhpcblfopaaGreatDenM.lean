/-
 The plain reading of code: a slice that stands still ahead of a loop.
-/
import Derived.Test.YtccbdhpcblfopaaGreatDenL
import Derived.Test.YtccbdhpcblfopaaGreatDenH
set_option linter.unusedVariables false
set_option linter.unusedSimpArgs false
namespace Go.Den
end Go.Den

namespace Go.Den
theorem con_none {P : Program} {f : FuncId} {c : Con} (h : ∀ (R : Type) (args : List PV) (hp : Heap) (nx : Nat) (K : K3 R), c.run args hp nx K = none) : ConOk P f c where
 loc args h0 h' nx r hh hr := by rw [h] at hr; cases hr
 upd args h0 nx r hr := by rw [h] at hr; cases hr
 nat R args h0 nx K := by rw [h, h]; rfl
 sound B ρ s a w nx args vargs r hr hnx hv hc := by rw [h] at hc; cases hc
theorem conS_none {P : Program} {f : FuncId} {ish : Shape} {outs : List Shape} {g : ish.X → Option (YsS outs)} (hg : ∀ x, g x = none) : ConOk P f (conS ish outs g) :=
 con_none fun R args hp nx K => by
  simp only [conS]
  split
  ·rename_i p _
   cases p.l.all fun x => Nat.blt x nx
   ·rfl
   ·simp only [cond_true]
    split
    ·rw [hg]
    ·rfl
  ·rfl
theorem conO_none {P : Program} {f : FuncId} {dom : List Ty} {outs : List Shape} {g : Dom dom → Option (YsS outs)} (hg : ∀ x, g x = none) : ConOk P f (conO dom outs g) :=
 con_none fun R args hp nx K => by
  simp only [conO]
  split
  ·rw [hg]
  ·rfl
end Go.Den
