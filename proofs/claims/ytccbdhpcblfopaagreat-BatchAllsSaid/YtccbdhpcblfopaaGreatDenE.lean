/-
 The plain reading of code: loops in two shapes, results that are nil.
-/
import Derived.Test.YtccbdhpcblfopaaGreatDenD
set_option linter.unusedVariables false
set_option linter.unusedSimpArgs false
namespace Go.Den
noncomputable def lpOr (sh : Shape) (a b : Lp) : Lp where
 run s K := match sh.rd s with
  | some _ => a.run s K
  | none => b.run s K
theorem lpOr_ok {P : Program} {id : Nat} {body : Code} {sh : Shape} {a b : Lp} (ha : LpOk P id body a) (hb : LpOk P id body b) : LpOk P id body (lpOr sh a b) := by
 intro R s K x h
 simp only [lpOr] at h
 split at h
 ·exact ha R s K x h
 ·exact hb R s K x h
end Go.Den
