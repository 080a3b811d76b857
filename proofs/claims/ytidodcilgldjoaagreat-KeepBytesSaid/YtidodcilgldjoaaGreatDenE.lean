/-
 The plain reading of code: loops in two shapes, results that are nil.
-/
import Derived.Test.YtidodcilgldjoaaGreatDenD
set_option linter.unusedVariables false
set_option linter.unusedSimpArgs false
namespace Go.Den
noncomputable def acU(sh:Shape)(a b:Lp):Lp where
 run s K:=match sh.rd s with
  |some _=>a.run s K
  |none=>b.run s K
theorem aa5 {P:Program} {id:Nat} {body:Code} {sh:Shape} {a b:Lp}(ha:bF P id body a)(hb:bF P id body b):bF P id body (acU sh a b):=by
 intro R s K x h
 simp only[acU]at h
 split at h
 ·exact ha R s K x h
 ·exact hb R s K x h
end Go.Den
