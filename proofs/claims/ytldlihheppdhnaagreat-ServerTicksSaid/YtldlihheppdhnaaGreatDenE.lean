/-
 The plain reading of code: loops in two shapes, results that are nil.
-/
import Derived.Test.YtldlihheppdhnaaGreatDenD
set_option linter.unusedVariables false
set_option linter.unusedSimpArgs false
namespace Go.Den
noncomputable def adQ(sh:Shape)(a b:Lp):Lp where
 run s K:=match sh.rd s with
  |some _=>a.run s K
  |none=>b.run s K
theorem aaZ {P:Program}{id:Nat}{body:Code}{sh:Shape}{a b:Lp}(ha:bY P id body a)(hb:bY P id body b):bY P id body (adQ sh a b):=by
 intro R s K x h;simp only[adQ]at h;split at h
 ·exact ha R s K x h
 ·exact hb R s K x h
end Go.Den
