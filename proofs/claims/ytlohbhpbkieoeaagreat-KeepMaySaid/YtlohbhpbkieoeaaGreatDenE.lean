/-
 The plain reading of code: loops in two shapes, results that are nil.
-/
import Derived.Test.YtlohbhpbkieoeaaGreatDenD
set_option linter.unusedVariables false
set_option linter.unusedSimpArgs false
namespace Go.Den
noncomputable def a5j(sh:Shape)(a b:Lp):Lp where
 run s K:=match sh.rd s with
  |some _=>a.run s K
  |none=>b.run s K
theorem RQ {P:Program}{id:Nat}{body:Code}{sh:Shape}{a b:Lp}(ha:aX P id body a)(hb:aX P id body b):aX P id body (a5j sh a b):=by
 intro R s K x h;simp only[a5j]at h;split at h
 ·exact ha R s K x h
 ·exact hb R s K x h
end Go.Den
