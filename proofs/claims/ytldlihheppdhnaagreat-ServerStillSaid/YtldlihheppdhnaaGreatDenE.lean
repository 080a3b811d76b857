/-
 The plain reading of code: loops in two shapes, results that are nil.
-/
import Derived.Test.YtldlihheppdhnaaGreatDenD
set_option linter.unusedVariables false
set_option linter.unusedSimpArgs false
namespace Go.Den
noncomputable def adn(sh:Shape)(a b:Lp):Lp where
 run s K:=match sh.rd s with
  |some _=>a.run s K
  |none=>b.run s K
theorem aay {P:Program} {id:Nat} {body:Code} {sh:Shape} {a b:Lp}(ha:bU P id body a)(hb:bU P id body b):bU P id body (adn sh a b):=by
 intro R s K x h
 simp only[adn]at h
 split at h
 ·exact ha R s K x h
 ·exact hb R s K x h
end Go.Den
