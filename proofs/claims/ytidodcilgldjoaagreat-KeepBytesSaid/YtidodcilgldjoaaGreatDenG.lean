/-
 The plain reading of code: code in a round of a range over a function.
-/
import Derived.Test.YtidodcilgldjoaaGreatDenF
import Derived.RangeFuncNested
import Derived.RangeFuncBound
import Derived.RangeFuncCalls
import Derived.RangeFuncLeaves
import Derived.OrdersIn
set_option linter.unusedVariables false
set_option linter.unusedSimpArgs false
namespace Go.Den
open Go.RowKit
variable {P:Program}
def Ci(F:Fence):Prop:=F.fn=(fun _=>True)∧F.depth=none∧F.alive=false
theorem Ci.wide:Ci Fence.wide:=⟨rfl,rfl,rfl⟩
theorem Ci.round(l:Nat):Ci (Fence.wide.inRound l):=⟨rfl,rfl,rfl⟩
theorem Ci.eq {F:Fence}(h:Ci F):Machine.fenced P F=Machine.fenced P Fence.wide:=by
 obtain⟨h1,h2,h3⟩:=h
 unfold Machine.fenced Fence.room
 rw[h1,h2,h3]; rfl
theorem Ci.room {F:Fence}(h:Ci F)(n:Nat):F.room n:=fun _ h'=>by rw[h.2.1]at h'; cases h'
theorem Ci.fn {F:Fence}(h:Ci F)(f:FuncId):F.fn f:=by rw[h.1]; trivial
theorem Ci.rows {F:Fence}(h:Ci F) {n:Nat} {row:String} {args:Array Value} {w:World} {R:Value→World→Prop}(hc:Rows P row args w R):RowsIn F n P row args w R:=
 fun c cs _=>by
  obtain⟨v,w',r,s⟩:=hc c cs
  refine⟨v,w',r,?_⟩
  rw[h.eq]; exact stepsIn_wide.2 s
section
variable {F:Fence} (hF:Ci F) {n:Nat} {ops:Array Oper} {Q Q':Exit→Act→World→Prop} (ds:List Deferred)
end
end Go.Den
