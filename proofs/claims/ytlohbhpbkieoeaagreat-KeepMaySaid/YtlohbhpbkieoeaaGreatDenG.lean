/-
 The plain reading of code: code in a round of a range over a function.
-/
import Derived.Test.YtlohbhpbkieoeaaGreatDenF
import Derived.RangeFuncNested
import Derived.RangeFuncBound
import Derived.RangeFuncCalls
import Derived.RangeFuncLeaves
import Derived.OrdersIn
set_option linter.unusedVariables false
set_option linter.unusedSimpArgs false
namespace Go.Den
open Go.RowKit
variable {P:Program}
def Cz(F:Fence):Prop:=F.fn=(λ_=>True)/\F.depth=none/\F.alive=false
theorem Cz.wide:Cz Fence.wide:=⟨rfl,rfl,rfl⟩
theorem Cz.round(l:Nat):Cz (Fence.wide.inRound l):=⟨rfl,rfl,rfl⟩
theorem Cz.eq {F:Fence}(h:Cz F):Machine.fenced P F=Machine.fenced P Fence.wide:=by obtain⟨h1,h2,h3⟩:=h;unfold Machine.fenced Fence.room;rw[h1,h2,h3];rfl
theorem Cz.room {F:Fence}(h:Cz F)(n:Nat):F.room n:=λ_ h'=>by rw[h.2.1]at h';cases h'
theorem Cz.fn {F:Fence}(h:Cz F)(f:FuncId):F.fn f:=by rw[h.1];trivial
theorem Cz.rows {F:Fence}(h:Cz F){n:Nat}{row:String}{args:Array Value}{w:World}{R:Value->World->Prop}(hc:Rows P row args w R):RowsIn F n P row args w R:=
 λc cs _=>by obtain⟨v,w',r,s⟩:=hc c cs;refine⟨v,w',r,?_⟩;rw[h.eq];exact stepsIn_wide.2 s
section
variable {F:Fence} (hF:Cz F) {n:Nat} {ops:Array Oper} {Q Q':Exit->Act->World->Prop} (ds:List Deferred)
end
end Go.Den
