/-
 The plain reading of code: code in a round of a range over a function.
-/
import Derived.Test.YtldlihheppdhnaaGreatDenF
import Derived.RangeFuncNested
import Derived.RangeFuncBound
import Derived.RangeFuncCalls
import Derived.RangeFuncLeaves
import Derived.OrdersIn
set_option linter.unusedVariables false
set_option linter.unusedSimpArgs false
namespace Go.Den
open Go.RowKit
variable {P:Program}
def CX(F:Fence):Prop:=F.fn=(λ_=>True)/\F.depth=none/\F.alive=false
theorem CX.wide:CX Fence.wide:=⟨rfl,rfl,rfl⟩
theorem CX.round(l:Nat):CX (Fence.wide.inRound l):=⟨rfl,rfl,rfl⟩
theorem CX.eq {F:Fence}(h:CX F):Machine.fenced P F=Machine.fenced P Fence.wide:=by obtain⟨h1,h2,h3⟩:=h;unfold Machine.fenced Fence.room;rw[h1,h2,h3];rfl
theorem CX.room {F:Fence}(h:CX F)(n:Nat):F.room n:=λ_ h'=>by rw[h.2.1]at h';cases h'
theorem CX.fn {F:Fence}(h:CX F)(f:FuncId):F.fn f:=by rw[h.1];trivial
theorem CX.rows {F:Fence}(h:CX F){n:Nat}{row:String}{args:Array Value}{w:World}{R:Value->World->Prop}(hc:Rows P row args w R):RowsIn F n P row args w R:=
 λc cs _=>by obtain⟨v,w',r,s⟩:=hc c cs;refine⟨v,w',r,?_⟩;rw[h.eq];exact stepsIn_wide.2 s
section
variable {F:Fence} (hF:CX F) {n:Nat} {ops:Array Oper} {Q Q':Exit->Act->World->Prop} (ds:List Deferred)
end
theorem ab0 {f:FuncId}(hent: ∀args w,(callFunc f args).run P w= .ok (.enter f args) w)(dom cod:List Ty)(impl:Dom dom->Option (Cod cod))(hst:cod.all Ty.flat=true)
  (H: ∀(w:World) (xs:Dom dom) (res:Cod cod) (vargs:List Value),VPs (Rho.of λ_=>False) w (jv dom xs) vargs->impl xs=some res->
   Calls P f vargs.toArray w λe w'=> ∃v,e= .returned v/\Below w.heap.size w w'/\VP (Rho.of λ_=>False) w' (Ot (BZ cod res)) v):aA P f (aQ true dom cod impl) where
 loc args h h' nx r hh hr:=⟨by rw[<-Mx hh];exact hr,rfl⟩
 upd args h nx r hr:=MB hr
 nat R args h nx K:=MC
 sound B ρ s a w nx args vargs r hr hnx hv h:=by
  simp only[aQ]at h;split at h
  ·rename_i args' u hfr;cases hfr;split at h
   ·rename_i xs hxs;split at h
    ·rename_i res hres;rw[vM]at h;cases h;have hargs:=tZ hr (λ_=>False) (λ_ h=>h.elim) (λ_ _ _ h=>h) hv hxs;refine .inr ⟨hent _ _,(H w xs res vargs hargs hres).mono ?_⟩;rintro e w' ⟨v,rfl,hb,hv'⟩;have hsame:=hr.same hb.size (λb h=>hb.block b h) hb.os hb.tape hb.output (λa ha=>hb.frozen ha);exact⟨v,rfl,ρ,hsame.1,hsame.2,OG hst hv',λid _=>rfl⟩
    ·cases h
   ·cases h
  ·cases h
end Go.Den
