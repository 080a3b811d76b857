/-
 The plain reading of code: code in a round of a range over a function.
-/
import Derived.Test.YtldlihheppdhnaaGreatDenF
import Derived.RangeFuncNested
import Derived.RangeFuncBound
import Derived.RangeFuncCalls
import Derived.RangeFuncLeaves
import Derived.OrdersIn
set_option linter.unusedVariables false
set_option linter.unusedSimpArgs false
namespace Go.Den
open Go.RowKit
variable {P:Program}
def a8z(F:Fence):Prop:=F.fn=(λ_=>True)/\F.depth=none/\F.alive=false
theorem a8z.fn {F:Fence}(h:a8z F)(f:FuncId):F.fn f:=by rw[h.1];trivial
section
variable {F:Fence} (hF:a8z F) {n:Nat} {ops:Array Oper} {Q Q':Exit->Act->World->Prop} (ds:List Deferred)
end
theorem abM {f:FuncId}(hent: ∀args w,(callFunc f args).run P w= .ok (.enter f args) w)(dom cod:List Ty)(impl:Dom dom->Option (Cod cod))(hst:cod.all Ty.flat=true)
  (H: ∀(w:World) (xs:Dom dom) (res:Cod cod) (vargs:List Value),VPs (Rho.of λ_=>False) w (jC dom xs) vargs->impl xs=some res->
   Calls P f vargs.toArray w λe w'=> ∃v,e= .returned v/\Below w.heap.size w w'/\VP (Rho.of λ_=>False) w' (Pd (Cr cod res)) v):av P f (aP true dom cod impl) where
 loc args h h' nx r hh hr:=⟨by rw[<-Nk hh];exact hr,rfl⟩
 upd args h nx r hr:=Nl hr
 nat R args h nx K:=Nn
 sound B ρ s a w nx args vargs r hr hnx hv h:=by
  simp only[aP]at h;split at h
  ·rename_i args' u hfr;cases hfr;split at h
   ·rename_i xs hxs;split at h
    ·rename_i res hres;rw[vU]at h;cases h;have hargs:=uf hr (λ_=>False) (λ_ h=>h.elim) (λ_ _ _ h=>h) hv hxs;refine .inr ⟨hent _ _,(H w xs res vargs hargs hres).mono ?_⟩;rintro e w' ⟨v,rfl,hb,hv'⟩;have hsame:=hr.same hb.size (λb h=>hb.block b h) hb.os hb.tape hb.output (λa ha=>hb.frozen ha);exact⟨v,rfl,ρ,hsame.1,hsame.2,Pt hst hv',λid _=>rfl⟩
    ·cases h
   ·cases h
  ·cases h
end Go.Den
