/-
 The plain reading of code: values, operations, states.
-/
import Derived.Calls
import Derived.Orders
import Derived.Laws.Rows
import Derived.Laws.Cells
import Derived.Laws.CopyRow
import Derived.Laws.Sem
import Derived.Laws.World
import Derived.Laws.Entries
import Derived.Laws.StructEq
set_option linter.unusedVariables false
set_option linter.unusedSimpArgs false
namespace Go
theorem awr:type_of% @Option.some.injEq:=@Option.some.injEq
theorem aws:type_of% @Go.Result.andThen_ok:=@Go.Result.andThen_ok
theorem awt:type_of% @List.forall_mem_cons:=@List.forall_mem_cons
theorem awu:type_of% @Bool.and_eq_true:=@Bool.and_eq_true
theorem awv:type_of% @decide_eq_true:=@decide_eq_true
theorem aww:type_of% @decide_eq_false:=@decide_eq_false
theorem awx:type_of% @Go.Sem.run_bind:=@Go.Sem.run_bind
theorem awy:type_of% @List.getElem?_eq_getElem:=@List.getElem?_eq_getElem
theorem awz:type_of% @Int.toNat_natCast:=@Int.toNat_natCast
theorem awC:type_of% @List.getD_eq_getElem?_getD:=@List.getD_eq_getElem?_getD
theorem awD:type_of% @Nat.mod_eq_of_lt:=@Nat.mod_eq_of_lt
theorem awE:type_of% @List.mem_append_right:=@List.mem_append_right
theorem awF:type_of% @Nat.ble_eq_true_of_le:=@Nat.ble_eq_true_of_le
theorem awG:type_of% @if_neg:=@if_neg
theorem awH:type_of% @List.getElem?_eq_some_iff:=@List.getElem?_eq_some_iff
theorem awI:type_of% @decide_eq_true_eq:=@decide_eq_true_eq
theorem awJ:type_of% @Go.run_underlying:=@Go.run_underlying
theorem awK:type_of% @List.mem_append_left:=@List.mem_append_left
theorem awL:type_of% @cond_true:=@cond_true
theorem awM:type_of% @Go.Sem.run_pure:=@Go.Sem.run_pure
theorem awN:type_of% @Nat.le_of_ble_eq_true:=@Nat.le_of_ble_eq_true
theorem awO:type_of% @Nat.not_lt_zero:=@Nat.not_lt_zero
theorem awP:type_of% @Nat.mul_le_mul_right:=@Nat.mul_le_mul_right
theorem awQ:type_of% @if_pos:=@if_pos
theorem awR:type_of% @Nat.zero_add:=@Nat.zero_add
theorem awS:type_of% @List.length_append:=@List.length_append
theorem awT:type_of% @Nat.mul_comm:=@Nat.mul_comm
theorem awU:type_of% @Nat.lt_of_lt_of_le:=@Nat.lt_of_lt_of_le
theorem awV:type_of% @Nat.lt_of_le_of_lt:=@Nat.lt_of_le_of_lt
theorem awW:type_of% @cond_false:=@cond_false
theorem awX:type_of% @List.getElem?_take_of_lt:=@List.getElem?_take_of_lt
theorem awY:type_of% @List.getElem?_append_left:=@List.getElem?_append_left
theorem awZ:type_of% @Nat.mod_lt:=@Nat.mod_lt
theorem ax0:type_of% @Nat.eq_of_beq_eq_true:=@Nat.eq_of_beq_eq_true
theorem ax1:type_of% @Nat.pow_le_pow_right:=@Nat.pow_le_pow_right
theorem ax2:type_of% @Nat.le_refl:=@Nat.le_refl
theorem ax3:type_of% @Nat.add_mul:=@Nat.add_mul
theorem ax4:type_of% @Bool.true_and:=@Bool.true_and
theorem ax5:type_of% @List.getElem?_cons_zero:=@List.getElem?_cons_zero
theorem ax6:type_of% @Bool.false_and:=@Bool.false_and
theorem ax7:type_of% @Classical.byContradiction:=@Classical.byContradiction
theorem ax8:type_of% @List.mem_cons_of_mem:=@List.mem_cons_of_mem
theorem ax9:type_of% @List.mem_cons_self:=@List.mem_cons_self
theorem axa:type_of% @List.getElem?_drop:=@List.getElem?_drop
theorem axb:type_of% @Nat.testBit_mod_two_pow:=@Nat.testBit_mod_two_pow
theorem axc:type_of% @Bool.not_true:=@Bool.not_true
theorem axd:type_of% @Nat.eq_zero_or_pos:=@Nat.eq_zero_or_pos
theorem axe:type_of% @Nat.div_le_self:=@Nat.div_le_self
theorem axf:type_of% @Nat.mul_assoc:=@Nat.mul_assoc
theorem axg:type_of% @Bool.eq_iff_iff:=@Bool.eq_iff_iff
theorem axh:type_of% @Option.bind_some:=@Option.bind_some
theorem axi:type_of% @Bool.false_eq_true:=@Bool.false_eq_true
theorem axj:type_of% @Nat.and_two_pow_sub_one_eq_mod:=@Nat.and_two_pow_sub_one_eq_mod
theorem axk:type_of% @List.getElem?_map:=@List.getElem?_map
theorem axl:type_of% @Nat.testBit_lt_two_pow:=@Nat.testBit_lt_two_pow
theorem axm:type_of% @Option.some.inj:=@Option.some.inj
theorem axn:type_of% @Nat.div_add_mod:=@Nat.div_add_mod
theorem axo:type_of% @List.mem_append:=@List.mem_append
theorem axp:type_of% @Nat.or_lt_two_pow:=@Nat.or_lt_two_pow
theorem axq:type_of% @List.take_of_length_le:=@List.take_of_length_le
theorem axr:type_of% @Option.map_eq_some_iff:=@Option.map_eq_some_iff
theorem axt:type_of% @Nat.testBit_div_two_pow:=@Nat.testBit_div_two_pow
theorem axu:type_of% @not_true_eq_false:=@not_true_eq_false
theorem axv:type_of% @List.getElem?_eq_none:=@List.getElem?_eq_none
theorem axw:type_of% @List.getElem?_append_right:=@List.getElem?_append_right
theorem axx:type_of% @List.append_assoc:=@List.append_assoc
theorem axy:type_of% @List.mem_of_getElem?:=@List.mem_of_getElem?
theorem axz:type_of% @Bool.not_false:=@Bool.not_false
theorem axA:type_of% @Nat.div_div_eq_div_mul:=@Nat.div_div_eq_div_mul
theorem axB:type_of% @List.all_eq_true:=@List.all_eq_true
theorem axC:type_of% @Nat.div_eq_of_lt:=@Nat.div_eq_of_lt
theorem axD:type_of% @decide_eq_decide:=@decide_eq_decide
theorem axE:type_of% @Nat.add_zero:=@Nat.add_zero
theorem axF:type_of% @List.getElem?_cons_succ:=@List.getElem?_cons_succ
theorem axG:type_of% @bne_self_eq_false:=@bne_self_eq_false
theorem axH:type_of% @List.length_cons:=@List.length_cons
theorem axI:type_of% @List.mem_singleton:=@List.mem_singleton
theorem axJ:type_of% @Array.getD_eq_getD_getElem?:=@Array.getD_eq_getD_getElem?
theorem axK:type_of% @Nat.two_pow_add_eq_or_of_lt:=@Nat.two_pow_add_eq_or_of_lt
theorem axL:type_of% @List.mem_cons:=@List.mem_cons
theorem axM:type_of% @Nat.pow_lt_pow_right:=@Nat.pow_lt_pow_right
theorem axN:type_of% @Nat.one_mul:=@Nat.one_mul
theorem axO:type_of% @List.ext_getElem?:=@List.ext_getElem?
theorem axP:type_of% @Nat.add_comm:=@Nat.add_comm
theorem axQ:type_of% @List.map_cons:=@List.map_cons
theorem axR:type_of% @List.getElem?_toArray:=@List.getElem?_toArray
theorem axS:type_of% @Nat.div_lt_iff_lt_mul:=@Nat.div_lt_iff_lt_mul
theorem axT:type_of% @List.take_append_drop:=@List.take_append_drop
theorem axU:type_of% @Bool.or_eq_true:=@Bool.or_eq_true
theorem axV:type_of% @if_true:=@if_true
theorem axW:type_of% @Array.getElem?_eq_getElem:=@Array.getElem?_eq_getElem
theorem axX:type_of% @Nat.sub_self:=@Nat.sub_self
theorem axY:type_of% @List.getElem?_of_mem:=@List.getElem?_of_mem
theorem axZ:type_of% @List.length_drop:=@List.length_drop
theorem ay0:type_of% @List.nodup_cons:=@List.nodup_cons
theorem ay1:type_of% @Nat.pow_add:=@Nat.pow_add
theorem ay2:type_of% @Nat.zero_mul:=@Nat.zero_mul
theorem ay3:type_of% @Nat.pow_succ:=@Nat.pow_succ
theorem ay4:type_of% @if_false:=@if_false
theorem ay5:type_of% @Nat.min_eq_left:=@Nat.min_eq_left
theorem ay6:type_of% @Option.map_some:=@Option.map_some
theorem ay7:type_of% @Nat.eq_of_testBit_eq:=@Nat.eq_of_testBit_eq
theorem ay8:type_of% @Nat.pow_zero:=@Nat.pow_zero
theorem ay9:type_of% @Array.getElem?_push:=@Array.getElem?_push
theorem aya:type_of% @List.length_eq_zero_iff:=@List.length_eq_zero_iff
theorem ayb:type_of% @Nat.add_mul_mod_self_right:=@Nat.add_mul_mod_self_right
theorem ayc:type_of% @List.getElem?_zip_eq_some:=@List.getElem?_zip_eq_some
theorem ayd:type_of% @Nat.and_le_left:=@Nat.and_le_left
theorem aye:type_of% @Nat.mul_one:=@Nat.mul_one
theorem ayf:type_of% @List.map_congr_left:=@List.map_congr_left
theorem ayg:type_of% @Array.getElem?_toList:=@Array.getElem?_toList
theorem ayh:type_of% @Option.bind_eq_some_iff:=@Option.bind_eq_some_iff
theorem ayi:type_of% @Nat.testBit_two_pow_mul:=@Nat.testBit_two_pow_mul
theorem ayj:type_of% @List.map_toArray:=@List.map_toArray
theorem ayk:type_of% @Nat.testBit_eq_decide_div_mod_eq:=@Nat.testBit_eq_decide_div_mod_eq
theorem ayl:type_of% @Array.getElem?_eq_some_iff:=@Array.getElem?_eq_some_iff
theorem aym:type_of% @Go.ByteArray.toList_eq:=@Go.ByteArray.toList_eq
theorem ayn:type_of% @List.getElem?_range:=@List.getElem?_range
theorem ayo:type_of% @List.mem_range:=@List.mem_range
theorem ayp:type_of% @List.pairwise_iff_getElem:=@List.pairwise_iff_getElem
theorem ayq:type_of% @Nat.testBit_or:=@Nat.testBit_or
theorem ayr:type_of% @List.append_nil:=@List.append_nil
theorem ays:type_of% @Nat.add_mul_div_right:=@Nat.add_mul_div_right
theorem ayt:type_of% @Array.ext':=@Array.ext'
theorem ayu:type_of% @Nat.mul_right_comm:=@Nat.mul_right_comm
theorem ayv:type_of% @List.cons_append:=@List.cons_append
theorem ayw:type_of% @List.take_append_of_le_length:=@List.take_append_of_le_length
theorem ayx:type_of% @Nat.mul_mod:=@Nat.mul_mod
theorem ayy:type_of% @Nat.mul_add:=@Nat.mul_add
theorem ayz:type_of% @Nat.pow_pos:=@Nat.pow_pos
theorem ayA:type_of% @Bool.or_false:=@Bool.or_false
theorem ayB:type_of% @List.drop_drop:=@List.drop_drop
theorem ayC:type_of% @Nat.lt_or_ge:=@Nat.lt_or_ge
theorem ayD:type_of% @beq_iff_eq:=@beq_iff_eq
theorem ayE:type_of% @Nat.mul_le_mul_left:=@Nat.mul_le_mul_left
theorem ayF:type_of% @Nat.le_trans:=@Nat.le_trans
theorem ayG:type_of% @Nat.add_assoc:=@Nat.add_assoc
theorem ayH:type_of% @Array.getElem?_modify:=@Array.getElem?_modify
theorem ayI:type_of% @List.map_nil:=@List.map_nil
theorem ayJ:type_of% @Bool.and_true:=@Bool.and_true
theorem ayK:type_of% @Nat.add_mul_mod_self_left:=@Nat.add_mul_mod_self_left
theorem ayL:type_of% @Nat.mul_le_mul:=@Nat.mul_le_mul
theorem ayM:type_of% @Nat.pow_mul:=@Nat.pow_mul
theorem ayN:type_of% @List.getElem?_modify:=@List.getElem?_modify
theorem ayO:type_of% @List.size_toArray:=@List.size_toArray
theorem ayP:type_of% @List.mem_map:=@List.mem_map
theorem ayQ:type_of% @Go.Sem.run_ite:=@Go.Sem.run_ite
theorem ayR:type_of% @Prod.mk.injEq:=@Prod.mk.injEq
theorem ayS:type_of% @Nat.add_mod:=@Nat.add_mod
theorem ayT:type_of% @Nat.testBit_two_pow:=@Nat.testBit_two_pow
theorem ayU:type_of% @Nat.add_sub_cancel_left:=@Nat.add_sub_cancel_left
theorem ayV:type_of% @List.drop_zero:=@List.drop_zero
theorem ayW:type_of% @List.drop_take:=@List.drop_take
theorem ayX:type_of% @List.take_take:=@List.take_take
theorem ayY:type_of% @Nat.add_sub_cancel:=@Nat.add_sub_cancel
theorem ayZ:type_of% @List.nil_append:=@List.nil_append
theorem az0:type_of% @List.map_append:=@List.map_append
theorem az1:type_of% @List.all_cons:=@List.all_cons
theorem az2:type_of% @Bool.false_or:=@Bool.false_or
theorem az3:type_of% @List.flatMap_cons:=@List.flatMap_cons
theorem az4:type_of% @of_decide_eq_true:=@of_decide_eq_true
theorem az5:type_of% @List.length_take:=@List.length_take
theorem az6:type_of% @Nat.lt_succ_self:=@Nat.lt_succ_self
theorem az7:type_of% @Nat.zero_testBit:=@Nat.zero_testBit
theorem az8:type_of% @Nat.div_one:=@Nat.div_one
theorem az9:type_of% @Nat.zero_le:=@Nat.zero_le
theorem aza:type_of% @decide_true:=@decide_true
theorem azb:type_of% @bne_iff_ne:=@bne_iff_ne
end Go
namespace Go.Den
inductive Ty where
 |int (k:IntKind)|bool|str|unit
 |pair (a b:Ty)
 |arr (n:Nat) (t:Ty)
 |sl (t:Ty)
 |ptr (t:Ty)
 |fn
 |sp (T:TypeId)
 |mp
 |st (t:Ty)
 deriving DecidableEq
inductive Step where
 |L|R|X (i:Nat)|S (lo n:Nat)
 deriving DecidableEq
abbrev Path:=List Step
inductive SlV(α:Type) where
 |nil
 |fz (n:Nat) (f:Nat->α)
 |ms (id:Nat) (p:Path) (lo len:Nat)
inductive dh(α:Type) where
 |nil
 |fz (x:α)
 |rf (id:Nat) (p:Path)
def SlV.isMs {α:Type} :SlV α->Bool| .ms _ _ _ _=>true|_=>false
def SlV.len {α:Type} :SlV α->Nat| .nil=>0| .fz n _=>n| .ms _ _ _ n=>n
def SlV.fn {α:Type}(d:α):SlV α->Nat->α| .fz _ f=>f|_=>λ_=>d
def dh.Te {α:Type} :dh α->Bool| .rf _ _=>true|_=>false
def dh.isNil {α:Type} :dh α->Bool| .nil=>true|_=>false
def dh.val {α:Type}(d:α):dh α->α| .fz x=>x|_=>d
inductive FnV where
 |nil
 |mk (f:Nat) (caps:List (Ty×Nat×Path))
 deriving DecidableEq
@[reducible] def Ty.den:Ty->Type
 | .int _=>Int
 | .bool=>Bool
 | .str=>ByteArray
 | .unit=>Unit
 | .pair a b=>a.den×b.den
 | .arr _ t=>Nat->t.den
 | .sl t=>SlV t.den
 | .ptr t=>dh t.den
 | .fn=>FnV
 | .sp _=>Unit
 | .mp=>Option Nat
 | .st t=>Nat×(Nat->t.den)
def Ty.size:Ty->Nat| .unit=>0| .pair a b=>a.size+b.size| .arr n t=>n*t.size|_=>1
def Ty.agg:Ty->Bool| .unit| .pair _ _| .arr _ _=>true|_=>false
abbrev V:=(t:Ty)×t.den
def Ty.get:(t:Ty)->t.den->Path->Option V|t,x,[]=>some ⟨t,x⟩| .pair a _,x,.L::p=>a.get x.1 p| .pair _ b,x,.R::p=>b.get x.2 p| .arr _ t,f,.X i::p=>t.get (f i) p| .arr _ t,f,.S lo n::p=>(Ty.arr n t).get (λj=>f (lo+j)) p|_,_,_=>none
termination_by structural _ _ p=>p
def upd {α:Type}(f:Nat->α)(i:Nat)(v:α):Nat->α:=λj=>if j=i then v else f j
def sO {α:Type}(f:Nat->α)(lo n:Nat)(z:Nat->α):Nat->α:=λj=>if lo<=j/\j<lo+n then z (j-lo)else f j
def Ty.set:(t:Ty)->t.den->Path->(u:Ty)->u.den->Option t.den
 |t,_,[],u,y=>if h:u=t then some (h▸y)else none
 | .pair a _,x,.L::p,u,y=>match a.set x.1 p u y with|some z=>some (z,x.2)|none=>none
 | .pair _ b,x,.R::p,u,y=>match b.set x.2 p u y with|some z=>some (x.1,z)|none=>none
 | .arr _ t,f,.X i::p,u,y=>match t.set (f i) p u y with|some z=>some (upd f i z)|none=>none
 | .arr _ t,f,.S lo n::p,u,y=>match(Ty.arr n t).set (λj=>f (lo+j)) p u y with
  |some z=>some (sO f lo n z)
  |none=>none
 |_,_,_,_,_=>none
termination_by structural _ _ p=>p
def Ty.at:Ty->Path->Option Ty|t,[]=>some t| .pair a _,.L::p=>a.at p| .pair _ b,.R::p=>b.at p| .arr _ t,.X _::p=>t.at p| .arr _ t,.S _ n::p=>(Ty.arr n t).at p|_,_=>none
termination_by structural _ p=>p
def Ty.off:Ty->Path->Nat|_,[]=>0| .pair a _,.L::p=>a.off p| .pair a b,.R::p=>a.size+b.off p| .arr _ t,.X i::p=>i*t.size+t.off p| .arr _ t,.S lo n::p=>lo*t.size+(Ty.arr n t).off p|_,_=>0
termination_by structural _ p=>p
def Ty.okP:Ty->Path->Prop|_,[]=>True| .pair a _,.L::p=>a.okP p| .pair _ b,.R::p=>b.okP p| .arr n t,.X i::p=>i<n/\t.okP p| .arr m t,.S lo n::p=>lo+n<=m/\(Ty.arr n t).okP p|_,_=>False
termination_by structural _ p=>p
structure Loc where
 blk:Nat
 ty:Ty
 cap:Option Nat
structure Rho where
 f:Nat->Option Loc
 W:Nat->Prop
 A:Nat->Prop
 sub: ∀b,W b->A b
instance:CoeFun Rho (λ_=>Nat->Option Loc):=⟨Rho.f⟩
def Rho.shut(ρ:Rho):Rho:=⟨λ_=>none,λ_=>False,ρ.A,λ_ h=>h.elim⟩
def Fz(ρ:Rho)(w:World)(b o:Nat)(c:List Value):Prop:=
 ¬ρ.A b/\b<w.heap.size/\ ∀(j:Nat) (v:Value),c[j]?=some v->w.cell? ⟨b,o+j,none⟩=some v
def uK(ρ:Rho)(t:Ty)(id:Nat)(p:Path)(v:Value):Prop:=
 ∃loc,ρ id=some loc/\loc.ty.okP p/\loc.ty.at p=some t/\(loc.cap=none\/p≠ [])/\v= .pointer (some ⟨loc.blk,loc.ty.off p,none⟩)
def opq:Value->Bool| .pointer _=>true| .nilIface=>true|_=>false
def Rd(ρ:Rho)(w:World):(t:Ty)->t.den->List Value->Prop
 | .int k,x,cs=>cs=[.int k x]
 | .bool,x,cs=>cs=[.bool x]
 | .str,x,cs=>cs=[.string x]
 | .unit,_,cs=>cs=[]
 | .pair a b,x,cs=>Rd ρ w a x.1 (cs.take a.size)/\Rd ρ w b x.2 (cs.drop a.size)
 | .arr n t,f,cs=>cs.length=n*t.size/\ ∀i,i<n->Rd ρ w t (f i) ((cs.drop (i*t.size)).take t.size)
 | .sl t,x,cs=>match x with
  | .nil=>cs=[.slice none 0 0]
  | .fz n f=> ∃a cap,cs=[.slice a n cap]/\n<=cap/\ ∀i,i<n-> ∃b o c,a=some ⟨b,o,none⟩/\Rd ρ.shut w t (f i) c/\Fz ρ w b (o+i*t.size) c
  | .ms id p lo len=>(len=0/\cs=[.slice none 0 0])\/ ∃loc m cap o,ρ id=some loc/\loc.ty.okP p/\loc.ty.at p=some (.arr m t)/\lo+len<=m/\
    cs=[.slice (some ⟨loc.blk,o,none⟩) len cap]/\(0<len->o=loc.ty.off p+lo*t.size)/\len<=cap/\(∀c,loc.cap=some c->p=[]->lo=0->cap=c/\o=0)
 | .ptr t,x,cs=>match x with
  | .nil=>cs=[.pointer none]
  | .fz y=> ∃b o c,cs=[.pointer (some ⟨b,o,none⟩)]/\Rd ρ.shut w t y c/\Fz ρ w b o c
  | .rf id p=> ∃v,cs=[v]/\uK ρ t id p v
 | .fn,x,cs=>match x with
  | .nil=>cs=[.nilFunc]
  | .mk f caps=> ∃vs:List Value,cs=[.func (.func f) #[] vs.toArray]/\vs.length=caps.length/\ ∀(j:Nat) c v,caps[j]?=some c->vs[j]?=some v->uK ρ c.1 c.2.1 c.2.2 v
 | .sp _,_,cs=> ∃v,cs=[v]/\opq v=true
 | .mp,x,cs=>match x with
  |none=>cs=[.map none]
  |some id=> ∃loc,ρ id=some loc/\loc.ty= .mp/\cs=[.map (some loc.blk)]
 | .st t,x,cs=> ∃a cap,cs=[.slice a x.1 cap]/\x.1<=cap/\ ∀i,i<x.1-> ∃b o c,a=some ⟨b,o,none⟩/\Rd ρ.shut w t (x.2 i) c/\Fz ρ w b (o+i*t.size) c
theorem Rd.length {ρ:Rho}{w:World} : ∀ {t:Ty} {x:t.den} {cs:List Value},Rd ρ w t x cs->cs.length=t.size:=by
 intro t
 induction t with
 |int k=>intro x cs h;rw[h];rfl
 |bool=>intro x cs h;rw[h];rfl
 |str=>intro x cs h;rw[h];rfl
 |unit=>intro x cs h;rw[h];rfl
 |pair a b iha ihb=>
  intro x cs h;have h1:=iha h.1;have h2:=ihb h.2;rw[az5]at h1;rw[axZ]at h2;show cs.length=a.size+b.size;omega
 |arr n t ih=>intro x cs h;exact h.1
 |sl t ih=>
  intro x cs h;cases x with
  |nil=>rw[h];rfl
  |fz n f=>obtain⟨a,cap,h,_⟩:=h;rw[h];rfl
  |ms id p lo len=>
   rcases h with⟨_,h⟩|⟨loc,m,cap,o,_,_,_,_,h,_⟩
   ·rw[h];rfl
   ·rw[h];rfl
 |ptr t ih=>
  intro x cs h;cases x with
  |nil=>rw[h];rfl
  |fz y=>obtain⟨b,o,c,h,_⟩:=h;rw[h];rfl
  |rf id p=>obtain⟨v,h,_⟩:=h;rw[h];rfl
 |fn=>
  intro x cs h;cases x with
  |nil=>rw[h];rfl
  |mk f caps=>obtain⟨vs,h,_⟩:=h;rw[h];rfl
 |sp _=>intro x cs h;obtain⟨a,h,_⟩:=h;rw[h];rfl
 |mp=>
  intro x cs h;cases x with
  |none=>rw[h];rfl
  |some id=>obtain⟨loc,_,_,h⟩:=h;rw[h];rfl
 |st t ih=>intro x cs h;obtain⟨a,cap,h,_⟩:=h;rw[h];rfl
theorem Rd.single {ρ:Rho}{w:World}{t:Ty}{x:t.den}{cs:List Value}(h:Rd ρ w t x cs)(ha:t.agg=false): ∃v,cs=[v]:=by
 have hl:=h.length;have:t.size=1:=by cases t<;>simp_all [Ty.agg,Ty.size]
 rw[this]at hl
 match cs,hl with
 | [v],_=>exact⟨v,rfl⟩
structure Keeps(ρ:Rho)(w:World)(ρ':Rho)(w':World):Prop where
 size:w.heap.size<=w'.heap.size
 up: ∀id loc,ρ id=some loc->ρ' id=some loc
 downA: ∀b,ρ'.A b->ρ.A b\/w.heap.size<=b
 keep: ∀b,b<w.heap.size-> ¬ρ.A b->w'.heap[b]?=w.heap[b]?
structure Later(ρ:Rho)(w:World)(ρ':Rho)(w':World):Prop where
 size:w.heap.size<=w'.heap.size
 up: ∀id loc,ρ id=some loc->ρ' id=some loc
 downA: ∀b,ρ'.A b->ρ.A b\/w.heap.size<=b
 downW: ∀b,ρ'.W b->ρ.W b\/w.heap.size<=b
 upA: ∀b,b<w.heap.size->ρ.A b-> ¬ρ.W b->ρ'.A b
 keep: ∀b,b<w.heap.size-> ¬ρ.W b->w'.heap[b]?=w.heap[b]?
theorem Later.refl(ρ:Rho)(w:World):Later ρ w ρ w:=⟨ax2 _,λ_ _ h=>h,λ_ h=>.inl h,λ_ h=>.inl h,λ_ _ h _=>h,λ_ _ _=>rfl⟩
theorem Later.keeps {ρ ρ':Rho}{w w':World}(L:Later ρ w ρ' w'):Keeps ρ w ρ' w':=⟨L.size,L.up,L.downA,λb h1 h2=>L.keep b h1 (λh=>h2 (ρ.sub b h))⟩
theorem Keeps.shut {ρ ρ':Rho}{w w':World}(L:Keeps ρ w ρ' w'):Keeps ρ.shut w ρ'.shut w':=⟨L.size,λ_ _ h=>(by cases h),L.downA,L.keep⟩
theorem ZE {w w':World}{a:Addr}(h:w'.heap[a.block]?=w.heap[a.block]?):w'.cell? a=w.cell? a:=by unfold World.cell?;rw[h]
theorem Fz.keeps {ρ ρ':Rho}{w w':World}(L:Keeps ρ w ρ' w'){b o:Nat}{c:List Value}(h:Fz ρ w b o c):Fz ρ' w' b o c:=by
 obtain⟨h1,h2,h3⟩:=h;refine⟨λhl=>?_,awU h2 L.size,λj v hv=>?_⟩
 ·rcases L.downA b hl with h|h
  ·exact h1 h
  ·omega
 ·rw[ZE (L.keep b h2 h1)];exact h3 j v hv
theorem uK.keeps {ρ ρ':Rho}{w w':World}(L:Keeps ρ w ρ' w'){t:Ty}{id:Nat}{p:Path}{v:Value}(h:uK ρ t id p v):uK ρ' t id p v:=
 let⟨loc,h1,h2⟩:=h
 ⟨loc,L.up _ _ h1,h2⟩
theorem Rd.keeps: ∀ {t:Ty} {ρ ρ':Rho} {w w':World} (_:Keeps ρ w ρ' w') {x:t.den} {cs:List Value},Rd ρ w t x cs->Rd ρ' w' t x cs:=by
 intro t
 induction t with
 |int k=>intro ρ ρ' w w' L x cs h;exact h
 |bool=>intro ρ ρ' w w' L x cs h;exact h
 |str=>intro ρ ρ' w w' L x cs h;exact h
 |unit=>intro ρ ρ' w w' L x cs h;exact h
 |pair a b iha ihb=>intro ρ ρ' w w' L x cs h;exact⟨iha L h.1,ihb L h.2⟩
 |arr n t ih=>intro ρ ρ' w w' L x cs h;exact⟨h.1,λi hi=>ih L (h.2 i hi)⟩
 |sl t ih=>
  intro ρ ρ' w w' L x cs h;cases x with
  |nil=>exact h
  |fz n f=>
   obtain⟨a,cap,h1,hle,h2⟩:=h;refine⟨a,cap,h1,hle,λi hi=>?_⟩;obtain⟨b,o,c,h3,h4,h5⟩:=h2 i hi;exact⟨b,o,c,h3,ih L.shut h4,h5.keeps L⟩
  |ms id p lo len=>
   rcases h with h|⟨loc,m,cap,o,h1,h2⟩
   ·exact .inl h
   ·exact .inr ⟨loc,m,cap,o,L.up _ _ h1,h2⟩
 |ptr t ih=>
  intro ρ ρ' w w' L x cs h;cases x with
  |nil=>exact h
  |fz y=>obtain⟨b,o,c,h1,h2,h3⟩:=h;exact⟨b,o,c,h1,ih L.shut h2,h3.keeps L⟩
  |rf id p=>obtain⟨v,h1,h2⟩:=h;exact⟨v,h1,h2.keeps L⟩
 |fn=>
  intro ρ ρ' w w' L x cs h;cases x with
  |nil=>exact h
  |mk f caps=>obtain⟨vs,h1,h2,h3⟩:=h;exact⟨vs,h1,h2,λj c v hc hv=>(h3 j c v hc hv).keeps L⟩
 |sp _=>intro ρ ρ' w w' L x cs h;exact h
 |mp=>
  intro ρ ρ' w w' L x cs h;cases x with
  |none=>exact h
  |some id=>obtain⟨loc,h1,h2⟩:=h;exact⟨loc,L.up _ _ h1,h2⟩
 |st t ih=>
  intro ρ ρ' w w' L x cs h;obtain⟨a,cap,h1,hle,h2⟩:=h;refine⟨a,cap,h1,hle,λi hi=>?_⟩;obtain⟨b,o,c,h3,h4,h5⟩:=h2 i hi;exact⟨b,o,c,h3,ih L.shut h4,h5.keeps L⟩
theorem Fz.later {ρ ρ':Rho}{w w':World}(L:Later ρ w ρ' w'){b o:Nat}{c:List Value}(h:Fz ρ w b o c):Fz ρ' w' b o c:=h.keeps L.keeps
theorem uK.later {ρ ρ':Rho}{w w':World}(L:Later ρ w ρ' w'){t:Ty}{id:Nat}{p:Path}{v:Value}(h:uK ρ t id p v):uK ρ' t id p v:=h.keeps L.keeps
theorem Rd.later {ρ ρ':Rho}{w w':World}(L:Later ρ w ρ' w'){t:Ty}{x:t.den}{cs:List Value}(h:Rd ρ w t x cs):Rd ρ' w' t x cs:=h.keeps L.keeps
theorem Rd.openIn {t:Ty}{ρ:Rho}{w:World}{x:t.den}{cs:List Value}(h:Rd ρ.shut w t x cs):Rd ρ w t x cs:=by
 induction t generalizing cs with
 |int k=>exact h
 |bool=>exact h
 |str=>exact h
 |unit=>exact h
 |pair a b iha ihb=>exact⟨iha h.1,ihb h.2⟩
 |arr n t ih=>exact⟨h.1,λi hi=>ih (h.2 i hi)⟩
 |sl t ih=>
  cases x with
  |nil=>exact h
  |fz n f=>exact h
  |ms id p lo len=>
   rcases h with h|⟨loc,m,cap,o,h1,h2⟩
   ·exact .inl h
   ·cases h1
 |ptr t ih=>
  cases x with
  |nil=>exact h
  |fz y=>exact h
  |rf id p=>obtain⟨v,_,loc,h1,_⟩:=h;cases h1
 |fn=>
  cases x with
  |nil=>exact h
  |mk f caps=>
   obtain⟨vs,h1,h2,h3⟩:=h;refine⟨vs,h1,h2,λj c v hc hv=>?_⟩;obtain⟨loc,h4,_⟩:=h3 j c v hc hv;cases h4
 |sp _=>exact h
 |mp=>
  cases x with
  |none=>exact h
  |some id=>obtain⟨loc,h1,_⟩:=h;cases h1
 |st t ih=>exact h
theorem Ty.at_of_get: ∀ {p:Path} {t:Ty} {x:t.den} {y:V},t.get x p=some y->t.at p=some y.1:=by
 intro p
 induction p with
 |nil=>intro t x y h;cases t<;>(simp only[Ty.get,awr]at h;subst h;rfl)
 |cons s p ih=>
  intro t x y h;cases t<;>cases s<;>first|exact ih h|(simp[Ty.get]at h;done)
theorem eT {i n s:Nat}(h:i<n):i*s+s<=n*s:=by have:(i+1)*s<=n*s:=awP s h;rw[Nat.succ_mul]at this;exact this
theorem Ty.off_nil(t:Ty):t.off []=0:=by cases t<;>rfl
theorem Ty.at_nil(t:Ty):t.at []=some t:=by cases t<;>rfl
theorem Ty.get_nil(t:Ty)(x:t.den):t.get x []=some ⟨t,x⟩:=by cases t<;>rfl
theorem Ty.okP_nil(t:Ty):t.okP []:=by cases t<;>trivial
theorem Ty.off_le: ∀ {p:Path} {t:Ty} {u:Ty},t.okP p->t.at p=some u->t.off p+u.size<=t.size:=by
 intro p
 induction p with
 |nil=>intro t u h hu;rw[Ty.at_nil]at hu;cases hu;rw[Ty.off_nil];omega
 |cons s p ih=>
  intro t u h hu;cases t<;>cases s<;>first
   |exact h.elim
   |(rename_i a b;have:=ih (t:=a) h hu;simp only[Ty.off,Ty.size];omega)
   |(rename_i a b;have:=ih (t:=b) h hu;simp only[Ty.off,Ty.size];omega)
   |(rename_i n t i;have:=ih (t:=t) h.2 hu;have:=eT (s:=t.size) h.1;simp only[Ty.off,Ty.size];omega)
   |(rename_i m t lo n;have:=ih (t:=.arr n t) h.2 hu;have h2:(lo+n)*t.size<=m*t.size:=awP _ h.1;rw[ax3]at h2;simp only[Ty.off,Ty.size]at this⊢;omega)
theorem Rd.take_all {ρ:Rho}{w:World}{t:Ty}{x:t.den}{cs:List Value}(h:Rd ρ w t x cs):Rd ρ w t x ((cs.drop 0).take t.size):=by rw[ayV,axq (Nat.le_of_eq h.length)];exact h
theorem Rd.sub {ρ:Rho}{w:World}{m:Nat}{t:Ty}{f:Nat->t.den}{cs:List Value}(h:Rd ρ w (.arr m t) f cs){lo n:Nat}(hl:lo+n<=m):
  Rd ρ w (.arr n t) (λj=>f (lo+j)) ((cs.drop (lo*t.size)).take (n*t.size)):=by
 have h1:cs.length=m*t.size:=h.1;have h2:(lo+n)*t.size<=m*t.size:=awP _ hl;rw[ax3]at h2;refine⟨by simp;omega,λi hi=>?_⟩;have h3:=eT (s:=t.size) hi;rw[ayW,ayX,ay5 (by omega),ayB,<-ax3];exact h.2 (lo+i) (by omega)
theorem Rd.get {ρ:Rho}{w:World} : ∀ {p:Path} {t:Ty} {x:t.den} {y:V} {cs:List Value},Rd ρ w t x cs->t.okP p->t.get x p=some y->
  Rd ρ w y.1 y.2 ((cs.drop (t.off p)).take y.1.size):=by
 intro p
 induction p with
 |nil=>intro t x y cs h hp hy;rw[Ty.get_nil]at hy;cases hy;rw[Ty.off_nil];exact h.take_all
 |cons s p ih=>
  intro t x y cs h hp hy;cases t with
  |pair a b=>
   cases s with
   |L=>
    have h1:=ih (t:=a) h.1 hp hy;have hle:=Ty.off_le (t:=a) hp (Ty.at_of_get hy);rw[ayW,ayX,ay5 (by omega)]at h1;exact h1
   |R=>
    have h1:=ih (t:=b) h.2 hp hy;rw[ayB]at h1;exact h1
   |_=>exact hp.elim
  |arr n t=>
   cases s with
   |X i=>
    have h1:=ih (t:=t) (h.2 i hp.1) hp.2 hy;have hle:=Ty.off_le (t:=t) hp.2 (Ty.at_of_get hy);rw[ayW,ayX,ay5 (by omega),ayB]at h1;exact h1
   |S lo k=>
    have h1:=ih (t:=.arr k t) (h.sub hp.1) hp.2 hy;have hle:=Ty.off_le (t:=.arr k t) hp.2 (Ty.at_of_get hy);simp only[Ty.size]at hle;rw[ayW,ayX,ay5 (by omega),ayB]at h1;exact h1
   |_=>exact hp.elim
  |_=>cases s<;>exact hp.elim
def splice(cs:List Value)(o:Nat)(c:List Value):List Value:=cs.take o++c++cs.drop (o+c.length)
theorem qD {cs c:List Value}{o:Nat}(h:o+c.length<=cs.length):(splice cs o c).length=cs.length:=by simp[splice];omega
theorem iJ {cs c:List Value}{o j:Nat}(h:o+c.length<=cs.length):
  (splice cs o c)[j]?=if o<=j/\j<o+c.length then c[j-o]? else cs[j]?:=by
 unfold splice;have h1:(cs.take o).length=o:=by simp;omega
 by_cases hj:j<o
 ·rw[axx,awY (by omega),awX hj,awG (by omega)]
 ·by_cases hj2:j<o+c.length
  ·rw[axx,axw (by omega),h1,awY (by omega),awQ ⟨by omega,hj2⟩]
  ·rw[axw (by simp;omega),axa,awG (by omega)]
   congr 1
   simp;omega
theorem qW {cs c:List Value}{o a n:Nat}(h:o+c.length<=cs.length)(h1:a<=o)(h2:o+c.length<=a+n)(h3:a+n<=cs.length):
  ((splice cs o c).drop a).take n=splice ((cs.drop a).take n) (o-a) c:=by
 have hl:(o-a)+c.length<=((cs.drop a).take n).length:=by simp;omega
 apply axO;intro j;rw[iJ hl,List.getElem?_take,axa,iJ h];by_cases hj:j<n
 ·rw[awQ hj,awX hj,axa];by_cases hc:o<=a+j/\a+j<o+c.length
  ·rw[awQ hc,awQ (by omega)];congr 1;omega
  ·rw[awG hc,awG (by omega)]
 ·rw[awG hj,awG (by omega),axv (by simp;omega)]
theorem pG {cs c:List Value}{o a n:Nat}(h:o+c.length<=cs.length)(h1:a+n<=o\/o+c.length<=a):
  ((splice cs o c).drop a).take n=(cs.drop a).take n:=by
 apply axO;intro j;rw[List.getElem?_take,List.getElem?_take,axa,axa,iJ h];by_cases hj:j<n
 ·rw[awQ hj,awQ hj,awG (by omega)]
 ·rw[awG hj,awG hj]
theorem Ty.set_nil {t u:Ty}{x:t.den}{y:u.den}{z:t.den}(h:t.set x [] u y=some z): ∃e:u=t,e▸y=z:=by
 have:(if h:u=t then some (h▸y)else none)=some z:=by cases t<;>exact h
 split at this
 ·rename_i e;exact⟨e,axm this⟩
 ·cases this
theorem Ty.set_spec: ∀ {p:Path} {t:Ty} {x:t.den} {u:Ty} {y:u.den} {z:t.den},t.set x p u y=some z->t.at p=some u:=by
 intro p
 induction p with
 |nil=>intro t x u y z h;obtain⟨rfl,_⟩:=Ty.set_nil h;exact Ty.at_nil _
 |cons s p ih=>
  intro t x u y z h;cases t<;>cases s<;>simp only[Ty.set,reduceCtorEq]at h
  all_goals split at h
  all_goals first|(rename_i z' hz';exact ih hz')|cases h
theorem a1Y {cs c:List Value}(h:c.length=cs.length):splice cs 0 c=c:=by simp[splice,h]
theorem Rd.set {ρ:Rho}{w:World} : ∀ {p:Path} {t:Ty} {x:t.den} {u:Ty} {y:u.den} {z:t.den} {cs c:List Value},Rd ρ w t x cs->t.okP p->
  t.set x p u y=some z->Rd ρ w u y c->Rd ρ w t z (splice cs (t.off p) c):=by
 intro p
 induction p with
 |nil=>
  intro t x u y z cs c h hp hz hc;obtain⟨e,rfl⟩:=Ty.set_nil hz;subst e;rw[Ty.off_nil,a1Y (hc.length.trans h.length.symm)];exact hc
 |cons s p ih=>
  intro t x u y z cs c h hp hz hc;have hcl:=hc.length;cases t with
  |pair a b=>
   have hl:cs.length=a.size+b.size:=h.length;cases s with
   |L=>
    simp only[Ty.set]at hz;split at hz
    ·rename_i z' hz';simp only[awr]at hz;subst hz;have h1:=ih (t:=a) h.1 hp hz' hc;have hle:=Ty.off_le (t:=a) hp (Ty.set_spec hz');simp only[Ty.off];refine⟨?_,?_⟩
     ·have:=qW (cs:=cs) (c:=c) (o:=a.off p) (a:=0) (n:=a.size) (by omega) (by omega) (by omega) (by omega);simp only[ayV,Nat.sub_zero]at this;rw[this];exact h1
     ·have:=pG (cs:=cs) (c:=c) (o:=a.off p) (a:=a.size) (n:=b.size) (by omega) (by omega);rw[axq (by rw[axZ,qD (by omega)];omega),axq (by rw[axZ];omega)]at this;rw[this];exact h.2
    ·cases hz
   |R=>
    simp only[Ty.set]at hz;split at hz
    ·rename_i z' hz';simp only[awr]at hz;subst hz;have h1:=ih (t:=b) h.2 hp hz' hc;have hle:=Ty.off_le (t:=b) hp (Ty.set_spec hz');simp only[Ty.off];refine⟨?_,?_⟩
     ·have:=pG (cs:=cs) (c:=c) (o:=a.size+b.off p) (a:=0) (n:=a.size) (by omega) (by omega);simp only[ayV]at this;rw[this];exact h.1
     ·have:=qW (cs:=cs) (c:=c) (o:=a.size+b.off p) (a:=a.size) (n:=b.size) (by omega) (by omega) (by omega) (by omega);rw[axq (by rw[axZ,qD (by omega)];omega),axq (by rw[axZ];omega)]at this;rw[this,show a.size+b.off p-a.size=b.off p by omega];exact h1
    ·cases hz
   |_=>exact hp.elim
  |arr n t=>
   have hl:cs.length=n*t.size:=h.length;cases s with
   |X i=>
    simp only[Ty.set]at hz;split at hz
    ·rename_i z' hz';simp only[awr]at hz;subst hz;have h1:=ih (t:=t) (h.2 i hp.1) hp.2 hz' hc;have hle:=Ty.off_le (t:=t) hp.2 (Ty.set_spec hz');have hi:=eT (s:=t.size) hp.1;simp only[Ty.off];refine⟨by rw[qD (by omega)];exact hl,λj hj=>?_⟩;by_cases e:j=i
     ·subst e;rw[qW (by omega) (by omega) (by omega) (by omega),show j*t.size+t.off p-j*t.size=t.off p by omega];simp only[upd,axV];exact h1
     ·have hj2:=eT (s:=t.size) hj;have hne:j*t.size+t.size<=i*t.size\/i*t.size+t.size<=j*t.size:=by
       rcases Nat.lt_or_gt_of_ne e with h|h
       ·exact .inl (eT h)
       ·exact .inr (eT h)
      rw[pG (by omega) (by omega)];simp only[upd,awG e];exact h.2 j hj
    ·cases hz
   |S lo k=>
    simp only[Ty.set]at hz;split at hz
    ·rename_i z' hz';simp only[awr]at hz;subst hz;have h1:=ih (t:=.arr k t) (h.sub hp.1) hp.2 hz' hc;have hle:=Ty.off_le (t:=.arr k t) hp.2 (Ty.set_spec hz');have hlo:(lo+k)*t.size<=n*t.size:=awP _ hp.1;rw[ax3]at hlo;simp only[Ty.size]at hle;simp only[Ty.off];have h2:=qW (cs:=cs) (c:=c) (o:=lo*t.size+(Ty.arr k t).off p) (a:=lo*t.size) (n:=k*t.size) (by omega) (by omega) (by omega) (by omega);rw[show lo*t.size+(Ty.arr k t).off p-lo*t.size=(Ty.arr k t).off p by omega]at h2;rw[<-h2]at h1;refine⟨by rw[qD (by omega)];exact hl,λj hj=>?_⟩;have hj2:=eT (s:=t.size) hj;by_cases e:lo<=j/\j<lo+k
     ·have h3:=h1.2 (j-lo) (by omega);have hj3:=eT (s:=t.size) (show j-lo<k by omega);rw[ayW,ayX,ay5 (by omega),ayB,<-ax3,show lo+(j-lo)=j by omega]at h3;simp only[sO,awQ e];exact h3
     ·have hne:j*t.size+t.size<=lo*t.size\/(lo+k)*t.size<=j*t.size:=by
       rcases ayC j lo with h|h
       ·exact .inl (eT h)
       ·exact .inr (awP _ (by omega))
      rw[ax3]at hne;rw[pG (by omega) (by omega)];simp only[sO,awG e];exact h.2 j hj
    ·cases hz
   |_=>exact hp.elim
  |_=>cases s<;>exact hp.elim
def mkV(t:Ty)(cs:List Value):Value:=if t.agg then .agg cs.toArray else cs.headD (.tuple #[])
theorem jG {ρ:Rho}{w:World}{t:Ty}{x:t.den}{cs:List Value}(h:Rd ρ w t x cs):(mkV t cs).cells=cs.toArray:=by
 unfold mkV;cases ha:t.agg
 ·obtain⟨v,rfl⟩:=h.single ha;simp only[axi,ay4,List.headD_cons];have: ∀cs,v≠ .agg cs:=by
   intro cs e;subst e;cases t<;>simp only[Ty.agg]at ha<;>try cases ha
   ·simp[Rd]at h
   ·simp[Rd]at h
   ·simp[Rd]at h
   ·rename_i t;cases x<;>simp[Rd]at h
   ·rename_i t;cases x<;>simp[Rd,uK]at h
   ·cases x<;>simp[Rd]at h
   ·obtain⟨a,h,h'⟩:=h;simp at h;subst h;cases h'
   ·cases x with
    |none=>simp[Rd]at h
    |some id=>obtain⟨loc,_,_,h⟩:=h;simp at h
   ·obtain⟨a,cap,h,_⟩:=h;simp at h
  cases v<;>simp_all [Value.cells]
 ·simp[Value.cells]
inductive PV where
 |un
 |v (x:V)
 |tup (l:List V)
 |dp (id n:Nat)
 |zr (t:Ty)
def aQ:Ty->List Ty| .ptr t=>[t]| .pair a b=>aQ a++aQ b|_=>[]
@[reducible] def lC:List Ty->Type
 | []=>Unit
 |t::l=>t.den×lC l
inductive PO where
 |obj (t:Ty) (x:t.den)
 |row (sh:Bool) (e:TypeId) (t:Ty) (n:Nat) (f:Nat->t.den)
 |mp (k v:Ty) (l:List (k.den×v.den))
 |bag (k t:Ty) (l:List (k.den×(t.den×lC (aQ t)))) (out:Option (Nat×Nat))
 |dead
structure DS where
 env:List (Nat×PV)
 hp:List (Nat×PO)
 nx:Nat
 n:Nat
universe u
def look {α:Type u} :List (Nat×α)->Nat->Option α| [],_=>none|x::l,n=>bif Nat.beq x.1 n then some x.2 else look l n
structure TI where
 desc:TypeDesc
 ty:Ty
 bytes:Nat
def qg:Nat->Nat->Path|0,_=>[]|1,_=>[]|n+2,0=>[.L]|n+2,j+1=>.R::qg (n+1) j
def Ty.zero:(t:Ty)->t.den| .int _=>(0:Int)| .bool=>false| .str=>ByteArray.empty| .unit=>()| .pair a b=>(a.zero,b.zero)| .arr _ t=>λ_=>t.zero| .sl _=>.nil| .ptr _=>.nil| .fn=>.nil| .sp _=>()| .mp=>none| .st t=>(0,λ_=>t.zero)
def Ty.zcells:Ty->List Value| .int k=>[.int k 0]| .bool=>[.bool false]| .str=>[.string .empty]| .unit=>[]| .pair a b=>a.zcells++b.zcells| .arr n t=>(List.replicate n t.zcells).flatten| .sl _=>[.slice none 0 0]| .ptr _=>[.pointer none]| .fn=>[.nilFunc]| .sp _=>[.pointer none]| .mp=>[.map none]| .st _=>[.slice none 0 0]
def a6f(n:Nat)(p:Nat->Bool):Bool:=(List.range n).all p
def sEq(a b:ByteArray):Bool:=a.toList==b.toList
def Ty.flat:Ty->Bool| .int _| .bool| .str| .unit=>true| .pair a b=>a.flat&&b.flat| .arr _ t=>t.flat|_=>false
def eqF:(t:Ty)->t.den->t.den->Bool| .int _,x,y=>x==y| .bool,x,y=>x==y| .str,x,y=>sEq x y| .unit,_,_=>true| .pair a b,x,y=>eqF a x.1 y.1&&eqF b x.2 y.2| .arr n t,x,y=>a6f n λi=>eqF t (x i) (y i)|_,_,_=>false
def Ty.nr:Ty->Bool| .int _| .bool| .str| .unit| .st _=>true| .pair a b=>a.nr&&b.nr| .arr _ t=>t.nr|_=>false
def Ty.un:Ty->Ty| .st t=>.sl t|t=>t
def KN(v:V):V:=match v with|⟨.st t,x⟩=>⟨.sl t,.fz x.1 x.2⟩|v=>v
def adx(u t:Ty)(x:SlV u.den):Option (Nat×(Nat->t.den)):=match x with| .nil=>some (0,λ_=>t.zero)| .fz n f=>if h:u=t then some (n,h▸f)else none| .ms _ _ _ _=>none
def V.to(v:V)(t:Ty):Option t.den:=
 if h:v.1=t then some (h▸v.2)else
  match v,t with
  |⟨.ptr _,.nil⟩,.ptr _=>some .nil
  |⟨.sl _,.nil⟩,.sl _=>some .nil
  |⟨.sl u,x⟩,.st t=>adx u t x
  |_,_=>none
def ofValue:Value->PV| .bool b=>.v ⟨.bool,b⟩| .int k n=>.v ⟨.int k,n⟩| .string s=>.v ⟨.str,s⟩| .pointer none=>.v ⟨.ptr .unit,.nil⟩| .slice none 0 0=>.v ⟨.sl .unit,.nil⟩| .nilFunc=>.v ⟨.fn,.nil⟩| .nilIface=>.v ⟨.sp 0,()⟩| .map none=>.v ⟨.mp,none⟩|_=>.un
def DS.val(s:DS):Operand->PV| .tmp t=>(look s.env t).getD .un| .const v=>ofValue v| .func f=>.v ⟨.fn,.mk f []⟩| .global _=>.un
def ay(op:BinOp)(k:IntKind)(x y:Int):Int:=match op with| .and=>k.wrap ((BitVec.ofInt k.bits x&&& BitVec.ofInt k.bits y).toNat:Int)| .or=>k.wrap ((BitVec.ofInt k.bits x||| BitVec.ofInt k.bits y).toNat:Int)| .xor=>k.wrap ((BitVec.ofInt k.bits x^^^ BitVec.ofInt k.bits y).toNat:Int)|_=>k.wrap ((BitVec.ofInt k.bits x&&& ~~~ BitVec.ofInt k.bits y).toNat:Int)
def iE(k:IntKind)(x y:Int):Int:=k.wrap (x*2^min y.toNat k.bits)
def bO(k:IntKind)(x y:Int):Int:=x.fdiv (2^min y.toNat k.bits)
def inb(i:Int)(n:Nat):Bool:=decide (0<=i)&&decide (i<(n:Int))
section
variable {R:Type}
def Ow(op:BinOp)(k:IntKind)(x y:Int)(K:PV->Option R):Option R:=match op with| .add=>K (.v ⟨.int k,k.wrap (x+y)⟩)| .sub=>K (.v ⟨.int k,k.wrap (x-y)⟩)| .mul=>K (.v ⟨.int k,k.wrap (x*y)⟩)| .quo=>bif decide (y=0)then none else K (.v ⟨.int k,k.wrap (x.tdiv y)⟩)| .rem=>bif decide (y=0)then none else K (.v ⟨.int k,x.tmod y⟩)| .and=>K (.v ⟨.int k,ay .and k x y⟩)| .or=>K (.v ⟨.int k,ay .or k x y⟩)| .xor=>K (.v ⟨.int k,ay .xor k x y⟩)| .andNot=>K (.v ⟨.int k,ay .andNot k x y⟩)| .eql=>K (.v ⟨.bool,x==y⟩)| .neq=>K (.v ⟨.bool,x !=y⟩)| .lss=>K (.v ⟨.bool,decide (x<y)⟩)| .leq=>K (.v ⟨.bool,decide (x<=y)⟩)| .gtr=>K (.v ⟨.bool,decide (x>y)⟩)| .geq=>K (.v ⟨.bool,decide (x>=y)⟩)|_=>none
def a6g:V->V->Option Bool|⟨.ptr _,.nil⟩,⟨.ptr _,.nil⟩=>some true|⟨.ptr _,.nil⟩,⟨.ptr _,.fz _⟩=>some false|⟨.ptr _,.nil⟩,⟨.ptr _,.rf _ _⟩=>some false|⟨.ptr _,.fz _⟩,⟨.ptr _,.nil⟩=>some false|⟨.ptr _,.rf _ _⟩,⟨.ptr _,.nil⟩=>some false|_,_=>none
def Ox(op:BinOp)(x y:ByteArray)(K:PV->Option R):Option R:=match op with| .add=>bif decide (((x.size+y.size:Nat):Int)>IntKind.i64.max)then none else K (.v ⟨.str,x++y⟩)| .eql=>K (.v ⟨.bool,sEq x y⟩)| .neq=>K (.v ⟨.bool,!sEq x y⟩)| .lss=>K (.v ⟨.bool,Op.bytesLess x.toList y.toList⟩)| .leq=>K (.v ⟨.bool,Op.bytesLess x.toList y.toList||sEq x y⟩)| .gtr=>K (.v ⟨.bool,!(Op.bytesLess x.toList y.toList||sEq x y)⟩)| .geq=>K (.v ⟨.bool,!Op.bytesLess x.toList y.toList⟩)|_=>none
def Sg(ti:List (Nat×TI))(T:TypeId):Bool:=
 match look ti T with
 |some i=>match i.desc with
  | .bool=>true
  |_=>false
 |none=>false
def Yc(ti:List (Nat×TI))(T:TypeId):Bool:=
 match look ti T with
 |some i=>match i.desc with
  | .map _ _=>true
  |_=>false
 |none=>false
def Xk:(t:Ty)->t.den->t.den->Option Bool| .mp,a,b=>bif a.isSome&&b.isSome then none else some (a.isNone&&b.isNone)|_,_,_=>none
def Yd(ti:List (Nat×TI))(T:TypeId):Bool:=
 match look ti T with
 |some i=>match i.desc with
  | .pointer _=>true
  |_=>false
 |none=>false
def M7(ti:List (Nat×TI))(op:BinOp)(T:TypeId)(x y:PV)(K:PV->Option R):Option R:=
 match x,y with
 | .v ⟨.int k,a⟩,.v ⟨.int k',b⟩=>
  match op with
  | .shl=>bif decide (b<0)then none else K (.v ⟨.int k,iE k a b⟩)
  | .shr=>bif decide (b<0)then none else K (.v ⟨.int k,bO k a b⟩)
  |_=>if k=k' then Ow op k a b K else none
 | .v ⟨.str,a⟩,.v ⟨.str,b⟩=>Ox op a b K
 | .v ⟨.bool,a⟩,.v ⟨.bool,b⟩=>bif Sg ti T then
   match op with
   | .eql=>K (.v ⟨.bool,a==b⟩)
   | .neq=>K (.v ⟨.bool,!(a==b)⟩)
   |_=>none
  else none
 | .v ⟨.ptr t,a⟩,.v ⟨.ptr u,b⟩=>bif Yd ti T then
   match a6g ⟨.ptr t,a⟩ ⟨.ptr u,b⟩,op with
   |some r,.eql=>K (.v ⟨.bool,r⟩)
   |some r,.neq=>K (.v ⟨.bool,!r⟩)
   |_,_=>none
  else none
 | .v x,.v y=>
  match look ti T with
  |some i=>if hx:x.1=i.ty then if hy:y.1=i.ty then
    bif i.ty.agg&&i.ty.flat then
     match op with
     | .eql=>K (.v ⟨.bool,eqF i.ty (hx▸x.2) (hy▸y.2)⟩)
     | .neq=>K (.v ⟨.bool,!eqF i.ty (hx▸x.2) (hy▸y.2)⟩)
     |_=>none
    else bif Yc ti T then
     match Xk i.ty (hx▸x.2) (hy▸y.2),op with
     |some r,.eql=>K (.v ⟨.bool,r⟩)
     |some r,.neq=>K (.v ⟨.bool,!r⟩)
     |_,_=>none
    else none
   else none else none
  |none=>none
 |_,_=>none
def Ye(op:UnOp)(x:PV)(K:PV->Option R):Option R:=match op,x with| .neg,.v ⟨.int k,n⟩=>K (.v ⟨.int k,k.wrap (0-n)⟩)| .xor,.v ⟨.int k,n⟩=>K (.v ⟨.int k,ay .xor k (if k.signed then-1 else k.max) n⟩)| .not,.v ⟨.bool,b⟩=>K (.v ⟨.bool,!b⟩)|_,_=>none
def chk(ti:List (Nat×TI))(T:TypeId)(y:V)(K:PV->Option R):Option R:=match look ti T with|some i=>bif (i.ty.agg==y.1.agg)&&Nat.beq i.ty.size y.1.size then K (.v (KN y))else none|none=>none
abbrev Heap:=Nat->Option PO
def dG:(t:Ty)->t.den->Bool
 | .int _,_=>true
 | .bool,_=>true
 | .str,_=>true
 | .unit,_=>true
 | .pair a b,x=>dG a x.1&&dG b x.2
 | .arr n t,f=>t.nr||a6f n λi=>dG t (f i)
 | .sl _,x=>match x with
  | .ms _ _ _ _=>false
  |_=>true
 | .ptr _,x=>match x with
  | .rf _ _=>false
  |_=>true
 | .fn,x=>match x with
  | .mk _ (_::_)=>false
  |_=>true
 | .sp _,_=>true
 | .mp,x=>match x with
  |none=>true
  |some _=>false
 | .st _,_=>true
def PO.get:PO->Path->Option V| .obj t x,p=>t.get x p| .row _ _ t n f,p=>(Ty.arr n t).get f p| .mp _ _ _,_=>none| .bag _ _ _ _,_=>none| .dead,_=>none
def spl:(t:Ty)->t.den->(t.den->Option R)->Option R| .pair a b,x,K=>bif a.flat&&b.flat then K x else spl a x.1 λy=>spl b x.2 λz=>K (y,z)| .sl t,x,K=>bif x.isMs then none else K (.fz x.len (x.fn t.zero))| .ptr t,x,K=>bif x.Te then none else bif x.isNil then K .nil else K (.fz (x.val t.zero))| .mp,x,K=>bif x.isSome then none else K none|t,x,K=>K x
def PO.shutRow:PO->Bool| .row sh _ _ _ _=>sh|_=>false
def rC(ti:List (Nat×TI))(T:TypeId)(a:PV)(h:Heap)(K:PV->Option R):Option R:=
 match a with
 | .v ⟨.ptr _,.rf id p⟩=>match h id with
  |some o=>match o.get p with
   |some y=>bif o.shutRow then spl y.1 y.2 λz=>chk ti T ⟨y.1,z⟩ K else chk ti T y K
   |none=>none
  |none=>none
 | .v ⟨.ptr t,.fz x⟩=>spl t x λy=>chk ti T ⟨t,y⟩ K
 |_=>none
def fO:(t:Ty)->t.den->List Nat->t.den×List Nat| .ptr _,_,i::l=>(.rf i [],l)| .ptr _,_,[]=>(.nil,[])| .pair a b,x,l=>(((fO a x.1 l).1,(fO b x.2 (fO a x.1 l).2).1),(fO b x.2 (fO a x.1 l).2).2)|_,x,l=>(x,l)
def qX:(t:Ty)->t.den->Option (List Nat)
 | .ptr _,x=>match x with
  | .rf i []=>some [i]
  |_=>none
 | .pair a b,x=>match qX a x.1,qX b x.2 with
  |some l,some r=>some (l++r)
  |_,_=>none
 |_,_=>some []
def RO:(l:List Ty)->lC l| []=>()|t::l=>(t.zero,RO l)
def ED:Ty->Bool| .ptr t=>t.nr| .pair a b=>ED a&&ED b|t=>t.nr
def ZF:TypeId:=133
def Ty.head:Ty->Option TypeId| .pair (.sp T) _=>some T| .pair (.pair (.sp _) _) _=>some ZF|_=>none
def Ty.spHead(t:Ty):Bool:=t.head.isSome
def PO.set(o:PO)(p:Path)(v:V):Option PO:=
 match o with
 | .obj t x=>bif t.spHead&&Nat.beq (t.off p) 0 then none else match t.at p with
  |some u=>match v.to u with
   |some y=>match t.set x p u y with
    |some z=>some (.obj t z)
    |none=>none
   |none=>none
  |none=>none
 | .row sh e t n f=>match(Ty.arr n t).at p with
  |some u=>match v.to u with
   |some y=>match(Ty.arr n t).set f p u y with
    |some z=>some (.row (sh&&(u.flat||dG u y)) e t n z)
    |none=>none
   |none=>none
  |none=>none
 | .mp _ _ _=>none
 | .bag _ _ _ _=>none
 | .dead=>none
abbrev Upd:=List (Nat×PO)
def qY(ti:List (Nat×TI))(T:TypeId)(a v:PV)(h:Heap)(K:PV->Upd->Option R):Option R:=
 match a,v with
 | .v ⟨.ptr _,.rf id p⟩,.v v=>match h id with
  |some o=>match o.get p,look ti T with
   |some y,some i=>bif Nat.beq i.ty.size y.1.size then
     match o.set p v with
     |some o'=>K .un [(id,o')]
     |none=>none
    else none
   |_,_=>none
  |none=>none
 |_,_=>none
def zh(t:Ty)(place:Nat->Path):List (Nat×PV)->t.den->Option t.den
 | [],x=>some x
 |(i,.v v)::l,x=>match t.at (place i)with
  |some u=>match v.to u with
   |some y=>match t.set x (place i) u y with
    |some z=>zh t place l z
    |none=>none
   |none=>none
  |none=>none
 |_::_,_=>none
def yx(ti:List (Nat×TI))(T:TypeId)(parts:List (Nat×PV))(K:PV->Option R):Option R:=
 match look ti T with
 |some i=>match i.desc with
  | .struct fs=>bif parts.isEmpty&&i.ty.spHead then K (.zr i.ty)else bif parts.all λp=>Nat.blt p.1 fs.size then
   match zh i.ty (qg fs.size) parts i.ty.zero with
   |some z=>K (.v ⟨i.ty,z⟩)
   |none=>none
   else none
  | .array n _=>bif parts.all λp=>Nat.blt p.1 n then
   match zh i.ty (λj=>[.X j]) parts i.ty.zero with
   |some z=>K (.v ⟨i.ty,z⟩)
   |none=>none
   else none
  |_=>none
 |none=>none
def jI(ti:List (Nat×TI))(T:TypeId)(x:PV)(j:Nat)(K:PV->Option R):Option R:=
 match look ti T with
 |some i=>match i.desc with
  | .struct fs=>bif Nat.blt j fs.size then
   match x with
   | .v ⟨.ptr t,.rf id p⟩=>if t=i.ty then
     match i.ty.at (qg fs.size j)with
     |some u=>K (.v ⟨.ptr u,.rf id (p++qg fs.size j)⟩)
     |none=>none
    else none
   | .v ⟨.ptr t,.fz x⟩=>if t=i.ty then
     match t.get x (qg fs.size j)with
     |some y=>K (.v ⟨.ptr y.1,.fz y.2⟩)
     |none=>none
    else none
   |_=>none
   else none
  |_=>none
 |none=>none
def yA(ti:List (Nat×TI))(T:TypeId)(x:PV)(j:Nat)(K:PV->Option R):Option R:=
 match look ti T,x with
 |some i,.v v=>match i.desc with
  | .struct fs=>bif Nat.blt j fs.size then
   if v.1=i.ty then
    match v.1.get v.2 (qg fs.size j)with
    |some y=>K (.v (KN y))
    |none=>none
   else none
   else none
  |_=>none
 |_,_=>none
def jJ(ti:List (Nat×TI))(T:TypeId)(x ix:PV)(K:PV->Option R):Option R:=
 match look ti T,ix with
 |some i,.v ⟨.int _,n⟩=>match i.desc,i.ty with
  | .array len _,.arr _ t=>match x with
   | .v ⟨.ptr u,.rf id p⟩=>if u=i.ty then bif inb n len then K (.v ⟨.ptr t,.rf id (p++[.X n.toNat])⟩)else none else none
   | .v ⟨.ptr (.arr m u),.fz f⟩=>if m=len/\u=t then bif inb n len then K (.v ⟨.ptr u,.fz (f n.toNat)⟩)else none else none
   |_=>none
  | .slice _,.sl t=>match x with
   | .v ⟨.sl u,.ms id p lo len⟩=>if u=t then bif inb n len then K (.v ⟨.ptr t,.rf id (p++[.X (lo+n.toNat)])⟩)else none else none
   | .v ⟨.sl u,.fz len f⟩=>if u=t then bif inb n len then K (.v ⟨.ptr u,.fz (f n.toNat)⟩)else none else none
   |_=>none
  |_,_=>none
 |_,_=>none
def yB(ti:List (Nat×TI))(T:TypeId)(x ix:PV)(K:PV->Option R):Option R:=
 match look ti T,ix with
 |some i,.v ⟨.int _,n⟩=>match i.desc,x with
  | .array len _,.v ⟨.arr m t,f⟩=>if i.ty= .arr m t/\m=len then bif inb n len then K (.v ⟨t,f n.toNat⟩)else none else none
  | .string,.v ⟨.str,s⟩=>bif inb n s.size then K (.v ⟨.int .u8,((s.data.toList.getD n.toNat 0).toNat:Int)⟩)else none
  |_,_=>none
 |_,_=>none
def pI(x:PV)(j:Nat)(K:PV->Option R):Option R:=
 match x with
 | .tup l=>match l[j]? with
  |some y=>K (.v y)
  |none=>none
 |_=>none
def bounds(n:Nat)(lo hi:Option PV)(K:Nat->Nat->Option R):Option R:=
 match hi with
 |none=>match lo with
  |none=>K 0 n
  |some (.v ⟨.int _,l⟩)=>bif decide (0<=l)&&decide (l<=(n:Int))then K l.toNat n else none
  |_=>none
 |some (.v ⟨.int _,h⟩)=>bif decide (0<=h)&&decide (h<=(n:Int))then
   match lo with
   |none=>K 0 h.toNat
   |some (.v ⟨.int _,l⟩)=>bif decide (0<=l)&&decide (l<=((h.toNat:Nat):Int))then K l.toNat h.toNat else none
   |_=>none
  else none
 |_=>none
def yC(ti:List (Nat×TI))(T:TypeId)(x:PV)(lo hi:Option PV)(K:PV->Option R):Option R:=
 match look ti T with
 |some i=>match i.desc,i.ty with
  | .array n _,.arr _ t=>match x with
   | .v ⟨.ptr u,.rf id p⟩=>if u=i.ty then bounds n lo hi λl h=>K (.v ⟨.sl t,.ms id p l (h-l)⟩)else none
   |_=>none
  | .slice _,.sl t=>match x with
   | .v ⟨.sl u,.ms id p o len⟩=>if u=t then bounds len lo hi λl h=>K (.v ⟨.sl u,.ms id p (o+l) (h-l)⟩)else none
   | .v ⟨.sl u,.fz len f⟩=>if u=t then bounds len lo hi λl h=>K (.v ⟨.sl u,.fz (h-l) λj=>f (l+j)⟩)else none
   |_=>none
  | .string,_=>match x with
   | .v ⟨.str,s⟩=>bounds s.size lo hi λl h=>K (.v ⟨.str,s.extract l h⟩)
   |_=>none
  |_,_=>none
 |none=>none
def sP(ti:List (Nat×TI))(T:TypeId)(x:PV)(K:PV->Option R):Option R:=
 match look ti T with
 |some i=>match i.desc,i.ty with
  | .array n _,.arr _ t=>match x with
   | .v ⟨.sl u,.ms id p lo len⟩=>if u=t then
     bif Nat.ble n len then K (.v ⟨.ptr (.arr n t),.rf id (p++[.S lo n])⟩)else none
    else none
   |_=>none
  |_,_=>none
 |none=>none
def lenOf:PV->Option Int| .v ⟨.sl _,.nil⟩=>some 0| .v ⟨.sl _,.fz n _⟩=>some (n:Int)| .v ⟨.sl _,.ms _ _ _ len⟩=>some (len:Int)| .v ⟨.str,s⟩=>some (s.size:Int)|_=>none
end
def a6h:Ty->Bool| .pair _ (.sl _)=>true|_=>false
structure Con where
 fp:List PV->Heap->List Nat×List Nat
 run: {R:Type} ->List PV->Heap->Nat->(PV->Upd->Nat->Option R)->Option R
structure Lp where
 run: {R:Type} ->DS->(Exit->DS->Option R)->Option R
structure Cx where
 ti:List (Nat×TI)
 con:List (Nat×Con)
 fns:List (Nat×Func×List (Nat×Lp))
 un:Nat
 frz:List TypeId:=[]
def DS.h(s:DS):Heap:=look s.hp
def DS.app(s:DS)(u:Upd)(n:Nat):DS:= { s with hp:=u++s.hp,nx:=s.nx+n }
section
variable {R:Type}
def DS.put(s:DS)(dst:Option Tmp)(pv:PV)(K:DS->Option R):Option R:=match dst with|none=>K s|some d=>bif Nat.blt d s.n then K { s with env:=(d,pv)::s.env } else none
def Si:List PV->Option (List (Ty×Nat×Path))
 | []=>some []
 | .v ⟨.ptr t,.rf id p⟩::l=>match Si l with
  |some r=>some ((t,id,p)::r)
  |none=>none
 |_=>none
abbrev K3(R:Type):=PV->Upd->Nat->Option R
def Bt(ti:List (Nat×TI))(T:TypeId)(d x:PV)(h:Heap)(K:K3 R):Option R:=
 match look ti T with
 |some i=>match i.desc with
  | .slice _=>match d,x with
   | .v ⟨.sl t,.ms id p lo len⟩,.v ⟨.sl u,.ms id' p' lo' len'⟩=>if u=t/\i.ty= .sl t then
    bif Nat.ble len 0||Nat.ble len' 0 then K (.v ⟨.int .i64,(0:Int)⟩) [] 0 else
    match h id,h id' with
    |some o,some o'=>match o'.get p' with
     |some ⟨.arr _ e,g⟩=>
      match o.set (p++[.S lo (min len' len)]) ⟨.arr (min len' len) e,λj=>g (lo'+j)⟩with
      |some z=>K (.v ⟨.int .i64,((min len' len:Nat):Int)⟩) [(id,z)] 0
      |none=>none
     |_=>none
    |_,_=>none
    else none
   |_,_=>none
  |_=>none
 |none=>none
def PO.blitB(o:PO)(p:Path)(lo n:Nat)(u:Ty)(g:Nat->u.den):Option PO:=
 match o with
 | .obj t x=>bif t.spHead then none else match t.get x p with
  |some ⟨.arr m t',f⟩=>if e:u=t' then
    match t.set x p (.arr m t') (sO f lo n (e▸g))with
    |some z=>some (.obj t z)
    |none=>none
   else none
  |_=>none
 | .row sh e0 t k f=>match p with
  | []=>if e:u=t then bif !sh||u.flat then some (.row sh e0 t k (sO f lo n (e▸g)))else none else none
  |_=>none
 |_=>none
def Ai(ti:List (Nat×TI))(T:TypeId)(d:PV)(u:Ty)(m:Nat)(g:Nat->u.den)(h:Heap)(K:K3 R):Option R:=
 match look ti T with
 |some i=>match i.desc with
  | .slice _=>match d with
   | .v ⟨.sl t,.ms id p lo len⟩=>if u=t/\i.ty= .sl t then
    bif Nat.ble len 0||Nat.ble m 0 then K (.v ⟨.int .i64,(0:Int)⟩) [] 0 else
    match h id with
    |some o=>match o.blitB p lo (min m len) u g with
     |some z=>K (.v ⟨.int .i64,((min m len:Nat):Int)⟩) [(id,z)] 0
     |none=>none
    |none=>none
    else none
   |_=>none
  |_=>none
 |none=>none
def Ty.key:Ty->Bool| .int _=>true| .str=>true|_=>false
def nH(k v:Ty):List (k.den×v.den)->k.den->Option v.den| [],_=>none|e::l,x=>bif eqF k x e.1 then some e.2 else nH k v l x
def M8(k v:Ty):List (k.den×v.den)->k.den->v.den->List (k.den×v.den)| [],x,y=>[(x,y)]|e::l,x,y=>bif eqF k x e.1 then(x,y)::l else e::M8 k v l x y
def Xl(ti:List (Nat×TI))(T:TypeId):Option (Ty×Ty):=
 match look ti T with
 |some i=>match i.desc with
  | .map kT vT=>match look ti kT,look ti vT with
   |some a,some b=>bif a.ty.key&&b.ty.flat then some (a.ty,b.ty)else none
   |_,_=>none
  |_=>none
 |none=>none
def ady(ti:List (Nat×TI))(T:TypeId):Option (Ty×Ty):=
 match look ti T with
 |some i=>match i.desc with
  | .map kT vT=>match look ti kT,look ti vT with
   |some a,some b=>some (a.ty,b.ty)
   |_,_=>none
  |_=>none
 |none=>none
def KO {v:Ty}(ok:Bool)(r:Option v.den)(K:PV->Option R):Option R:=bif ok then K (.tup [⟨v,r.getD v.zero⟩,⟨.bool,r.isSome⟩])else K (.v ⟨v,r.getD v.zero⟩)
def qE(ti:List (Nat×TI))(T:TypeId)(x ix:PV)(ok:Bool)(h:Heap)(K:PV->Option R):Option R:=
 match Xl ti T,ix with
 |some kv,.v ix=>match ix.to kv.1 with
  |some key=>match x with
   | .v ⟨.mp,none⟩=>KO (v:=kv.2) ok none K
   | .v ⟨.mp,some id⟩=>match h id with
    |some (.mp k v l)=>if e:k=kv.1/\v=kv.2 then KO (v:=v) ok (nH k v l (e.1▸key)) K else none
    |_=>none
   |_=>none
  |none=>none
 |_,_=>none
def jd(ti:List (Nat×TI))(T:TypeId)(x ix y:PV)(h:Heap)(K:PV->Upd->Option R):Option R:=
 match Xl ti T,ix,y with
 |some kv,.v ix,.v y=>match ix.to kv.1,y.to kv.2 with
  |some key,some val=>match x with
   | .v ⟨.mp,some id⟩=>match h id with
    |some (.mp k v l)=>if e:k=kv.1/\v=kv.2 then K .un [(id,.mp k v (M8 k v l (e.1▸key) (e.2▸val)))]else none
    |_=>none
   |_=>none
  |_,_=>none
 |_,_,_=>none
def midx(k v:Ty):List (k.den×v.den)->k.den->Nat| [],_=>0|e::l,x=>bif eqF k x e.1 then 0 else midx k v l x+1
def adz(k v:Ty)(l:List (k.den×v.den))(x:k.den):Bool:=(nH k v l x).isSome
def a6i(k v:Ty)(l:List (k.den×v.den))(x:k.den):List (k.den×v.den):=bif adz k v l x then l else l++[(x,v.zero)]
def a1Z(k v:Ty)(l:List (k.den×v.den))(i:Nat)(y:v.den):List (k.den×v.den):=l.modify i λe=>(e.1,y)
def jW(ti:List (Nat×TI))(T:TypeId)(x ix:PV)(h:Heap)(K:PV->Upd->Option R):Option R:=
 match Xl ti T,ix with
 |some kv,.v ix=>match ix.to kv.1 with
  |some key=>match x with
   | .v ⟨.mp,some id⟩=>match h id with
    |some (.mp k v l)=>if e:k=kv.1/\v=kv.2 then K (.tup [⟨v,(nH k v l (e.1▸key)).getD v.zero⟩,⟨.int .i64,(midx k v l (e.1▸key):Int)⟩]) [(id,.mp k v (a6i k v l (e.1▸key)))]else none
    |_=>none
   |_=>none
  |none=>none
 |_,_=>none
def gZ(ti:List (Nat×TI))(T:TypeId)(x st y:PV)(h:Heap)(K:PV->Upd->Option R):Option R:=
 match Xl ti T,st,y with
 |some kv,.v ⟨.int _,n⟩,.v y=>match y.to kv.2 with
  |some val=>match x with
   | .v ⟨.mp,some id⟩=>match h id with
    |some (.mp k v l)=>if e:v=kv.2 then bif inb n l.length then K .un [(id,.mp k v (a1Z k v l n.toNat (e▸val)))]else none else none
    |_=>none
   |_=>none
  |none=>none
 |_,_,_=>none
def bidx(k:Ty){α:Type}(l:List (k.den×α))(x:k.den):Nat:=midx k .unit (l.map λq=>(q.1,())) x
def R9(k t:Ty)(l:List (k.den×(t.den×lC (aQ t))))(x:k.den):List (k.den×(t.den×lC (aQ t))):=match l[bidx k l x]? with|some _=>l|none=>l++[(x,(t.zero,RO (aQ t)))]
def M9(ti:List (Nat×TI))(T:TypeId):Option (Ty×Ty):=
 match look ti T with
 |some i=>match i.desc with
  | .map kT vT=>match look ti kT,look ti vT with
   |some a,some b=>match b.ty with
    | .ptr t=>bif a.ty.key&&ED t&&Nat.ble (aQ t).length 7 then some (a.ty,t)else none
    |_=>none
   |_,_=>none
  |_=>none
 |none=>none
def vX:(l:List Ty)->lC l->Nat->List (Nat×PO)| [],_,_=>[]|t::l,y,i=>(i,.obj t y.1)::vX l y.2 (i+1)
def Aj(t:Ty)(y:t.den×lC (aQ t))(nx:Nat):List (Nat×PO):=
 (nx,.obj t (fO t y.1 (List.range' (nx+1) (aQ t).length)).1)::vX (aQ t) y.2 (nx+1)
def Sj(k t:Ty)(l:List (k.den×(t.den×lC (aQ t))))(key:k.den)(id nx:Nat)(K:K3 R):Option R:=match l[bidx k l key]? with|none=>K (.tup [⟨.ptr t,.nil⟩,⟨.bool,false⟩]) [] 0|some q=>K (.tup [⟨.ptr t,.rf nx []⟩,⟨.bool,true⟩]) (Aj t q.2 nx++[(id,.bag k t l (some (bidx k l key,nx)))]) (1+(aQ t).length)
def pJ(kt:Ty×Ty)(x ix:PV)(ok:Bool)(h:Heap)(nx:Nat)(K:K3 R):Option R:=
 match ix with
 | .v ix=>match ix.to kt.1 with
  |some key=>bif ok then match x with
   | .v ⟨.mp,none⟩=>K (.tup [⟨.ptr kt.2,.nil⟩,⟨.bool,false⟩]) [] 0
   | .v ⟨.mp,some id⟩=>match h id with
    |some (.bag k t l none)=>if e:k=kt.1/\t=kt.2 then Sj k t l (e.1▸key) id nx K else none
    |_=>none
   |_=>none
   else none
  |none=>none
 |_=>none
def qF(kt:Ty×Ty)(x ix y:PV)(h:Heap)(K:PV->Upd->Option R):Option R:=
 match ix,y with
 | .v ix,.v y=>match ix.to kt.1,y.to (.ptr kt.2)with
  |some key,some (.rf oid [])=>match x with
   | .v ⟨.mp,some id⟩=>match h id with
    |some (.bag k t l none)=>if e:k=kt.1/\t=kt.2 then K .un [(id,.bag k t (R9 k t l (e.1▸key)) (some (bidx k l (e.1▸key),oid)))]else none
    |_=>none
   |_=>none
  |_,_=>none
 |_,_=>none
def rX(ti:List (Nat×TI))(T:TypeId)(nx:Nat)(K:K3 R):Option R:=
 match M9 ti T with
 |some kt=>K (.v ⟨.mp,some nx⟩) [(nx,.bag kt.1 kt.2 [] none)] 1
 |none=>match ady ti T with
  |some kv=>K (.v ⟨.mp,some nx⟩) [(nx,.mp kv.1 kv.2 [])] 1
  |none=>none
def nW(fn:Fn)(first:List Operand)(caps:List PV)(K:PV->Option R):Option R:=match fn,first,Si caps with| .func f,[],some l=>K (.v ⟨.fn,.mk f l⟩)|_,_,_=>none
def Ma(x y:PV)(K:PV->Option R):Option R:=match x,y with| .v ⟨.int k,a⟩,.v ⟨.int k',b⟩=>if k=k' then K (.v ⟨.int k,if a<b then b else a⟩)else none|_,_=>none
def Mc(x y:PV)(K:PV->Option R):Option R:=match x,y with| .v ⟨.int k,a⟩,.v ⟨.int k',b⟩=>if k=k' then K (.v ⟨.int k,if b<a then b else a⟩)else none|_,_=>none
def Md(ti:List (Nat×TI))(T:TypeId)(x:PV)(K:PV->Option R):Option R:=
 match look ti T with
 |some i=>match i.desc with
  | .string=>match x with
   | .v ⟨.str,s⟩=>K (.v ⟨.int .i64,(s.size:Int)⟩)
   |_=>none
  | .slice _=>match x with
   | .v ⟨.sl t,y⟩=>match lenOf (.v ⟨.sl t,y⟩)with
    |some n=>K (.v ⟨.int .i64,n⟩)
    |none=>none
   |_=>none
  | .array n _=>K (.v ⟨.int .i64,(n:Int)⟩)
  |_=>none
 |none=>none
def rowOf(d:PV)(t:Ty)(e:TypeId)(h:Heap):Option (Bool×Nat×(Nat->t.den)×Upd):=
 match d with
 | .v ⟨.sl _,.nil⟩=>some (true,0,λ_=>t.zero,[])
 | .v ⟨.sl u,.ms id [] 0 len⟩=>match h id with
  |some (.row sh e' t' _ f)=>if ht:t'=t/\u=t then bif Nat.beq e' e then some (sh,len,ht.1▸f,[(id,.dead)])else none else none
  |_=>none
 |_=>none
def ZG:PO->Path->Bool| .row sh _ _ _ _,[]=>sh|_,_=>false
def sQ(x:PV)(t:Ty)(h:Heap):Option (Bool×Nat×(Nat->t.den)):=
 match x with
 | .v ⟨.sl _,.nil⟩=>some (true,0,λ_=>t.zero)
 | .v ⟨.sl u,.fz n f⟩=>if ht:u=t then some (true,n,ht▸f)else none
 | .v ⟨.sl u,.ms id p lo len⟩=>match h id with
  |some o=>match o.get p with
   |some ⟨.arr _ t',g⟩=>if ht:t'=t/\u=t then some (t.flat||ZG o p,len,λj=>(ht.1▸g:Nat->t.den) (lo+j))else none
   |_=>none
  |none=>none
 |_=>none
def bytesOf(n:Nat)(f:Nat->Int):ByteArray:=⟨((List.range n).map λi=>UInt8.ofNat (f i).toNat).toArray⟩
def strFn(s:ByteArray):Nat->Int:=λi=>((s.data.toList.getD i 0).toNat:Int)
def Oy(ti:List (Nat×TI))(e:TypeId):Bool:=
 match look ti e with
 |some i=>match i.desc with
  | .int .u8=>true
  |_=>false
 |none=>false
def kR(ti:List (Nat×TI))(src dst:TypeId)(x:PV)(h:Heap)(nx:Nat)(K:K3 R):Option R:=
 match look ti src,look ti dst with
 |some s,some i=>match s.desc,i.desc with
  | .int _,.int k'=>match x with
   | .v ⟨.int k,n⟩=>K (.v ⟨.int k',k'.wrap n⟩) [] 0
   |_=>none
  | .slice e,.string=>bif Oy ti e then match sQ x (.int .u8) h with
   |some (_,n,f)=>K (.v ⟨.str,bytesOf n f⟩) [] 0
   |none=>none
   else none
  | .string,.slice e=>bif Oy ti e then match x with
   | .v ⟨.str,s⟩=>bif Nat.ble s.size 9223372036854775807 then K (.v ⟨.sl (.int .u8),.ms nx [] 0 s.size⟩) [(nx,.row true e (.int .u8) s.size (strFn s))] 1 else none
   |_=>none
   else none
  |_,_=>none
 |_,_=>none
def glue {α:Type}(n:Nat)(f g:Nat->α):Nat->α:=λj=>bif Nat.blt j n then f j else g (j-n)
def iN(ti:List (Nat×TI))(T:TypeId)(d x:PV)(h:Heap)(nx:Nat)(K:K3 R):Option R:=
 match look ti T with
 |some i=>match i.desc,i.ty with
  | .slice e,.sl t=>match look ti e with
   |some ie=>if ie.ty=t then
    match rowOf d t e h,sQ x t h with
    |some (sh,n,f,u),some (sh',m,g)=>bif Nat.ble ((n+m)*ie.bytes) 140737488355328&&Nat.ble (n+m) 9223372036854775807 then
      K (.v ⟨.sl t,.ms nx [] 0 (n+m)⟩) ((nx,.row (sh&&sh') e t (n+m) (glue n f g))::u) 1 else none
    |_,_=>none
    else none
   |none=>none
  |_,_=>none
 |none=>none
def Dp(ti:List (Nat×TI))(T:TypeId)(l c:PV)(nx:Nat)(K:K3 R):Option R:=
 match look ti T with
 |some i=>match i.desc,i.ty with
  | .slice e,.sl t=>match look ti e with
   |some ie=>if ie.ty=t then
    match l,c with
    | .v ⟨.int _,l⟩,.v ⟨.int _,c⟩=>bif decide (0<=l)&&decide (l<=c)&&decide ((ie.bytes:Int)*c<=281474976710656)&&decide (c<=9223372036854775807)then
      K (.v ⟨.sl t,.ms nx [] 0 l.toNat⟩) [(nx,.row (!a6h t) e t l.toNat λ_=>t.zero)] 1 else none
    |_,_=>none
    else none
   |none=>none
  |_,_=>none
 |none=>none
def Bu(ti:List (Nat×TI))(ty:TypeId)(x:PV)(h:Heap)(K:PV->Option R):Option R:=
 match look ti ty with
 |some i=>match i.desc,x with
  | .pointer _,.v ⟨.sl _,.nil⟩=>K (.dp 0 0)
  | .pointer _,.v ⟨.sl _,.ms id [] 0 n⟩=>match h id with
   |some (.row _ _ _ _ _)=>K (.dp id n)
   |_=>none
  |_,_=>none
 |none=>none
def Bv(ti:List (Nat×TI))(T:TypeId)(x n:PV)(h:Heap)(K:PV->Upd->Option R):Option R:=
 match look ti T with
 |some i=>match i.desc,x,n with
  | .pointer e,.dp id n,.v ⟨.int .i64,m⟩=>bif decide (m=(n:Int))&&Nat.ble n 9223372036854775807 then
    match h id with
    |some (.row _ e' (.int .u8) _ f)=>bif Nat.beq e' e&&Oy ti e then K (.v ⟨.str,bytesOf n f⟩) [(id,.dead)]else none
    |_=>bif Nat.beq n 0 then K (.v ⟨.str,ByteArray.empty⟩) []else none
   else none
  |_,_,_=>none
 |none=>none
def Im(ti:List (Nat×TI))(e:TypeId):Bool:=
 match look ti e with
 |some i=>match i.desc with
  | .string=>true
  |_=>false
 |none=>false
def rY(C:Cx)(c:Callee)(args:List PV)(argTypes:List TypeId)(ty:TypeId)(h:Heap)(nx:Nat)(K:K3 R):Option R:=
 match c with
 | .builtin b=>match b,args,argTypes with
  | .len,[x],T::_=>Md C.ti T x λv=>K v [] 0
  | .unsafeSliceData,[x],_=>Bu C.ti ty x h λv=>K v [] 0
  | .unsafeString,[x,n],T::_=>Bv C.ti T x n h λv u=>K v u 0
  | .max,[x,y],_=>Ma x y λv=>K v [] 0
  | .min,[x,y],_=>Mc x y λv=>K v [] 0
  | .copy,[d,x],T::_=>match x with
   | .v ⟨.str,s⟩=>Ai C.ti T d (.int .u8) s.size (strFn s) h K
   |_=>Bt C.ti T d x h K
  | .append,[d,x],[T,T']=>if T=T' then iN C.ti T d x h nx K else match x with
   | .v ⟨.str,s⟩=>bif Im C.ti T' then iN C.ti T d (.v ⟨.sl (.int .u8),.fz s.size (strFn s)⟩) h nx K else none
   |_=>none
  |_,_,_=>none
 |_=>none
@[reducible] def k0 (K:K3 R):PV->Option R:=λv=>K v [] 0
def Fw(C:Cx)(o:Oper)(vl:Operand->PV)(h:Heap)(nx:Nat)(K:K3 R):Option R:=
 match o.op with
 | .move x| .assign x=>(k0 K) (vl x)
 | .pick c a b=>match vl c with
  | .v ⟨.bool,c⟩=>bif c then(k0 K) (vl a)else(k0 K) (vl b)
  |_=>none
 | .alloc T=>match look C.ti T with
  |some i=>K (.v ⟨.ptr i.ty,.rf nx []⟩) [(nx,.obj i.ty i.ty.zero)] 1
  |none=>none
 | .box T x=>match look C.ti T,vl x with
  |some i,.v v=>match v.to i.ty with
   |some y=>bif C.frz.any (Nat.beq T)then(bif dG i.ty y then K (.v ⟨.ptr i.ty,.fz y⟩) [] 1 else none)else bif i.ty.spHead then none else K (.v ⟨.ptr i.ty,.rf nx []⟩) [(nx,.obj i.ty y)] 1
   |none=>none
  |some i,.zr t=>if t=i.ty then bif C.frz.any (Nat.beq T)then none else K (.v ⟨.ptr i.ty,.rf nx []⟩) [(nx,.obj i.ty i.ty.zero)] 1 else none
  |_,_=>none
 | .build T parts=>yx C.ti T (parts.toList.map λp=>(p.1,vl p.2)) (k0 K)
 | .buildSlice T len parts=>match look C.ti T with
  |some i=>match i.desc,i.ty with
   | .slice e,.sl t=>match look C.ti e with
    |some ie=>if ht:ie.ty=t then
      match zh (.arr len t) (λj=>[.X j]) (parts.toList.map λp=>(p.1,vl p.2)) (λ_=>t.zero)with
      |some f=>bif Nat.ble (len*t.size) 16777216&&(parts.toList.map λp=>(p.1,vl p.2)).all (λp=>Nat.blt p.1 len)then(bif C.frz.any (Nat.beq T)then(bif t.flat then K (.v ⟨.sl t,.fz len f⟩) [] 1 else none)else K (.v ⟨.sl t,.ms nx [] 0 len⟩) [(nx,.row (dG (.arr len t) f) e t len f)] 1)else none
      |none=>none
     else none
    |none=>none
   |_,_=>none
  |none=>none
 | .load T a=>rC C.ti T (vl a) h (k0 K)
 | .store T a x=>qY C.ti T (vl a) (vl x) h λv u=>K v u 0
 | .nilCheck x=>match vl x with
  | .v ⟨.ptr t,.fz y⟩=>(k0 K) (.v ⟨.ptr t,.fz y⟩)
  | .v ⟨.ptr t,.rf id p⟩=>(k0 K) (.v ⟨.ptr t,.rf id p⟩)
  |_=>none
 | .binOp op T x y _=>M7 C.ti op T (vl x) (vl y) (k0 K)
 | .unOp op _ x=>Ye op (vl x) (k0 K)
 | .convert src dst x=>kR C.ti src dst (vl x) h nx K
 | .sliceToArrayPointer T x=>sP C.ti T (vl x) (k0 K)
 | .makeFunc fn first caps=>nW fn first.toList (caps.toList.map vl) (k0 K)
 | .slice T x lo hi mx=>match mx with
  |none=>yC C.ti T (vl x) (lo.map vl) (hi.map vl) (k0 K)
  |some _=>none
 | .fieldAddr T x j=>jI C.ti T (vl x) j (k0 K)
 | .field T x j=>yA C.ti T (vl x) j (k0 K)
 | .indexAddr T x i=>jJ C.ti T (vl x) (vl i) (k0 K)
 | .index T x i=>yB C.ti T (vl x) (vl i) (k0 K)
 | .extract x j=>pI (vl x) j (k0 K)
 | .makeSlice T l c=>Dp C.ti T (vl l) (vl c) nx K
 | .makeMap T r=>match r with
  |none=>rX C.ti T nx K
  |some _=>none
 | .lookup T x ix ok=>match M9 C.ti T with
  |some kt=>pJ kt (vl x) (vl ix) ok h nx K
  |none=>qE C.ti T (vl x) (vl ix) ok h (k0 K)
 | .mapUpdate T m k x=>match M9 C.ti T with
  |some kt=>qF kt (vl m) (vl k) (vl x) h λv u=>K v u 0
  |none=>jd C.ti T (vl m) (vl k) (vl x) h λv u=>K v u 0
 | .mapEntry T m k=>jW C.ti T (vl m) (vl k) h λv u=>K v u 0
 | .entryStore T m st x=>gZ C.ti T (vl m) (vl st) (vl x) h λv u=>K v u 0
 | .call c=>rY C c.callee (c.args.toList.map vl) c.argTypes.toList o.type h nx K
 |_=>none
def isStr:PV->Bool| .v ⟨.str,_⟩=>true|_=>false
def KP:PV->List Nat| .v ⟨.mp,some id⟩=>[id]|_=>[]
def yD:PV->List Nat| .v ⟨.sl _,.ms id _ _ _⟩=>[id]|_=>[]
def Wd(o:Oper)(vl:Operand->PV)(nx:Nat):List Nat×List Nat:=
 match o.op with
 | .alloc _| .box _ _| .buildSlice _ _ _| .makeSlice _ _ _| .makeMap _ _=>([],[nx])
 | .lookup _ m _ ok=>(KP (vl m),bif ok then(KP (vl m)).flatMap λid=>id::List.range' nx 8 else [])
 | .mapUpdate _ m _ _| .mapEntry _ m _| .entryStore _ m _ _=>(KP (vl m),KP (vl m))
 | .load _ a=>match vl a with
  | .v ⟨.ptr _,.rf id _⟩=>([id],[])
  |_=>([],[])
 | .store _ a _=>match vl a with
  | .v ⟨.ptr _,.rf id _⟩=>([id],[id])
  |_=>([],[])
 | .convert _ _ x=>(yD (vl x),bif isStr (vl x)then [nx]else [])
 | .call c=>match c.callee,c.args.toList.map vl with
  | .builtin .copy,[d,x]=>(yD d++yD x,yD d)
  | .builtin .append,[d,x]=>(yD d++yD x,nx::yD d)
  | .builtin .unsafeString,[.dp id _,_]=>([id],[id])
  | .builtin .unsafeSliceData,[x]=>(yD x,[])
  |_,_=>([],[])
 |_=>([],[])
def KQ(o:Oper)(vl:Operand->PV):Option (Nat×List PV):=
 match o.op with
 | .call c=>match c.callee with
  | .value f=>match vl f with
   | .v ⟨.fn,.mk f caps⟩=>some (f,c.args.toList.map vl++caps.map λc=>.v ⟨.ptr c.1,.rf c.2.1 c.2.2⟩)
   |_=>none
  |_=>none
 |_=>none
abbrev Fp:=List Nat×List Nat
abbrev Ak(R:Type):=Nat->List PV->DS->(PV->DS->Option R)->Option R
def clash(a b:Fp):Bool:=a.2.any (λi=>b.1.any (Nat.beq i)||b.2.any (Nat.beq i))||a.1.any (λi=>b.2.any (Nat.beq i))
def Io(o:Oper)(i:Nat):Bool:=o.after.toList.any λe=>Region.binds .any e&&Nat.beq e.on i
def ZH(o:Oper)(j:Nat):Bool:=o.after.toList.all λe=>!Region.binds .any e||Nat.blt e.on j
def aiG(o:Oper):Bool:=match o.op with| .select _ _=>false|_=>true
def Me(all:Array Oper):Nat->Oper->Nat->Bool
 |0,o,i=>Io o i
 |n+1,o,i=>Io o i||o.after.toList.any λe=>Region.binds .any e&&(Nat.blt i e.on&&(match all[e.on]? with
  |some p=>Me all n p i
  |none=>false))
def RP(all:Array Oper)(o:Oper)(fp:Fp):Nat->List (Oper×Fp)->Bool|_,[]=>true|i,x::l=>(Io o i||((Oper.apart all x.1 o&& !clash x.2 fp)||Me all 6 o i))&&RP all o fp (i+1) l
def a3U(all:Array Oper):Nat->List (Oper×Fp)->List (Oper×Fp)->Bool|_,_,[]=>true|j,done,x::rest=>ZH x.1 j&&aiG x.1&&RP all x.1 x.2 0 done&&a3U all (j+1) (done++[x]) rest
def KR(ops:List Oper)(tr:List Fp):Bool:=a3U ops.toArray 0 [] (ops.zip tr)
def uR(ops:List Oper)(j:Nat):Option Tmp:=(ops[j]?).bind (·.dst)
def Q5(C:Cx)(draw:Bool)(call:Ak R)(o:Oper)(s:DS)(K:DS->Fp->Option R):Option R:=
 match KQ o s.val with
 |some (f,args)=>match look C.con f with
  |some c=>c.run args s.h s.nx λpv u n=>(s.app u n).put o.dst pv λs'=>K s' ((c.fp args s.h).1,(c.fp args s.h).2++List.range' s.nx n)
  |none=>bif draw then none else call f args s λpv s'=>s'.put o.dst pv λs''=>K s'' ([],[])
 |none=>Fw C o s.val s.h s.nx λpv u n=>(s.app u n).put o.dst pv λs'=>K s' (Wd o s.val s.nx)
def Sk(o:Oper)(s:DS)(K:DS->Fp->Option R):Option R:=s.put o.dst (.tup []) λs'=>K s' ([],[])
def Cn(C:Cx)(draw:Bool)(call:Ak R)(all:List Oper):List Oper->List Fp->DS->(DS->Option R)->Option R
 | [],tr,s,K=>bif draw then(bif KR all tr then K s else none)else K s
 |o::rest,tr,s,K=>
  match o.guard with
  |none=>Q5 C draw call o s λs' fp=>Cn C draw call all rest (tr++[fp]) s' K
  |some (j,want)=>match uR all j with
   |none=>none
   |some t=>match look s.env t with
    |some (.v ⟨.bool,b⟩)=>
     bif b then
      let s1:= { s with env:=(t,.v ⟨.bool,true⟩)::s.env }
      bif want then Q5 C draw call o s1 λs' fp=>Cn C draw call all rest (tr++[fp]) s' K
      else Sk o s1 λs' fp=>Cn C draw call all rest (tr++[fp]) s' K
     else
      let s1:= { s with env:=(t,.v ⟨.bool,false⟩)::s.env }
      bif want then Sk o s1 λs' fp=>Cn C draw call all rest (tr++[fp]) s' K
      else Q5 C draw call o s1 λs' fp=>Cn C draw call all rest (tr++[fp]) s' K
    |some (.tup [])=>Sk o s λs' fp=>Cn C draw call all rest (tr++[fp]) s' K
    |_=>none
def a3V(f:DS->(Exit->DS->Option R)->Option R):Nat->DS->(Exit->DS->Option R)->Option R
 |0,_,_=>none
 |n+1,s,K=>f s λe s'=>match e with
  | .normal=>a3V f n s' K
  |e=>K e s'
def wJ(C:Cx)(lps:List (Nat×Lp))(call:Ak R):Code->DS->(Exit->DS->Option R)->Option R
 | .skip,s,K=>K .normal s
 | .label _,s,K=>K .normal s
 | .exit id,s,K=>K (.exit id) s
 | .ret,s,K=>K .ret s
 | .seq a b,s,K=>wJ C lps call a s λe s'=>match e with
  | .normal=>wJ C lps call b s' K
  |e=>K e s'
 | .cond c x y,s,K=>match s.val c with
  | .v ⟨.bool,b⟩=>bif b then wJ C lps call x s K else wJ C lps call y s K
  |_=>none
 | .block id body,s,K=>match look lps id with
  |some lp=>lp.run s K
  |none=>wJ C lps call body s λe s'=>match e with
   | .exit id'=>bif Nat.beq id' id then K .normal s' else K (.exit id') s'
   |e=>K e s'
 | .loop body,s,K=>a3V (wJ C lps call body) C.un s K
 | .scope c,s,K=>wJ C lps call c s λe s'=>match e with
  | .goto _=>none
  |e=>K e s'
 | .region _ ops draw,s,K=>Cn C draw call ops.toList ops.toList [] s (K .normal)
 |_,_,_=>none
def adA(C:Cx)(s:DS):ResultVar->(V->Option R)->Option R
 | .tmp t,K=>match look s.env t with
  |some (.v v)=>K v
  |_=>none
 | .cell a T,K=>match look s.env a with
  |some pv=>rC C.ti T pv s.h λ
   | .v v=>K v
   |_=>none
  |none=>none
def ZI(C:Cx)(s:DS):List ResultVar->(List V->Option R)->Option R| [],K=>K []|r::l,K=>adA C s r λv=>ZI C s l λvs=>K (v::vs)
def Ra:List V->PV| [v]=>.v v|l=>.tup l
def numbered:Nat->List PV->List (Nat×PV)|_,[]=>[]|i,x::l=>(i,x)::numbered (i+1) l
def dJ(C:Cx)(lps:List (Nat×Lp))(call:Ak R)(fn:Func)(args:List PV)(hp:List (Nat×PO))(nx:Nat)(K:PV->DS->Option R):Option R:=
 match fn.body with
 |some c=>wJ C lps call c { env:=numbered 0 args,hp:=hp,nx:=nx,n:=fn.ntmps } λe s'=>match e with
  | .normal| .ret=>ZI C s' fn.results.toList λvs=>K (Ra vs) s'
  |_=>none
 |none=>none
def fD(C:Cx):Nat->Ak R
 |0=>λ_ _ _ _=>none
 |d+1=>λf args s K=>match look C.fns f with
  |some (fn,lps)=>dJ C lps (fD C d) fn args s.hp s.nx λpv s'=>K pv { s with hp:=s'.hp,nx:=s'.nx }
  |none=>none
end
structure Base where
 w:World
 may:Nat->Prop:=λ_=>False
def VR(ρ:Rho)(w:World)(x:V)(v:Value):Prop:= ∃cs,Rd ρ w x.1 x.2 cs/\v=mkV x.1 cs
def VRs(ρ:Rho)(w:World):List V->List Value->Prop| [],[]=>True|x::l,v::vs=>VR ρ w x v/\VRs ρ w l vs|_,_=>False
def VP(ρ:Rho)(w:World):PV->Value->Prop| .un,_=>True| .v x,v=>VR ρ w x v| .dp id n,v=> ∃p,v= .pointer p/\(0<n-> ∃loc m t,ρ id=some loc/\loc.ty= .arr m t/\n<=m/\p=some ⟨loc.blk,0,none⟩)| .tup l,v=> ∃vs:List Value,v= .tuple vs.toArray/\VRs ρ w l vs| .zr t,v=>v=mkV t t.zcells
def Rho.at(ρ:Rho)(sh:Bool):Rho:=bif sh then ρ.shut else ρ
def kK(w:World)(b:Nat)(l:List Value)(e:TypeId)(t:Ty:=.int .u8):Prop:= ∃fr:Nat×Nat,w.heap[b]?=some (.cells l.toArray e fr)/\(fr=(0,0)\/(l.length<=fr.1/\t= .int .u8))
theorem kK.of {w:World}{b:Nat}{l:List Value}{e:TypeId}{t:Ty}(h:w.heap[b]?=some (.cells l.toArray e (0,0))):kK w b l e t:=⟨_,h,.inl rfl⟩
theorem kK.weak {w:World}{b:Nat}{l:List Value}{e:TypeId}{t:Ty}(h:kK w b l e t):kK w b l e:=let⟨fr,h1,h2⟩:=h;⟨fr,h1,h2.imp_right λh=>⟨h.1,rfl⟩⟩
theorem kK.eq {w:World}{b:Nat}{l l':List Value}{e:TypeId}{t:Ty}(h:kK w b l e t)(el:l=l'):kK w b l' e t:=el▸h
theorem kK.trans {w w':World}{b:Nat}{l:List Value}{e:TypeId}{t:Ty}(hb:w'.heap[b]?=w.heap[b]?)(h:kK w b l e t):kK w' b l e t:=let⟨fr,h1,h2⟩:=h;⟨fr,hb.trans h1,h2⟩
theorem kK.lt {w:World}{b:Nat}{l:List Value}{e:TypeId}{t:Ty}(h:kK w b l e t):b<w.heap.size:=by obtain⟨fr,h,_⟩:=h;exact(ayl.1 h).1
theorem kK.cell {w:World}{b:Nat}{l:List Value}{e:TypeId}{t:Ty}(h:kK w b l e t)(j:Nat):w.cell? ⟨b,j,none⟩=l[j]?:=by obtain⟨fr,h,_⟩:=h;simp[World.cell?,h]
def a2a(t:Ty)(b:Nat)(T:TypeId)(cs:List Value):Prop:= ∀T0,t.head=some T0->T=T0/\ ∀v,cs[0]?=some v->v= .pointer none\/v= .pointer (some ⟨b,0,none⟩)
def MpR(ρ:Rho)(w:World)(k v:Ty)(l:List (k.den×v.den))(es:List MapEntry):Prop:=
 l.length=es.length/\ ∀(j:Nat) q e,l[j]?=some q->es[j]?=some e->(∃c,Rd ρ w k q.1 c/\e.key=mkV k c)/\(∃c,Rd ρ w v q.2 c/\e.val=mkV v c)/\e.born=j
theorem MpR.keeps {ρ ρ':Rho}{w w':World}(L:Keeps ρ w ρ' w'){k v:Ty}{l:List (k.den×v.den)}{es:List MapEntry}(h:MpR ρ w k v l es):MpR ρ' w' k v l es:=
 ⟨h.1,λj q e hq he=>let⟨⟨c,h1,h2⟩,⟨d,h3,h4⟩,h5⟩:=h.2 j q e hq he;⟨⟨c,h1.keeps L,h2⟩,⟨d,h3.keeps L,h4⟩,h5⟩⟩
def OR(ρ:Rho)(w:World)(loc:Loc):PO->Prop
 | .obj t x=>loc.ty=t/\ρ.W loc.blk/\ ∃cs T,Rd ρ w t x cs/\w.heap[loc.blk]?=some (.cells cs.toArray T (0,0))/\a2a t loc.blk T cs
 | .row sh e t n f=>loc.ty= .arr n t/\ρ.W loc.blk/\ ∃(cs sp:List Value),Rd (ρ.at sh) w (.arr n t) f cs/\kK w loc.blk (cs++sp) e t/\
   ∃cap,loc.cap=some cap/\(cs++sp).length=cap*t.size/\n<=cap/\cap<=9223372036854775807
 | .mp k v l=>loc.ty= .mp/\ρ.W loc.blk/\ ∃es,MpR ρ.shut w k v l es/\w.heap[loc.blk]?=some (.map es.toArray es.length)
 | .bag k t l out=>loc.ty= .mp/\ρ.W loc.blk
 | .dead=>True
def PO.idle(o:PO)(l:Option Loc):Prop:=o= .dead\/(l=none/\ ∃sh e t f,o= .row sh e t 0 f)
structure adB(B:Base)(w:World):Prop where
 os:w.os=B.w.os
 tape:w.tape=B.w.tape
 output:w.output=B.w.output
 froz: ∀a,a.block<B.w.heap.size-> ¬B.may a.block->w.frozen? a=B.w.frozen? a
 size:B.w.heap.size<=w.heap.size
def PO.isBag:PO->Bool| .bag _ _ _ _=>true|_=>false
def Yf(ρ:Rho)(ts:List Ty)(bs:List Nat):Rho:=
 ⟨λi=>match ts[i]?,bs[i]? with
  |some t,some b=>some ⟨b,t,none⟩
  |_,_=>none,λ_=>False,ρ.A,λ_ h=>h.elim⟩
def Xm(ρ:Rho)(w:World)(t:Ty)(x:t.den)(b:Nat):Prop:= ∃cs T,Rd ρ w t x cs/\w.heap[b]?=some (.cells cs.toArray T (0,0))
def zi(ρ:Rho)(w:World):(l:List Ty)->lC l->List Nat->Prop| [],_,[]=>True|t::l,y,b::bs=>Xm ρ.shut w t y.1 b/\zi ρ w l y.2 bs|_,_,_=>False
def Small(ρ:Rho)(w:World)(t:Ty)(y:t.den×lC (aQ t))(bs:List Nat)(v:Value):Prop:=
 ∃b0 bs',bs=b0::bs'/\bs.Nodup/\v= .pointer (some ⟨b0,0,none⟩)/\Xm (Yf ρ (aQ t) bs') w t (fO t y.1 (List.range (aQ t).length)).1 b0/\zi ρ w (aQ t) y.2 bs'
def Al(ρ:Rho)(w:World)(t:Ty)(out:Option (Nat×Nat))(j:Nat)(y:t.den×lC (aQ t))(bs:List Nat)(v:Value):Prop:=match out with|some (j',oid)=>if j'=j then bs=[]/\ ∃loc,ρ oid=some loc/\loc.ty=t/\loc.cap=none/\v= .pointer (some ⟨loc.blk,0,none⟩)else Small ρ w t y bs v|none=>Small ρ w t y bs v
structure KS(ρ:Rho)(w:World)(blk:Nat)(k t:Ty)(l:List (k.den×(t.den×lC (aQ t))))(out:Option (Nat×Nat))(F:Nat->Prop):Prop where
 ok:ED t=true
 ex: ∃(es:List MapEntry) (G:Nat->List Nat),w.heap[blk]?=some (.map es.toArray es.length)/\l.length=es.length/\
  (∀(j:Nat) q e,l[j]?=some q->es[j]?=some e->(∃c,Rd ρ.shut w k q.1 c/\e.key=mkV k c)/\e.born=j/\Al ρ w t out j q.2 (G j) e.val)/\
  (∀j b,b∈G j->F b)/\ ∀j j' b,b∈G j->b∈G j'->j=j'
structure Wi(ρ:Rho)(hp:List (Nat×PO))(w:World)(F:Nat->Nat->Prop):Prop where
 val: ∀id k t l out loc,look hp id=some (.bag k t l out)->ρ id=some loc->KS ρ w loc.blk k t l out (F id)
 own: ∀id o loc b,look hp id=some o->o.isBag=true->ρ id=some loc->F id b->ρ.W b/\b<w.heap.size
 dis: ∀id o loc b id' o' loc',look hp id=some o->o.isBag=true->ρ id=some loc->F id b->look hp id'=some o'->o'≠ .dead->ρ id'=some loc'->loc'.blk≠b
 sep: ∀id id' o o' loc loc' b,look hp id=some o->o.isBag=true->ρ id=some loc->look hp id'=some o'->o'.isBag=true->ρ id'=some loc'->F id b->F id' b->id=id'
theorem adC {ρ ρ':Rho}(hA:ρ'.A=ρ.A)(ts:List Ty)(bs:List Nat):Yf ρ' ts bs=Yf ρ ts bs:=by unfold Yf;congr 1
theorem zi.re {ρ ρ':Rho}{w:World}(hs:ρ'.shut=ρ.shut): ∀ {l:List Ty} {y:lC l} {bs:List Nat},zi ρ w l y bs->zi ρ' w l y bs
 | [],_,[],_=>trivial
 |t::l,y,b::bs,h=>⟨by rw[hs];exact h.1,zi.re hs h.2⟩
 | [],_,_::_,h=>h.elim
 |_::_,_,[],h=>h.elim
theorem KS.re {ρ ρ':Rho}{w:World}(hA:ρ'.A=ρ.A){blk:Nat}{k t:Ty}{l:List (k.den×(t.den×lC (aQ t)))}{out out':Option (Nat×Nat)}{F:Nat->Prop}
  (hup: ∀j oid,out=some (j,oid)-> ∃oid',out'=some (j,oid')/\ ∀loc,ρ oid=some loc->ρ' oid'=some loc) (hno:out=none->out'=none) (h:KS ρ w blk k t l out F):KS ρ' w blk k t l out' F:=by
 obtain⟨h0,es,G,h1,h2,h3,h4,h5⟩:=h;have hs:ρ'.shut=ρ.shut:=by unfold Rho.shut;congr 1
 have hsm: ∀ {y bs v},Small ρ w t y bs v->Small ρ' w t y bs v:=by intro y bs v ⟨b0,bs',e,g1,g2,g3,g4⟩;exact⟨b0,bs',e,g1,g2,by rw[adC hA];exact g3,g4.re hs⟩
 refine⟨h0,es,G,h1,h2,λj q e hq he=>?_,h4,h5⟩;obtain⟨⟨c,h6,h7⟩,h8,h9⟩:=h3 j q e hq he;refine⟨⟨c,by rw[hs];exact h6,h7⟩,h8,?_⟩;cases out with
 |none=>rw[hno rfl];exact hsm h9
 |some r=>
  obtain⟨j',oid⟩:=r;obtain⟨oid',e',hl⟩:=hup j' oid rfl;rw[e'];unfold Al at h9⊢;simp only at h9⊢;split
  ·rename_i e1;rw[awQ e1]at h9;obtain⟨g1,loc,g2,g3⟩:=h9;exact⟨g1,loc,hl loc g2,g3⟩
  ·rename_i e1;rw[awG e1]at h9;exact hsm h9
theorem KS.mono {ρ:Rho}{w:World}{blk:Nat}{k t:Ty}{l:List (k.den×(t.den×lC (aQ t)))}{out:Option (Nat×Nat)}{F F':Nat->Prop}(h:KS ρ w blk k t l out F)(hf: ∀b,F b->F' b):KS ρ w blk k t l out F':=
 let⟨es,G,h1,h2,h3,h4,h5⟩:=h.ex
 ⟨h.ok,es,G,h1,h2,h3,λj b hb=>hf b (h4 j b hb),h5⟩
theorem Wi.free {ρ:Rho}{hp:List (Nat×PO)}{w:World}(h: ∀id o,look hp id=some o->o.isBag=false): ∃F,Wi ρ hp w F:=by
 have no: ∀ {id:Nat} {o:PO},look hp id=some o->o.isBag=true->False:=λh1 h2=>by rw[h _ _ h1]at h2;cases h2
 exact⟨λ_ _=>False,⟨λid k t l out loc h1 _=>(no h1 rfl).elim,λid o loc b h1 h2 _ _=>(no h1 h2).elim,λid o loc b id' o' loc' h1 h2 _ _ _ _ _=>(no h1 h2).elim,λid id' o o' loc loc' b h1 h2 _ _ _ _ _ _=>(no h1 h2).elim⟩⟩
theorem PO.bag_ne {o:PO}(h:o.isBag=true):o≠ .dead:=by intro e;subst e;cases h
theorem a2b {ρ ρ':Rho}{w w':World}(L:Keeps ρ w ρ' w')(ts:List Ty)(bs:List Nat):Keeps (Yf ρ ts bs) w (Yf ρ' ts bs) w':=⟨L.size,λ_ _ h=>h,L.downA,L.keep⟩
theorem Xm.keeps {ρ ρ':Rho}{w w':World}(L:Keeps ρ w ρ' w'){t:Ty}{x:t.den}{b:Nat}(hb:w'.heap[b]?=w.heap[b]?)(h:Xm ρ w t x b):Xm ρ' w' t x b:=
 let⟨cs,T,h1,h2⟩:=h
 ⟨cs,T,h1.keeps L,hb.trans h2⟩
theorem zi.keeps {ρ ρ':Rho}{w w':World}(L:Keeps ρ w ρ' w'): ∀ {l:List Ty} {y:lC l} {bs:List Nat},(∀b∈bs,w'.heap[b]?=w.heap[b]?)->zi ρ w l y bs->zi ρ' w' l y bs
 | [],_,[],_,_=>trivial
 |t::l,y,b::bs,hb,h=>⟨h.1.keeps L.shut (hb b (ax9 ..)),zi.keeps L (λb hm=>hb b (ax8 _ hm)) h.2⟩
 | [],_,_::_,_,h=>h.elim
 |_::_,_,[],_,h=>h.elim
theorem Small.keeps {ρ ρ':Rho}{w w':World}(L:Keeps ρ w ρ' w'){t:Ty}{y:t.den×lC (aQ t)}{bs:List Nat}{v:Value}(hb: ∀b∈bs,w'.heap[b]?=w.heap[b]?)(h:Small ρ w t y bs v):Small ρ' w' t y bs v:=by obtain⟨b0,bs',rfl,h1,h2,h3,h4⟩:=h;exact⟨b0,bs',rfl,h1,h2,h3.keeps (a2b L _ _) (hb b0 (ax9 ..)),h4.keeps L λb hm=>hb b (ax8 _ hm)⟩
theorem Al.keeps {ρ ρ':Rho}{w w':World}(L:Keeps ρ w ρ' w'){t:Ty}{out:Option (Nat×Nat)}{j:Nat}{y:t.den×lC (aQ t)}{bs:List Nat}{v:Value}(hb: ∀b∈bs,w'.heap[b]?=w.heap[b]?)(h:Al ρ w t out j y bs v):Al ρ' w' t out j y bs v:=by
 unfold Al at h⊢;cases out with
 |none=>exact Small.keeps L hb h
 |some q=>
  obtain⟨j',oid⟩:=q;simp only at h⊢;split
  ·rename_i e;rw[awQ e]at h;obtain⟨h1,loc,h2,h3⟩:=h;exact⟨h1,loc,L.up _ _ h2,h3⟩
  ·rename_i e;rw[awG e]at h;exact Small.keeps L hb h
theorem KS.keeps {ρ ρ':Rho}{w w':World}(L:Keeps ρ w ρ' w'){blk:Nat}{k t:Ty}{l:List (k.den×(t.den×lC (aQ t)))}{out:Option (Nat×Nat)}{F:Nat->Prop}(hblk:w'.heap[blk]?=w.heap[blk]?)(hb: ∀b,F b->w'.heap[b]?=w.heap[b]?)(h:KS ρ w blk k t l out F):KS ρ' w' blk k t l out F:=by obtain⟨h0,es,G,h1,h2,h3,h4,h5⟩:=h;refine⟨h0,es,G,hblk.trans h1,h2,λj q e hq he=>?_,h4,h5⟩;obtain⟨⟨c,h6,h7⟩,h8,h9⟩:=h3 j q e hq he;exact⟨⟨c,h6.keeps L.shut,h7⟩,h8,h9.keeps L λb hm=>hb b (h4 j b hm)⟩
theorem Wi.step {ρ ρ':Rho}{w w':World}{hp hp':List (Nat×PO)}{F:Nat->Nat->Prop}(h:Wi ρ hp w F)(L:Keeps ρ w ρ' w')
  (hold: ∀id o loc',look hp' id=some o->o.isBag=true->ρ' id=some loc'->look hp id=some o/\ ∃loc,ρ id=some loc/\loc.blk=loc'.blk)
  (hblk: ∀id o loc,look hp id=some o->o.isBag=true->ρ id=some loc->look hp' id=some o->w'.heap[loc.blk]?=w.heap[loc.blk]?)
  (hk: ∀id o loc b,look hp id=some o->o.isBag=true->ρ id=some loc->F id b->w'.heap[b]?=w.heap[b]?/\ρ'.W b)
  (hn: ∀id' o' loc',look hp' id'=some o'->o'≠ .dead->ρ' id'=some loc'->w.heap.size<=loc'.blk\/ ∃id0 o0 loc0,look hp id0=some o0/\o0≠ .dead/\ρ id0=some loc0/\loc0.blk=loc'.blk):Wi ρ' hp' w' F where
 val id k t l out loc h1 h2:=by obtain⟨h3,loc0,h4,h5⟩:=hold id _ loc h1 rfl h2;rw[<-h5];exact(h.val id k t l out loc0 h3 h4).keeps L (hblk id _ loc0 h3 rfl h4 h1) λb hb=>(hk id _ loc0 b h3 rfl h4 hb).1
 own id o loc b h1 h2 h3 h4:=by obtain⟨h5,loc0,h6,h7⟩:=hold id o loc h1 h2 h3;exact⟨(hk id o loc0 b h5 h2 h6 h4).2,awU (h.own id o loc0 b h5 h2 h6 h4).2 L.size⟩
 dis id o loc b id' o' loc' h1 h2 h3 h4 h5 h6 h7:=by
  obtain⟨h8,loc0,h9,h10⟩:=hold id o loc h1 h2 h3;rcases hn id' o' loc' h5 h6 h7 with e|⟨id0,o0,loc1,g1,g2,g3,g4⟩
  ·have:=(h.own id o loc0 b h8 h2 h9 h4).2;omega
  ·rw[<-g4];exact h.dis id o loc0 b id0 o0 loc1 h8 h2 h9 h4 g1 g2 g3
 sep id id' o o' loc loc' b h1 h2 h3 h4 h5 h6 h7 h8:=by obtain⟨g1,loc0,g2,_⟩:=hold id o loc h1 h2 h3;obtain⟨g3,loc1,g4,_⟩:=hold id' o' loc' h4 h5 h6;exact h.sep id id' o o' loc0 loc1 b g1 h2 g2 g3 h5 g4 h7 h8
structure aJ(B:Base)(ρ:Rho)(s:DS)(a:Act)(w:World):Prop where
 defers:a.defers=[]
 tmps:s.n<=a.tmps.size
 env: ∀t pv,look s.env t=some pv-> ∃v,a.tmps[t]?=some v/\VP ρ w pv v
 obj: ∀id o,look s.hp id=some o->o.idle (ρ id)\/ ∃loc,ρ id=some loc/\OR ρ w loc o
 inj: ∀id id' o o' loc loc',look s.hp id=some o->look s.hp id'=some o'->o≠ .dead->o'≠ .dead->ρ id=some loc->ρ id'=some loc'->loc.blk=loc'.blk->id=id'
 own: ∀id loc,ρ id=some loc->loc.blk<w.heap.size
 ownA: ∀b,ρ.A b->b<w.heap.size
 base:adB B w
 may: ∀b,ρ.W b->B.may b\/B.w.heap.size<=b
 hid: ∃F,Wi ρ s.hp w F
theorem aJ.live {B:Base}{ρ:Rho}{s:DS}{a:Act}{w:World}(h:aJ B ρ s a w){id:Nat}{o:PO}{loc:Loc}(ho:look s.hp id=some o)(hd:o≠ .dead)(hl:ρ id=some loc):OR ρ w loc o:=by
 rcases h.obj id o ho with(h|⟨h,_⟩)|⟨loc',h1,h2⟩
 ·exact absurd h hd
 ·rw[hl]at h;cases h
 ·rw[hl]at h1;cases h1;exact h2
theorem ZJ {w:World}{b:Nat}{c:Array Value}{T:TypeId}(h:w.heap[b]?=some (.cells c T (0,0)))(a:Addr)(ha:a.block=b):w.frozen? a=false:=by subst ha;simp only[World.frozen?,h];simp
theorem FB {w w':World}(b:Nat)(hk: ∀b',b'≠b->w'.heap[b']?=w.heap[b']?)(h: ∀a,a.block=b->w'.frozen? a=w.frozen? a)(a:Addr):w'.frozen? a=w.frozen? a:=by
 by_cases e:a.block=b
 ·exact h a e
 ·simp only[World.frozen?,hk _ e]
theorem wK {w w':World}{b:Nat}{c c':Array Value}{T T':TypeId}{fr:Nat×Nat}(h:w.heap[b]?=some (.cells c T fr))(h':w'.heap[b]?=some (.cells c' T' fr))(a:Addr)(ha:a.block=b):w'.frozen? a=w.frozen? a:=by subst ha;simp only[World.frozen?,h,h']
theorem Sl {w w':World}{b:Nat}{c c':Array MapEntry}{n n':Nat}(h:w.heap[b]?=some (.map c n))(h':w'.heap[b]?=some (.map c' n'))(a:Addr)(ha:a.block=b):w'.frozen? a=w.frozen? a:=by subst ha;simp only[World.frozen?,h,h']
theorem OR.writes {ρ:Rho}{w:World}{loc:Loc}{o:PO}(h:OR ρ w loc o)(hd:o≠ .dead):ρ.W loc.blk:=by
 cases o with
 |obj t x=>exact h.2.1
 |row sh e t n f=>exact h.2.1
 |mp k v l=>exact h.2.1
 |bag k t l out=>exact h.2
 |dead=>exact absurd rfl hd
theorem Keeps.at {ρ ρ':Rho}{w w':World}(L:Keeps ρ w ρ' w')(sh:Bool):Keeps (ρ.at sh) w (ρ'.at sh) w':=by
 cases sh
 ·exact L
 ·exact L.shut
theorem Rd.openAt {sh:Bool}{t:Ty}{ρ:Rho}{w:World}{x:t.den}{cs:List Value}(h:Rd (ρ.at sh) w t x cs):Rd ρ w t x cs:=by
 cases sh
 ·exact h
 ·exact h.openIn
theorem VR.later {ρ ρ':Rho}{w w':World}(L:Later ρ w ρ' w'){x:V}{v:Value}(h:VR ρ w x v):VR ρ' w' x v:=
 let⟨cs,h1,h2⟩:=h
 ⟨cs,h1.later L,h2⟩
theorem VRs.later {ρ ρ':Rho}{w w':World}(L:Later ρ w ρ' w'): ∀ {l:List V} {vs:List Value},VRs ρ w l vs->VRs ρ' w' l vs
 | [],[],_=>trivial
 |_::_,_::_,h=>⟨h.1.later L,VRs.later L h.2⟩
theorem VP.later {ρ ρ':Rho}{w w':World}(L:Later ρ w ρ' w'){pv:PV}{v:Value}(h:VP ρ w pv v):VP ρ' w' pv v:=by
 cases pv with
 |un=>trivial
 |v x=>exact VR.later L h
 |tup l=>obtain⟨vs,h1,h2⟩:=h;exact⟨vs,h1,h2.later L⟩
 |zr t=>exact h
 |dp id n=>obtain⟨p,h1,h2⟩:=h;exact⟨p,h1,λh0=>let⟨loc,m,t,h3,h4⟩:=h2 h0;⟨loc,m,t,L.up _ _ h3,h4⟩⟩
theorem OR.later {ρ ρ':Rho}{w w':World}(L:Later ρ w ρ' w')(hW:ρ.W=ρ'.W\/ ∀b,ρ.W b->ρ'.W b){loc:Loc}(hb:w'.heap[loc.blk]?=w.heap[loc.blk]?){o:PO}(h:OR ρ w loc o):OR ρ' w' loc o:=by
 have hW': ∀b,ρ.W b->ρ'.W b:=by
  rcases hW with h|h
  ·intro b hb;rw[<-h];exact hb
  ·exact h
 cases o with
 |obj t x=>obtain⟨h1,h0,cs,T,h2,h3,h4⟩:=h;exact⟨h1,hW' _ h0,cs,T,h2.later L,hb.trans h3,h4⟩
 |row sh e t n f=>obtain⟨h1,h0,cs,sp,h2,h3,h4⟩:=h;exact⟨h1,hW' _ h0,cs,sp,h2.keeps (L.keeps.at sh),h3.trans hb,h4⟩
 |mp k v l=>obtain⟨h1,h0,es,h2,h3⟩:=h;exact⟨h1,hW' _ h0,es,h2.keeps L.keeps.shut,hb.trans h3⟩
 |bag k t l out=>exact⟨h.1,hW' _ h.2⟩
 |dead=>trivial
theorem Later.trans {ρ ρ' ρ'':Rho}{w w' w'':World}(L:Later ρ w ρ' w')(L':Later ρ' w' ρ'' w''):Later ρ w ρ'' w'' where
 size:=ayF L.size L'.size
 up id loc h:=L'.up _ _ (L.up _ _ h)
 downA b h:=by
  rcases L'.downA b h with h|h
  ·exact L.downA b h
  ·exact .inr (ayF L.size h)
 downW b h:=by
  rcases L'.downW b h with h|h
  ·exact L.downW b h
  ·exact .inr (ayF L.size h)
 upA b hb h1 h2:=by
  refine L'.upA b (awU hb L.size) (L.upA b hb h1 h2) (λh=>?_);rcases L.downW b h with h|h
  ·exact h2 h
  ·omega
 keep b hb hn:=by
  rw[L'.keep b (awU hb L.size) (λh=>?_),L.keep b hb hn];rcases L.downW b h with h|h
  ·exact hn h
  ·omega
theorem aH {α:Type u}{l:List (Nat×α)}{n:Nat}{x:α}{m:Nat} :look ((n,x)::l) m=if n=m then some x else look l m:=by
 simp only[look];by_cases h:n=m
 ·subst h;simp
 ·rw[awG h];have:Nat.beq n m=false:=by
   cases hb:Nat.beq n m
   ·rfl
   ·exact absurd (ax0 hb) h
  rw[this];rfl
theorem aJ.same {B:Base}{ρ:Rho}{s:DS}{a:Act}{w w':World}(h:aJ B ρ s a w)(hs:w.heap.size<=w'.heap.size)
  (hk: ∀b,b<w.heap.size->w'.heap[b]?=w.heap[b]?) (ho:w'.os=w.os) (ht:w'.tape=w.tape) (hou:w'.output=w.output) (hfz: ∀a,a.block<w.heap.size->w'.frozen? a=w.frozen? a):aJ B ρ s a w'/\Later ρ w ρ w':=by
 have L:Later ρ w ρ w':=⟨hs,λ_ _ h=>h,λ_ h=>.inl h,λ_ h=>.inl h,λ_ _ h _=>h,λb hb _=>hk b hb⟩;refine⟨⟨h.defers,h.tmps,λt pv hl=>?_,λid o hl=>?_,h.inj,λid loc hl=>awU (h.own id loc hl) hs,λb hb=>awU (h.ownA b hb) hs,?_,h.may,h.hid.imp λF hF=>hF.step L.keeps (λid o loc' h1 _ h3=>⟨h1,loc',h3,rfl⟩) (λid o loc _ _ h3 _=>hk _ (h.own id loc h3)) (λid o loc b h1 h2 h3 h4=>⟨hk _ (hF.own id o loc b h1 h2 h3 h4).2,(hF.own id o loc b h1 h2 h3 h4).1⟩) (λid' o' loc' h1 h2 h3=>.inr ⟨id',o',loc',h1,h2,h3,rfl⟩)⟩,L⟩
 ·obtain⟨v,h1,h2⟩:=h.env t pv hl;exact⟨v,h1,h2.later L⟩
 ·rcases h.obj id o hl with h1|⟨loc,h1,h2⟩
  ·exact .inl h1
  ·exact .inr ⟨loc,h1,h2.later L (.inl rfl) (hk _ (h.own id loc h1))⟩
 ·exact⟨ho.trans h.base.os,ht.trans h.base.tape,hou.trans h.base.output,λa ha hm=>(hfz a (awU ha h.base.size)).trans (h.base.froz a ha hm),ayF h.base.size hs⟩
theorem aJ.allocO {B:Base}{ρ:Rho}{s:DS}{a:Act}{w:World}(h:aJ B ρ s a w)(nx:Nat)(hnone:ρ nx=none)(o:PO)(ob:Obj)(ty:Ty)(cap:Option Nat)
  (ho: ∀ρ' w',Later ρ w ρ' w'->ρ'.W w.heap.size->w'.heap[w.heap.size]?=some ob->OR ρ' w' ⟨w.heap.size,ty,cap⟩ o) (w1:World) (hw1:w1.heap=w.heap.push ob)
  (hos:w1.os=w.os) (hta:w1.tape=w.tape) (hou:w1.output=w.output) (hnb:o.isBag=false:=by rfl):
  ∃ρ',aJ B ρ' { s with hp:=(nx,o)::s.hp } a w1/\Later ρ w ρ' w1/\ρ' nx=some ⟨w.heap.size,ty,cap⟩/\ ∀id,id≠nx->ρ' id=ρ id:=by
 let ρ':Rho:=⟨λid=>if id=nx then some ⟨w.heap.size,ty,cap⟩else ρ id,λb=>ρ.W b\/b=w.heap.size,λb=>ρ.A b\/b=w.heap.size,λb h=>h.imp_left (ρ.sub b)⟩;have hsz:w1.heap.size=w.heap.size+1:=by rw[hw1];simp
 have hold': ∀b,b<w.heap.size->w1.heap[b]?=w.heap[b]?:=λb hb=>by rw[hw1,ay9];rw[awG (by omega)]
 have L:Later ρ w ρ' w1:=by
  refine⟨by omega,λid loc hl=>?_,λb hb=>?_,λb hb=>?_,λb _ hb _=>.inl hb,λb hb _=>hold' b hb⟩
  ·show(if id=nx then _ else ρ id)=some loc;rw[awG (λe=>by subst e;rw[hnone]at hl;cases hl)];exact hl
  ·rcases hb with h|h
   ·exact .inl h
   ·exact .inr (by omega)
  ·rcases hb with h|h
   ·exact .inl h
   ·exact .inr (by omega)
 have hnew:ρ' nx=some ⟨w.heap.size,ty,cap⟩:=awQ rfl;have hold: ∀id,id≠nx->ρ' id=ρ id:=λid hne=>awG hne
 have hw:w1.heap[w.heap.size]?=some ob:=by rw[hw1,ay9];simp
 have hfz: ∀a,a.block<w.heap.size->w1.frozen? a=w.frozen? a:=by intro a ha;simp only[World.frozen?,hold' _ ha]
 refine⟨ρ',⟨h.defers,h.tmps,λt pv hl=>?_,λid o' hl=>?_,λid id' o1 o2 loc loc' h1 h2 d1 d2 h3 h4 h5=>?_,λid loc hl=>?_,λb hb=>?_,?_,λb hb=>?_,?_⟩,L,hnew,hold⟩
 ·obtain⟨v,h1,h2⟩:=h.env t pv hl;exact⟨v,h1,h2.later L⟩
 ·change look ((nx,o)::s.hp) id=some o' at hl;rw[aH]at hl;split at hl
  ·rename_i e;subst e;simp only[awr]at hl;subst hl;exact .inr ⟨_,hnew,ho _ _ L (.inr rfl) hw⟩
  ·rename_i hne;rcases h.obj id o' hl with h1|⟨loc,h1,h2⟩
   ·refine .inl ?_;rw[hold id (Ne.symm hne)];exact h1
   ·exact .inr ⟨loc,L.up _ _ h1,h2.later L (.inr λ_ h=>.inl h) (hold' _ (h.own id loc h1))⟩
 ·change look ((nx,o)::s.hp) id=some o1 at h1;change look ((nx,o)::s.hp) id'=some o2 at h2;rw[aH]at h1 h2;by_cases e1:nx=id
  ·by_cases e2:nx=id'
   ·exact e1.symm.trans e2
   ·rw[awG e2]at h2;subst e1;rw[hnew]at h3;rw[hold id' (Ne.symm e2)]at h4;have:=h.own id' loc' h4;simp only[awr]at h3;subst h3;simp only at h5;omega
  ·rw[awG e1]at h1;rw[hold id (Ne.symm e1)]at h3;by_cases e2:nx=id'
   ·subst e2;rw[hnew]at h4;have:=h.own id loc h3;simp only[awr]at h4;subst h4;simp only at h5;omega
   ·rw[awG e2]at h2;rw[hold id' (Ne.symm e2)]at h4;exact h.inj id id' o1 o2 loc loc' h1 h2 d1 d2 h3 h4 h5
 ·by_cases e:id=nx
  ·subst e;rw[hnew]at hl;simp only[awr]at hl;subst hl;simp only;omega
  ·rw[hold id e]at hl;have:=h.own id loc hl;omega
 ·rcases hb with hb|hb
  ·have:=h.ownA b hb;omega
  ·omega
 ·exact⟨hos.trans h.base.os,hta.trans h.base.tape,hou.trans h.base.output,λa ha hm=>(hfz a (awU ha h.base.size)).trans (h.base.froz a ha hm),by have:=h.base.size;omega⟩
 ·rcases hb with hb|rfl
  ·exact h.may b hb
  ·exact .inr h.base.size
 ·exact h.hid.imp λF hF=>hF.step L.keeps
   (λid o' loc' h1 h2 h3=>by
    change look ((nx,o)::s.hp) id=some o' at h1;rw[aH]at h1;split at h1
    ·cases h1;rw[hnb]at h2;cases h2
    ·rename_i hne;rw[hold id (Ne.symm hne)]at h3;exact⟨h1,loc',h3,rfl⟩)
   (λid o' loc _ _ h3 _=>hold' _ (h.own id loc h3))
   (λid o' loc b h1 h2 h3 h4=>⟨hold' _ (hF.own id o' loc b h1 h2 h3 h4).2,.inl (hF.own id o' loc b h1 h2 h3 h4).1⟩)
   (λid' o' loc' h1 h2 h3=>by
    change look ((nx,o)::s.hp) id'=some o' at h1;rw[aH]at h1;split at h1
    ·rename_i e;subst e;rw[hnew]at h3;cases h3;exact .inl (ax2 _)
    ·rename_i hne;rw[hold id' (Ne.symm hne)]at h3;exact .inr ⟨id',o',loc',h1,h2,h3,rfl⟩)
theorem aJ.alloc {B:Base}{ρ:Rho}{s:DS}{a:Act}{w:World}(h:aJ B ρ s a w)(nx:Nat)(hnone:ρ nx=none)(o:PO)(cells:Array Value)(T:TypeId)(ty:Ty)(cap:Option Nat)
  (ho: ∀ρ' w',Later ρ w ρ' w'->ρ'.W w.heap.size->w'.heap[w.heap.size]?=some (.cells cells T (0,0))->OR ρ' w' ⟨w.heap.size,ty,cap⟩ o) (w1:World) (hw1:w1.heap=w.heap.push (.cells cells T (0,0)))
  (hos:w1.os=w.os) (hta:w1.tape=w.tape) (hou:w1.output=w.output) (hnb:o.isBag=false:=by rfl):
  ∃ρ',aJ B ρ' { s with hp:=(nx,o)::s.hp } a w1/\Later ρ w ρ' w1/\ρ' nx=some ⟨w.heap.size,ty,cap⟩/\ ∀id,id≠nx->ρ' id=ρ id:=
 h.allocO nx hnone o _ ty cap ho w1 hw1 hos hta hou hnb
theorem aJ.store {B:Base}{ρ:Rho}{s:DS}{a:Act}{w:World}(h:aJ B ρ s a w){id:Nat}{o o':PO}{loc:Loc}(ho:look s.hp id=some o)(hd:o≠ .dead)(hd':o'≠ .dead)(hl:ρ id=some loc)
  (w':World) (hsz:w'.heap.size=w.heap.size) (hk: ∀b,b≠loc.blk->w'.heap[b]?=w.heap[b]?) (hos:w'.os=w.os) (ht:w'.tape=w.tape) (hou:w'.output=w.output)
  (hfz0: ∀a,a.block=loc.blk->w'.frozen? a=w.frozen? a) (hor:Later ρ w ρ w'->OR ρ w' loc o') (hnb:o'.isBag=false:=by rfl):aJ B ρ { s with hp:=(id,o')::s.hp } a w'/\Later ρ w ρ w':=by
 have hW:=(h.live ho hd hl).writes hd;have L:Later ρ w ρ w':=⟨by omega,λ_ _ h=>h,λ_ h=>.inl h,λ_ h=>.inl h,λ_ _ h _=>h,λb _ hn=>hk b (λe=>hn (by rw[e];exact hW))⟩;have hfz:=FB loc.blk hk hfz0;have hlk: ∀id' o1,look ((id,o')::s.hp) id'=some o1->(id'=id/\o1=o')\/(id'≠id/\look s.hp id'=some o1):=by
  intro id' o1 h1;change look ((id,o')::s.hp) id'=some o1 at h1;rw[aH]at h1;split at h1
  ·rename_i e;simp only[awr]at h1;exact .inl ⟨e.symm,h1.symm⟩
  ·rename_i e;exact .inr ⟨Ne.symm e,h1⟩
 have hex: ∀id' o1,look ((id,o')::s.hp) id'=some o1->o1≠ .dead-> ∃o2,look s.hp id'=some o2/\o2≠ .dead:=by
  intro id' o1 h1 hd1;rcases hlk id' o1 h1 with⟨rfl,_⟩|⟨_,h⟩
  ·exact⟨_,ho,hd⟩
  ·exact⟨_,h,hd1⟩
 refine⟨⟨h.defers,h.tmps,λt pv hl'=>?_,λid' o1 hl'=>?_,λi j o1 o2 l1 l2 h1 h2 d1 d2 h3 h4 h5=>?_,λid' loc' hl'=>?_,λb hb=>?_,?_,h.may,?_⟩,L⟩
 ·obtain⟨v,h1,h2⟩:=h.env t pv hl';exact⟨v,h1,h2.later L⟩
 ·rcases hlk id' o1 hl' with⟨rfl,rfl⟩|⟨hne,h1⟩
  ·exact .inr ⟨loc,hl,hor L⟩
  ·rcases h.obj id' o1 h1 with h2|⟨loc',h2,h3⟩
   ·exact .inl h2
   ·by_cases hd1:o1= .dead
    ·exact .inl (.inl hd1)
    ·exact .inr ⟨loc',h2,h3.later L (.inl rfl) (hk _ (λe=>hne (h.inj id' id o1 o loc' loc h1 ho hd1 hd h2 hl e)))⟩
 ·obtain⟨o3,h6,d6⟩:=hex i o1 h1 d1;obtain⟨o4,h7,d7⟩:=hex j o2 h2 d2;exact h.inj i j o3 o4 l1 l2 h6 h7 d6 d7 h3 h4 h5
 ·have:=h.own id' loc' hl';omega
 ·have:=h.ownA b hb;omega
 ·exact⟨hos.trans h.base.os,ht.trans h.base.tape,hou.trans h.base.output,λa ha hm=>(hfz a).trans (h.base.froz a ha hm),by have:=h.base.size;omega⟩
 ·exact h.hid.imp λF hF=>hF.step L.keeps
   (λi o1 l1 h1 h2 h3=>by
    rcases hlk i o1 h1 with⟨rfl,rfl⟩|⟨_,h4⟩
    ·rw[hnb]at h2;cases h2
    ·exact⟨h4,l1,h3,rfl⟩)
   (λi o1 l1 h1 h2 h3 h4=>hk _ (λe=>by
    rcases hlk i o1 h4 with⟨rfl,rfl⟩|⟨hne,_⟩
    ·rw[hnb]at h2;cases h2
    ·exact hne (h.inj i id o1 o l1 loc h1 ho (PO.bag_ne h2) hd h3 hl e)))
   (λi o1 l1 b h1 h2 h3 h4=>⟨hk b (λe=>hF.dis i o1 l1 b id o loc h1 h2 h3 h4 ho hd hl e.symm),(hF.own i o1 l1 b h1 h2 h3 h4).1⟩)
   (λi o1 l1 h1 h2 h3=>by obtain⟨o2,h4,h5⟩:=hex i o1 h1 h2;exact .inr ⟨i,o2,l1,h4,h5,h3,rfl⟩)
theorem aJ.kill {B:Base}{ρ:Rho}{s:DS}{a:Act}{w:World}(h:aJ B ρ s a w)(id:Nat):aJ B ρ { s with hp:=(id,.dead)::s.hp } a w:=by
 have hlk: ∀id' o1,look ((id,PO.dead)::s.hp) id'=some o1->o1= .dead\/look s.hp id'=some o1:=by
  intro id' o1 h1;rw[aH]at h1;split at h1
  ·simp only[awr]at h1;exact .inl h1.symm
  ·exact .inr h1
 refine⟨h.defers,h.tmps,h.env,λid' o1 hl'=>?_,λi j o1 o2 l1 l2 h1 h2 d1 d2 h3 h4 h5=>?_,h.own,h.ownA,h.base,h.may,?_⟩
 ·rcases hlk id' o1 hl' with rfl|h1
  ·exact .inl (.inl rfl)
  ·exact h.obj id' o1 h1
 ·rcases hlk i o1 h1 with e|h1
  ·exact absurd e d1
  ·rcases hlk j o2 h2 with e|h2
   ·exact absurd e d2
   ·exact h.inj i j o1 o2 l1 l2 h1 h2 d1 d2 h3 h4 h5
 ·exact h.hid.imp λF hF=>hF.step (Later.refl ρ w).keeps
   (λi o1 l1 h1 h2 h3=>by
    rcases hlk i o1 h1 with e|h4
    ·subst e;cases h2
    ·exact⟨h4,l1,h3,rfl⟩)
   (λ_ _ _ _ _ _ _=>rfl)
   (λi o1 l1 b h1 h2 h3 h4=>⟨rfl,(hF.own i o1 l1 b h1 h2 h3 h4).1⟩)
   (λi o1 l1 h1 h2 h3=>by
    rcases hlk i o1 h1 with e|h4
    ·exact absurd e h2
    ·exact .inr ⟨i,o1,l1,h4,h2,h3,rfl⟩)
theorem aJ.freeze {B:Base}{ρ:Rho}{s:DS}{a:Act}{w:World}(h:aJ B ρ s a w){id:Nat}{o:PO}{loc:Loc}(ho:look s.hp id=some o)(hd:o≠ .dead)(hl:ρ id=some loc):
  ∃ρ',aJ B ρ' { s with hp:=(id,.dead)::s.hp } a w/\Later ρ w ρ' w/\ρ'.f=ρ.f/\(∀b,ρ'.A b->ρ.A b)/\ ¬ρ'.A loc.blk:=by
 have hW:=(h.live ho hd hl).writes hd;let ρ':Rho:=⟨ρ.f,λb=>ρ.W b/\b≠loc.blk,λb=>ρ.A b/\b≠loc.blk,λb hb=>⟨ρ.sub b hb.1,hb.2⟩⟩;have L:Later ρ w ρ' w:=⟨ax2 _,λ_ _ h=>h,λb hb=>.inl hb.1,λb hb=>.inl hb.1,λb _ hb hn=>⟨hb,λe=>hn (by rw[e];exact hW)⟩,λ_ _ _=>rfl⟩;refine⟨ρ',⟨h.defers,h.tmps,λt pv hl'=>?_,λid' o1 hl'=>?_,λi j o1 o2 l1 l2 h1 h2 d1 d2 h3 h4 h5=>?_,h.own,λb hb=>h.ownA b hb.1,h.base,λb hb=>h.may b hb.1,?_⟩,L,rfl,λb hb=>hb.1,λhb=>hb.2 rfl⟩
 ·obtain⟨v,h1,h2⟩:=h.env t pv hl';exact⟨v,h1,h2.later L⟩
 ·change look ((id,PO.dead)::s.hp) id'=some o1 at hl';rw[aH]at hl';split at hl'
  ·simp only[awr]at hl';exact .inl (.inl hl'.symm)
  ·rename_i hne;rcases h.obj id' o1 hl' with h1|⟨loc',h1,h2⟩
   ·exact .inl h1
   ·by_cases hd1:o1= .dead
    ·exact .inl (.inl hd1)
    ·have hbl:loc'.blk≠loc.blk:=λe=>hne (h.inj id' id o1 o loc' loc hl' ho hd1 hd h1 hl e).symm
     refine .inr ⟨loc',h1,?_⟩;cases o1 with
     |obj t x=>obtain⟨e1,e0,cs,T,e2,e3,e4⟩:=h2;exact⟨e1,⟨e0,hbl⟩,cs,T,e2.later L,e3,e4⟩
     |row sh e t n f=>obtain⟨e1,e0,cs,sp,e2,e3⟩:=h2;exact⟨e1,⟨e0,hbl⟩,cs,sp,e2.keeps (L.keeps.at sh),e3⟩
     |mp k v l=>obtain⟨e1,e0,es,e2,e3⟩:=h2;exact⟨e1,⟨e0,hbl⟩,es,e2.keeps L.keeps.shut,e3⟩
     |bag k t l out=>exact⟨h2.1,⟨h2.2,hbl⟩⟩
     |dead=>trivial
 ·have hlk: ∀id' o1,look ((id,PO.dead)::s.hp) id'=some o1->o1≠ .dead->look s.hp id'=some o1:=by
   intro id' o1 h1 hd1;rw[aH]at h1;split at h1
   ·simp only[awr]at h1;exact absurd h1.symm hd1
   ·exact h1
  exact h.inj i j o1 o2 l1 l2 (hlk i o1 h1 d1) (hlk j o2 h2 d2) d1 d2 h3 h4 h5
 ·have hlk: ∀id' o1,look ((id,PO.dead)::s.hp) id'=some o1->o1≠ .dead->look s.hp id'=some o1:=by
   intro id' o1 h1 hd1;rw[aH]at h1;split at h1
   ·simp only[awr]at h1;exact absurd h1.symm hd1
   ·exact h1
  exact h.hid.imp λF hF=>hF.step L.keeps
   (λi o1 l1 h1 h2 h3=>⟨hlk i o1 h1 (PO.bag_ne h2),l1,h3,rfl⟩)
   (λ_ _ _ _ _ _ _=>rfl)
   (λi o1 l1 b h1 h2 h3 h4=>⟨rfl,(hF.own i o1 l1 b h1 h2 h3 h4).1,λe=>hF.dis i o1 l1 b id o loc h1 h2 h3 h4 ho hd hl e.symm⟩)
   (λi o1 l1 h1 h2 h3=>.inr ⟨i,o1,l1,hlk i o1 h1 h2,h2,h3,rfl⟩)
theorem aJ.renew {B:Base}{ρ:Rho}{s:DS}{a:Act}{w:World}(h:aJ B ρ s a w){id nx:Nat}{o o':PO}{loc:Loc}(ho:look s.hp id=some o)(hd:o≠ .dead)(hd':o'≠ .dead)(hl:ρ id=some loc)(hnone:ρ nx=none)(ty:Ty)
  (w':World) (hsz:w'.heap.size=w.heap.size) (hk: ∀b,b≠loc.blk->w'.heap[b]?=w.heap[b]?) (hos:w'.os=w.os) (ht:w'.tape=w.tape) (hou:w'.output=w.output)
  (hfz0: ∀a,a.block=loc.blk->w'.frozen? a=w.frozen? a) (hor: ∀ρ',Later ρ w ρ' w'->ρ'.W loc.blk->OR ρ' w' ⟨loc.blk,ty,loc.cap⟩ o') (hnb:o'.isBag=false:=by rfl):
  ∃ρ',aJ B ρ' { s with hp:=(nx,o')::(id,.dead)::s.hp } a w'/\Later ρ w ρ' w'/\ρ' nx=some ⟨loc.blk,ty,loc.cap⟩/\ ∀id,id≠nx->ρ' id=ρ id:=by
 have hW:=(h.live ho hd hl).writes hd;let ρ':Rho:=⟨λid=>if id=nx then some ⟨loc.blk,ty,loc.cap⟩else ρ id,ρ.W,ρ.A,ρ.sub⟩;have hnew:ρ' nx=some ⟨loc.blk,ty,loc.cap⟩:=awQ rfl;have hold: ∀id,id≠nx->ρ' id=ρ id:=λid hne=>awG hne
 have hidn:id≠nx:=λe=>by subst e;rw[hnone]at hl;cases hl
 have L:Later ρ w ρ' w':=by refine⟨by omega,λid loc hl=>?_,λ_ h=>.inl h,λ_ h=>.inl h,λ_ _ h _=>h,λb _ hn=>hk b (λe=>hn (by rw[e];exact hW))⟩;rw[hold id (λe=>by subst e;rw[hnone]at hl;cases hl)];exact hl
 have hfz:=FB loc.blk hk hfz0;have hlk: ∀id' o1,look ((nx,o')::(id,PO.dead)::s.hp) id'=some o1->(id'=nx/\o1=o')\/o1= .dead\/(id'≠nx/\id'≠id/\look s.hp id'=some o1):=by
  intro id' o1 h1;rw[aH,aH]at h1;split at h1
  ·rename_i e;simp only[awr]at h1;exact .inl ⟨e.symm,h1.symm⟩
  ·rename_i e1;split at h1
   ·simp only[awr]at h1;exact .inr (.inl h1.symm)
   ·rename_i e2;exact .inr (.inr ⟨Ne.symm e1,Ne.symm e2,h1⟩)
 refine⟨ρ',⟨h.defers,h.tmps,λt pv hl'=>?_,λid' o1 hl'=>?_,λi j o1 o2 l1 l2 h1 h2 d1 d2 h3 h4 h5=>?_,λid' loc' hl'=>?_,λb hb=>?_,?_,h.may,?_⟩,L,hnew,hold⟩
 ·obtain⟨v,h1,h2⟩:=h.env t pv hl';exact⟨v,h1,h2.later L⟩
 ·rcases hlk id' o1 hl' with⟨rfl,rfl⟩|rfl|⟨hn1,hn2,h1⟩
  ·exact .inr ⟨_,hnew,hor ρ' L hW⟩
  ·exact .inl (.inl rfl)
  ·rw[hold id' hn1];rcases h.obj id' o1 h1 with h2|⟨loc',h2,h3⟩
   ·exact .inl h2
   ·by_cases hd1:o1= .dead
    ·exact .inl (.inl hd1)
    ·exact .inr ⟨loc',h2,h3.later L (.inl rfl) (hk _ (λe=>hn2 (h.inj id' id o1 o loc' loc h1 ho hd1 hd h2 hl e)))⟩
 ·rcases hlk i o1 h1 with⟨rfl,rfl⟩|e|⟨hn1,hn2,h6⟩
  ·rcases hlk j o2 h2 with⟨rfl,rfl⟩|e|⟨hn3,hn4,h7⟩
   ·rfl
   ·exact absurd e d2
   ·rw[hnew]at h3;cases h3;rw[hold j hn3]at h4;exact absurd (h.inj id j o o2 loc l2 ho h7 hd d2 hl h4 h5).symm hn4
  ·exact absurd e d1
  ·rw[hold i hn1]at h3;rcases hlk j o2 h2 with⟨rfl,rfl⟩|e|⟨hn3,hn4,h7⟩
   ·rw[hnew]at h4;cases h4;exact absurd (h.inj i id o1 o l1 loc h6 ho d1 hd h3 hl h5) hn2
   ·exact absurd e d2
   ·rw[hold j hn3]at h4;exact h.inj i j o1 o2 l1 l2 h6 h7 d1 d2 h3 h4 h5
 ·by_cases e:id'=nx
  ·subst e;rw[hnew]at hl';cases hl';have:=h.own id loc hl;simp only;omega
  ·rw[hold id' e]at hl';have:=h.own id' loc' hl';omega
 ·have:=h.ownA b hb;omega
 ·exact⟨hos.trans h.base.os,ht.trans h.base.tape,hou.trans h.base.output,λa ha hm=>(hfz a).trans (h.base.froz a ha hm),by have:=h.base.size;omega⟩
 ·exact h.hid.imp λF hF=>hF.step L.keeps
   (λi o1 l1 h1 h2 h3=>by
    rcases hlk i o1 h1 with⟨rfl,rfl⟩|e|⟨hn1,_,h4⟩
    ·rw[hnb]at h2;cases h2
    ·subst e;cases h2
    ·rw[hold i hn1]at h3;exact⟨h4,l1,h3,rfl⟩)
   (λi o1 l1 h1 h2 h3 h4=>hk _ (λe=>by
    rcases hlk i o1 h4 with⟨rfl,rfl⟩|e2|⟨_,hn2,_⟩
    ·rw[hnb]at h2;cases h2
    ·subst e2;cases h2
    ·exact hn2 (h.inj i id o1 o l1 loc h1 ho (PO.bag_ne h2) hd h3 hl e)))
   (λi o1 l1 b h1 h2 h3 h4=>⟨hk b (λe=>hF.dis i o1 l1 b id o loc h1 h2 h3 h4 ho hd hl e.symm),(hF.own i o1 l1 b h1 h2 h3 h4).1⟩)
   (λi o1 l1 h1 h2 h3=>by
    rcases hlk i o1 h1 with⟨rfl,rfl⟩|e|⟨hn1,_,h4⟩
    ·rw[hnew]at h3;cases h3;exact .inr ⟨id,o,loc,ho,hd,hl,rfl⟩
    ·exact absurd e h2
    ·rw[hold i hn1]at h3;exact .inr ⟨i,o1,l1,h4,h2,h3,rfl⟩)
theorem aJ.spoil {B:Base}{ρ:Rho}{s:DS}{a:Act}{w:World}(h:aJ B ρ s a w){id:Nat}{o:PO}{loc:Loc}(ho:look s.hp id=some o)(hd:o≠ .dead)(hl:ρ id=some loc)
  (w':World) (hsz:w'.heap.size=w.heap.size) (hk: ∀b,b≠loc.blk->w'.heap[b]?=w.heap[b]?) (hos:w'.os=w.os) (ht:w'.tape=w.tape) (hou:w'.output=w.output):
  aJ B ρ { s with hp:=(id,.dead)::s.hp } a w'/\Later ρ w ρ w':=by
 have hW:=(h.live ho hd hl).writes hd;have L:Later ρ w ρ w':=⟨by omega,λ_ _ h=>h,λ_ h=>.inl h,λ_ h=>.inl h,λ_ _ h _=>h,λb _ hn=>hk b (λe=>hn (by rw[e];exact hW))⟩;have hlk: ∀id' o1,look ((id,PO.dead)::s.hp) id'=some o1->o1= .dead\/(id'≠id/\look s.hp id'=some o1):=by
  intro id' o1 h1;rw[aH]at h1;split at h1
  ·simp only[awr]at h1;exact .inl h1.symm
  ·rename_i e;exact .inr ⟨Ne.symm e,h1⟩
 refine⟨⟨h.defers,h.tmps,λt pv hl'=>?_,λid' o1 hl'=>?_,λi j o1 o2 l1 l2 h1 h2 d1 d2 h3 h4 h5=>?_,λid' loc' hl'=>by have:=h.own id' loc' hl';omega,λb hb=>by have:=h.ownA b hb;omega,?_,h.may,?_⟩,L⟩
 ·obtain⟨v,h1,h2⟩:=h.env t pv hl';exact⟨v,h1,h2.later L⟩
 ·rcases hlk id' o1 hl' with rfl|⟨hne,h1⟩
  ·exact .inl (.inl rfl)
  ·rcases h.obj id' o1 h1 with h2|⟨loc',h2,h3⟩
   ·exact .inl h2
   ·by_cases hd1:o1= .dead
    ·exact .inl (.inl hd1)
    ·exact .inr ⟨loc',h2,h3.later L (.inl rfl) (hk _ (λe=>hne (h.inj id' id o1 o loc' loc h1 ho hd1 hd h2 hl e)))⟩
 ·rcases hlk i o1 h1 with e|⟨_,h6⟩
  ·exact absurd e d1
  ·rcases hlk j o2 h2 with e|⟨_,h7⟩
   ·exact absurd e d2
   ·exact h.inj i j o1 o2 l1 l2 h6 h7 d1 d2 h3 h4 h5
 ·refine⟨hos.trans h.base.os,ht.trans h.base.tape,hou.trans h.base.output,λa ha hm=>?_,by have:=h.base.size;omega⟩;have hne:a.block≠loc.blk:=λe=>by
   rcases h.may _ hW with h1|h1
   ·rw[e]at hm;exact hm h1
   ·omega
  rw[<-h.base.froz a ha hm];simp only[World.frozen?,hk _ hne]
 ·exact h.hid.imp λF hF=>hF.step L.keeps
   (λi o1 l1 h1 h2 h3=>by
    rcases hlk i o1 h1 with e|⟨_,h4⟩
    ·subst e;cases h2
    ·exact⟨h4,l1,h3,rfl⟩)
   (λi o1 l1 h1 h2 h3 h4=>hk _ (λe=>by
    rcases hlk i o1 h4 with e2|⟨hne,_⟩
    ·subst e2;cases h2
    ·exact hne (h.inj i id o1 o l1 loc h1 ho (PO.bag_ne h2) hd h3 hl e)))
   (λi o1 l1 b h1 h2 h3 h4=>⟨hk b (λe=>hF.dis i o1 l1 b id o loc h1 h2 h3 h4 ho hd hl e.symm),(hF.own i o1 l1 b h1 h2 h3 h4).1⟩)
   (λi o1 l1 h1 h2 h3=>by
    rcases hlk i o1 h1 with e|⟨_,h4⟩
    ·exact absurd e h2
    ·exact .inr ⟨i,o1,l1,h4,h2,h3,rfl⟩)
theorem aJ.put {B:Base}{ρ:Rho}{s:DS}{a:Act}{w:World}(h:aJ B ρ s a w){d:Nat}(hd:d<s.n){pv:PV}{v:Value}(hv:VP ρ w pv v):
  aJ B ρ { s with env:=(d,pv)::s.env } (a.put (some d) v) w:=by
 refine⟨h.defers,by simp[Act.put];exact h.tmps,λt pv' hl=>?_,h.obj,h.inj,h.own,h.ownA,h.base,h.may,h.hid⟩;change look ((d,pv)::s.env) t=some pv' at hl;rw[aH]at hl;have hsz:=h.tmps;split at hl
 ·rename_i e;subst e;simp only[awr]at hl;subst hl;exact⟨v,by simp[Act.put,Array.getElem?_setIfInBounds];omega,hv⟩
 ·rename_i e;obtain⟨v',h1,h2⟩:=h.env t pv' hl;exact⟨v',by simp only[Act.put];rw[Array.getElem?_setIfInBounds_ne (by omega)];exact h1,h2⟩
theorem aJ.putNone {B:Base}{ρ:Rho}{s:DS}{a:Act}{w:World}(h:aJ B ρ s a w)(v:Value):aJ B ρ s (a.put none v) w:=h
theorem aJ.eval {B:Base}{ρ:Rho}{s:DS}{a:Act}{w:World}(h:aJ B ρ s a w)(x:Operand):VP ρ w (s.val x) (a.eval x):=by
 cases x with
 |tmp t=>
  simp only[DS.val,Act.eval];cases hl:look s.env t with
  |none=>trivial
  |some pv=>
   obtain⟨v,h1,h2⟩:=h.env t pv hl;simp only[Option.getD_some,axJ,h1];exact h2
 |const v=>
  simp only[DS.val,Act.eval];unfold ofValue;split<;>first
   |exact trivial
   |exact⟨_,rfl,rfl⟩
   |exact⟨_,⟨_,rfl,rfl⟩,rfl⟩
 |global g=>trivial
 |func f=>exact⟨[.func (.func f) #[] #[]],⟨[],rfl,rfl,λj c v hc=>by simp at hc⟩,rfl⟩
section
variable {R:Type} (ti:List (Nat×TI))
theorem aY {α β:Type}(c:Bool)(x:Option α)(f:α->Option β):(bif c then x else none).bind f=bif c then x.bind f else none:=by cases c<;>rfl
theorem nX {α β:Type}(c:Bool)(x:Option α)(f:α->Option β):(bif c then none else x).bind f=bif c then none else x.bind f:=by cases c<;>rfl
theorem jX {α β:Type}(c:Bool)(x y:Option α)(f:α->Option β):(bif c then x else y).bind f=bif c then x.bind f else y.bind f:=by cases c<;>rfl
theorem a2c(op:BinOp)(k:IntKind)(x y:Int)(K:PV->Option R):Ow op k x y K=(Ow op k x y some).bind K:=by cases op<;>simp only[Ow,axh,Option.bind_none,nX]
theorem a2d(op:BinOp)(x y:ByteArray)(K:PV->Option R):Ox op x y K=(Ox op x y some).bind K:=by cases op<;>simp only[Ox,axh,Option.bind_none,nX]
theorem Oz(op:BinOp)(T:TypeId)(x y:PV)(K:PV->Option R):M7 ti op T x y K=(M7 ti op T x y some).bind K:=by
 unfold M7;split
 ·split
  ·rw[nX];rfl
  ·rw[nX];rfl
  ·split
   ·exact a2c ..
   ·rfl
 ·exact a2d ..
 ·rw[aY];congr 1;split<;>rfl
 ·rw[aY];congr 1;split<;>rfl
 ·split
  ·split
   ·split
    ·rw[jX];congr 1
     ·split<;>rfl
     ·rw[aY];congr 1;split<;>rfl
    ·rfl
   ·rfl
  ·rfl
 ·rfl
theorem Sm(op:UnOp)(x:PV)(K:PV->Option R):Ye op x K=(Ye op x some).bind K:=by unfold Ye;split<;>rfl
theorem Yg(T:TypeId)(y:V)(K:PV->Option R):chk ti T y K=(chk ti T y some).bind K:=by
 unfold chk;split
 ·rw[aY];rfl
 ·rfl
theorem Am: ∀(t:Ty) (x:t.den) (K:t.den->Option R),spl t x K=(spl t x some).bind K:=by
 intro t
 induction t generalizing R with
 |pair a b iha ihb=>
  intro x K;simp only[spl];rw[jX]
  congr 1
  rw[iha,iha (R:=(Ty.pair a b).den)];cases spl a x.1 some with
  |none=>rfl
  |some y=>
   simp only[axh];rw[ihb,ihb (R:=(Ty.pair a b).den)];cases spl b x.2 some<;>rfl
 |sl t=>intro x K;simp only[spl];rw[nX];rfl
 |ptr t=>intro x K;simp only[spl];rw[nX];congr 1;rw[jX];rfl
 |mp=>intro x K;simp only[spl];rw[nX];rfl
 |_=>intro x K;rfl
theorem Dq(T:TypeId)(a:PV)(h:Heap)(K:PV->Option R):rC ti T a h K=(rC ti T a h some).bind K:=by
 unfold rC;split
 ·split
  ·split
   ·rename_i o _ _ y _;cases o.shutRow
    ·exact Yg ..
    ·simp only[awL];rw[Am,Am (R:=PV)];cases spl y.1 y.2 some with
     |none=>rfl
     |some z=>exact Yg ..
   ·rfl
  ·rfl
 ·rename_i t x;rw[Am,Am (R:=PV)];cases spl t x some with
  |none=>rfl
  |some y=>exact Yg ..
 ·rfl
theorem FC(T:TypeId)(a v:PV)(h:Heap)(K:PV->Upd->Option R):qY ti T a v h K=(qY ti T a v h λp u=>some (p,u)).bind λx=>K x.1 x.2:=by
 unfold qY;split
 ·split
  ·split
   ·rw[aY];congr 1;split<;>rfl
   ·rfl
  ·rfl
 ·rfl
theorem FD(T:TypeId)(parts:List (Nat×PV))(K:PV->Option R):yx ti T parts K=(yx ti T parts some).bind K:=by
 unfold yx;split
 ·split
  ·rw[jX];congr 1;rw[aY];congr 1;split<;>rfl
  ·rw[aY];congr 1;split<;>rfl
  ·rfl
 ·rfl
theorem xC(T:TypeId)(x:PV)(j:Nat)(K:PV->Option R):jI ti T x j K=(jI ti T x j some).bind K:=by
 unfold jI;split
 ·split
  ·rw[aY];congr 1;split
   ·split
    ·split<;>rfl
    ·rfl
   ·split
    ·split<;>rfl
    ·rfl
   ·rfl
  ·rfl
 ·rfl
theorem FE(T:TypeId)(x:PV)(j:Nat)(K:PV->Option R):yA ti T x j K=(yA ti T x j some).bind K:=by
 unfold yA;split
 ·split
  ·rw[aY];congr 1;split
   ·split<;>rfl
   ·rfl
  ·rfl
 ·rfl
theorem xD(T:TypeId)(x ix:PV)(K:PV->Option R):jJ ti T x ix K=(jJ ti T x ix some).bind K:=by
 unfold jJ;split
 ·split
  ·split
   ·split
    ·rw[aY];rfl
    ·rfl
   ·split
    ·rw[aY];rfl
    ·rfl
   ·rfl
  ·split
   ·split
    ·rw[aY];rfl
    ·rfl
   ·split
    ·rw[aY];rfl
    ·rfl
   ·rfl
  ·rfl
 ·rfl
theorem FH(T:TypeId)(x ix:PV)(K:PV->Option R):yB ti T x ix K=(yB ti T x ix some).bind K:=by
 unfold yB;split
 ·split
  ·split
   ·rw[aY];rfl
   ·rfl
  ·rw[aY];rfl
  ·rfl
 ·rfl
theorem Bw(x:PV)(j:Nat)(K:PV->Option R):pI x j K=(pI x j some).bind K:=by
 unfold pI;split
 ·split<;>rfl
 ·rfl
theorem iK(n:Nat)(lo hi:Option PV)(K:Nat->Nat->Option R):bounds n lo hi K=(bounds n lo hi λa b=>some (a,b)).bind λx=>K x.1 x.2:=by
 unfold bounds;split
 ·split
  ·rfl
  ·rw[aY];rfl
  ·rfl
 ·rw[aY];congr 1;split
  ·rfl
  ·rw[aY];rfl
  ·rfl
 ·rfl
theorem FI(T:TypeId)(x:PV)(lo hi:Option PV)(K:PV->Option R):yC ti T x lo hi K=(yC ti T x lo hi some).bind K:=by
 unfold yC;split
 ·split
  ·split
   ·split
    ·rw[iK,iK (R:=PV)];cases bounds _ lo hi (λa b=>some (a,b))<;>rfl
    ·rfl
   ·rfl
  ·split
   ·split
    ·rw[iK,iK (R:=PV)];cases bounds _ lo hi (λa b=>some (a,b))<;>rfl
    ·rfl
   ·split
    ·rw[iK,iK (R:=PV)];cases bounds _ lo hi (λa b=>some (a,b))<;>rfl
    ·rfl
   ·rfl
  ·split
   ·rw[iK,iK (R:=PV)];cases bounds _ lo hi (λa b=>some (a,b))<;>rfl
   ·rfl
  ·rfl
 ·rfl
theorem Dr(T:TypeId)(x:PV)(K:PV->Option R):sP ti T x K=(sP ti T x some).bind K:=by
 unfold sP;split
 ·split
  ·split
   ·split
    ·rw[aY];rfl
    ·rfl
   ·rfl
  ·rfl
 ·rfl
abbrev Ans:=PV×Upd×Nat
abbrev pk:K3 Ans:=λp u n=>some (p,u,n)
theorem a2e(T:TypeId)(d x:PV)(h:Heap)(K:K3 R):Bt ti T d x h K=(Bt ti T d x h pk).bind λr=>K r.1 r.2.1 r.2.2:=by
 unfold Bt;split
 ·split
  ·split
   ·split
    ·rw[jX];congr 1;split
     ·split
      ·split<;>rfl
      ·rfl
     ·rfl
    ·rfl
   ·rfl
  ·rfl
 ·rfl
theorem Wj(src dst:TypeId)(x:PV)(h:Heap)(nx:Nat)(K:K3 R):kR ti src dst x h nx K=(kR ti src dst x h nx pk).bind λr=>K r.1 r.2.1 r.2.2:=by
 unfold kR;split
 ·split
  ·split<;>rfl
  ·rw[aY];congr 1;split<;>rfl
  ·rw[aY];congr 1;split
   ·rw[aY];rfl
   ·rfl
  ·rfl
 ·rfl
theorem zk(fn:Fn)(first:List Operand)(caps:List PV)(K:PV->Option R):nW fn first caps K=(nW fn first caps some).bind K:=by unfold nW;split<;>rfl
theorem OA(x y:PV)(K:PV->Option R):Ma x y K=(Ma x y some).bind K:=by
 unfold Ma;split
 ·split<;>rfl
 ·rfl
theorem OB(x y:PV)(K:PV->Option R):Mc x y K=(Mc x y some).bind K:=by
 unfold Mc;split
 ·split<;>rfl
 ·rfl
theorem OC(T:TypeId)(x:PV)(K:PV->Option R):Md ti T x K=(Md ti T x some).bind K:=by
 unfold Md;split
 ·split
  ·split<;>rfl
  ·split
   ·split<;>rfl
   ·rfl
  ·rfl
  ·rfl
 ·rfl
theorem Mf(T:TypeId)(d x:PV)(h:Heap)(nx:Nat)(K:K3 R):iN ti T d x h nx K=(iN ti T d x h nx pk).bind λr=>K r.1 r.2.1 r.2.2:=by
 unfold iN;split
 ·split
  ·split
   ·split
    ·split
     ·rw[aY];rfl
     ·rfl
    ·rfl
   ·rfl
  ·rfl
 ·rfl
theorem a2f(T:TypeId)(l c:PV)(nx:Nat)(K:K3 R):Dp ti T l c nx K=(Dp ti T l c nx pk).bind λr=>K r.1 r.2.1 r.2.2:=by
 unfold Dp;split
 ·split
  ·split
   ·split
    ·split
     ·rw[aY];rfl
     ·rfl
    ·rfl
   ·rfl
  ·rfl
 ·rfl
theorem Sn(f:(R:Type)->(PV->Option R)->Option R)(hf: ∀(R:Type) (K:PV->Option R),f R K=(f PV some).bind K)(K:K3 R):
  f R (λv=>K v [] 0)=(f Ans (λv=>pk v [] 0)).bind λr=>K r.1 r.2.1 r.2.2:=by
 rw[hf R,hf Ans];cases f PV some<;>rfl
theorem ZK(T:TypeId)(d:PV)(u:Ty)(m:Nat)(g:Nat->u.den)(h:Heap)(K:K3 R):Ai ti T d u m g h K=(Ai ti T d u m g h pk).bind λr=>K r.1 r.2.1 r.2.2:=by
 unfold Ai;split
 ·split
  ·split
   ·split
    ·rw[jX];congr 1;split
     ·split<;>rfl
     ·rfl
    ·rfl
   ·rfl
  ·rfl
 ·rfl
theorem Sq {v:Ty}(ok:Bool)(r:Option v.den)(K:PV->Option R):KO ok r K=(KO ok r some).bind K:=by unfold KO;rw[jX];rfl
theorem Dt(T:TypeId)(x ix:PV)(ok:Bool)(h:Heap)(K:PV->Option R):qE ti T x ix ok h K=(qE ti T x ix ok h some).bind K:=by
 unfold qE;split
 ·split
  ·split
   ·exact Sq ..
   ·split
    ·split
     ·exact Sq ..
     ·rfl
    ·rfl
   ·rfl
  ·rfl
 ·rfl
theorem xE(T:TypeId)(x ix y:PV)(h:Heap)(K:PV->Upd->Option R):jd ti T x ix y h K=(jd ti T x ix y h λp u=>some (p,u)).bind λx=>K x.1 x.2:=by
 unfold jd;split
 ·split
  ·split
   ·split
    ·split<;>rfl
    ·rfl
   ·rfl
  ·rfl
 ·rfl
theorem zl(T:TypeId)(x ix:PV)(h:Heap)(K:PV->Upd->Option R):jW ti T x ix h K=(jW ti T x ix h λp u=>some (p,u)).bind λx=>K x.1 x.2:=by
 unfold jW;split
 ·split
  ·split
   ·split
    ·split<;>rfl
    ·rfl
   ·rfl
  ·rfl
 ·rfl
theorem uS(T:TypeId)(x st y:PV)(h:Heap)(K:PV->Upd->Option R):gZ ti T x st y h K=(gZ ti T x st y h λp u=>some (p,u)).bind λx=>K x.1 x.2:=by
 unfold gZ;split
 ·split
  ·split
   ·split
    ·split
     ·rw[aY];rfl
     ·rfl
    ·rfl
   ·rfl
  ·rfl
 ·rfl
theorem Wl(T:TypeId)(nx:Nat)(K:K3 R):rX ti T nx K=(rX ti T nx pk).bind λr=>K r.1 r.2.1 r.2.2:=by
 unfold rX;split
 ·rfl
 ·split<;>rfl
theorem a4N(k t:Ty)(l:List (k.den×(t.den×lC (aQ t))))(key:k.den)(id nx:Nat)(K:K3 R):Sj k t l key id nx K=(Sj k t l key id nx pk).bind λr=>K r.1 r.2.1 r.2.2:=by unfold Sj;split<;>rfl
theorem Wm(kt:Ty×Ty)(x ix:PV)(ok:Bool)(h:Heap)(nx:Nat)(K:K3 R):pJ kt x ix ok h nx K=(pJ kt x ix ok h nx pk).bind λr=>K r.1 r.2.1 r.2.2:=by
 unfold pJ;split
 ·split
  ·rw[jX];congr 1;split
   ·rfl
   ·split
    ·split
     ·exact a4N ..
     ·rfl
    ·rfl
   ·rfl
  ·rfl
 ·rfl
theorem Du(kt:Ty×Ty)(x ix y:PV)(h:Heap)(K:PV->Upd->Option R):qF kt x ix y h K=(qF kt x ix y h λp u=>some (p,u)).bind λx=>K x.1 x.2:=by
 unfold qF;split
 ·split
  ·split
   ·split
    ·split<;>rfl
    ·rfl
   ·rfl
  ·rfl
 ·rfl
theorem KT(ty:TypeId)(x:PV)(h:Heap)(K:PV->Option R):Bu ti ty x h K=(Bu ti ty x h some).bind K:=by
 unfold Bu;split
 ·split
  ·rfl
  ·split<;>rfl
  ·rfl
 ·rfl
theorem KU(T:TypeId)(x n:PV)(h:Heap)(K:PV->Upd->Option R):Bv ti T x n h K=(Bv ti T x n h λp u=>some (p,u)).bind λx=>K x.1 x.2:=by
 unfold Bv;split
 ·split
  ·rw[aY];congr 1;split
   ·rw[aY];rfl
   ·rw[aY];rfl
  ·rfl
 ·rfl
theorem Wn(C:Cx)(c:Callee)(args:List PV)(ts:List TypeId)(ty:TypeId)(h:Heap)(nx:Nat)(K:K3 R):rY C c args ts ty h nx K=(rY C c args ts ty h nx pk).bind λr=>K r.1 r.2.1 r.2.2:=by
 unfold rY;split
 ·split
  ·exact Sn (λR K=>Md C.ti _ _ K) (λR K=>OC ..) K
  ·exact Sn (λR K=>Bu C.ti _ _ h K) (λR K=>KT ..) K
  ·rw[KU,KU (R:=Ans)];cases Bv C.ti _ _ _ h (λp u=>some (p,u))<;>rfl
  ·exact Sn (λR K=>Ma _ _ K) (λR K=>OA ..) K
  ·exact Sn (λR K=>Mc _ _ K) (λR K=>OB ..) K
  ·split
   ·exact ZK ..
   ·exact a2e ..
  ·split
   ·exact Mf ..
   ·split
    ·rw[aY];congr 1;exact Mf ..
    ·rfl
  ·rfl
 ·rfl
theorem ZL(C:Cx)(o:Oper)(vl:Operand->PV)(h:Heap)(nx:Nat)(K:K3 R):Fw C o vl h nx K=(Fw C o vl h nx pk).bind λr=>K r.1 r.2.1 r.2.2:=by
 unfold Fw k0;have hk: ∀(f:(R:Type)->(PV->Option R)->Option R),(∀(R:Type) (K:PV->Option R),f R K=(f PV some).bind K)->
   f R (λv=>K v [] 0)=(f Ans (λv=>pk v [] 0)).bind λr=>K r.1 r.2.1 r.2.2:=λf hf=>Sn f hf K
 split
 ·rfl
 ·rfl
 ·split
  ·rw[jX];rfl
  ·rfl
 ·split<;>rfl
 ·split
  ·split
   ·rw[jX];congr 1
    ·rw[aY];rfl
    ·rw[nX];rfl
   ·rfl
  ·split
   ·cases List.any _ _<;>rfl
   ·rfl
  ·rfl
 ·exact hk (λR K=>yx C.ti _ _ K) (λR K=>FD ..)
 ·split
  ·split
   ·split
    ·split
     ·split
      ·rw[aY];congr 1;cases List.any _ _
       ·rfl
       ·simp only[awL];rw[aY];rfl
      ·rfl
     ·rfl
    ·rfl
   ·rfl
  ·rfl
 ·exact hk (λR K=>rC C.ti _ _ h K) (λR K=>Dq ..)
 ·rw[FC,FC (R:=Ans)];cases qY C.ti _ _ _ h (λp u=>some (p,u))<;>rfl
 ·split<;>rfl
 ·exact hk (λR K=>M7 C.ti _ _ _ _ K) (λR K=>Oz ..)
 ·exact hk (λR K=>Ye _ _ K) (λR K=>Sm ..)
 ·exact Wj ..
 ·exact hk (λR K=>sP C.ti _ _ K) (λR K=>Dr ..)
 ·exact hk (λR K=>nW _ _ _ K) (λR K=>zk ..)
 ·split
  ·exact hk (λR K=>yC C.ti _ _ _ _ K) (λR K=>FI ..)
  ·rfl
 ·exact hk (λR K=>jI C.ti _ _ _ K) (λR K=>xC ..)
 ·exact hk (λR K=>yA C.ti _ _ _ K) (λR K=>FE ..)
 ·exact hk (λR K=>jJ C.ti _ _ _ K) (λR K=>xD ..)
 ·exact hk (λR K=>yB C.ti _ _ _ K) (λR K=>FH ..)
 ·exact hk (λR K=>pI _ _ K) (λR K=>Bw ..)
 ·exact a2f ..
 ·split
  ·exact Wl ..
  ·rfl
 ·split
  ·exact Wm ..
  ·exact hk (λR K=>qE C.ti _ _ _ _ h K) (λR K=>Dt ..)
 ·split
  ·rw[Du,Du (R:=Ans)];cases qF _ _ _ _ h (λp u=>some (p,u))<;>rfl
  ·rw[xE,xE (R:=Ans)];cases jd C.ti _ _ _ _ h (λp u=>some (p,u))<;>rfl
 ·rw[zl,zl (R:=Ans)];cases jW C.ti _ _ _ h (λp u=>some (p,u))<;>rfl
 ·rw[uS,uS (R:=Ans)];cases gZ C.ti _ _ _ _ h (λp u=>some (p,u))<;>rfl
 ·exact Wn ..
 ·rfl
end
def Co(ti:List (Nat×TI)):Ty->Nat->List Field->Prop| .unit,_,[]=>True|t,o,[f]=>f.offset=o/\f.name≠ "_" /\ ∃i,look ti f.type=some i/\i.ty=t.un/\0<t.size| .pair a b,o,f::g::l=>f.offset=o/\f.name≠ "_" /\(∃i,look ti f.type=some i/\i.ty=a.un/\0<a.size)/\Co ti b (o+a.size) (g::l)|_,_,_=>False
def kM(ti:List (Nat×TI))(i:TI):Prop:=match i.desc with| .int k=>i.ty= .int k| .bool=>i.ty= .bool| .string=>i.ty= .str| .struct fs=>i.ty.agg=true/\Co ti i.ty 0 fs.toList| .array n e=> ∃i',look ti e=some i'/\i.ty= .arr n i'.ty/\0<i'.ty.size/\1<n| .slice e=> ∃i',look ti e=some i'/\i.ty= .sl i'.ty/\0<i'.ty.size| .pointer _=>(∃t,i.ty= .ptr t)\/ ∃T,i.ty= .sp T| .map _ _=>i.ty= .mp| .func _ _ _=>i.ty= .fn|_=>False
def Ty.dep:Ty->Nat| .pair a b=>max a.dep b.dep+1| .arr _ t=>t.dep+1|_=>1
structure wL(P:Program)(ti:List (Nat×TI)):Prop where
 under: ∀T i,look ti T=some i->P.underlying T=some i.desc
 size: ∀T i w,look ti T=some i->(sizeOf T).run P w= .ok i.ty.size w
 agg: ∀T i w,look ti T=some i->(isAgg T).run P w= .ok i.ty.agg w
 zero: ∀T i w,look ti T=some i->(zeroValue T).run P w= .ok (mkV i.ty i.ty.zcells) w
 info: ∀T i,look ti T=some i-> ∃inf,P.info? T=some inf/\inf.size=i.ty.size/\inf.bytes=i.bytes/\inf.zero=some (mkV i.ty i.ty.zcells)
 shape: ∀T i,look ti T=some i->kM ti i
 head: ∀T i T0,look ti T=some i->i.ty.head=some T0->T0=T
 eq: ∀T i,look ti T=some i->i.ty.agg=true->i.ty.flat=true->P.eqGuardType P.depth T=false/\P.stoodInHeld T=false/\(∀fs,i.desc= .struct fs->fs.size≠1)/\i.ty.dep<=10000
theorem cB: ∀t:Ty,t.zcells.length=t.size:=by
 intro t
 induction t with
 |pair a b iha ihb=>simp[Ty.zcells,Ty.size,iha,ihb]
 |arr n t ih=>simp[Ty.zcells,Ty.size,ih]
 |_=>rfl
theorem rZ(l:List Value): ∀(n i:Nat),i<n->(((List.replicate n l).flatten).drop (i*l.length)).take l.length=l:=by
 intro n
 induction n with
 |zero=>intro i h;omega
 |succ n ih=>
  intro i h;rw[List.replicate_succ,List.flatten_cons];cases i with
  |zero=>simp
  |succ i=>
   rw[Nat.succ_mul,axP,<-ayB,List.drop_left];exact ih i (by omega)
theorem Rd.zero(ρ:Rho)(w:World): ∀t:Ty,Rd ρ w t t.zero t.zcells:=by
 intro t
 induction t with
 |pair a b iha ihb=>
  refine⟨?_,?_⟩
  ·simp only[Ty.zcells];rw[List.take_left' (cB a)];exact iha
  ·simp only[Ty.zcells];rw[List.drop_left' (cB a)];exact ihb
 |arr n t ih=>
  refine⟨cB (.arr n t),λi hi=>?_⟩;simp only[Ty.zcells];have:=rZ t.zcells n i hi;rw[cB]at this;rw[this];exact ih
 |sp _=>exact⟨_,rfl,rfl⟩
 |st t=>exact⟨none,0,rfl,ax2 _,λi hi=>absurd hi (awO _)⟩
 |_=>rfl
theorem VR.int {ρ:Rho}{w:World}{k:IntKind}{n:Int}{v:Value}(h:VR ρ w ⟨.int k,n⟩ v):v= .int k n:=by obtain⟨cs,h1,rfl⟩:=h;simp only[Rd]at h1;subst h1;rfl
theorem VR.bool {ρ:Rho}{w:World}{b:Bool}{v:Value}(h:VR ρ w ⟨.bool,b⟩ v):v= .bool b:=by obtain⟨cs,h1,rfl⟩:=h;simp only[Rd]at h1;subst h1;rfl
theorem VR.str {ρ:Rho}{w:World}{s:ByteArray}{v:Value}(h:VR ρ w ⟨.str,s⟩ v):v= .string s:=by obtain⟨cs,h1,rfl⟩:=h;simp only[Rd]at h1;subst h1;rfl
theorem VR.mkInt {ρ:Rho}{w:World}{k:IntKind}{n:Int} :VR ρ w ⟨.int k,n⟩ (.int k n):=⟨[.int k n],rfl,rfl⟩
theorem VR.mkBool {ρ:Rho}{w:World}{b:Bool} :VR ρ w ⟨.bool,b⟩ (.bool b):=⟨[.bool b],rfl,rfl⟩
theorem VR.mkStr {ρ:Rho}{w:World}{s:ByteArray} :VR ρ w ⟨.str,s⟩ (.string s):=⟨[.string s],rfl,rfl⟩
theorem Yh(t:Ty):t.un.size=t.size:=by cases t<;>rfl
theorem adD(t:Ty):t.un.agg=t.agg:=by cases t<;>rfl
theorem Yi {t:Ty}(h:t.flat=true):t.un=t:=by cases t<;>first|rfl|cases h
theorem a3W(y:V):(KN y).1=y.1.un:=by obtain⟨t,y⟩:=y;cases t<;>rfl
theorem Rd.KN {ρ:Rho}{w:World}{y:V}{cs:List Value}(h:Rd ρ w y.1 y.2 cs):Rd ρ w (KN y).1 (KN y).2 cs:=by obtain⟨t,y⟩:=y;cases t<;>exact h
theorem adE(t:Ty)(cs:List Value):mkV t.un cs=mkV t cs:=by unfold mkV;rw[adD]
theorem VR.KN {ρ:Rho}{w:World}{y:V}{v:Value}(h:VR ρ w y v):VR ρ w (KN y) v:=by obtain⟨cs,h1,rfl⟩:=h;exact⟨cs,h1.KN,by rw[a3W,adE]⟩
theorem a4O {ρ:Rho}{w:World}{u t:Ty}{x:SlV u.den}{y:Nat×(Nat->t.den)}{cs:List Value}(h:Rd ρ w (.sl u) x cs)(hy:adx u t x=some y):Rd ρ w (.st t) y cs:=by
 cases x with
 |nil=>cases hy;exact⟨none,0,h,ax2 _,λi hi=>absurd hi (awO _)⟩
 |fz n f=>
  simp only[adx]at hy;split at hy
  ·rename_i e;subst e;cases hy;exact h
  ·cases hy
 |ms id p lo len=>cases hy
theorem VR.to {ρ:Rho}{w:World}{x:V}{v:Value}{t:Ty}{y:t.den}(h:VR ρ w x v)(hy:x.to t=some y):VR ρ w ⟨t,y⟩ v:=by
 unfold V.to at hy;split at hy
 ·rename_i e;obtain⟨u,x⟩:=x;simp only at e;subst e;simp only[awr]at hy;subst hy;exact h
 ·split at hy
  ·simp only[awr]at hy;subst hy;obtain⟨cs,h1,rfl⟩:=h;exact⟨[.pointer none],rfl,by simp only[Rd]at h1;subst h1;rfl⟩
  ·simp only[awr]at hy;subst hy;obtain⟨cs,h1,rfl⟩:=h;exact⟨[.slice none 0 0],rfl,by simp only[Rd]at h1;subst h1;rfl⟩
  ·obtain⟨cs,h1,rfl⟩:=h;exact⟨cs,a4O h1 hy,rfl⟩
  ·cases hy
theorem VR.ptrNil {ρ:Rho}{w:World}{t:Ty}{v:Value}(h:VR ρ w ⟨.ptr t,.nil⟩ v):v= .pointer none:=by obtain⟨cs,h1,rfl⟩:=h;simp only[Rd]at h1;subst h1;rfl
theorem VR.ptrFz {ρ:Rho}{w:World}{t:Ty}{x:t.den}{v:Value}(h:VR ρ w ⟨.ptr t,.fz x⟩ v): ∃b o c,v= .pointer (some ⟨b,o,none⟩)/\Rd ρ.shut w t x c/\Fz ρ w b o c:=by obtain⟨cs,h1,rfl⟩:=h;obtain⟨b,o,c,rfl,h2,h3⟩:=h1;exact⟨b,o,c,rfl,h2,h3⟩
theorem VR.ptrRf {ρ:Rho}{w:World}{t:Ty}{id:Nat}{p:Path}{v:Value}(h:VR ρ w ⟨.ptr t,.rf id p⟩ v):uK ρ t id p v:=by obtain⟨cs,h1,rfl⟩:=h;obtain⟨v,rfl,h2⟩:=h1;exact h2
theorem VR.mkRf {ρ:Rho}{w:World}{t:Ty}{id:Nat}{p:Path}{v:Value}(h:uK ρ t id p v):VR ρ w ⟨.ptr t,.rf id p⟩ v:=⟨[v],⟨v,rfl,h⟩,rfl⟩
theorem VR.mkFz {ρ:Rho}{w:World}{t:Ty}{x:t.den}{b o:Nat}{c:List Value}(h:Rd ρ.shut w t x c)(hf:Fz ρ w b o c):VR ρ w ⟨.ptr t,.fz x⟩ (.pointer (some ⟨b,o,none⟩)):=
 ⟨[.pointer (some ⟨b,o,none⟩)],⟨b,o,c,rfl,h,hf⟩,rfl⟩
section
variable {P:Program} {ti:List (Nat×TI)} (hti:wL P ti) {ρ:Rho} {w:World}
theorem Yj {op:BinOp}{k:IntKind}{x y:Int}{pv:PV}(T:TypeId)(h:Ow op k x y some=some pv)(h1:op≠ .shl)(h2:op≠ .shr):
  ∃v,(∀w,(binOp op T (.int k x) (.int k y)).run P w= .ok v w)/\ ∀ρ w,VP ρ w pv v:=by
 cases op<;>simp only[Ow,awr,reduceCtorEq]at h
 case add=>subst h;exact⟨_,λw=>by simp only[binOp,ne_eq,axu,ay4,Op.intArith];rfl,λρ w=>VR.mkInt⟩
 case sub=>subst h;exact⟨_,λw=>by simp only[binOp,ne_eq,axu,ay4,Op.intArith];rfl,λρ w=>VR.mkInt⟩
 case mul=>subst h;exact⟨_,λw=>by simp only[binOp,ne_eq,axu,ay4,Op.intArith];rfl,λρ w=>VR.mkInt⟩
 case quo=>
  by_cases hy:y=0
  ·simp[hy]at h
  ·simp only[hy,decide_false,awW,awr]at h;subst h;exact⟨_,λw=>by simp only[binOp,ne_eq,axu,ay4,Op.intDiv,hy];rfl,λρ w=>VR.mkInt⟩
 case rem=>
  by_cases hy:y=0
  ·simp[hy]at h
  ·simp only[hy,decide_false,awW,awr]at h;subst h;exact⟨_,λw=>by simp only[binOp,ne_eq,axu,ay4,Op.intDiv,hy];rfl,λρ w=>VR.mkInt⟩
 case and=>subst h;exact⟨_,λw=>by simp only[binOp,ne_eq,axu,ay4,Op.intBits];rfl,λρ w=>VR.mkInt⟩
 case or=>subst h;exact⟨_,λw=>by simp only[binOp,ne_eq,axu,ay4,Op.intBits];rfl,λρ w=>VR.mkInt⟩
 case xor=>subst h;exact⟨_,λw=>by simp only[binOp,ne_eq,axu,ay4,Op.intBits];rfl,λρ w=>VR.mkInt⟩
 case andNot=>subst h;exact⟨_,λw=>by simp only[binOp,ne_eq,axu,ay4,Op.intBits];rfl,λρ w=>VR.mkInt⟩
 case eql=>subst h;exact⟨_,λw=>by simp only[binOp,ne_eq,axu,ay4,Op.intCmp];rfl,λρ w=>VR.mkBool⟩
 case neq=>subst h;exact⟨_,λw=>by simp only[binOp,ne_eq,axu,ay4,Op.intCmp];rfl,λρ w=>VR.mkBool⟩
 case lss=>subst h;exact⟨_,λw=>by simp only[binOp,ne_eq,axu,ay4,Op.intCmp];rfl,λρ w=>VR.mkBool⟩
 case leq=>subst h;exact⟨_,λw=>by simp only[binOp,ne_eq,axu,ay4,Op.intCmp];rfl,λρ w=>VR.mkBool⟩
 case gtr=>subst h;exact⟨_,λw=>by simp only[binOp,ne_eq,axu,ay4,Op.intCmp];rfl,λρ w=>VR.mkBool⟩
 case geq=>subst h;exact⟨_,λw=>by simp only[binOp,ne_eq,axu,ay4,Op.intCmp];rfl,λρ w=>VR.mkBool⟩
theorem Yk {op:BinOp}{x y:ByteArray}{pv:PV}(T:TypeId)(h:Ox op x y some=some pv):
  ∃v,(∀w,(binOp op T (.string x) (.string y)).run P w= .ok v w)/\ ∀ρ w,VP ρ w pv v:=by
 cases op<;>simp only[Ox,awr,reduceCtorEq]at h
 case add=>
  by_cases hy:((x.size+y.size:Nat):Int)>IntKind.i64.max
  ·rw[awv hy]at h;cases h
  ·rw[aww hy]at h;simp only[awW,awr]at h;subst h;exact⟨_,λw=>by simp only[binOp,Op.stringOp,awG hy];rfl,λρ w=>VR.mkStr⟩
 all_goals subst h;exact⟨_,λw=>by simp only[binOp,Op.stringOp];rfl,λρ w=>VR.mkBool⟩
theorem run_equalIn_array {P:Program}(w:World)(d n:Nat)(t e:TypeId)(xs ys:Array Value)(s:Nat)(p:Nat->Bool)(ht:P.underlying t=some (.array n e))(hs: ∀w,(sizeOf e).run P w= .ok s w)
  (hp: ∀i w,i<n-> ∃a b,(part e xs (i*s)).run P w= .ok a w/\(part e ys (i*s)).run P w= .ok b w/\(Op.equalIn d e a b).run P w= .ok (p i) w):
  (Op.equalIn (d+1) t (.agg xs) (.agg ys)).run P w= .ok (a6f n p) w:=by
 simp only[Op.equalIn,awx,awJ ht,aws,hs];simp only[Std.Legacy.Range.forIn_eq_forIn_range',Std.Legacy.Range.size,Nat.sub_zero,ayY,az8,<-List.range_eq_range',a6f];have: ∀(l:List Nat),(∀i∈l,i<n)-> ∀w,((forIn l ((none,()):Option Bool×Unit) λi r=>do
   let a<-part e xs (i*s);let b<-part e ys (i*s);let r<-Op.equalIn d e a b
   if(!r)=true then pure (ForInStep.done (some false,()))else pure (ForInStep.yield (none,())):Sem _).run P w)= .ok (if l.all p then(none,())else(some false,())) w:=by
  intro l
  induction l with
  |nil=>intro _ w;rfl
  |cons i l ih=>
   intro hl w;obtain⟨a,b,h1,h2,h3⟩:=hp i w (hl i (by simp));simp only[List.forIn_cons,awx,h1,h2,h3,aws,ayQ];cases hpi:p i
   ·simp[hpi]
   ·simp only[axc,axi,ay4,awM,aws,az1,hpi,ax4];exact ih (λj hj=>hl j (by simp[hj])) w
 rw[this (List.range n) (λi hi=>ayo.1 hi) w];cases h:(List.range n).all p<;>simp[Result.andThen]
theorem uT {P:Program}{T e:TypeId}(hu:P.underlying T=some (.pointer e))(d:Nat)(q:Option Addr)(w:World):(Op.equalIn (d+1) T (.pointer none) (.pointer q)).run P w= .ok q.isNone w:=by simp[Op.equalIn,awJ hu]
theorem Cq {P:Program}{T e:TypeId}(hu:P.underlying T=some (.pointer e))(d:Nat)(p:Addr)(w:World):(Op.equalIn (d+1) T (.pointer (some p)) (.pointer none)).run P w= .ok false w:=by simp[Op.equalIn,awJ hu]
theorem Cr {P:Program}{T k e:TypeId}(hu:P.underlying T=some (.map k e))(d:Nat)(p q:Option Nat)(r:Bool)(h:(p=none/\r=q.isNone)\/(q=none/\r=p.isNone))(w:World):(Op.equalIn (d+1) T (.map p) (.map q)).run P w= .ok r w:=by
 rcases h with⟨rfl,rfl⟩|⟨rfl,rfl⟩
 ·cases q<;>simp[Op.equalIn,awJ hu]
 ·cases p<;>simp[Op.equalIn,awJ hu]
theorem wM {P:Program}{ti:List (Nat×TI)}(hti:wL P ti){T:TypeId}{i:TI}(hi:look ti T=some i){ρ:Rho}{w0:World}{x:i.ty.den}{c:List Value}(cs:Array Value)(o:Nat)(w:World)
  (hc:(cs.toList.drop o).take i.ty.size=c) (h:Rd ρ w0 i.ty x c):(part T cs o).run P w= .ok (mkV i.ty c) w:=by
 subst hc;unfold part mkV;simp only[awx,hti.agg T i w hi,aws];cases ha:i.ty.agg
 ·obtain⟨v,hv⟩:=h.single ha;have hsz:i.ty.size=1:=by have:=h.length;rw[hv]at this;exact this.symm
  have:cs[o]?=some v:=by
   have h1:((cs.toList.drop o).take i.ty.size)[0]?=some v:=by rw[hv];rfl
   rw[awX (by omega),axa]at h1;simpa using h1
  simp only[axi,ay4,this,hv,List.headD_cons];rfl
 ·simp only[axV,awx,hti.size T i w hi,aws,awM]
  congr 2
  apply ayt;simp[Array.toList_extract,List.take_drop]
theorem Q6 {P:Program}{T:TypeId}{fs:Array Field}(h:P.underlying T=some (.struct fs)):P.fieldsOf T=fs:=by unfold Program.fieldsOf;rw[h]
theorem a4P {P:Program}{ti:List (Nat×TI)}(hti:wL P ti): ∀(N:Nat) (t:Ty) (T:TypeId) (i:TI) (d:Nat),t.dep<=N->look ti T=some i->i.ty=t->t.flat=true->t.dep<=d->
  ∀(ρ:Rho) (w0:World) (x y:t.den) (xs ys:List Value) (w:World),Rd ρ w0 t x xs->Rd ρ w0 t y ys->(Op.equalIn d T (mkV t xs) (mkV t ys)).run P w= .ok (eqF t x y) w:=by
 intro N
 induction N with
 |zero=>intro t T i d hN;cases t<;>simp only[Ty.dep]at hN<;>omega
 |succ N IH=>
  have fields: ∀(fs:List Field) (t:Ty) (o d:Nat),t.dep<=N->Co ti t o fs->t.flat=true->t.dep<=d-> ∀(ρ:Rho) (w0:World) (x y:t.den) (xs ys:Array Value) (w:World),
    Rd ρ w0 t x ((xs.toList.drop o).take t.size)->Rd ρ w0 t y ((ys.toList.drop o).take t.size)->(Op.eqFields d xs ys fs).run P w= .ok (eqF t x y) w:=by
   intro fs
   induction fs with
   |nil=>intro t o d _ hc _ _ ρ w0 x y xs ys w _ _;cases t<;>simp only[Co]at hc;rfl
   |cons f l ihl=>
    intro t o d hN hc hfl hd ρ w0 x y xs ys w hx hy;have one: ∀(t:Ty) (i:TI),t.dep<=N->look ti f.type=some i->i.ty=t->t.flat=true->t.dep<=d-> ∀(x y:t.den),f.name≠ "_" ->f.offset=o->
      Rd ρ w0 t x ((xs.toList.drop o).take t.size)->Rd ρ w0 t y ((ys.toList.drop o).take t.size)->(Op.eqFields d xs ys (f::l)).run P w=if eqF t x y then(Op.eqFields d xs ys l).run P w else .ok false w:=by
     intro t i hN hi e hfl hd x y hn ho hx hy;subst e;have hd0:1<=d:=by cases hh:i.ty<;>rw[hh]at hd<;>simp only[Ty.dep]at hd<;>omega
     simp only[Op.eqFields,awx,ayQ];rw[awQ hn,ho,wM hti hi xs o w rfl hx];simp only[aws];rw[wM hti hi ys o w rfl hy];simp only[aws];rw[IH i.ty f.type i d hN hi rfl hfl hd ρ w0 x y _ _ w hx hy];cases eqF i.ty x y<;>simp[Result.andThen]
    cases l with
    |nil=>
     have hc':f.offset=o/\f.name≠ "_" /\ ∃i,look ti f.type=some i/\i.ty=t.un/\0<t.size:=by cases t<;>exact hc
     obtain⟨ho,hn,i,hi,e,_⟩:=hc';rw[Yi hfl]at e;rw[one t i hN hi e hfl hd x y hn ho hx hy];cases eqF t x y<;>rfl
    |cons g l=>
     cases t<;>simp only[Co]at hc;rename_i a b;obtain⟨ho,hn,⟨i,hi,e,_⟩,hcb⟩:=hc;simp only[Ty.flat,awu]at hfl;rw[Yi hfl.1]at e;simp only[Ty.dep]at hd;have hNs:a.dep<=N/\b.dep<=N:=by simp only[Ty.dep]at hN;omega
     have hxa:=hx.1;have hxb:=hx.2;have hya:=hy.1;have hyb:=hy.2;rw[ayX,ay5 (by simp only[Ty.size];omega)]at hxa hya;rw[ayW,ayB,show(Ty.pair a b).size-a.size=b.size by simp only[Ty.size];omega]at hxb hyb;rw[one a i hNs.1 hi e hfl.1 (by omega) x.1 y.1 hn ho hxa hya,ihl b (o+a.size) d hNs.2 hcb hfl.2 (by omega) ρ w0 x.2 y.2 xs ys w hxb hyb];simp only[eqF];cases eqF a x.1 y.1<;>simp
  intro t T i d hN hi e hfl hd ρ w0 x y xs ys w hx hy;have hu:=hti.under T i hi;have hs:=hti.shape T i hi;obtain⟨d,rfl⟩: ∃e,d=e+1:=⟨d-1,by cases t<;>simp only[Ty.dep]at hd<;>omega⟩;subst e;unfold kM at hs;cases hdesc:i.desc<;>rw[hdesc]at hs hu<;>simp only at hs
  case int k=>
   obtain⟨dd,ty⟩:=i;simp only at hs;subst hs;simp only[Rd]at hx hy;subst hx;subst hy;exact run_equalIn_int w d T k k x y hu
  case bool=>
   obtain⟨dd,ty⟩:=i;simp only at hs;subst hs;simp only[Rd]at hx hy;subst hx;subst hy;exact run_equalIn_bool' w d T x y hu
  case string=>
   obtain⟨dd,ty⟩:=i;simp only at hs;subst hs;simp only[Rd]at hx hy;subst hx;subst hy;exact run_equalIn_string w d T x y hu
  case pointer=>
   rcases hs with⟨t,e⟩|⟨_,e⟩
   ·rw[e]at hfl;cases hfl
   ·rw[e]at hfl;cases hfl
  case map=>rw[hs]at hfl;cases hfl
  case slice=>obtain⟨_,_,e,_⟩:=hs;rw[e]at hfl;cases hfl
  case func=>rw[hs]at hfl;cases hfl
  case array n e=>
   obtain⟨i',hi',e',_⟩:=hs;obtain⟨dd,ty⟩:=i;simp only at e';subst e';simp only[Ty.dep]at hd;refine run_equalIn_array w d n T e _ _ i'.ty.size _ hu (λw=>hti.size e i' w hi') (λj w hj=>?_);refine⟨_,_,wM hti hi' _ _ w rfl (hx.2 j hj),wM hti hi' _ _ w rfl (hy.2 j hj),?_⟩;exact IH i'.ty e i' d (by simp only[Ty.dep]at hN;omega) hi' rfl hfl (by omega) ρ w0 _ _ _ _ w (hx.2 j hj) (hy.2 j hj)
  case struct fs=>
   obtain⟨hag,hc⟩:=hs;obtain⟨_,hst,hne,_⟩:=hti.eq T i hi hag hfl;have hlen:fs.toList.length≠1:=by have:=hne fs hdesc;simpa using this
   have hu':=hu;rw[<-Q6 hu]at hu';have hxl:=hx.length;have hyl:=hy.length;unfold mkV;rw[hag];simp only[axV];rw[run_equalIn_struct w d T _ _ hu' hst,Q6 hu];obtain⟨dd,ty⟩:=i;simp only at hag hc hfl hd hN x y hx hy hxl hyl;generalize fs.toList=L at hc hlen
   match L,hc,hlen with
   | [],hc,_=>
    cases ty with
    |unit=>rfl
    |_=>simp only[Co]at hc
   | [f],_,hl=>simp at hl
   |f::g::l,hc,_=>
    cases ty with
    |pair a b=>
     simp only[Co]at hc;obtain⟨ho,hn,⟨i',hi',e,_⟩,hcb⟩:=hc;simp only[Ty.flat,awu]at hfl;rw[Yi hfl.1]at e;simp only[Ty.dep]at hd;have hNs:a.dep<=N/\b.dep<=N:=by simp only[Ty.dep]at hN;omega
     subst e;have hxa:=hx.1;have hya:=hy.1;simp only[Op.eqFields,awx,ayQ];rw[awQ hn,ho,wM hti hi' _ _ w (c:=xs.take i'.ty.size) (by simp) hxa];simp only[aws];rw[wM hti hi' _ _ w (c:=ys.take i'.ty.size) (by simp) hya];simp only[aws];rw[IH i'.ty f.type i' d hNs.1 hi' rfl hfl.1 (by omega) ρ w0 x.1 y.1 _ _ w hxa hya];have hb:=fields (g::l) b (0+i'.ty.size) d hNs.2 hcb hfl.2 (by omega) ρ w0 x.2 y.2 xs.toArray ys.toArray w
      (by have:=hx.2;simp only[Ty.size]at hxl;rw[awR,axq (by simp;omega)];exact this)
      (by have:=hy.2;simp only[Ty.size]at hyl;rw[awR,axq (by simp;omega)];exact this)
     simp only[eqF];cases eqF i'.ty x.1 y.1
     ·simp[Result.andThen]
     ·simp only[axc,axi,ay4,ax4,aws];simp only[Op.eqFields,awx,ayQ]at hb;exact hb
    |_=>simp only[Co]at hc
  all_goals exact hs.elim
end
end Go.Den
