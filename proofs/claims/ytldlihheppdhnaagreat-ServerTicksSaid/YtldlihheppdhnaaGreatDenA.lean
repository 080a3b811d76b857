/-
 The plain reading of code: values, operations, states.
-/
import Derived.Calls
import Derived.Orders
import Derived.Laws.Rows
import Derived.Laws.Cells
import Derived.Laws.CopyRow
import Derived.Laws.Sem
import Derived.Laws.World
import Derived.Laws.Entries
import Derived.Laws.StructEq
set_option linter.unusedVariables false
set_option linter.unusedSimpArgs false
namespace Go
theorem axe:type_of% @Option.some.injEq:=@Option.some.injEq
theorem axf:type_of% @List.forall_mem_cons:=@List.forall_mem_cons
theorem axg:type_of% @Go.Result.andThen_ok:=@Go.Result.andThen_ok
theorem axh:type_of% @Bool.and_eq_true:=@Bool.and_eq_true
theorem axi:type_of% @if_neg:=@if_neg
theorem axj:type_of% @Go.Sem.run_bind:=@Go.Sem.run_bind
theorem axk:type_of% @Nat.mod_eq_of_lt:=@Nat.mod_eq_of_lt
theorem axl:type_of% @List.mem_append_right:=@List.mem_append_right
theorem axm:type_of% @List.getD_eq_getElem?_getD:=@List.getD_eq_getElem?_getD
theorem axn:type_of% @List.getElem?_eq_getElem:=@List.getElem?_eq_getElem
theorem axo:type_of% @List.getElem?_eq_some_iff:=@List.getElem?_eq_some_iff
theorem axp:type_of% @if_pos:=@if_pos
theorem axq:type_of% @List.length_append:=@List.length_append
theorem axr:type_of% @Nat.le_refl:=@Nat.le_refl
theorem axt:type_of% @List.mem_append_left:=@List.mem_append_left
theorem axu:type_of% @Nat.ble_eq_true_of_le:=@Nat.ble_eq_true_of_le
theorem axv:type_of% @Go.run_underlying:=@Go.run_underlying
theorem axw:type_of% @decide_eq_true:=@decide_eq_true
theorem axx:type_of% @Nat.le_of_ble_eq_true:=@Nat.le_of_ble_eq_true
theorem axy:type_of% @cond_true:=@cond_true
theorem axz:type_of% @decide_eq_false:=@decide_eq_false
theorem axA:type_of% @Nat.zero_add:=@Nat.zero_add
theorem axB:type_of% @Nat.lt_of_le_of_lt:=@Nat.lt_of_le_of_lt
theorem axC:type_of% @List.getElem?_append_left:=@List.getElem?_append_left
theorem axD:type_of% @Go.Sem.run_pure:=@Go.Sem.run_pure
theorem axE:type_of% @Int.toNat_natCast:=@Int.toNat_natCast
theorem axF:type_of% @Nat.mul_le_mul_right:=@Nat.mul_le_mul_right
theorem axG:type_of% @Nat.mod_lt:=@Nat.mod_lt
theorem axH:type_of% @Nat.mul_comm:=@Nat.mul_comm
theorem axI:type_of% @List.getElem?_take_of_lt:=@List.getElem?_take_of_lt
theorem axJ:type_of% @Nat.lt_of_lt_of_le:=@Nat.lt_of_lt_of_le
theorem axK:type_of% @decide_eq_true_eq:=@decide_eq_true_eq
theorem axL:type_of% @cond_false:=@cond_false
theorem axM:type_of% @Nat.pow_le_pow_right:=@Nat.pow_le_pow_right
theorem axN:type_of% @Classical.byContradiction:=@Classical.byContradiction
theorem axO:type_of% @Nat.eq_of_beq_eq_true:=@Nat.eq_of_beq_eq_true
theorem axP:type_of% @List.mem_cons_of_mem:=@List.mem_cons_of_mem
theorem axQ:type_of% @Nat.add_mul:=@Nat.add_mul
theorem axR:type_of% @List.getElem?_cons_zero:=@List.getElem?_cons_zero
theorem axS:type_of% @Nat.not_lt_zero:=@Nat.not_lt_zero
theorem axT:type_of% @List.mem_cons_self:=@List.mem_cons_self
theorem axU:type_of% @List.getElem?_drop:=@List.getElem?_drop
theorem axV:type_of% @Bool.true_and:=@Bool.true_and
theorem axW:type_of% @List.getElem?_map:=@List.getElem?_map
theorem axX:type_of% @Bool.false_eq_true:=@Bool.false_eq_true
theorem axY:type_of% @Nat.testBit_mod_two_pow:=@Nat.testBit_mod_two_pow
theorem axZ:type_of% @Nat.eq_zero_or_pos:=@Nat.eq_zero_or_pos
theorem ay0:type_of% @List.mem_append:=@List.mem_append
theorem ay1:type_of% @Nat.div_le_self:=@Nat.div_le_self
theorem ay2:type_of% @Nat.mul_assoc:=@Nat.mul_assoc
theorem ay3:type_of% @Nat.div_add_mod:=@Nat.div_add_mod
theorem ay4:type_of% @Option.bind_some:=@Option.bind_some
theorem ay5:type_of% @List.getElem?_append_right:=@List.getElem?_append_right
theorem ay6:type_of% @Option.some.inj:=@Option.some.inj
theorem ay7:type_of% @List.getElem?_eq_none:=@List.getElem?_eq_none
theorem ay8:type_of% @Nat.and_two_pow_sub_one_eq_mod:=@Nat.and_two_pow_sub_one_eq_mod
theorem ay9:type_of% @List.append_assoc:=@List.append_assoc
theorem aya:type_of% @Nat.testBit_lt_two_pow:=@Nat.testBit_lt_two_pow
theorem ayb:type_of% @List.length_cons:=@List.length_cons
theorem ayc:type_of% @List.mem_of_getElem?:=@List.mem_of_getElem?
theorem ayd:type_of% @Bool.false_and:=@Bool.false_and
theorem aye:type_of% @List.getElem?_toArray:=@List.getElem?_toArray
theorem ayf:type_of% @Nat.or_lt_two_pow:=@Nat.or_lt_two_pow
theorem ayg:type_of% @List.take_of_length_le:=@List.take_of_length_le
theorem ayh:type_of% @Option.map_eq_some_iff:=@Option.map_eq_some_iff
theorem ayi:type_of% @Nat.testBit_div_two_pow:=@Nat.testBit_div_two_pow
theorem ayj:type_of% @List.ext_getElem?:=@List.ext_getElem?
theorem ayk:type_of% @not_true_eq_false:=@not_true_eq_false
theorem ayl:type_of% @Nat.div_eq_of_lt:=@Nat.div_eq_of_lt
theorem aym:type_of% @Bool.not_true:=@Bool.not_true
theorem ayn:type_of% @Option.map_some:=@Option.map_some
theorem ayo:type_of% @Nat.add_zero:=@Nat.add_zero
theorem ayp:type_of% @List.mem_singleton:=@List.mem_singleton
theorem ayq:type_of% @Nat.div_div_eq_div_mul:=@Nat.div_div_eq_div_mul
theorem ayr:type_of% @Array.getElem?_push:=@Array.getElem?_push
theorem ays:type_of% @Nat.zero_le:=@Nat.zero_le
theorem ayt:type_of% @decide_eq_decide:=@decide_eq_decide
theorem ayu:type_of% @Nat.sub_self:=@Nat.sub_self
theorem ayv:type_of% @List.getElem?_cons_succ:=@List.getElem?_cons_succ
theorem ayw:type_of% @List.mem_cons:=@List.mem_cons
theorem ayx:type_of% @List.take_append_drop:=@List.take_append_drop
theorem ayy:type_of% @List.length_drop:=@List.length_drop
theorem ayz:type_of% @List.all_eq_true:=@List.all_eq_true
theorem ayA:type_of% @beq_self_eq_true:=@beq_self_eq_true
theorem ayB:type_of% @if_true:=@if_true
theorem ayC:type_of% @Array.getD_eq_getD_getElem?:=@Array.getD_eq_getD_getElem?
theorem ayD:type_of% @List.append_nil:=@List.append_nil
theorem ayE:type_of% @Nat.one_mul:=@Nat.one_mul
theorem ayF:type_of% @Nat.pow_add:=@Nat.pow_add
theorem ayG:type_of% @Nat.two_pow_add_eq_or_of_lt:=@Nat.two_pow_add_eq_or_of_lt
theorem ayH:type_of% @if_false:=@if_false
theorem ayI:type_of% @Nat.pow_lt_pow_right:=@Nat.pow_lt_pow_right
theorem ayJ:type_of% @bne_self_eq_false:=@bne_self_eq_false
theorem ayK:type_of% @Nat.add_comm:=@Nat.add_comm
theorem ayL:type_of% @List.map_cons:=@List.map_cons
theorem ayM:type_of% @Nat.div_lt_iff_lt_mul:=@Nat.div_lt_iff_lt_mul
theorem ayN:type_of% @Bool.or_eq_true:=@Bool.or_eq_true
theorem ayO:type_of% @Array.getElem?_eq_getElem:=@Array.getElem?_eq_getElem
theorem ayP:type_of% @List.getElem?_range:=@List.getElem?_range
theorem ayQ:type_of% @Nat.pow_succ:=@Nat.pow_succ
theorem ayR:type_of% @List.nodup_cons:=@List.nodup_cons
theorem ayS:type_of% @Nat.zero_mul:=@Nat.zero_mul
theorem ayT:type_of% @Nat.min_eq_left:=@Nat.min_eq_left
theorem ayU:type_of% @Nat.eq_of_testBit_eq:=@Nat.eq_of_testBit_eq
theorem ayV:type_of% @Nat.pow_zero:=@Nat.pow_zero
theorem ayW:type_of% @Nat.mul_mod:=@Nat.mul_mod
theorem ayX:type_of% @Array.getElem?_toList:=@Array.getElem?_toList
theorem ayY:type_of% @Array.getElem?_eq_some_iff:=@Array.getElem?_eq_some_iff
theorem ayZ:type_of% @Nat.add_mul_mod_self_right:=@Nat.add_mul_mod_self_right
theorem az0:type_of% @Nat.mul_one:=@Nat.mul_one
theorem az1:type_of% @List.getElem?_modify:=@List.getElem?_modify
theorem az2:type_of% @List.getElem?_of_mem:=@List.getElem?_of_mem
theorem az3:type_of% @Nat.le_trans:=@Nat.le_trans
theorem az4:type_of% @List.getElem?_zip_eq_some:=@List.getElem?_zip_eq_some
theorem az5:type_of% @Bool.eq_iff_iff:=@Bool.eq_iff_iff
theorem az6:type_of% @Nat.and_le_left:=@Nat.and_le_left
theorem az7:type_of% @List.map_congr_left:=@List.map_congr_left
theorem az8:type_of% @Array.getElem?_setIfInBounds:=@Array.getElem?_setIfInBounds
theorem az9:type_of% @Bool.not_false:=@Bool.not_false
theorem aza:type_of% @List.nil_append:=@List.nil_append
theorem azb:type_of% @List.length_eq_zero_iff:=@List.length_eq_zero_iff
theorem azc:type_of% @Option.bind_eq_some_iff:=@Option.bind_eq_some_iff
theorem azd:type_of% @Nat.testBit_two_pow_mul:=@Nat.testBit_two_pow_mul
theorem aze:type_of% @List.map_toArray:=@List.map_toArray
theorem azf:type_of% @Nat.testBit_eq_decide_div_mod_eq:=@Nat.testBit_eq_decide_div_mod_eq
theorem azg:type_of% @Nat.pow_mul:=@Nat.pow_mul
theorem azh:type_of% @Bool.or_false:=@Bool.or_false
theorem azi:type_of% @Nat.testBit_or:=@Nat.testBit_or
theorem azj:type_of% @Nat.add_mul_div_right:=@Nat.add_mul_div_right
theorem azk:type_of% @Array.ext':=@Array.ext'
theorem azl:type_of% @Nat.mul_right_comm:=@Nat.mul_right_comm
theorem azm:type_of% @List.cons_append:=@List.cons_append
theorem azn:type_of% @List.take_append_of_le_length:=@List.take_append_of_le_length
theorem azo:type_of% @Nat.mul_add:=@Nat.mul_add
theorem azp:type_of% @Nat.pow_pos:=@Nat.pow_pos
theorem azq:type_of% @Bool.and_true:=@Bool.and_true
theorem azr:type_of% @List.drop_drop:=@List.drop_drop
theorem azs:type_of% @Nat.lt_or_ge:=@Nat.lt_or_ge
theorem azt:type_of% @List.mem_range:=@List.mem_range
theorem azu:type_of% @List.map_nil:=@List.map_nil
theorem azv:type_of% @Int.toNat_of_nonneg:=@Int.toNat_of_nonneg
theorem azw:type_of% @Nat.mul_le_mul_left:=@Nat.mul_le_mul_left
theorem azx:type_of% @Array.getElem?_append_left:=@Array.getElem?_append_left
theorem azy:type_of% @Nat.add_assoc:=@Nat.add_assoc
theorem azz:type_of% @Array.getElem?_modify:=@Array.getElem?_modify
theorem azA:type_of% @List.mem_map:=@List.mem_map
theorem azB:type_of% @Nat.add_mul_mod_self_left:=@Nat.add_mul_mod_self_left
theorem azC:type_of% @Nat.add_mod:=@Nat.add_mod
theorem azD:type_of% @Nat.mul_le_mul:=@Nat.mul_le_mul
theorem azE:type_of% @List.size_toArray:=@List.size_toArray
theorem azF:type_of% @List.length_map:=@List.length_map
theorem azG:type_of% @List.length_range:=@List.length_range
theorem azH:type_of% @List.flatMap_cons:=@List.flatMap_cons
theorem azI:type_of% @Go.Sem.run_ite:=@Go.Sem.run_ite
theorem azJ:type_of% @Prod.mk.injEq:=@Prod.mk.injEq
theorem azK:type_of% @Bool.false_or:=@Bool.false_or
theorem azL:type_of% @Go.ByteArray.toList_eq:=@Go.ByteArray.toList_eq
theorem azM:type_of% @Nat.testBit_two_pow:=@Nat.testBit_two_pow
theorem azN:type_of% @Nat.add_sub_cancel_left:=@Nat.add_sub_cancel_left
theorem azO:type_of% @Nat.lt_succ_self:=@Nat.lt_succ_self
theorem azP:type_of% @List.drop_zero:=@List.drop_zero
theorem azQ:type_of% @List.drop_take:=@List.drop_take
theorem azR:type_of% @List.take_take:=@List.take_take
theorem azS:type_of% @Nat.add_sub_cancel:=@Nat.add_sub_cancel
theorem azT:type_of% @Nat.mod_mod:=@Nat.mod_mod
theorem azU:type_of% @List.all_cons:=@List.all_cons
theorem azV:type_of% @beq_iff_eq:=@beq_iff_eq
theorem azW:type_of% @List.length_take:=@List.length_take
theorem azX:type_of% @Nat.zero_testBit:=@Nat.zero_testBit
theorem azY:type_of% @Nat.div_one:=@Nat.div_one
theorem azZ:type_of% @Nat.lt_trans:=@Nat.lt_trans
theorem aA0:type_of% @Nat.le_of_dvd:=@Nat.le_of_dvd
theorem aA1:type_of% @decide_true:=@decide_true
end Go
namespace Go.Den
inductive Ty where
 |int (k:IntKind)|bool|str|unit
 |pair (a b:Ty)
 |arr (n:Nat) (t:Ty)
 |sl (t:Ty)
 |ptr (t:Ty)
 |fn
 |sp (T:TypeId)
 |mp
 |st (t:Ty)
 deriving DecidableEq
inductive Step where
 |L|R|X (i:Nat)|S (lo n:Nat)
 deriving DecidableEq
abbrev Path:=List Step
inductive SlV(α:Type) where
 |nil
 |fz (n:Nat) (f:Nat->α)
 |ms (id:Nat) (p:Path) (lo len:Nat)
inductive aR(α:Type) where
 |nil
 |fz (x:α)
 |rf (id:Nat) (p:Path)
def SlV.isMs {α:Type} :SlV α->Bool| .ms _ _ _ _=>true|_=>false
def SlV.len {α:Type} :SlV α->Nat| .nil=>0| .fz n _=>n| .ms _ _ _ n=>n
def SlV.fn {α:Type}(d:α):SlV α->Nat->α| .fz _ f=>f|_=>λ_=>d
def aR.vQ {α:Type} :aR α->Bool| .rf _ _=>true|_=>false
def aR.isNil {α:Type} :aR α->Bool| .nil=>true|_=>false
def aR.val {α:Type}(d:α):aR α->α| .fz x=>x|_=>d
inductive FnV where
 |nil
 |mk (f:Nat) (caps:List (Ty×Nat×Path))
 deriving DecidableEq
@[reducible] def Ty.den:Ty->Type
 | .int _=>Int
 | .bool=>Bool
 | .str=>ByteArray
 | .unit=>Unit
 | .pair a b=>a.den×b.den
 | .arr _ t=>Nat->t.den
 | .sl t=>SlV t.den
 | .ptr t=>aR t.den
 | .fn=>FnV
 | .sp _=>Unit
 | .mp=>Option Nat
 | .st t=>Nat×(Nat->t.den)
def Ty.size:Ty->Nat| .unit=>0| .pair a b=>a.size+b.size| .arr n t=>n*t.size|_=>1
def Ty.agg:Ty->Bool| .unit| .pair _ _| .arr _ _=>true|_=>false
abbrev V:=(t:Ty)×t.den
def Ty.get:(t:Ty)->t.den->Path->Option V|t,x,[]=>some ⟨t,x⟩| .pair a _,x,.L::p=>a.get x.1 p| .pair _ b,x,.R::p=>b.get x.2 p| .arr _ t,f,.X i::p=>t.get (f i) p| .arr _ t,f,.S lo n::p=>(Ty.arr n t).get (λj=>f (lo+j)) p|_,_,_=>none
termination_by structural _ _ p=>p
def upd {α:Type}(f:Nat->α)(i:Nat)(v:α):Nat->α:=λj=>if j=i then v else f j
def tO {α:Type}(f:Nat->α)(lo n:Nat)(z:Nat->α):Nat->α:=λj=>if lo<=j/\j<lo+n then z (j-lo)else f j
def Ty.set:(t:Ty)->t.den->Path->(u:Ty)->u.den->Option t.den
 |t,_,[],u,y=>if h:u=t then some (h▸y)else none
 | .pair a _,x,.L::p,u,y=>match a.set x.1 p u y with|some z=>some (z,x.2)|none=>none
 | .pair _ b,x,.R::p,u,y=>match b.set x.2 p u y with|some z=>some (x.1,z)|none=>none
 | .arr _ t,f,.X i::p,u,y=>match t.set (f i) p u y with|some z=>some (upd f i z)|none=>none
 | .arr _ t,f,.S lo n::p,u,y=>match(Ty.arr n t).set (λj=>f (lo+j)) p u y with
  |some z=>some (tO f lo n z)
  |none=>none
 |_,_,_,_,_=>none
termination_by structural _ _ p=>p
def Ty.at:Ty->Path->Option Ty|t,[]=>some t| .pair a _,.L::p=>a.at p| .pair _ b,.R::p=>b.at p| .arr _ t,.X _::p=>t.at p| .arr _ t,.S _ n::p=>(Ty.arr n t).at p|_,_=>none
termination_by structural _ p=>p
def Ty.off:Ty->Path->Nat|_,[]=>0| .pair a _,.L::p=>a.off p| .pair a b,.R::p=>a.size+b.off p| .arr _ t,.X i::p=>i*t.size+t.off p| .arr _ t,.S lo n::p=>lo*t.size+(Ty.arr n t).off p|_,_=>0
termination_by structural _ p=>p
def Ty.okP:Ty->Path->Prop|_,[]=>True| .pair a _,.L::p=>a.okP p| .pair _ b,.R::p=>b.okP p| .arr n t,.X i::p=>i<n/\t.okP p| .arr m t,.S lo n::p=>lo+n<=m/\(Ty.arr n t).okP p|_,_=>False
termination_by structural _ p=>p
structure Loc where
 blk:Nat
 ty:Ty
 cap:Option Nat
structure Rho where
 f:Nat->Option Loc
 W:Nat->Prop
 A:Nat->Prop
 sub: ∀b,W b->A b
instance:CoeFun Rho (λ_=>Nat->Option Loc):=⟨Rho.f⟩
def Rho.shut(ρ:Rho):Rho:=⟨λ_=>none,λ_=>False,ρ.A,λ_ h=>h.elim⟩
def Fz(ρ:Rho)(w:World)(b o:Nat)(c:List Value):Prop:=
 ¬ρ.A b/\b<w.heap.size/\ ∀(j:Nat) (v:Value),c[j]?=some v->w.cell? ⟨b,o+j,none⟩=some v
def uZ(ρ:Rho)(t:Ty)(id:Nat)(p:Path)(v:Value):Prop:=
 ∃loc,ρ id=some loc/\loc.ty.okP p/\loc.ty.at p=some t/\(loc.cap=none\/p≠ [])/\v= .pointer (some ⟨loc.blk,loc.ty.off p,none⟩)
def opq:Value->Bool| .pointer _=>true| .nilIface=>true|_=>false
def Rd(ρ:Rho)(w:World):(t:Ty)->t.den->List Value->Prop
 | .int k,x,cs=>cs=[.int k x]
 | .bool,x,cs=>cs=[.bool x]
 | .str,x,cs=>cs=[.string x]
 | .unit,_,cs=>cs=[]
 | .pair a b,x,cs=>Rd ρ w a x.1 (cs.take a.size)/\Rd ρ w b x.2 (cs.drop a.size)
 | .arr n t,f,cs=>cs.length=n*t.size/\ ∀i,i<n->Rd ρ w t (f i) ((cs.drop (i*t.size)).take t.size)
 | .sl t,x,cs=>match x with
  | .nil=>cs=[.slice none 0 0]
  | .fz n f=> ∃a cap,cs=[.slice a n cap]/\n<=cap/\ ∀i,i<n-> ∃b o c,a=some ⟨b,o,none⟩/\Rd ρ.shut w t (f i) c/\Fz ρ w b (o+i*t.size) c
  | .ms id p lo len=>(len=0/\cs=[.slice none 0 0])\/ ∃loc m cap o,ρ id=some loc/\loc.ty.okP p/\loc.ty.at p=some (.arr m t)/\lo+len<=m/\
    cs=[.slice (some ⟨loc.blk,o,none⟩) len cap]/\(0<len->o=loc.ty.off p+lo*t.size)/\len<=cap/\(∀c,loc.cap=some c->p=[]->lo=0->cap=c/\o=0)
 | .ptr t,x,cs=>match x with
  | .nil=>cs=[.pointer none]
  | .fz y=> ∃b o c,cs=[.pointer (some ⟨b,o,none⟩)]/\Rd ρ.shut w t y c/\Fz ρ w b o c
  | .rf id p=> ∃v,cs=[v]/\uZ ρ t id p v
 | .fn,x,cs=>match x with
  | .nil=>cs=[.nilFunc]
  | .mk f caps=> ∃vs:List Value,cs=[.func (.func f) #[] vs.toArray]/\vs.length=caps.length/\ ∀(j:Nat) c v,caps[j]?=some c->vs[j]?=some v->uZ ρ c.1 c.2.1 c.2.2 v
 | .sp _,_,cs=> ∃v,cs=[v]/\opq v=true
 | .mp,x,cs=>match x with
  |none=>cs=[.map none]
  |some id=> ∃loc,ρ id=some loc/\loc.ty= .mp/\cs=[.map (some loc.blk)]
 | .st t,x,cs=> ∃a cap,cs=[.slice a x.1 cap]/\x.1<=cap/\ ∀i,i<x.1-> ∃b o c,a=some ⟨b,o,none⟩/\Rd ρ.shut w t (x.2 i) c/\Fz ρ w b (o+i*t.size) c
theorem Rd.length {ρ:Rho}{w:World} : ∀ {t:Ty} {x:t.den} {cs:List Value},Rd ρ w t x cs->cs.length=t.size:=by
 intro t
 induction t with
 |int k=>intro x cs h;rw[h];rfl
 |bool=>intro x cs h;rw[h];rfl
 |str=>intro x cs h;rw[h];rfl
 |unit=>intro x cs h;rw[h];rfl
 |pair a b iha ihb=>
  intro x cs h;have h1:=iha h.1;have h2:=ihb h.2;rw[azW]at h1;rw[ayy]at h2;show cs.length=a.size+b.size;omega
 |arr n t ih=>intro x cs h;exact h.1
 |sl t ih=>
  intro x cs h;cases x with
  |nil=>rw[h];rfl
  |fz n f=>obtain⟨a,cap,h,_⟩:=h;rw[h];rfl
  |ms id p lo len=>
   rcases h with⟨_,h⟩|⟨loc,m,cap,o,_,_,_,_,h,_⟩
   ·rw[h];rfl
   ·rw[h];rfl
 |ptr t ih=>
  intro x cs h;cases x with
  |nil=>rw[h];rfl
  |fz y=>obtain⟨b,o,c,h,_⟩:=h;rw[h];rfl
  |rf id p=>obtain⟨v,h,_⟩:=h;rw[h];rfl
 |fn=>
  intro x cs h;cases x with
  |nil=>rw[h];rfl
  |mk f caps=>obtain⟨vs,h,_⟩:=h;rw[h];rfl
 |sp _=>intro x cs h;obtain⟨a,h,_⟩:=h;rw[h];rfl
 |mp=>
  intro x cs h;cases x with
  |none=>rw[h];rfl
  |some id=>obtain⟨loc,_,_,h⟩:=h;rw[h];rfl
 |st t ih=>intro x cs h;obtain⟨a,cap,h,_⟩:=h;rw[h];rfl
theorem Rd.single {ρ:Rho}{w:World}{t:Ty}{x:t.den}{cs:List Value}(h:Rd ρ w t x cs)(ha:t.agg=false): ∃v,cs=[v]:=by
 have hl:=h.length;have:t.size=1:=by cases t<;>simp_all [Ty.agg,Ty.size]
 rw[this]at hl
 match cs,hl with
 | [v],_=>exact⟨v,rfl⟩
structure Keeps(ρ:Rho)(w:World)(ρ':Rho)(w':World):Prop where
 size:w.heap.size<=w'.heap.size
 up: ∀id loc,ρ id=some loc->ρ' id=some loc
 downA: ∀b,ρ'.A b->ρ.A b\/w.heap.size<=b
 keep: ∀b,b<w.heap.size-> ¬ρ.A b->w'.heap[b]?=w.heap[b]?
structure Later(ρ:Rho)(w:World)(ρ':Rho)(w':World):Prop where
 size:w.heap.size<=w'.heap.size
 up: ∀id loc,ρ id=some loc->ρ' id=some loc
 downA: ∀b,ρ'.A b->ρ.A b\/w.heap.size<=b
 downW: ∀b,ρ'.W b->ρ.W b\/w.heap.size<=b
 upA: ∀b,b<w.heap.size->ρ.A b-> ¬ρ.W b->ρ'.A b
 keep: ∀b,b<w.heap.size-> ¬ρ.W b->w'.heap[b]?=w.heap[b]?
theorem Later.refl(ρ:Rho)(w:World):Later ρ w ρ w:=⟨axr _,λ_ _ h=>h,λ_ h=>.inl h,λ_ h=>.inl h,λ_ _ h _=>h,λ_ _ _=>rfl⟩
theorem Later.keeps {ρ ρ':Rho}{w w':World}(L:Later ρ w ρ' w'):Keeps ρ w ρ' w':=⟨L.size,L.up,L.downA,λb h1 h2=>L.keep b h1 (λh=>h2 (ρ.sub b h))⟩
theorem Keeps.shut {ρ ρ':Rho}{w w':World}(L:Keeps ρ w ρ' w'):Keeps ρ.shut w ρ'.shut w':=⟨L.size,λ_ _ h=>(by cases h),L.downA,L.keep⟩
theorem a0h {w w':World}{a:Addr}(h:w'.heap[a.block]?=w.heap[a.block]?):w'.cell? a=w.cell? a:=by unfold World.cell?;rw[h]
theorem Fz.keeps {ρ ρ':Rho}{w w':World}(L:Keeps ρ w ρ' w'){b o:Nat}{c:List Value}(h:Fz ρ w b o c):Fz ρ' w' b o c:=by
 obtain⟨h1,h2,h3⟩:=h;refine⟨λhl=>?_,axJ h2 L.size,λj v hv=>?_⟩
 ·rcases L.downA b hl with h|h
  ·exact h1 h
  ·omega
 ·rw[a0h (L.keep b h2 h1)];exact h3 j v hv
theorem uZ.keeps {ρ ρ':Rho}{w w':World}(L:Keeps ρ w ρ' w'){t:Ty}{id:Nat}{p:Path}{v:Value}(h:uZ ρ t id p v):uZ ρ' t id p v:=
 let⟨loc,h1,h2⟩:=h
 ⟨loc,L.up _ _ h1,h2⟩
theorem Rd.keeps: ∀ {t:Ty} {ρ ρ':Rho} {w w':World} (_:Keeps ρ w ρ' w') {x:t.den} {cs:List Value},Rd ρ w t x cs->Rd ρ' w' t x cs:=by
 intro t
 induction t with
 |int k=>intro ρ ρ' w w' L x cs h;exact h
 |bool=>intro ρ ρ' w w' L x cs h;exact h
 |str=>intro ρ ρ' w w' L x cs h;exact h
 |unit=>intro ρ ρ' w w' L x cs h;exact h
 |pair a b iha ihb=>intro ρ ρ' w w' L x cs h;exact⟨iha L h.1,ihb L h.2⟩
 |arr n t ih=>intro ρ ρ' w w' L x cs h;exact⟨h.1,λi hi=>ih L (h.2 i hi)⟩
 |sl t ih=>
  intro ρ ρ' w w' L x cs h;cases x with
  |nil=>exact h
  |fz n f=>
   obtain⟨a,cap,h1,hle,h2⟩:=h;refine⟨a,cap,h1,hle,λi hi=>?_⟩;obtain⟨b,o,c,h3,h4,h5⟩:=h2 i hi;exact⟨b,o,c,h3,ih L.shut h4,h5.keeps L⟩
  |ms id p lo len=>
   rcases h with h|⟨loc,m,cap,o,h1,h2⟩
   ·exact .inl h
   ·exact .inr ⟨loc,m,cap,o,L.up _ _ h1,h2⟩
 |ptr t ih=>
  intro ρ ρ' w w' L x cs h;cases x with
  |nil=>exact h
  |fz y=>obtain⟨b,o,c,h1,h2,h3⟩:=h;exact⟨b,o,c,h1,ih L.shut h2,h3.keeps L⟩
  |rf id p=>obtain⟨v,h1,h2⟩:=h;exact⟨v,h1,h2.keeps L⟩
 |fn=>
  intro ρ ρ' w w' L x cs h;cases x with
  |nil=>exact h
  |mk f caps=>obtain⟨vs,h1,h2,h3⟩:=h;exact⟨vs,h1,h2,λj c v hc hv=>(h3 j c v hc hv).keeps L⟩
 |sp _=>intro ρ ρ' w w' L x cs h;exact h
 |mp=>
  intro ρ ρ' w w' L x cs h;cases x with
  |none=>exact h
  |some id=>obtain⟨loc,h1,h2⟩:=h;exact⟨loc,L.up _ _ h1,h2⟩
 |st t ih=>
  intro ρ ρ' w w' L x cs h;obtain⟨a,cap,h1,hle,h2⟩:=h;refine⟨a,cap,h1,hle,λi hi=>?_⟩;obtain⟨b,o,c,h3,h4,h5⟩:=h2 i hi;exact⟨b,o,c,h3,ih L.shut h4,h5.keeps L⟩
theorem Fz.later {ρ ρ':Rho}{w w':World}(L:Later ρ w ρ' w'){b o:Nat}{c:List Value}(h:Fz ρ w b o c):Fz ρ' w' b o c:=h.keeps L.keeps
theorem uZ.later {ρ ρ':Rho}{w w':World}(L:Later ρ w ρ' w'){t:Ty}{id:Nat}{p:Path}{v:Value}(h:uZ ρ t id p v):uZ ρ' t id p v:=h.keeps L.keeps
theorem Rd.later {ρ ρ':Rho}{w w':World}(L:Later ρ w ρ' w'){t:Ty}{x:t.den}{cs:List Value}(h:Rd ρ w t x cs):Rd ρ' w' t x cs:=h.keeps L.keeps
theorem Rd.openIn {t:Ty}{ρ:Rho}{w:World}{x:t.den}{cs:List Value}(h:Rd ρ.shut w t x cs):Rd ρ w t x cs:=by
 induction t generalizing cs with
 |int k=>exact h
 |bool=>exact h
 |str=>exact h
 |unit=>exact h
 |pair a b iha ihb=>exact⟨iha h.1,ihb h.2⟩
 |arr n t ih=>exact⟨h.1,λi hi=>ih (h.2 i hi)⟩
 |sl t ih=>
  cases x with
  |nil=>exact h
  |fz n f=>exact h
  |ms id p lo len=>
   rcases h with h|⟨loc,m,cap,o,h1,h2⟩
   ·exact .inl h
   ·cases h1
 |ptr t ih=>
  cases x with
  |nil=>exact h
  |fz y=>exact h
  |rf id p=>obtain⟨v,_,loc,h1,_⟩:=h;cases h1
 |fn=>
  cases x with
  |nil=>exact h
  |mk f caps=>
   obtain⟨vs,h1,h2,h3⟩:=h;refine⟨vs,h1,h2,λj c v hc hv=>?_⟩;obtain⟨loc,h4,_⟩:=h3 j c v hc hv;cases h4
 |sp _=>exact h
 |mp=>
  cases x with
  |none=>exact h
  |some id=>obtain⟨loc,h1,_⟩:=h;cases h1
 |st t ih=>exact h
theorem Ty.at_of_get: ∀ {p:Path} {t:Ty} {x:t.den} {y:V},t.get x p=some y->t.at p=some y.1:=by
 intro p
 induction p with
 |nil=>intro t x y h;cases t<;>(simp only[Ty.get,axe]at h;subst h;rfl)
 |cons s p ih=>
  intro t x y h;cases t<;>cases s<;>first|exact ih h|(simp[Ty.get]at h;done)
theorem fu {i n s:Nat}(h:i<n):i*s+s<=n*s:=by have:(i+1)*s<=n*s:=axF s h;rw[Nat.succ_mul]at this;exact this
theorem Ty.off_nil(t:Ty):t.off []=0:=by cases t<;>rfl
theorem Ty.at_nil(t:Ty):t.at []=some t:=by cases t<;>rfl
theorem Ty.get_nil(t:Ty)(x:t.den):t.get x []=some ⟨t,x⟩:=by cases t<;>rfl
theorem Ty.okP_nil(t:Ty):t.okP []:=by cases t<;>trivial
theorem Ty.off_le: ∀ {p:Path} {t:Ty} {u:Ty},t.okP p->t.at p=some u->t.off p+u.size<=t.size:=by
 intro p
 induction p with
 |nil=>intro t u h hu;rw[Ty.at_nil]at hu;cases hu;rw[Ty.off_nil];omega
 |cons s p ih=>
  intro t u h hu;cases t<;>cases s<;>first
   |exact h.elim
   |(rename_i a b;have:=ih (t:=a) h hu;simp only[Ty.off,Ty.size];omega)
   |(rename_i a b;have:=ih (t:=b) h hu;simp only[Ty.off,Ty.size];omega)
   |(rename_i n t i;have:=ih (t:=t) h.2 hu;have:=fu (s:=t.size) h.1;simp only[Ty.off,Ty.size];omega)
   |(rename_i m t lo n;have:=ih (t:=.arr n t) h.2 hu;have h2:(lo+n)*t.size<=m*t.size:=axF _ h.1;rw[axQ]at h2;simp only[Ty.off,Ty.size]at this⊢;omega)
theorem Rd.take_all {ρ:Rho}{w:World}{t:Ty}{x:t.den}{cs:List Value}(h:Rd ρ w t x cs):Rd ρ w t x ((cs.drop 0).take t.size):=by rw[azP,ayg (Nat.le_of_eq h.length)];exact h
theorem Rd.sub {ρ:Rho}{w:World}{m:Nat}{t:Ty}{f:Nat->t.den}{cs:List Value}(h:Rd ρ w (.arr m t) f cs){lo n:Nat}(hl:lo+n<=m):
  Rd ρ w (.arr n t) (λj=>f (lo+j)) ((cs.drop (lo*t.size)).take (n*t.size)):=by
 have h1:cs.length=m*t.size:=h.1;have h2:(lo+n)*t.size<=m*t.size:=axF _ hl;rw[axQ]at h2;refine⟨by simp;omega,λi hi=>?_⟩;have h3:=fu (s:=t.size) hi;rw[azQ,azR,ayT (by omega),azr,<-axQ];exact h.2 (lo+i) (by omega)
theorem Rd.get {ρ:Rho}{w:World} : ∀ {p:Path} {t:Ty} {x:t.den} {y:V} {cs:List Value},Rd ρ w t x cs->t.okP p->t.get x p=some y->
  Rd ρ w y.1 y.2 ((cs.drop (t.off p)).take y.1.size):=by
 intro p
 induction p with
 |nil=>intro t x y cs h hp hy;rw[Ty.get_nil]at hy;cases hy;rw[Ty.off_nil];exact h.take_all
 |cons s p ih=>
  intro t x y cs h hp hy;cases t with
  |pair a b=>
   cases s with
   |L=>
    have h1:=ih (t:=a) h.1 hp hy;have hle:=Ty.off_le (t:=a) hp (Ty.at_of_get hy);rw[azQ,azR,ayT (by omega)]at h1;exact h1
   |R=>
    have h1:=ih (t:=b) h.2 hp hy;rw[azr]at h1;exact h1
   |_=>exact hp.elim
  |arr n t=>
   cases s with
   |X i=>
    have h1:=ih (t:=t) (h.2 i hp.1) hp.2 hy;have hle:=Ty.off_le (t:=t) hp.2 (Ty.at_of_get hy);rw[azQ,azR,ayT (by omega),azr]at h1;exact h1
   |S lo k=>
    have h1:=ih (t:=.arr k t) (h.sub hp.1) hp.2 hy;have hle:=Ty.off_le (t:=.arr k t) hp.2 (Ty.at_of_get hy);simp only[Ty.size]at hle;rw[azQ,azR,ayT (by omega),azr]at h1;exact h1
   |_=>exact hp.elim
  |_=>cases s<;>exact hp.elim
def splice(cs:List Value)(o:Nat)(c:List Value):List Value:=cs.take o++c++cs.drop (o+c.length)
theorem qG {cs c:List Value}{o:Nat}(h:o+c.length<=cs.length):(splice cs o c).length=cs.length:=by simp[splice];omega
theorem iK {cs c:List Value}{o j:Nat}(h:o+c.length<=cs.length):
  (splice cs o c)[j]?=if o<=j/\j<o+c.length then c[j-o]? else cs[j]?:=by
 unfold splice;have h1:(cs.take o).length=o:=by simp;omega
 by_cases hj:j<o
 ·rw[ay9,axC (by omega),axI hj,axi (by omega)]
 ·by_cases hj2:j<o+c.length
  ·rw[ay9,ay5 (by omega),h1,axC (by omega),axp ⟨by omega,hj2⟩]
  ·rw[ay5 (by simp;omega),axU,axi (by omega)]
   congr 1
   simp;omega
theorem rA {cs c:List Value}{o a n:Nat}(h:o+c.length<=cs.length)(h1:a<=o)(h2:o+c.length<=a+n)(h3:a+n<=cs.length):
  ((splice cs o c).drop a).take n=splice ((cs.drop a).take n) (o-a) c:=by
 have hl:(o-a)+c.length<=((cs.drop a).take n).length:=by simp;omega
 apply ayj;intro j;rw[iK hl,List.getElem?_take,axU,iK h];by_cases hj:j<n
 ·rw[axp hj,axI hj,axU];by_cases hc:o<=a+j/\a+j<o+c.length
  ·rw[axp hc,axp (by omega)];congr 1;omega
  ·rw[axi hc,axi (by omega)]
 ·rw[axi hj,axi (by omega),ay7 (by simp;omega)]
theorem oU {cs c:List Value}{o a n:Nat}(h:o+c.length<=cs.length)(h1:a+n<=o\/o+c.length<=a):
  ((splice cs o c).drop a).take n=(cs.drop a).take n:=by
 apply ayj;intro j;rw[List.getElem?_take,List.getElem?_take,axU,axU,iK h];by_cases hj:j<n
 ·rw[axp hj,axp hj,axi (by omega)]
 ·rw[axi hj,axi hj]
theorem Ty.set_nil {t u:Ty}{x:t.den}{y:u.den}{z:t.den}(h:t.set x [] u y=some z): ∃e:u=t,e▸y=z:=by
 have:(if h:u=t then some (h▸y)else none)=some z:=by cases t<;>exact h
 split at this
 ·rename_i e;exact⟨e,ay6 this⟩
 ·cases this
theorem Ty.set_spec: ∀ {p:Path} {t:Ty} {x:t.den} {u:Ty} {y:u.den} {z:t.den},t.set x p u y=some z->t.at p=some u:=by
 intro p
 induction p with
 |nil=>intro t x u y z h;obtain⟨rfl,_⟩:=Ty.set_nil h;exact Ty.at_nil _
 |cons s p ih=>
  intro t x u y z h;cases t<;>cases s<;>simp only[Ty.set,reduceCtorEq]at h
  all_goals split at h
  all_goals first|(rename_i z' hz';exact ih hz')|cases h
theorem a2w {cs c:List Value}(h:c.length=cs.length):splice cs 0 c=c:=by simp[splice,h]
theorem Rd.set {ρ:Rho}{w:World} : ∀ {p:Path} {t:Ty} {x:t.den} {u:Ty} {y:u.den} {z:t.den} {cs c:List Value},Rd ρ w t x cs->t.okP p->
  t.set x p u y=some z->Rd ρ w u y c->Rd ρ w t z (splice cs (t.off p) c):=by
 intro p
 induction p with
 |nil=>
  intro t x u y z cs c h hp hz hc;obtain⟨e,rfl⟩:=Ty.set_nil hz;subst e;rw[Ty.off_nil,a2w (hc.length.trans h.length.symm)];exact hc
 |cons s p ih=>
  intro t x u y z cs c h hp hz hc;have hcl:=hc.length;cases t with
  |pair a b=>
   have hl:cs.length=a.size+b.size:=h.length;cases s with
   |L=>
    simp only[Ty.set]at hz;split at hz
    ·rename_i z' hz';simp only[axe]at hz;subst hz;have h1:=ih (t:=a) h.1 hp hz' hc;have hle:=Ty.off_le (t:=a) hp (Ty.set_spec hz');simp only[Ty.off];refine⟨?_,?_⟩
     ·have:=rA (cs:=cs) (c:=c) (o:=a.off p) (a:=0) (n:=a.size) (by omega) (by omega) (by omega) (by omega);simp only[azP,Nat.sub_zero]at this;rw[this];exact h1
     ·have:=oU (cs:=cs) (c:=c) (o:=a.off p) (a:=a.size) (n:=b.size) (by omega) (by omega);rw[ayg (by rw[ayy,qG (by omega)];omega),ayg (by rw[ayy];omega)]at this;rw[this];exact h.2
    ·cases hz
   |R=>
    simp only[Ty.set]at hz;split at hz
    ·rename_i z' hz';simp only[axe]at hz;subst hz;have h1:=ih (t:=b) h.2 hp hz' hc;have hle:=Ty.off_le (t:=b) hp (Ty.set_spec hz');simp only[Ty.off];refine⟨?_,?_⟩
     ·have:=oU (cs:=cs) (c:=c) (o:=a.size+b.off p) (a:=0) (n:=a.size) (by omega) (by omega);simp only[azP]at this;rw[this];exact h.1
     ·have:=rA (cs:=cs) (c:=c) (o:=a.size+b.off p) (a:=a.size) (n:=b.size) (by omega) (by omega) (by omega) (by omega);rw[ayg (by rw[ayy,qG (by omega)];omega),ayg (by rw[ayy];omega)]at this;rw[this,show a.size+b.off p-a.size=b.off p by omega];exact h1
    ·cases hz
   |_=>exact hp.elim
  |arr n t=>
   have hl:cs.length=n*t.size:=h.length;cases s with
   |X i=>
    simp only[Ty.set]at hz;split at hz
    ·rename_i z' hz';simp only[axe]at hz;subst hz;have h1:=ih (t:=t) (h.2 i hp.1) hp.2 hz' hc;have hle:=Ty.off_le (t:=t) hp.2 (Ty.set_spec hz');have hi:=fu (s:=t.size) hp.1;simp only[Ty.off];refine⟨by rw[qG (by omega)];exact hl,λj hj=>?_⟩;by_cases e:j=i
     ·subst e;rw[rA (by omega) (by omega) (by omega) (by omega),show j*t.size+t.off p-j*t.size=t.off p by omega];simp only[upd,ayB];exact h1
     ·have hj2:=fu (s:=t.size) hj;have hne:j*t.size+t.size<=i*t.size\/i*t.size+t.size<=j*t.size:=by
       rcases Nat.lt_or_gt_of_ne e with h|h
       ·exact .inl (fu h)
       ·exact .inr (fu h)
      rw[oU (by omega) (by omega)];simp only[upd,axi e];exact h.2 j hj
    ·cases hz
   |S lo k=>
    simp only[Ty.set]at hz;split at hz
    ·rename_i z' hz';simp only[axe]at hz;subst hz;have h1:=ih (t:=.arr k t) (h.sub hp.1) hp.2 hz' hc;have hle:=Ty.off_le (t:=.arr k t) hp.2 (Ty.set_spec hz');have hlo:(lo+k)*t.size<=n*t.size:=axF _ hp.1;rw[axQ]at hlo;simp only[Ty.size]at hle;simp only[Ty.off];have h2:=rA (cs:=cs) (c:=c) (o:=lo*t.size+(Ty.arr k t).off p) (a:=lo*t.size) (n:=k*t.size) (by omega) (by omega) (by omega) (by omega);rw[show lo*t.size+(Ty.arr k t).off p-lo*t.size=(Ty.arr k t).off p by omega]at h2;rw[<-h2]at h1;refine⟨by rw[qG (by omega)];exact hl,λj hj=>?_⟩;have hj2:=fu (s:=t.size) hj;by_cases e:lo<=j/\j<lo+k
     ·have h3:=h1.2 (j-lo) (by omega);have hj3:=fu (s:=t.size) (show j-lo<k by omega);rw[azQ,azR,ayT (by omega),azr,<-axQ,show lo+(j-lo)=j by omega]at h3;simp only[tO,axp e];exact h3
     ·have hne:j*t.size+t.size<=lo*t.size\/(lo+k)*t.size<=j*t.size:=by
       rcases azs j lo with h|h
       ·exact .inl (fu h)
       ·exact .inr (axF _ (by omega))
      rw[axQ]at hne;rw[oU (by omega) (by omega)];simp only[tO,axi e];exact h.2 j hj
    ·cases hz
   |_=>exact hp.elim
  |_=>cases s<;>exact hp.elim
def mkV(t:Ty)(cs:List Value):Value:=if t.agg then .agg cs.toArray else cs.headD (.tuple #[])
theorem jB {ρ:Rho}{w:World}{t:Ty}{x:t.den}{cs:List Value}(h:Rd ρ w t x cs):(mkV t cs).cells=cs.toArray:=by
 unfold mkV;cases ha:t.agg
 ·obtain⟨v,rfl⟩:=h.single ha;simp only[axX,ayH,List.headD_cons];have: ∀cs,v≠ .agg cs:=by
   intro cs e;subst e;cases t<;>simp only[Ty.agg]at ha<;>try cases ha
   ·simp[Rd]at h
   ·simp[Rd]at h
   ·simp[Rd]at h
   ·rename_i t;cases x<;>simp[Rd]at h
   ·rename_i t;cases x<;>simp[Rd,uZ]at h
   ·cases x<;>simp[Rd]at h
   ·obtain⟨a,h,h'⟩:=h;simp at h;subst h;cases h'
   ·cases x with
    |none=>simp[Rd]at h
    |some id=>obtain⟨loc,_,_,h⟩:=h;simp at h
   ·obtain⟨a,cap,h,_⟩:=h;simp at h
  cases v<;>simp_all [Value.cells]
 ·simp[Value.cells]
inductive PV where
 |un
 |v (x:V)
 |tup (l:List V)
 |dp (id n:Nat)
 |zr (t:Ty)
def aX:Ty->List Ty| .ptr t=>[t]| .pair a b=>aX a++aX b|_=>[]
@[reducible] def lF:List Ty->Type
 | []=>Unit
 |t::l=>t.den×lF l
inductive PO where
 |obj (t:Ty) (x:t.den)
 |row (sh:Bool) (e:TypeId) (t:Ty) (n:Nat) (f:Nat->t.den)
 |mp (k v:Ty) (l:List (k.den×v.den))
 |bag (k t:Ty) (l:List (k.den×(t.den×lF (aX t)))) (out:Option (Nat×Nat))
 |dead
structure DS where
 env:List (Nat×PV)
 hp:List (Nat×PO)
 nx:Nat
 n:Nat
universe u
def look {α:Type u} :List (Nat×α)->Nat->Option α| [],_=>none|x::l,n=>bif Nat.beq x.1 n then some x.2 else look l n
structure TI where
 desc:TypeDesc
 ty:Ty
 bytes:Nat
def qc:Nat->Nat->Path|0,_=>[]|1,_=>[]|n+2,0=>[.L]|n+2,j+1=>.R::qc (n+1) j
def Ty.zero:(t:Ty)->t.den| .int _=>(0:Int)| .bool=>false| .str=>ByteArray.empty| .unit=>()| .pair a b=>(a.zero,b.zero)| .arr _ t=>λ_=>t.zero| .sl _=>.nil| .ptr _=>.nil| .fn=>.nil| .sp _=>()| .mp=>none| .st t=>(0,λ_=>t.zero)
def Ty.zcells:Ty->List Value| .int k=>[.int k 0]| .bool=>[.bool false]| .str=>[.string .empty]| .unit=>[]| .pair a b=>a.zcells++b.zcells| .arr n t=>(List.replicate n t.zcells).flatten| .sl _=>[.slice none 0 0]| .ptr _=>[.pointer none]| .fn=>[.nilFunc]| .sp _=>[.pointer none]| .mp=>[.map none]| .st _=>[.slice none 0 0]
def a7a(n:Nat)(p:Nat->Bool):Bool:=(List.range n).all p
def sEq(a b:ByteArray):Bool:=a.toList==b.toList
def Ty.flat:Ty->Bool| .int _| .bool| .str| .unit=>true| .pair a b=>a.flat&&b.flat| .arr _ t=>t.flat|_=>false
def eqF:(t:Ty)->t.den->t.den->Bool| .int _,x,y=>x==y| .bool,x,y=>x==y| .str,x,y=>sEq x y| .unit,_,_=>true| .pair a b,x,y=>eqF a x.1 y.1&&eqF b x.2 y.2| .arr n t,x,y=>a7a n λi=>eqF t (x i) (y i)|_,_,_=>false
def Ty.nr:Ty->Bool| .int _| .bool| .str| .unit| .st _=>true| .pair a b=>a.nr&&b.nr| .arr _ t=>t.nr|_=>false
def Ty.un:Ty->Ty| .st t=>.sl t|t=>t
def KH(v:V):V:=match v with|⟨.st t,x⟩=>⟨.sl t,.fz x.1 x.2⟩|v=>v
def adB(u t:Ty)(x:SlV u.den):Option (Nat×(Nat->t.den)):=match x with| .nil=>some (0,λ_=>t.zero)| .fz n f=>if h:u=t then some (n,h▸f)else none| .ms _ _ _ _=>none
def V.to(v:V)(t:Ty):Option t.den:=
 if h:v.1=t then some (h▸v.2)else
  match v,t with
  |⟨.ptr _,.nil⟩,.ptr _=>some .nil
  |⟨.sl _,.nil⟩,.sl _=>some .nil
  |⟨.sl u,x⟩,.st t=>adB u t x
  |_,_=>none
def ofValue:Value->PV| .bool b=>.v ⟨.bool,b⟩| .int k n=>.v ⟨.int k,n⟩| .string s=>.v ⟨.str,s⟩| .pointer none=>.v ⟨.ptr .unit,.nil⟩| .slice none 0 0=>.v ⟨.sl .unit,.nil⟩| .nilFunc=>.v ⟨.fn,.nil⟩| .nilIface=>.v ⟨.sp 0,()⟩| .map none=>.v ⟨.mp,none⟩|_=>.un
def DS.val(s:DS):Operand->PV| .tmp t=>(look s.env t).getD .un| .const v=>ofValue v| .func f=>.v ⟨.fn,.mk f []⟩| .global _=>.un
def av(op:BinOp)(k:IntKind)(x y:Int):Int:=match op with| .and=>k.wrap ((BitVec.ofInt k.bits x&&& BitVec.ofInt k.bits y).toNat:Int)| .or=>k.wrap ((BitVec.ofInt k.bits x||| BitVec.ofInt k.bits y).toNat:Int)| .xor=>k.wrap ((BitVec.ofInt k.bits x^^^ BitVec.ofInt k.bits y).toNat:Int)|_=>k.wrap ((BitVec.ofInt k.bits x&&& ~~~ BitVec.ofInt k.bits y).toNat:Int)
def iF(k:IntKind)(x y:Int):Int:=k.wrap (x*2^min y.toNat k.bits)
def bL(k:IntKind)(x y:Int):Int:=x.fdiv (2^min y.toNat k.bits)
def inb(i:Int)(n:Nat):Bool:=decide (0<=i)&&decide (i<(n:Int))
section
variable {R:Type}
def Om(op:BinOp)(k:IntKind)(x y:Int)(K:PV->Option R):Option R:=match op with| .add=>K (.v ⟨.int k,k.wrap (x+y)⟩)| .sub=>K (.v ⟨.int k,k.wrap (x-y)⟩)| .mul=>K (.v ⟨.int k,k.wrap (x*y)⟩)| .quo=>bif decide (y=0)then none else K (.v ⟨.int k,k.wrap (x.tdiv y)⟩)| .rem=>bif decide (y=0)then none else K (.v ⟨.int k,x.tmod y⟩)| .and=>K (.v ⟨.int k,av .and k x y⟩)| .or=>K (.v ⟨.int k,av .or k x y⟩)| .xor=>K (.v ⟨.int k,av .xor k x y⟩)| .andNot=>K (.v ⟨.int k,av .andNot k x y⟩)| .eql=>K (.v ⟨.bool,x==y⟩)| .neq=>K (.v ⟨.bool,x !=y⟩)| .lss=>K (.v ⟨.bool,decide (x<y)⟩)| .leq=>K (.v ⟨.bool,decide (x<=y)⟩)| .gtr=>K (.v ⟨.bool,decide (x>y)⟩)| .geq=>K (.v ⟨.bool,decide (x>=y)⟩)|_=>none
def a7b:V->V->Option Bool|⟨.ptr _,.nil⟩,⟨.ptr _,.nil⟩=>some true|⟨.ptr _,.nil⟩,⟨.ptr _,.fz _⟩=>some false|⟨.ptr _,.nil⟩,⟨.ptr _,.rf _ _⟩=>some false|⟨.ptr _,.fz _⟩,⟨.ptr _,.nil⟩=>some false|⟨.ptr _,.rf _ _⟩,⟨.ptr _,.nil⟩=>some false|_,_=>none
def Oo(op:BinOp)(x y:ByteArray)(K:PV->Option R):Option R:=match op with| .add=>bif decide (((x.size+y.size:Nat):Int)>IntKind.i64.max)then none else K (.v ⟨.str,x++y⟩)| .eql=>K (.v ⟨.bool,sEq x y⟩)| .neq=>K (.v ⟨.bool,!sEq x y⟩)| .lss=>K (.v ⟨.bool,Op.bytesLess x.toList y.toList⟩)| .leq=>K (.v ⟨.bool,Op.bytesLess x.toList y.toList||sEq x y⟩)| .gtr=>K (.v ⟨.bool,!(Op.bytesLess x.toList y.toList||sEq x y)⟩)| .geq=>K (.v ⟨.bool,!Op.bytesLess x.toList y.toList⟩)|_=>none
def SG(ti:List (Nat×TI))(T:TypeId):Bool:=
 match look ti T with
 |some i=>match i.desc with
  | .bool=>true
  |_=>false
 |none=>false
def Yy(ti:List (Nat×TI))(T:TypeId):Bool:=
 match look ti T with
 |some i=>match i.desc with
  | .map _ _=>true
  |_=>false
 |none=>false
def XA:(t:Ty)->t.den->t.den->Option Bool| .mp,a,b=>bif a.isSome&&b.isSome then none else some (a.isNone&&b.isNone)|_,_,_=>none
def Yz(ti:List (Nat×TI))(T:TypeId):Bool:=
 match look ti T with
 |some i=>match i.desc with
  | .pointer _=>true
  |_=>false
 |none=>false
def M4(ti:List (Nat×TI))(op:BinOp)(T:TypeId)(x y:PV)(K:PV->Option R):Option R:=
 match x,y with
 | .v ⟨.int k,a⟩,.v ⟨.int k',b⟩=>
  match op with
  | .shl=>bif decide (b<0)then none else K (.v ⟨.int k,iF k a b⟩)
  | .shr=>bif decide (b<0)then none else K (.v ⟨.int k,bL k a b⟩)
  |_=>if k=k' then Om op k a b K else none
 | .v ⟨.str,a⟩,.v ⟨.str,b⟩=>Oo op a b K
 | .v ⟨.bool,a⟩,.v ⟨.bool,b⟩=>bif SG ti T then
   match op with
   | .eql=>K (.v ⟨.bool,a==b⟩)
   | .neq=>K (.v ⟨.bool,!(a==b)⟩)
   |_=>none
  else none
 | .v ⟨.ptr t,a⟩,.v ⟨.ptr u,b⟩=>bif Yz ti T then
   match a7b ⟨.ptr t,a⟩ ⟨.ptr u,b⟩,op with
   |some r,.eql=>K (.v ⟨.bool,r⟩)
   |some r,.neq=>K (.v ⟨.bool,!r⟩)
   |_,_=>none
  else none
 | .v x,.v y=>
  match look ti T with
  |some i=>if hx:x.1=i.ty then if hy:y.1=i.ty then
    bif i.ty.agg&&i.ty.flat then
     match op with
     | .eql=>K (.v ⟨.bool,eqF i.ty (hx▸x.2) (hy▸y.2)⟩)
     | .neq=>K (.v ⟨.bool,!eqF i.ty (hx▸x.2) (hy▸y.2)⟩)
     |_=>none
    else bif Yy ti T then
     match XA i.ty (hx▸x.2) (hy▸y.2),op with
     |some r,.eql=>K (.v ⟨.bool,r⟩)
     |some r,.neq=>K (.v ⟨.bool,!r⟩)
     |_,_=>none
    else none
   else none else none
  |none=>none
 |_,_=>none
def YA(op:UnOp)(x:PV)(K:PV->Option R):Option R:=match op,x with| .neg,.v ⟨.int k,n⟩=>K (.v ⟨.int k,k.wrap (0-n)⟩)| .xor,.v ⟨.int k,n⟩=>K (.v ⟨.int k,av .xor k (if k.signed then-1 else k.max) n⟩)| .not,.v ⟨.bool,b⟩=>K (.v ⟨.bool,!b⟩)|_,_=>none
def chk(ti:List (Nat×TI))(T:TypeId)(y:V)(K:PV->Option R):Option R:=match look ti T with|some i=>bif (i.ty.agg==y.1.agg)&&Nat.beq i.ty.size y.1.size then K (.v (KH y))else none|none=>none
abbrev Heap:=Nat->Option PO
def dL:(t:Ty)->t.den->Bool
 | .int _,_=>true
 | .bool,_=>true
 | .str,_=>true
 | .unit,_=>true
 | .pair a b,x=>dL a x.1&&dL b x.2
 | .arr n t,f=>t.nr||a7a n λi=>dL t (f i)
 | .sl _,x=>match x with
  | .ms _ _ _ _=>false
  |_=>true
 | .ptr _,x=>match x with
  | .rf _ _=>false
  |_=>true
 | .fn,x=>match x with
  | .mk _ (_::_)=>false
  |_=>true
 | .sp _,_=>true
 | .mp,x=>match x with
  |none=>true
  |some _=>false
 | .st _,_=>true
def PO.get:PO->Path->Option V| .obj t x,p=>t.get x p| .row _ _ t n f,p=>(Ty.arr n t).get f p| .mp _ _ _,_=>none| .bag _ _ _ _,_=>none| .dead,_=>none
def spl:(t:Ty)->t.den->(t.den->Option R)->Option R| .pair a b,x,K=>bif a.flat&&b.flat then K x else spl a x.1 λy=>spl b x.2 λz=>K (y,z)| .sl t,x,K=>bif x.isMs then none else K (.fz x.len (x.fn t.zero))| .ptr t,x,K=>bif x.vQ then none else bif x.isNil then K .nil else K (.fz (x.val t.zero))| .mp,x,K=>bif x.isSome then none else K none|t,x,K=>K x
def PO.shutRow:PO->Bool| .row sh _ _ _ _=>sh|_=>false
def rJ(ti:List (Nat×TI))(T:TypeId)(a:PV)(h:Heap)(K:PV->Option R):Option R:=
 match a with
 | .v ⟨.ptr _,.rf id p⟩=>match h id with
  |some o=>match o.get p with
   |some y=>bif o.shutRow then spl y.1 y.2 λz=>chk ti T ⟨y.1,z⟩ K else chk ti T y K
   |none=>none
  |none=>none
 | .v ⟨.ptr t,.fz x⟩=>spl t x λy=>chk ti T ⟨t,y⟩ K
 |_=>none
def fZ:(t:Ty)->t.den->List Nat->t.den×List Nat| .ptr _,_,i::l=>(.rf i [],l)| .ptr _,_,[]=>(.nil,[])| .pair a b,x,l=>(((fZ a x.1 l).1,(fZ b x.2 (fZ a x.1 l).2).1),(fZ b x.2 (fZ a x.1 l).2).2)|_,x,l=>(x,l)
def rC:(t:Ty)->t.den->Option (List Nat)
 | .ptr _,x=>match x with
  | .rf i []=>some [i]
  |_=>none
 | .pair a b,x=>match rC a x.1,rC b x.2 with
  |some l,some r=>some (l++r)
  |_,_=>none
 |_,_=>some []
def Sc:(l:List Ty)->lF l| []=>()|t::l=>(t.zero,Sc l)
def ES:Ty->Bool| .ptr t=>t.nr| .pair a b=>ES a&&ES b|t=>t.nr
def ajn:TypeId:=0
def Ty.head:Ty->Option TypeId| .pair (.sp T) _=>some T| .pair (.pair (.sp _) _) _=>some ajn|_=>none
def Ty.spHead(t:Ty):Bool:=t.head.isSome
def PO.set(o:PO)(p:Path)(v:V):Option PO:=
 match o with
 | .obj t x=>bif t.spHead&&Nat.beq (t.off p) 0 then none else match t.at p with
  |some u=>match v.to u with
   |some y=>match t.set x p u y with
    |some z=>some (.obj t z)
    |none=>none
   |none=>none
  |none=>none
 | .row sh e t n f=>match(Ty.arr n t).at p with
  |some u=>match v.to u with
   |some y=>match(Ty.arr n t).set f p u y with
    |some z=>some (.row (sh&&(u.flat||dL u y)) e t n z)
    |none=>none
   |none=>none
  |none=>none
 | .mp _ _ _=>none
 | .bag _ _ _ _=>none
 | .dead=>none
abbrev Upd:=List (Nat×PO)
def rD(ti:List (Nat×TI))(T:TypeId)(a v:PV)(h:Heap)(K:PV->Upd->Option R):Option R:=
 match a,v with
 | .v ⟨.ptr _,.rf id p⟩,.v v=>match h id with
  |some o=>match o.get p,look ti T with
   |some y,some i=>bif Nat.beq i.ty.size y.1.size then
     match o.set p v with
     |some o'=>K .un [(id,o')]
     |none=>none
    else none
   |_,_=>none
  |none=>none
 |_,_=>none
def zL(t:Ty)(place:Nat->Path):List (Nat×PV)->t.den->Option t.den
 | [],x=>some x
 |(i,.v v)::l,x=>match t.at (place i)with
  |some u=>match v.to u with
   |some y=>match t.set x (place i) u y with
    |some z=>zL t place l z
    |none=>none
   |none=>none
  |none=>none
 |_::_,_=>none
def yZ(ti:List (Nat×TI))(T:TypeId)(parts:List (Nat×PV))(K:PV->Option R):Option R:=
 match look ti T with
 |some i=>match i.desc with
  | .struct fs=>bif parts.isEmpty&&i.ty.spHead then K (.zr i.ty)else bif parts.all λp=>Nat.blt p.1 fs.size then
   match zL i.ty (qc fs.size) parts i.ty.zero with
   |some z=>K (.v ⟨i.ty,z⟩)
   |none=>none
   else none
  | .array n _=>bif parts.all λp=>Nat.blt p.1 n then
   match zL i.ty (λj=>[.X j]) parts i.ty.zero with
   |some z=>K (.v ⟨i.ty,z⟩)
   |none=>none
   else none
  |_=>none
 |none=>none
def jC(ti:List (Nat×TI))(T:TypeId)(x:PV)(j:Nat)(K:PV->Option R):Option R:=
 match look ti T with
 |some i=>match i.desc with
  | .struct fs=>bif Nat.blt j fs.size then
   match x with
   | .v ⟨.ptr t,.rf id p⟩=>if t=i.ty then
     match i.ty.at (qc fs.size j)with
     |some u=>K (.v ⟨.ptr u,.rf id (p++qc fs.size j)⟩)
     |none=>none
    else none
   | .v ⟨.ptr t,.fz x⟩=>if t=i.ty then
     match t.get x (qc fs.size j)with
     |some y=>K (.v ⟨.ptr y.1,.fz y.2⟩)
     |none=>none
    else none
   |_=>none
   else none
  |_=>none
 |none=>none
def z8(ti:List (Nat×TI))(T:TypeId)(x:PV)(j:Nat)(K:PV->Option R):Option R:=
 match look ti T,x with
 |some i,.v v=>match i.desc with
  | .struct fs=>bif Nat.blt j fs.size then
   if v.1=i.ty then
    match v.1.get v.2 (qc fs.size j)with
    |some y=>K (.v (KH y))
    |none=>none
   else none
   else none
  |_=>none
 |_,_=>none
def jD(ti:List (Nat×TI))(T:TypeId)(x ix:PV)(K:PV->Option R):Option R:=
 match look ti T,ix with
 |some i,.v ⟨.int _,n⟩=>match i.desc,i.ty with
  | .array len _,.arr _ t=>match x with
   | .v ⟨.ptr u,.rf id p⟩=>if u=i.ty then bif inb n len then K (.v ⟨.ptr t,.rf id (p++[.X n.toNat])⟩)else none else none
   | .v ⟨.ptr (.arr m u),.fz f⟩=>if m=len/\u=t then bif inb n len then K (.v ⟨.ptr u,.fz (f n.toNat)⟩)else none else none
   |_=>none
  | .slice _,.sl t=>match x with
   | .v ⟨.sl u,.ms id p lo len⟩=>if u=t then bif inb n len then K (.v ⟨.ptr t,.rf id (p++[.X (lo+n.toNat)])⟩)else none else none
   | .v ⟨.sl u,.fz len f⟩=>if u=t then bif inb n len then K (.v ⟨.ptr u,.fz (f n.toNat)⟩)else none else none
   |_=>none
  |_,_=>none
 |_,_=>none
def za(ti:List (Nat×TI))(T:TypeId)(x ix:PV)(K:PV->Option R):Option R:=
 match look ti T,ix with
 |some i,.v ⟨.int _,n⟩=>match i.desc,x with
  | .array len _,.v ⟨.arr m t,f⟩=>if i.ty= .arr m t/\m=len then bif inb n len then K (.v ⟨t,f n.toNat⟩)else none else none
  | .string,.v ⟨.str,s⟩=>bif inb n s.size then K (.v ⟨.int .u8,((s.data.toList.getD n.toNat 0).toNat:Int)⟩)else none
  |_,_=>none
 |_,_=>none
def oV(x:PV)(j:Nat)(K:PV->Option R):Option R:=
 match x with
 | .tup l=>match l[j]? with
  |some y=>K (.v y)
  |none=>none
 |_=>none
def bounds(n:Nat)(lo hi:Option PV)(K:Nat->Nat->Option R):Option R:=
 match hi with
 |none=>match lo with
  |none=>K 0 n
  |some (.v ⟨.int _,l⟩)=>bif decide (0<=l)&&decide (l<=(n:Int))then K l.toNat n else none
  |_=>none
 |some (.v ⟨.int _,h⟩)=>bif decide (0<=h)&&decide (h<=(n:Int))then
   match lo with
   |none=>K 0 h.toNat
   |some (.v ⟨.int _,l⟩)=>bif decide (0<=l)&&decide (l<=((h.toNat:Nat):Int))then K l.toNat h.toNat else none
   |_=>none
  else none
 |_=>none
def ze(ti:List (Nat×TI))(T:TypeId)(x:PV)(lo hi:Option PV)(K:PV->Option R):Option R:=
 match look ti T with
 |some i=>match i.desc,i.ty with
  | .array n _,.arr _ t=>match x with
   | .v ⟨.ptr u,.rf id p⟩=>if u=i.ty then bounds n lo hi λl h=>K (.v ⟨.sl t,.ms id p l (h-l)⟩)else none
   |_=>none
  | .slice _,.sl t=>match x with
   | .v ⟨.sl u,.ms id p o len⟩=>if u=t then bounds len lo hi λl h=>K (.v ⟨.sl u,.ms id p (o+l) (h-l)⟩)else none
   | .v ⟨.sl u,.fz len f⟩=>if u=t then bounds len lo hi λl h=>K (.v ⟨.sl u,.fz (h-l) λj=>f (l+j)⟩)else none
   |_=>none
  | .string,_=>match x with
   | .v ⟨.str,s⟩=>bounds s.size lo hi λl h=>K (.v ⟨.str,s.extract l h⟩)
   |_=>none
  |_,_=>none
 |none=>none
def tQ(ti:List (Nat×TI))(T:TypeId)(x:PV)(K:PV->Option R):Option R:=
 match look ti T with
 |some i=>match i.desc,i.ty with
  | .array n _,.arr _ t=>match x with
   | .v ⟨.sl u,.ms id p lo len⟩=>if u=t then
     bif Nat.ble n len then K (.v ⟨.ptr (.arr n t),.rf id (p++[.S lo n])⟩)else none
    else none
   |_=>none
  |_,_=>none
 |none=>none
def lenOf:PV->Option Int| .v ⟨.sl _,.nil⟩=>some 0| .v ⟨.sl _,.fz n _⟩=>some (n:Int)| .v ⟨.sl _,.ms _ _ _ len⟩=>some (len:Int)| .v ⟨.str,s⟩=>some (s.size:Int)|_=>none
end
def a7c:Ty->Bool| .pair _ (.sl _)=>true|_=>false
structure Con where
 fp:List PV->Heap->List Nat×List Nat
 run: {R:Type} ->List PV->Heap->Nat->(PV->Upd->Nat->Option R)->Option R
structure Lp where
 run: {R:Type} ->DS->(Exit->DS->Option R)->Option R
structure Cx where
 ti:List (Nat×TI)
 con:List (Nat×Con)
 fns:List (Nat×Func×List (Nat×Lp))
 un:Nat
 frz:List TypeId:=[]
def DS.h(s:DS):Heap:=look s.hp
def DS.app(s:DS)(u:Upd)(n:Nat):DS:= { s with hp:=u++s.hp,nx:=s.nx+n }
section
variable {R:Type}
def DS.put(s:DS)(dst:Option Tmp)(pv:PV)(K:DS->Option R):Option R:=match dst with|none=>K s|some d=>bif Nat.blt d s.n then K { s with env:=(d,pv)::s.env } else none
def SH:List PV->Option (List (Ty×Nat×Path))
 | []=>some []
 | .v ⟨.ptr t,.rf id p⟩::l=>match SH l with
  |some r=>some ((t,id,p)::r)
  |none=>none
 |_=>none
abbrev K3(R:Type):=PV->Upd->Nat->Option R
def BP(ti:List (Nat×TI))(T:TypeId)(d x:PV)(h:Heap)(K:K3 R):Option R:=
 match look ti T with
 |some i=>match i.desc with
  | .slice _=>match d,x with
   | .v ⟨.sl t,.ms id p lo len⟩,.v ⟨.sl u,.ms id' p' lo' len'⟩=>if u=t/\i.ty= .sl t then
    bif Nat.ble len 0||Nat.ble len' 0 then K (.v ⟨.int .i64,(0:Int)⟩) [] 0 else
    match h id,h id' with
    |some o,some o'=>match o'.get p' with
     |some ⟨.arr _ e,g⟩=>
      match o.set (p++[.S lo (min len' len)]) ⟨.arr (min len' len) e,λj=>g (lo'+j)⟩with
      |some z=>K (.v ⟨.int .i64,((min len' len:Nat):Int)⟩) [(id,z)] 0
      |none=>none
     |_=>none
    |_,_=>none
    else none
   |_,_=>none
  |_=>none
 |none=>none
def PO.blitB(o:PO)(p:Path)(lo n:Nat)(u:Ty)(g:Nat->u.den):Option PO:=
 match o with
 | .obj t x=>bif t.spHead then none else match t.get x p with
  |some ⟨.arr m t',f⟩=>if e:u=t' then
    match t.set x p (.arr m t') (tO f lo n (e▸g))with
    |some z=>some (.obj t z)
    |none=>none
   else none
  |_=>none
 | .row sh e0 t k f=>match p with
  | []=>if e:u=t then bif !sh||u.flat then some (.row sh e0 t k (tO f lo n (e▸g)))else none else none
  |_=>none
 |_=>none
def AR(ti:List (Nat×TI))(T:TypeId)(d:PV)(u:Ty)(m:Nat)(g:Nat->u.den)(h:Heap)(K:K3 R):Option R:=
 match look ti T with
 |some i=>match i.desc with
  | .slice _=>match d with
   | .v ⟨.sl t,.ms id p lo len⟩=>if u=t/\i.ty= .sl t then
    bif Nat.ble len 0||Nat.ble m 0 then K (.v ⟨.int .i64,(0:Int)⟩) [] 0 else
    match h id with
    |some o=>match o.blitB p lo (min m len) u g with
     |some z=>K (.v ⟨.int .i64,((min m len:Nat):Int)⟩) [(id,z)] 0
     |none=>none
    |none=>none
    else none
   |_=>none
  |_=>none
 |none=>none
def Ty.key:Ty->Bool| .int _=>true| .str=>true|_=>false
def qH(k v:Ty):List (k.den×v.den)->k.den->Option v.den| [],_=>none|e::l,x=>bif eqF k x e.1 then some e.2 else qH k v l x
def WB(k v:Ty):List (k.den×v.den)->k.den->v.den->List (k.den×v.den)| [],x,y=>[(x,y)]|e::l,x,y=>bif eqF k x e.1 then(x,y)::l else e::WB k v l x y
def XB(ti:List (Nat×TI))(T:TypeId):Option (Ty×Ty):=
 match look ti T with
 |some i=>match i.desc with
  | .map kT vT=>match look ti kT,look ti vT with
   |some a,some b=>bif a.ty.key&&b.ty.flat then some (a.ty,b.ty)else none
   |_,_=>none
  |_=>none
 |none=>none
def adC(ti:List (Nat×TI))(T:TypeId):Option (Ty×Ty):=
 match look ti T with
 |some i=>match i.desc with
  | .map kT vT=>match look ti kT,look ti vT with
   |some a,some b=>some (a.ty,b.ty)
   |_,_=>none
  |_=>none
 |none=>none
def KI {v:Ty}(ok:Bool)(r:Option v.den)(K:PV->Option R):Option R:=bif ok then K (.tup [⟨v,r.getD v.zero⟩,⟨.bool,r.isSome⟩])else K (.v ⟨v,r.getD v.zero⟩)
def qI(ti:List (Nat×TI))(T:TypeId)(x ix:PV)(ok:Bool)(h:Heap)(K:PV->Option R):Option R:=
 match XB ti T,ix with
 |some kv,.v ix=>match ix.to kv.1 with
  |some key=>match x with
   | .v ⟨.mp,none⟩=>KI (v:=kv.2) ok none K
   | .v ⟨.mp,some id⟩=>match h id with
    |some (.mp k v l)=>if e:k=kv.1/\v=kv.2 then KI (v:=v) ok (qH k v l (e.1▸key)) K else none
    |_=>none
   |_=>none
  |none=>none
 |_,_=>none
def iZ(ti:List (Nat×TI))(T:TypeId)(x ix y:PV)(h:Heap)(K:PV->Upd->Option R):Option R:=
 match XB ti T,ix,y with
 |some kv,.v ix,.v y=>match ix.to kv.1,y.to kv.2 with
  |some key,some val=>match x with
   | .v ⟨.mp,some id⟩=>match h id with
    |some (.mp k v l)=>if e:k=kv.1/\v=kv.2 then K .un [(id,.mp k v (WB k v l (e.1▸key) (e.2▸val)))]else none
    |_=>none
   |_=>none
  |_,_=>none
 |_,_,_=>none
def midx(k v:Ty):List (k.den×v.den)->k.den->Nat| [],_=>0|e::l,x=>bif eqF k x e.1 then 0 else midx k v l x+1
def adD(k v:Ty)(l:List (k.den×v.den))(x:k.den):Bool:=(qH k v l x).isSome
def a7d(k v:Ty)(l:List (k.den×v.den))(x:k.den):List (k.den×v.den):=bif adD k v l x then l else l++[(x,v.zero)]
def a2x(k v:Ty)(l:List (k.den×v.den))(i:Nat)(y:v.den):List (k.den×v.den):=l.modify i λe=>(e.1,y)
def jO(ti:List (Nat×TI))(T:TypeId)(x ix:PV)(h:Heap)(K:PV->Upd->Option R):Option R:=
 match XB ti T,ix with
 |some kv,.v ix=>match ix.to kv.1 with
  |some key=>match x with
   | .v ⟨.mp,some id⟩=>match h id with
    |some (.mp k v l)=>if e:k=kv.1/\v=kv.2 then K (.tup [⟨v,(qH k v l (e.1▸key)).getD v.zero⟩,⟨.int .i64,(midx k v l (e.1▸key):Int)⟩]) [(id,.mp k v (a7d k v l (e.1▸key)))]else none
    |_=>none
   |_=>none
  |none=>none
 |_,_=>none
def iA(ti:List (Nat×TI))(T:TypeId)(x st y:PV)(h:Heap)(K:PV->Upd->Option R):Option R:=
 match XB ti T,st,y with
 |some kv,.v ⟨.int _,n⟩,.v y=>match y.to kv.2 with
  |some val=>match x with
   | .v ⟨.mp,some id⟩=>match h id with
    |some (.mp k v l)=>if e:v=kv.2 then bif inb n l.length then K .un [(id,.mp k v (a2x k v l n.toNat (e▸val)))]else none else none
    |_=>none
   |_=>none
  |none=>none
 |_,_,_=>none
def bidx(k:Ty){α:Type}(l:List (k.den×α))(x:k.den):Nat:=midx k .unit (l.map λq=>(q.1,())) x
def WC(k t:Ty)(l:List (k.den×(t.den×lF (aX t))))(x:k.den):List (k.den×(t.den×lF (aX t))):=match l[bidx k l x]? with|some _=>l|none=>l++[(x,(t.zero,Sc (aX t)))]
def M5(ti:List (Nat×TI))(T:TypeId):Option (Ty×Ty):=
 match look ti T with
 |some i=>match i.desc with
  | .map kT vT=>match look ti kT,look ti vT with
   |some a,some b=>match b.ty with
    | .ptr t=>bif a.ty.key&&ES t&&Nat.ble (aX t).length 7 then some (a.ty,t)else none
    |_=>none
   |_,_=>none
  |_=>none
 |none=>none
def wT:(l:List Ty)->lF l->Nat->List (Nat×PO)| [],_,_=>[]|t::l,y,i=>(i,.obj t y.1)::wT l y.2 (i+1)
def AU(t:Ty)(y:t.den×lF (aX t))(nx:Nat):List (Nat×PO):=
 (nx,.obj t (fZ t y.1 (List.range' (nx+1) (aX t).length)).1)::wT (aX t) y.2 (nx+1)
def SI(k t:Ty)(l:List (k.den×(t.den×lF (aX t))))(key:k.den)(id nx:Nat)(K:K3 R):Option R:=match l[bidx k l key]? with|none=>K (.tup [⟨.ptr t,.nil⟩,⟨.bool,false⟩]) [] 0|some q=>K (.tup [⟨.ptr t,.rf nx []⟩,⟨.bool,true⟩]) (AU t q.2 nx++[(id,.bag k t l (some (bidx k l key,nx)))]) (1+(aX t).length)
def oZ(kt:Ty×Ty)(x ix:PV)(ok:Bool)(h:Heap)(nx:Nat)(K:K3 R):Option R:=
 match ix with
 | .v ix=>match ix.to kt.1 with
  |some key=>bif ok then match x with
   | .v ⟨.mp,none⟩=>K (.tup [⟨.ptr kt.2,.nil⟩,⟨.bool,false⟩]) [] 0
   | .v ⟨.mp,some id⟩=>match h id with
    |some (.bag k t l none)=>if e:k=kt.1/\t=kt.2 then SI k t l (e.1▸key) id nx K else none
    |_=>none
   |_=>none
   else none
  |none=>none
 |_=>none
def qJ(kt:Ty×Ty)(x ix y:PV)(h:Heap)(K:PV->Upd->Option R):Option R:=
 match ix,y with
 | .v ix,.v y=>match ix.to kt.1,y.to (.ptr kt.2)with
  |some key,some (.rf oid [])=>match x with
   | .v ⟨.mp,some id⟩=>match h id with
    |some (.bag k t l none)=>if e:k=kt.1/\t=kt.2 then K .un [(id,.bag k t (WC k t l (e.1▸key)) (some (bidx k l (e.1▸key),oid)))]else none
    |_=>none
   |_=>none
  |_,_=>none
 |_,_=>none
def sG(ti:List (Nat×TI))(T:TypeId)(nx:Nat)(K:K3 R):Option R:=
 match M5 ti T with
 |some kt=>K (.v ⟨.mp,some nx⟩) [(nx,.bag kt.1 kt.2 [] none)] 1
 |none=>match adC ti T with
  |some kv=>K (.v ⟨.mp,some nx⟩) [(nx,.mp kv.1 kv.2 [])] 1
  |none=>none
def nN(fn:Fn)(first:List Operand)(caps:List PV)(K:PV->Option R):Option R:=match fn,first,SH caps with| .func f,[],some l=>K (.v ⟨.fn,.mk f l⟩)|_,_,_=>none
def M6(x y:PV)(K:PV->Option R):Option R:=match x,y with| .v ⟨.int k,a⟩,.v ⟨.int k',b⟩=>if k=k' then K (.v ⟨.int k,if a<b then b else a⟩)else none|_,_=>none
def M7(x y:PV)(K:PV->Option R):Option R:=match x,y with| .v ⟨.int k,a⟩,.v ⟨.int k',b⟩=>if k=k' then K (.v ⟨.int k,if b<a then b else a⟩)else none|_,_=>none
def M8(ti:List (Nat×TI))(T:TypeId)(x:PV)(K:PV->Option R):Option R:=
 match look ti T with
 |some i=>match i.desc with
  | .string=>match x with
   | .v ⟨.str,s⟩=>K (.v ⟨.int .i64,(s.size:Int)⟩)
   |_=>none
  | .slice _=>match x with
   | .v ⟨.sl t,y⟩=>match lenOf (.v ⟨.sl t,y⟩)with
    |some n=>K (.v ⟨.int .i64,n⟩)
    |none=>none
   |_=>none
  | .array n _=>K (.v ⟨.int .i64,(n:Int)⟩)
  |_=>none
 |none=>none
def rowOf(d:PV)(t:Ty)(e:TypeId)(h:Heap):Option (Bool×Nat×(Nat->t.den)×Upd):=
 match d with
 | .v ⟨.sl _,.nil⟩=>some (true,0,λ_=>t.zero,[])
 | .v ⟨.sl u,.ms id [] 0 len⟩=>match h id with
  |some (.row sh e' t' _ f)=>if ht:t'=t/\u=t then bif Nat.beq e' e then some (sh,len,ht.1▸f,[(id,.dead)])else none else none
  |_=>none
 |_=>none
def XC:PO->Path->Bool| .row sh _ _ _ _,[]=>sh|_,_=>false
def tT(x:PV)(t:Ty)(h:Heap):Option (Bool×Nat×(Nat->t.den)):=
 match x with
 | .v ⟨.sl _,.nil⟩=>some (true,0,λ_=>t.zero)
 | .v ⟨.sl u,.fz n f⟩=>if ht:u=t then some (true,n,ht▸f)else none
 | .v ⟨.sl u,.ms id p lo len⟩=>match h id with
  |some o=>match o.get p with
   |some ⟨.arr _ t',g⟩=>if ht:t'=t/\u=t then some (t.flat||XC o p,len,λj=>(ht.1▸g:Nat->t.den) (lo+j))else none
   |_=>none
  |none=>none
 |_=>none
def bytesOf(n:Nat)(f:Nat->Int):ByteArray:=⟨((List.range n).map λi=>UInt8.ofNat (f i).toNat).toArray⟩
def strFn(s:ByteArray):Nat->Int:=λi=>((s.data.toList.getD i 0).toNat:Int)
def Oq(ti:List (Nat×TI))(e:TypeId):Bool:=
 match look ti e with
 |some i=>match i.desc with
  | .int .u8=>true
  |_=>false
 |none=>false
def kJ(ti:List (Nat×TI))(src dst:TypeId)(x:PV)(h:Heap)(nx:Nat)(K:K3 R):Option R:=
 match look ti src,look ti dst with
 |some s,some i=>match s.desc,i.desc with
  | .int _,.int k'=>match x with
   | .v ⟨.int k,n⟩=>K (.v ⟨.int k',k'.wrap n⟩) [] 0
   |_=>none
  | .slice e,.string=>bif Oq ti e then match tT x (.int .u8) h with
   |some (_,n,f)=>K (.v ⟨.str,bytesOf n f⟩) [] 0
   |none=>none
   else none
  | .string,.slice e=>bif Oq ti e then match x with
   | .v ⟨.str,s⟩=>bif Nat.ble s.size 9223372036854775807 then K (.v ⟨.sl (.int .u8),.ms nx [] 0 s.size⟩) [(nx,.row true e (.int .u8) s.size (strFn s))] 1 else none
   |_=>none
   else none
  |_,_=>none
 |_,_=>none
def glue {α:Type}(n:Nat)(f g:Nat->α):Nat->α:=λj=>bif Nat.blt j n then f j else g (j-n)
def iO(ti:List (Nat×TI))(T:TypeId)(d x:PV)(h:Heap)(nx:Nat)(K:K3 R):Option R:=
 match look ti T with
 |some i=>match i.desc,i.ty with
  | .slice e,.sl t=>match look ti e with
   |some ie=>if ie.ty=t then
    match rowOf d t e h,tT x t h with
    |some (sh,n,f,u),some (sh',m,g)=>bif Nat.ble ((n+m)*ie.bytes) 140737488355328&&Nat.ble (n+m) 9223372036854775807 then
      K (.v ⟨.sl t,.ms nx [] 0 (n+m)⟩) ((nx,.row (sh&&sh') e t (n+m) (glue n f g))::u) 1 else none
    |_,_=>none
    else none
   |none=>none
  |_,_=>none
 |none=>none
def DT(ti:List (Nat×TI))(T:TypeId)(l c:PV)(nx:Nat)(K:K3 R):Option R:=
 match look ti T with
 |some i=>match i.desc,i.ty with
  | .slice e,.sl t=>match look ti e with
   |some ie=>if ie.ty=t then
    match l,c with
    | .v ⟨.int _,l⟩,.v ⟨.int _,c⟩=>bif decide (0<=l)&&decide (l<=c)&&decide ((ie.bytes:Int)*c<=281474976710656)&&decide (c<=9223372036854775807)then
      K (.v ⟨.sl t,.ms nx [] 0 l.toNat⟩) [(nx,.row (!a7c t) e t l.toNat λ_=>t.zero)] 1 else none
    |_,_=>none
    else none
   |none=>none
  |_,_=>none
 |none=>none
def BQ(ti:List (Nat×TI))(ty:TypeId)(x:PV)(h:Heap)(K:PV->Option R):Option R:=
 match look ti ty with
 |some i=>match i.desc,x with
  | .pointer _,.v ⟨.sl _,.nil⟩=>K (.dp 0 0)
  | .pointer _,.v ⟨.sl _,.ms id [] 0 n⟩=>match h id with
   |some (.row _ _ _ _ _)=>K (.dp id n)
   |_=>none
  |_,_=>none
 |none=>none
def BR(ti:List (Nat×TI))(T:TypeId)(x n:PV)(h:Heap)(K:PV->Upd->Option R):Option R:=
 match look ti T with
 |some i=>match i.desc,x,n with
  | .pointer e,.dp id n,.v ⟨.int .i64,m⟩=>bif decide (m=(n:Int))&&Nat.ble n 9223372036854775807 then
    match h id with
    |some (.row _ e' (.int .u8) _ f)=>bif Nat.beq e' e&&Oq ti e then K (.v ⟨.str,bytesOf n f⟩) [(id,.dead)]else none
    |_=>bif Nat.beq n 0 then K (.v ⟨.str,ByteArray.empty⟩) []else none
   else none
  |_,_,_=>none
 |none=>none
def Iu(ti:List (Nat×TI))(e:TypeId):Bool:=
 match look ti e with
 |some i=>match i.desc with
  | .string=>true
  |_=>false
 |none=>false
def sH(C:Cx)(c:Callee)(args:List PV)(argTypes:List TypeId)(ty:TypeId)(h:Heap)(nx:Nat)(K:K3 R):Option R:=
 match c with
 | .builtin b=>match b,args,argTypes with
  | .len,[x],T::_=>M8 C.ti T x λv=>K v [] 0
  | .unsafeSliceData,[x],_=>BQ C.ti ty x h λv=>K v [] 0
  | .unsafeString,[x,n],T::_=>BR C.ti T x n h λv u=>K v u 0
  | .max,[x,y],_=>M6 x y λv=>K v [] 0
  | .min,[x,y],_=>M7 x y λv=>K v [] 0
  | .copy,[d,x],T::_=>match x with
   | .v ⟨.str,s⟩=>AR C.ti T d (.int .u8) s.size (strFn s) h K
   |_=>BP C.ti T d x h K
  | .append,[d,x],[T,T']=>if T=T' then iO C.ti T d x h nx K else match x with
   | .v ⟨.str,s⟩=>bif Iu C.ti T' then iO C.ti T d (.v ⟨.sl (.int .u8),.fz s.size (strFn s)⟩) h nx K else none
   |_=>none
  |_,_,_=>none
 |_=>none
@[reducible] def k0 (K:K3 R):PV->Option R:=λv=>K v [] 0
def FP(C:Cx)(o:Oper)(vl:Operand->PV)(h:Heap)(nx:Nat)(K:K3 R):Option R:=
 match o.op with
 | .move x| .assign x=>(k0 K) (vl x)
 | .pick c a b=>match vl c with
  | .v ⟨.bool,c⟩=>bif c then(k0 K) (vl a)else(k0 K) (vl b)
  |_=>none
 | .alloc T=>match look C.ti T with
  |some i=>K (.v ⟨.ptr i.ty,.rf nx []⟩) [(nx,.obj i.ty i.ty.zero)] 1
  |none=>none
 | .box T x=>match look C.ti T,vl x with
  |some i,.v v=>match v.to i.ty with
   |some y=>bif C.frz.any (Nat.beq T)then(bif dL i.ty y then K (.v ⟨.ptr i.ty,.fz y⟩) [] 1 else none)else bif i.ty.spHead then none else K (.v ⟨.ptr i.ty,.rf nx []⟩) [(nx,.obj i.ty y)] 1
   |none=>none
  |some i,.zr t=>if t=i.ty then bif C.frz.any (Nat.beq T)then none else K (.v ⟨.ptr i.ty,.rf nx []⟩) [(nx,.obj i.ty i.ty.zero)] 1 else none
  |_,_=>none
 | .build T parts=>yZ C.ti T (parts.toList.map λp=>(p.1,vl p.2)) (k0 K)
 | .buildSlice T len parts=>match look C.ti T with
  |some i=>match i.desc,i.ty with
   | .slice e,.sl t=>match look C.ti e with
    |some ie=>if ht:ie.ty=t then
      match zL (.arr len t) (λj=>[.X j]) (parts.toList.map λp=>(p.1,vl p.2)) (λ_=>t.zero)with
      |some f=>bif Nat.ble (len*t.size) 16777216&&(parts.toList.map λp=>(p.1,vl p.2)).all (λp=>Nat.blt p.1 len)then(bif C.frz.any (Nat.beq T)then(bif t.flat then K (.v ⟨.sl t,.fz len f⟩) [] 1 else none)else K (.v ⟨.sl t,.ms nx [] 0 len⟩) [(nx,.row (dL (.arr len t) f) e t len f)] 1)else none
      |none=>none
     else none
    |none=>none
   |_,_=>none
  |none=>none
 | .load T a=>rJ C.ti T (vl a) h (k0 K)
 | .store T a x=>rD C.ti T (vl a) (vl x) h λv u=>K v u 0
 | .nilCheck x=>match vl x with
  | .v ⟨.ptr t,.fz y⟩=>(k0 K) (.v ⟨.ptr t,.fz y⟩)
  | .v ⟨.ptr t,.rf id p⟩=>(k0 K) (.v ⟨.ptr t,.rf id p⟩)
  |_=>none
 | .binOp op T x y _=>M4 C.ti op T (vl x) (vl y) (k0 K)
 | .unOp op _ x=>YA op (vl x) (k0 K)
 | .convert src dst x=>kJ C.ti src dst (vl x) h nx K
 | .sliceToArrayPointer T x=>tQ C.ti T (vl x) (k0 K)
 | .makeFunc fn first caps=>nN fn first.toList (caps.toList.map vl) (k0 K)
 | .slice T x lo hi mx=>match mx with
  |none=>ze C.ti T (vl x) (lo.map vl) (hi.map vl) (k0 K)
  |some _=>none
 | .fieldAddr T x j=>jC C.ti T (vl x) j (k0 K)
 | .field T x j=>z8 C.ti T (vl x) j (k0 K)
 | .indexAddr T x i=>jD C.ti T (vl x) (vl i) (k0 K)
 | .index T x i=>za C.ti T (vl x) (vl i) (k0 K)
 | .extract x j=>oV (vl x) j (k0 K)
 | .makeSlice T l c=>DT C.ti T (vl l) (vl c) nx K
 | .makeMap T r=>match r with
  |none=>sG C.ti T nx K
  |some _=>none
 | .lookup T x ix ok=>match M5 C.ti T with
  |some kt=>oZ kt (vl x) (vl ix) ok h nx K
  |none=>qI C.ti T (vl x) (vl ix) ok h (k0 K)
 | .mapUpdate T m k x=>match M5 C.ti T with
  |some kt=>qJ kt (vl m) (vl k) (vl x) h λv u=>K v u 0
  |none=>iZ C.ti T (vl m) (vl k) (vl x) h λv u=>K v u 0
 | .mapEntry T m k=>jO C.ti T (vl m) (vl k) h λv u=>K v u 0
 | .entryStore T m st x=>iA C.ti T (vl m) (vl st) (vl x) h λv u=>K v u 0
 | .call c=>sH C c.callee (c.args.toList.map vl) c.argTypes.toList o.type h nx K
 |_=>none
def isStr:PV->Bool| .v ⟨.str,_⟩=>true|_=>false
def KJ:PV->List Nat| .v ⟨.mp,some id⟩=>[id]|_=>[]
def zf:PV->List Nat| .v ⟨.sl _,.ms id _ _ _⟩=>[id]|_=>[]
def WE(o:Oper)(vl:Operand->PV)(nx:Nat):List Nat×List Nat:=
 match o.op with
 | .alloc _| .box _ _| .buildSlice _ _ _| .makeSlice _ _ _| .makeMap _ _=>([],[nx])
 | .lookup _ m _ ok=>(KJ (vl m),bif ok then(KJ (vl m)).flatMap λid=>id::List.range' nx 8 else [])
 | .mapUpdate _ m _ _| .mapEntry _ m _| .entryStore _ m _ _=>(KJ (vl m),KJ (vl m))
 | .load _ a=>match vl a with
  | .v ⟨.ptr _,.rf id _⟩=>([id],[])
  |_=>([],[])
 | .store _ a _=>match vl a with
  | .v ⟨.ptr _,.rf id _⟩=>([id],[id])
  |_=>([],[])
 | .convert _ _ x=>(zf (vl x),bif isStr (vl x)then [nx]else [])
 | .call c=>match c.callee,c.args.toList.map vl with
  | .builtin .copy,[d,x]=>(zf d++zf x,zf d)
  | .builtin .append,[d,x]=>(zf d++zf x,nx::zf d)
  | .builtin .unsafeString,[.dp id _,_]=>([id],[id])
  | .builtin .unsafeSliceData,[x]=>(zf x,[])
  |_,_=>([],[])
 |_=>([],[])
def KL(o:Oper)(vl:Operand->PV):Option (Nat×List PV):=
 match o.op with
 | .call c=>match c.callee with
  | .value f=>match vl f with
   | .v ⟨.fn,.mk f caps⟩=>some (f,c.args.toList.map vl++caps.map λc=>.v ⟨.ptr c.1,.rf c.2.1 c.2.2⟩)
   |_=>none
  |_=>none
 |_=>none
abbrev Fp:=List Nat×List Nat
abbrev AV(R:Type):=Nat->List PV->DS->(PV->DS->Option R)->Option R
def clash(a b:Fp):Bool:=a.2.any (λi=>b.1.any (Nat.beq i)||b.2.any (Nat.beq i))||a.1.any (λi=>b.2.any (Nat.beq i))
def Iw(o:Oper)(i:Nat):Bool:=o.after.toList.any λe=>Region.binds .any e&&Nat.beq e.on i
def a0i(o:Oper)(j:Nat):Bool:=o.after.toList.all λe=>!Region.binds .any e||Nat.blt e.on j
def ajo(o:Oper):Bool:=match o.op with| .select _ _=>false|_=>true
def M9(all:Array Oper):Nat->Oper->Nat->Bool
 |0,o,i=>Iw o i
 |n+1,o,i=>Iw o i||o.after.toList.any λe=>Region.binds .any e&&(Nat.blt i e.on&&(match all[e.on]? with
  |some p=>M9 all n p i
  |none=>false))
def Sd(all:Array Oper)(o:Oper)(fp:Fp):Nat->List (Oper×Fp)->Bool|_,[]=>true|i,x::l=>(Iw o i||((Oper.apart all x.1 o&& !clash x.2 fp)||M9 all 6 o i))&&Sd all o fp (i+1) l
def a4A(all:Array Oper):Nat->List (Oper×Fp)->List (Oper×Fp)->Bool|_,_,[]=>true|j,done,x::rest=>a0i x.1 j&&ajo x.1&&Sd all x.1 x.2 0 done&&a4A all (j+1) (done++[x]) rest
def KM(ops:List Oper)(tr:List Fp):Bool:=a4A ops.toArray 0 [] (ops.zip tr)
def vG(ops:List Oper)(j:Nat):Option Tmp:=(ops[j]?).bind (·.dst)
def FZ(C:Cx)(draw:Bool)(call:AV R)(o:Oper)(s:DS)(K:DS->Fp->Option R):Option R:=
 match KL o s.val with
 |some (f,args)=>match look C.con f with
  |some c=>c.run args s.h s.nx λpv u n=>(s.app u n).put o.dst pv λs'=>K s' ((c.fp args s.h).1,(c.fp args s.h).2++List.range' s.nx n)
  |none=>bif draw then none else call f args s λpv s'=>s'.put o.dst pv λs''=>K s'' ([],[])
 |none=>FP C o s.val s.h s.nx λpv u n=>(s.app u n).put o.dst pv λs'=>K s' (WE o s.val s.nx)
def SK(o:Oper)(s:DS)(K:DS->Fp->Option R):Option R:=s.put o.dst (.tup []) λs'=>K s' ([],[])
def CO(C:Cx)(draw:Bool)(call:AV R)(all:List Oper):List Oper->List Fp->DS->(DS->Option R)->Option R
 | [],tr,s,K=>bif draw then(bif KM all tr then K s else none)else K s
 |o::rest,tr,s,K=>
  match o.guard with
  |none=>FZ C draw call o s λs' fp=>CO C draw call all rest (tr++[fp]) s' K
  |some (j,want)=>match vG all j with
   |none=>none
   |some t=>match look s.env t with
    |some (.v ⟨.bool,b⟩)=>
     bif b then
      let s1:= { s with env:=(t,.v ⟨.bool,true⟩)::s.env }
      bif want then FZ C draw call o s1 λs' fp=>CO C draw call all rest (tr++[fp]) s' K
      else SK o s1 λs' fp=>CO C draw call all rest (tr++[fp]) s' K
     else
      let s1:= { s with env:=(t,.v ⟨.bool,false⟩)::s.env }
      bif want then SK o s1 λs' fp=>CO C draw call all rest (tr++[fp]) s' K
      else FZ C draw call o s1 λs' fp=>CO C draw call all rest (tr++[fp]) s' K
    |some (.tup [])=>SK o s λs' fp=>CO C draw call all rest (tr++[fp]) s' K
    |_=>none
def a4B(f:DS->(Exit->DS->Option R)->Option R):Nat->DS->(Exit->DS->Option R)->Option R
 |0,_,_=>none
 |n+1,s,K=>f s λe s'=>match e with
  | .normal=>a4B f n s' K
  |e=>K e s'
def CP(C:Cx)(lps:List (Nat×Lp))(call:AV R):Code->DS->(Exit->DS->Option R)->Option R
 | .skip,s,K=>K .normal s
 | .label _,s,K=>K .normal s
 | .exit id,s,K=>K (.exit id) s
 | .ret,s,K=>K .ret s
 | .seq a b,s,K=>CP C lps call a s λe s'=>match e with
  | .normal=>CP C lps call b s' K
  |e=>K e s'
 | .cond c x y,s,K=>match s.val c with
  | .v ⟨.bool,b⟩=>bif b then CP C lps call x s K else CP C lps call y s K
  |_=>none
 | .block id body,s,K=>match look lps id with
  |some lp=>lp.run s K
  |none=>CP C lps call body s λe s'=>match e with
   | .exit id'=>bif Nat.beq id' id then K .normal s' else K (.exit id') s'
   |e=>K e s'
 | .loop body,s,K=>a4B (CP C lps call body) C.un s K
 | .scope c,s,K=>CP C lps call c s λe s'=>match e with
  | .goto _=>none
  |e=>K e s'
 | .region _ ops draw,s,K=>CO C draw call ops.toList ops.toList [] s (K .normal)
 |_,_,_=>none
def adE(C:Cx)(s:DS):ResultVar->(V->Option R)->Option R
 | .tmp t,K=>match look s.env t with
  |some (.v v)=>K v
  |_=>none
 | .cell a T,K=>match look s.env a with
  |some pv=>rJ C.ti T pv s.h λ
   | .v v=>K v
   |_=>none
  |none=>none
def a0j(C:Cx)(s:DS):List ResultVar->(List V->Option R)->Option R| [],K=>K []|r::l,K=>adE C s r λv=>a0j C s l λvs=>K (v::vs)
def Ot:List V->PV| [v]=>.v v|l=>.tup l
def numbered:Nat->List PV->List (Nat×PV)|_,[]=>[]|i,x::l=>(i,x)::numbered (i+1) l
def cu(C:Cx)(lps:List (Nat×Lp))(call:AV R)(fn:Func)(args:List PV)(hp:List (Nat×PO))(nx:Nat)(K:PV->DS->Option R):Option R:=
 match fn.body with
 |some c=>CP C lps call c { env:=numbered 0 args,hp:=hp,nx:=nx,n:=fn.ntmps } λe s'=>match e with
  | .normal| .ret=>a0j C s' fn.results.toList λvs=>K (Ot vs) s'
  |_=>none
 |none=>none
def dX(C:Cx):Nat->AV R
 |0=>λ_ _ _ _=>none
 |d+1=>λf args s K=>match look C.fns f with
  |some (fn,lps)=>cu C lps (dX C d) fn args s.hp s.nx λpv s'=>K pv { s with hp:=s'.hp,nx:=s'.nx }
  |none=>none
end
structure Base where
 w:World
 may:Nat->Prop:=λ_=>False
def VR(ρ:Rho)(w:World)(x:V)(v:Value):Prop:= ∃cs,Rd ρ w x.1 x.2 cs/\v=mkV x.1 cs
def VRs(ρ:Rho)(w:World):List V->List Value->Prop| [],[]=>True|x::l,v::vs=>VR ρ w x v/\VRs ρ w l vs|_,_=>False
def VP(ρ:Rho)(w:World):PV->Value->Prop| .un,_=>True| .v x,v=>VR ρ w x v| .dp id n,v=> ∃p,v= .pointer p/\(0<n-> ∃loc m t,ρ id=some loc/\loc.ty= .arr m t/\n<=m/\p=some ⟨loc.blk,0,none⟩)| .tup l,v=> ∃vs:List Value,v= .tuple vs.toArray/\VRs ρ w l vs| .zr t,v=>v=mkV t t.zcells
def Rho.at(ρ:Rho)(sh:Bool):Rho:=bif sh then ρ.shut else ρ
def jw(w:World)(b:Nat)(l:List Value)(e:TypeId)(t:Ty:=.int .u8):Prop:= ∃fr:Nat×Nat,w.heap[b]?=some (.cells l.toArray e fr)/\(fr=(0,0)\/(l.length<=fr.1/\t= .int .u8))
theorem jw.of {w:World}{b:Nat}{l:List Value}{e:TypeId}{t:Ty}(h:w.heap[b]?=some (.cells l.toArray e (0,0))):jw w b l e t:=⟨_,h,.inl rfl⟩
theorem jw.weak {w:World}{b:Nat}{l:List Value}{e:TypeId}{t:Ty}(h:jw w b l e t):jw w b l e:=let⟨fr,h1,h2⟩:=h;⟨fr,h1,h2.imp_right λh=>⟨h.1,rfl⟩⟩
theorem jw.eq {w:World}{b:Nat}{l l':List Value}{e:TypeId}{t:Ty}(h:jw w b l e t)(el:l=l'):jw w b l' e t:=el▸h
theorem jw.trans {w w':World}{b:Nat}{l:List Value}{e:TypeId}{t:Ty}(hb:w'.heap[b]?=w.heap[b]?)(h:jw w b l e t):jw w' b l e t:=let⟨fr,h1,h2⟩:=h;⟨fr,hb.trans h1,h2⟩
theorem jw.lt {w:World}{b:Nat}{l:List Value}{e:TypeId}{t:Ty}(h:jw w b l e t):b<w.heap.size:=by obtain⟨fr,h,_⟩:=h;exact(ayY.1 h).1
theorem jw.cell {w:World}{b:Nat}{l:List Value}{e:TypeId}{t:Ty}(h:jw w b l e t)(j:Nat):w.cell? ⟨b,j,none⟩=l[j]?:=by obtain⟨fr,h,_⟩:=h;simp[World.cell?,h]
def a2y(t:Ty)(b:Nat)(T:TypeId)(cs:List Value):Prop:= ∀T0,t.head=some T0->T=T0/\ ∀v,cs[0]?=some v->v= .pointer none\/v= .pointer (some ⟨b,0,none⟩)
def MpR(ρ:Rho)(w:World)(k v:Ty)(l:List (k.den×v.den))(es:List MapEntry):Prop:=
 l.length=es.length/\ ∀(j:Nat) q e,l[j]?=some q->es[j]?=some e->(∃c,Rd ρ w k q.1 c/\e.key=mkV k c)/\(∃c,Rd ρ w v q.2 c/\e.val=mkV v c)/\e.born=j
theorem MpR.keeps {ρ ρ':Rho}{w w':World}(L:Keeps ρ w ρ' w'){k v:Ty}{l:List (k.den×v.den)}{es:List MapEntry}(h:MpR ρ w k v l es):MpR ρ' w' k v l es:=
 ⟨h.1,λj q e hq he=>let⟨⟨c,h1,h2⟩,⟨d,h3,h4⟩,h5⟩:=h.2 j q e hq he;⟨⟨c,h1.keeps L,h2⟩,⟨d,h3.keeps L,h4⟩,h5⟩⟩
def OR(ρ:Rho)(w:World)(loc:Loc):PO->Prop
 | .obj t x=>loc.ty=t/\ρ.W loc.blk/\ ∃cs T,Rd ρ w t x cs/\w.heap[loc.blk]?=some (.cells cs.toArray T (0,0))/\a2y t loc.blk T cs
 | .row sh e t n f=>loc.ty= .arr n t/\ρ.W loc.blk/\ ∃(cs sp:List Value),Rd (ρ.at sh) w (.arr n t) f cs/\jw w loc.blk (cs++sp) e t/\
   ∃cap,loc.cap=some cap/\(cs++sp).length=cap*t.size/\n<=cap/\cap<=9223372036854775807
 | .mp k v l=>loc.ty= .mp/\ρ.W loc.blk/\ ∃es,MpR ρ.shut w k v l es/\w.heap[loc.blk]?=some (.map es.toArray es.length)
 | .bag k t l out=>loc.ty= .mp/\ρ.W loc.blk
 | .dead=>True
def PO.idle(o:PO)(l:Option Loc):Prop:=o= .dead\/(l=none/\ ∃sh e t f,o= .row sh e t 0 f)
structure adF(B:Base)(w:World):Prop where
 os:w.os=B.w.os
 tape:w.tape=B.w.tape
 output:w.output=B.w.output
 froz: ∀a,a.block<B.w.heap.size-> ¬B.may a.block->w.frozen? a=B.w.frozen? a
 size:B.w.heap.size<=w.heap.size
def PO.isBag:PO->Bool| .bag _ _ _ _=>true|_=>false
def YB(ρ:Rho)(ts:List Ty)(bs:List Nat):Rho:=
 ⟨λi=>match ts[i]?,bs[i]? with
  |some t,some b=>some ⟨b,t,none⟩
  |_,_=>none,λ_=>False,ρ.A,λ_ h=>h.elim⟩
def XD(ρ:Rho)(w:World)(t:Ty)(x:t.den)(b:Nat):Prop:= ∃cs T,Rd ρ w t x cs/\w.heap[b]?=some (.cells cs.toArray T (0,0))
def zM(ρ:Rho)(w:World):(l:List Ty)->lF l->List Nat->Prop| [],_,[]=>True|t::l,y,b::bs=>XD ρ.shut w t y.1 b/\zM ρ w l y.2 bs|_,_,_=>False
def Small(ρ:Rho)(w:World)(t:Ty)(y:t.den×lF (aX t))(bs:List Nat)(v:Value):Prop:=
 ∃b0 bs',bs=b0::bs'/\bs.Nodup/\v= .pointer (some ⟨b0,0,none⟩)/\XD (YB ρ (aX t) bs') w t (fZ t y.1 (List.range (aX t).length)).1 b0/\zM ρ w (aX t) y.2 bs'
def AX(ρ:Rho)(w:World)(t:Ty)(out:Option (Nat×Nat))(j:Nat)(y:t.den×lF (aX t))(bs:List Nat)(v:Value):Prop:=match out with|some (j',oid)=>if j'=j then bs=[]/\ ∃loc,ρ oid=some loc/\loc.ty=t/\loc.cap=none/\v= .pointer (some ⟨loc.blk,0,none⟩)else Small ρ w t y bs v|none=>Small ρ w t y bs v
structure KN(ρ:Rho)(w:World)(blk:Nat)(k t:Ty)(l:List (k.den×(t.den×lF (aX t))))(out:Option (Nat×Nat))(F:Nat->Prop):Prop where
 ok:ES t=true
 ex: ∃(es:List MapEntry) (G:Nat->List Nat),w.heap[blk]?=some (.map es.toArray es.length)/\l.length=es.length/\
  (∀(j:Nat) q e,l[j]?=some q->es[j]?=some e->(∃c,Rd ρ.shut w k q.1 c/\e.key=mkV k c)/\e.born=j/\AX ρ w t out j q.2 (G j) e.val)/\
  (∀j b,b∈G j->F b)/\ ∀j j' b,b∈G j->b∈G j'->j=j'
structure SQ(ρ:Rho)(hp:List (Nat×PO))(w:World)(F:Nat->Nat->Prop):Prop where
 val: ∀id k t l out loc,look hp id=some (.bag k t l out)->ρ id=some loc->KN ρ w loc.blk k t l out (F id)
 own: ∀id o loc b,look hp id=some o->o.isBag=true->ρ id=some loc->F id b->ρ.W b/\b<w.heap.size
 dis: ∀id o loc b id' o' loc',look hp id=some o->o.isBag=true->ρ id=some loc->F id b->look hp id'=some o'->o'≠ .dead->ρ id'=some loc'->loc'.blk≠b
 sep: ∀id id' o o' loc loc' b,look hp id=some o->o.isBag=true->ρ id=some loc->look hp id'=some o'->o'.isBag=true->ρ id'=some loc'->F id b->F id' b->id=id'
theorem adG {ρ ρ':Rho}(hA:ρ'.A=ρ.A)(ts:List Ty)(bs:List Nat):YB ρ' ts bs=YB ρ ts bs:=by unfold YB;congr 1
theorem zM.re {ρ ρ':Rho}{w:World}(hs:ρ'.shut=ρ.shut): ∀ {l:List Ty} {y:lF l} {bs:List Nat},zM ρ w l y bs->zM ρ' w l y bs
 | [],_,[],_=>trivial
 |t::l,y,b::bs,h=>⟨by rw[hs];exact h.1,zM.re hs h.2⟩
 | [],_,_::_,h=>h.elim
 |_::_,_,[],h=>h.elim
theorem KN.re {ρ ρ':Rho}{w:World}(hA:ρ'.A=ρ.A){blk:Nat}{k t:Ty}{l:List (k.den×(t.den×lF (aX t)))}{out out':Option (Nat×Nat)}{F:Nat->Prop}
  (hup: ∀j oid,out=some (j,oid)-> ∃oid',out'=some (j,oid')/\ ∀loc,ρ oid=some loc->ρ' oid'=some loc) (hno:out=none->out'=none) (h:KN ρ w blk k t l out F):KN ρ' w blk k t l out' F:=by
 obtain⟨h0,es,G,h1,h2,h3,h4,h5⟩:=h;have hs:ρ'.shut=ρ.shut:=by unfold Rho.shut;congr 1
 have hsm: ∀ {y bs v},Small ρ w t y bs v->Small ρ' w t y bs v:=by intro y bs v ⟨b0,bs',e,g1,g2,g3,g4⟩;exact⟨b0,bs',e,g1,g2,by rw[adG hA];exact g3,g4.re hs⟩
 refine⟨h0,es,G,h1,h2,λj q e hq he=>?_,h4,h5⟩;obtain⟨⟨c,h6,h7⟩,h8,h9⟩:=h3 j q e hq he;refine⟨⟨c,by rw[hs];exact h6,h7⟩,h8,?_⟩;cases out with
 |none=>rw[hno rfl];exact hsm h9
 |some r=>
  obtain⟨j',oid⟩:=r;obtain⟨oid',e',hl⟩:=hup j' oid rfl;rw[e'];unfold AX at h9⊢;simp only at h9⊢;split
  ·rename_i e1;rw[axp e1]at h9;obtain⟨g1,loc,g2,g3⟩:=h9;exact⟨g1,loc,hl loc g2,g3⟩
  ·rename_i e1;rw[axi e1]at h9;exact hsm h9
theorem KN.mono {ρ:Rho}{w:World}{blk:Nat}{k t:Ty}{l:List (k.den×(t.den×lF (aX t)))}{out:Option (Nat×Nat)}{F F':Nat->Prop}(h:KN ρ w blk k t l out F)(hf: ∀b,F b->F' b):KN ρ w blk k t l out F':=
 let⟨es,G,h1,h2,h3,h4,h5⟩:=h.ex
 ⟨h.ok,es,G,h1,h2,h3,λj b hb=>hf b (h4 j b hb),h5⟩
theorem SQ.free {ρ:Rho}{hp:List (Nat×PO)}{w:World}(h: ∀id o,look hp id=some o->o.isBag=false): ∃F,SQ ρ hp w F:=by
 have no: ∀ {id:Nat} {o:PO},look hp id=some o->o.isBag=true->False:=λh1 h2=>by rw[h _ _ h1]at h2;cases h2
 exact⟨λ_ _=>False,⟨λid k t l out loc h1 _=>(no h1 rfl).elim,λid o loc b h1 h2 _ _=>(no h1 h2).elim,λid o loc b id' o' loc' h1 h2 _ _ _ _ _=>(no h1 h2).elim,λid id' o o' loc loc' b h1 h2 _ _ _ _ _ _=>(no h1 h2).elim⟩⟩
theorem PO.bag_ne {o:PO}(h:o.isBag=true):o≠ .dead:=by intro e;subst e;cases h
theorem a2z {ρ ρ':Rho}{w w':World}(L:Keeps ρ w ρ' w')(ts:List Ty)(bs:List Nat):Keeps (YB ρ ts bs) w (YB ρ' ts bs) w':=⟨L.size,λ_ _ h=>h,L.downA,L.keep⟩
theorem XD.keeps {ρ ρ':Rho}{w w':World}(L:Keeps ρ w ρ' w'){t:Ty}{x:t.den}{b:Nat}(hb:w'.heap[b]?=w.heap[b]?)(h:XD ρ w t x b):XD ρ' w' t x b:=
 let⟨cs,T,h1,h2⟩:=h
 ⟨cs,T,h1.keeps L,hb.trans h2⟩
theorem zM.keeps {ρ ρ':Rho}{w w':World}(L:Keeps ρ w ρ' w'): ∀ {l:List Ty} {y:lF l} {bs:List Nat},(∀b∈bs,w'.heap[b]?=w.heap[b]?)->zM ρ w l y bs->zM ρ' w' l y bs
 | [],_,[],_,_=>trivial
 |t::l,y,b::bs,hb,h=>⟨h.1.keeps L.shut (hb b (axT ..)),zM.keeps L (λb hm=>hb b (axP _ hm)) h.2⟩
 | [],_,_::_,_,h=>h.elim
 |_::_,_,[],_,h=>h.elim
theorem Small.keeps {ρ ρ':Rho}{w w':World}(L:Keeps ρ w ρ' w'){t:Ty}{y:t.den×lF (aX t)}{bs:List Nat}{v:Value}(hb: ∀b∈bs,w'.heap[b]?=w.heap[b]?)(h:Small ρ w t y bs v):Small ρ' w' t y bs v:=by obtain⟨b0,bs',rfl,h1,h2,h3,h4⟩:=h;exact⟨b0,bs',rfl,h1,h2,h3.keeps (a2z L _ _) (hb b0 (axT ..)),h4.keeps L λb hm=>hb b (axP _ hm)⟩
theorem AX.keeps {ρ ρ':Rho}{w w':World}(L:Keeps ρ w ρ' w'){t:Ty}{out:Option (Nat×Nat)}{j:Nat}{y:t.den×lF (aX t)}{bs:List Nat}{v:Value}(hb: ∀b∈bs,w'.heap[b]?=w.heap[b]?)(h:AX ρ w t out j y bs v):AX ρ' w' t out j y bs v:=by
 unfold AX at h⊢;cases out with
 |none=>exact Small.keeps L hb h
 |some q=>
  obtain⟨j',oid⟩:=q;simp only at h⊢;split
  ·rename_i e;rw[axp e]at h;obtain⟨h1,loc,h2,h3⟩:=h;exact⟨h1,loc,L.up _ _ h2,h3⟩
  ·rename_i e;rw[axi e]at h;exact Small.keeps L hb h
theorem KN.keeps {ρ ρ':Rho}{w w':World}(L:Keeps ρ w ρ' w'){blk:Nat}{k t:Ty}{l:List (k.den×(t.den×lF (aX t)))}{out:Option (Nat×Nat)}{F:Nat->Prop}(hblk:w'.heap[blk]?=w.heap[blk]?)(hb: ∀b,F b->w'.heap[b]?=w.heap[b]?)(h:KN ρ w blk k t l out F):KN ρ' w' blk k t l out F:=by obtain⟨h0,es,G,h1,h2,h3,h4,h5⟩:=h;refine⟨h0,es,G,hblk.trans h1,h2,λj q e hq he=>?_,h4,h5⟩;obtain⟨⟨c,h6,h7⟩,h8,h9⟩:=h3 j q e hq he;exact⟨⟨c,h6.keeps L.shut,h7⟩,h8,h9.keeps L λb hm=>hb b (h4 j b hm)⟩
theorem SQ.step {ρ ρ':Rho}{w w':World}{hp hp':List (Nat×PO)}{F:Nat->Nat->Prop}(h:SQ ρ hp w F)(L:Keeps ρ w ρ' w')
  (hold: ∀id o loc',look hp' id=some o->o.isBag=true->ρ' id=some loc'->look hp id=some o/\ ∃loc,ρ id=some loc/\loc.blk=loc'.blk)
  (hblk: ∀id o loc,look hp id=some o->o.isBag=true->ρ id=some loc->look hp' id=some o->w'.heap[loc.blk]?=w.heap[loc.blk]?)
  (hk: ∀id o loc b,look hp id=some o->o.isBag=true->ρ id=some loc->F id b->w'.heap[b]?=w.heap[b]?/\ρ'.W b)
  (hn: ∀id' o' loc',look hp' id'=some o'->o'≠ .dead->ρ' id'=some loc'->w.heap.size<=loc'.blk\/ ∃id0 o0 loc0,look hp id0=some o0/\o0≠ .dead/\ρ id0=some loc0/\loc0.blk=loc'.blk):SQ ρ' hp' w' F where
 val id k t l out loc h1 h2:=by obtain⟨h3,loc0,h4,h5⟩:=hold id _ loc h1 rfl h2;rw[<-h5];exact(h.val id k t l out loc0 h3 h4).keeps L (hblk id _ loc0 h3 rfl h4 h1) λb hb=>(hk id _ loc0 b h3 rfl h4 hb).1
 own id o loc b h1 h2 h3 h4:=by obtain⟨h5,loc0,h6,h7⟩:=hold id o loc h1 h2 h3;exact⟨(hk id o loc0 b h5 h2 h6 h4).2,axJ (h.own id o loc0 b h5 h2 h6 h4).2 L.size⟩
 dis id o loc b id' o' loc' h1 h2 h3 h4 h5 h6 h7:=by
  obtain⟨h8,loc0,h9,h10⟩:=hold id o loc h1 h2 h3;rcases hn id' o' loc' h5 h6 h7 with e|⟨id0,o0,loc1,g1,g2,g3,g4⟩
  ·have:=(h.own id o loc0 b h8 h2 h9 h4).2;omega
  ·rw[<-g4];exact h.dis id o loc0 b id0 o0 loc1 h8 h2 h9 h4 g1 g2 g3
 sep id id' o o' loc loc' b h1 h2 h3 h4 h5 h6 h7 h8:=by obtain⟨g1,loc0,g2,_⟩:=hold id o loc h1 h2 h3;obtain⟨g3,loc1,g4,_⟩:=hold id' o' loc' h4 h5 h6;exact h.sep id id' o o' loc0 loc1 b g1 h2 g2 g3 h5 g4 h7 h8
structure aI(B:Base)(ρ:Rho)(s:DS)(a:Act)(w:World):Prop where
 defers:a.defers=[]
 tmps:s.n<=a.tmps.size
 env: ∀t pv,look s.env t=some pv-> ∃v,a.tmps[t]?=some v/\VP ρ w pv v
 obj: ∀id o,look s.hp id=some o->o.idle (ρ id)\/ ∃loc,ρ id=some loc/\OR ρ w loc o
 inj: ∀id id' o o' loc loc',look s.hp id=some o->look s.hp id'=some o'->o≠ .dead->o'≠ .dead->ρ id=some loc->ρ id'=some loc'->loc.blk=loc'.blk->id=id'
 own: ∀id loc,ρ id=some loc->loc.blk<w.heap.size
 ownA: ∀b,ρ.A b->b<w.heap.size
 base:adF B w
 may: ∀b,ρ.W b->B.may b\/B.w.heap.size<=b
 hid: ∃F,SQ ρ s.hp w F
theorem aI.live {B:Base}{ρ:Rho}{s:DS}{a:Act}{w:World}(h:aI B ρ s a w){id:Nat}{o:PO}{loc:Loc}(ho:look s.hp id=some o)(hd:o≠ .dead)(hl:ρ id=some loc):OR ρ w loc o:=by
 rcases h.obj id o ho with(h|⟨h,_⟩)|⟨loc',h1,h2⟩
 ·exact absurd h hd
 ·rw[hl]at h;cases h
 ·rw[hl]at h1;cases h1;exact h2
theorem xI {w:World}{b:Nat}{c:Array Value}{T:TypeId}(h:w.heap[b]?=some (.cells c T (0,0)))(a:Addr)(ha:a.block=b):w.frozen? a=false:=by subst ha;simp only[World.frozen?,h];simp
theorem G5 {w w':World}(b:Nat)(hk: ∀b',b'≠b->w'.heap[b']?=w.heap[b']?)(h: ∀a,a.block=b->w'.frozen? a=w.frozen? a)(a:Addr):w'.frozen? a=w.frozen? a:=by
 by_cases e:a.block=b
 ·exact h a e
 ·simp only[World.frozen?,hk _ e]
theorem sI {w w':World}{b:Nat}{c c':Array Value}{T T':TypeId}{fr:Nat×Nat}(h:w.heap[b]?=some (.cells c T fr))(h':w'.heap[b]?=some (.cells c' T' fr))(a:Addr)(ha:a.block=b):w'.frozen? a=w.frozen? a:=by subst ha;simp only[World.frozen?,h,h']
theorem SV {w w':World}{b:Nat}{c c':Array MapEntry}{n n':Nat}(h:w.heap[b]?=some (.map c n))(h':w'.heap[b]?=some (.map c' n'))(a:Addr)(ha:a.block=b):w'.frozen? a=w.frozen? a:=by subst ha;simp only[World.frozen?,h,h']
theorem OR.writes {ρ:Rho}{w:World}{loc:Loc}{o:PO}(h:OR ρ w loc o)(hd:o≠ .dead):ρ.W loc.blk:=by
 cases o with
 |obj t x=>exact h.2.1
 |row sh e t n f=>exact h.2.1
 |mp k v l=>exact h.2.1
 |bag k t l out=>exact h.2
 |dead=>exact absurd rfl hd
theorem Keeps.at {ρ ρ':Rho}{w w':World}(L:Keeps ρ w ρ' w')(sh:Bool):Keeps (ρ.at sh) w (ρ'.at sh) w':=by
 cases sh
 ·exact L
 ·exact L.shut
theorem Rd.openAt {sh:Bool}{t:Ty}{ρ:Rho}{w:World}{x:t.den}{cs:List Value}(h:Rd (ρ.at sh) w t x cs):Rd ρ w t x cs:=by
 cases sh
 ·exact h
 ·exact h.openIn
theorem VR.later {ρ ρ':Rho}{w w':World}(L:Later ρ w ρ' w'){x:V}{v:Value}(h:VR ρ w x v):VR ρ' w' x v:=
 let⟨cs,h1,h2⟩:=h
 ⟨cs,h1.later L,h2⟩
theorem VRs.later {ρ ρ':Rho}{w w':World}(L:Later ρ w ρ' w'): ∀ {l:List V} {vs:List Value},VRs ρ w l vs->VRs ρ' w' l vs
 | [],[],_=>trivial
 |_::_,_::_,h=>⟨h.1.later L,VRs.later L h.2⟩
theorem VP.later {ρ ρ':Rho}{w w':World}(L:Later ρ w ρ' w'){pv:PV}{v:Value}(h:VP ρ w pv v):VP ρ' w' pv v:=by
 cases pv with
 |un=>trivial
 |v x=>exact VR.later L h
 |tup l=>obtain⟨vs,h1,h2⟩:=h;exact⟨vs,h1,h2.later L⟩
 |zr t=>exact h
 |dp id n=>obtain⟨p,h1,h2⟩:=h;exact⟨p,h1,λh0=>let⟨loc,m,t,h3,h4⟩:=h2 h0;⟨loc,m,t,L.up _ _ h3,h4⟩⟩
theorem OR.later {ρ ρ':Rho}{w w':World}(L:Later ρ w ρ' w')(hW:ρ.W=ρ'.W\/ ∀b,ρ.W b->ρ'.W b){loc:Loc}(hb:w'.heap[loc.blk]?=w.heap[loc.blk]?){o:PO}(h:OR ρ w loc o):OR ρ' w' loc o:=by
 have hW': ∀b,ρ.W b->ρ'.W b:=by
  rcases hW with h|h
  ·intro b hb;rw[<-h];exact hb
  ·exact h
 cases o with
 |obj t x=>obtain⟨h1,h0,cs,T,h2,h3,h4⟩:=h;exact⟨h1,hW' _ h0,cs,T,h2.later L,hb.trans h3,h4⟩
 |row sh e t n f=>obtain⟨h1,h0,cs,sp,h2,h3,h4⟩:=h;exact⟨h1,hW' _ h0,cs,sp,h2.keeps (L.keeps.at sh),h3.trans hb,h4⟩
 |mp k v l=>obtain⟨h1,h0,es,h2,h3⟩:=h;exact⟨h1,hW' _ h0,es,h2.keeps L.keeps.shut,hb.trans h3⟩
 |bag k t l out=>exact⟨h.1,hW' _ h.2⟩
 |dead=>trivial
theorem Later.trans {ρ ρ' ρ'':Rho}{w w' w'':World}(L:Later ρ w ρ' w')(L':Later ρ' w' ρ'' w''):Later ρ w ρ'' w'' where
 size:=az3 L.size L'.size
 up id loc h:=L'.up _ _ (L.up _ _ h)
 downA b h:=by
  rcases L'.downA b h with h|h
  ·exact L.downA b h
  ·exact .inr (az3 L.size h)
 downW b h:=by
  rcases L'.downW b h with h|h
  ·exact L.downW b h
  ·exact .inr (az3 L.size h)
 upA b hb h1 h2:=by
  refine L'.upA b (axJ hb L.size) (L.upA b hb h1 h2) (λh=>?_);rcases L.downW b h with h|h
  ·exact h2 h
  ·omega
 keep b hb hn:=by
  rw[L'.keep b (axJ hb L.size) (λh=>?_),L.keep b hb hn];rcases L.downW b h with h|h
  ·exact hn h
  ·omega
theorem aG {α:Type u}{l:List (Nat×α)}{n:Nat}{x:α}{m:Nat} :look ((n,x)::l) m=if n=m then some x else look l m:=by
 simp only[look];by_cases h:n=m
 ·subst h;simp
 ·rw[axi h];have:Nat.beq n m=false:=by
   cases hb:Nat.beq n m
   ·rfl
   ·exact absurd (axO hb) h
  rw[this];rfl
theorem aI.same {B:Base}{ρ:Rho}{s:DS}{a:Act}{w w':World}(h:aI B ρ s a w)(hs:w.heap.size<=w'.heap.size)
  (hk: ∀b,b<w.heap.size->w'.heap[b]?=w.heap[b]?) (ho:w'.os=w.os) (ht:w'.tape=w.tape) (hou:w'.output=w.output) (hfz: ∀a,a.block<w.heap.size->w'.frozen? a=w.frozen? a):aI B ρ s a w'/\Later ρ w ρ w':=by
 have L:Later ρ w ρ w':=⟨hs,λ_ _ h=>h,λ_ h=>.inl h,λ_ h=>.inl h,λ_ _ h _=>h,λb hb _=>hk b hb⟩;refine⟨⟨h.defers,h.tmps,λt pv hl=>?_,λid o hl=>?_,h.inj,λid loc hl=>axJ (h.own id loc hl) hs,λb hb=>axJ (h.ownA b hb) hs,?_,h.may,h.hid.imp λF hF=>hF.step L.keeps (λid o loc' h1 _ h3=>⟨h1,loc',h3,rfl⟩) (λid o loc _ _ h3 _=>hk _ (h.own id loc h3)) (λid o loc b h1 h2 h3 h4=>⟨hk _ (hF.own id o loc b h1 h2 h3 h4).2,(hF.own id o loc b h1 h2 h3 h4).1⟩) (λid' o' loc' h1 h2 h3=>.inr ⟨id',o',loc',h1,h2,h3,rfl⟩)⟩,L⟩
 ·obtain⟨v,h1,h2⟩:=h.env t pv hl;exact⟨v,h1,h2.later L⟩
 ·rcases h.obj id o hl with h1|⟨loc,h1,h2⟩
  ·exact .inl h1
  ·exact .inr ⟨loc,h1,h2.later L (.inl rfl) (hk _ (h.own id loc h1))⟩
 ·exact⟨ho.trans h.base.os,ht.trans h.base.tape,hou.trans h.base.output,λa ha hm=>(hfz a (axJ ha h.base.size)).trans (h.base.froz a ha hm),az3 h.base.size hs⟩
theorem aI.allocO {B:Base}{ρ:Rho}{s:DS}{a:Act}{w:World}(h:aI B ρ s a w)(nx:Nat)(hnone:ρ nx=none)(o:PO)(ob:Obj)(ty:Ty)(cap:Option Nat)
  (ho: ∀ρ' w',Later ρ w ρ' w'->ρ'.W w.heap.size->w'.heap[w.heap.size]?=some ob->OR ρ' w' ⟨w.heap.size,ty,cap⟩ o) (w1:World) (hw1:w1.heap=w.heap.push ob)
  (hos:w1.os=w.os) (hta:w1.tape=w.tape) (hou:w1.output=w.output) (hnb:o.isBag=false:=by rfl):
  ∃ρ',aI B ρ' { s with hp:=(nx,o)::s.hp } a w1/\Later ρ w ρ' w1/\ρ' nx=some ⟨w.heap.size,ty,cap⟩/\ ∀id,id≠nx->ρ' id=ρ id:=by
 let ρ':Rho:=⟨λid=>if id=nx then some ⟨w.heap.size,ty,cap⟩else ρ id,λb=>ρ.W b\/b=w.heap.size,λb=>ρ.A b\/b=w.heap.size,λb h=>h.imp_left (ρ.sub b)⟩;have hsz:w1.heap.size=w.heap.size+1:=by rw[hw1];simp
 have hold': ∀b,b<w.heap.size->w1.heap[b]?=w.heap[b]?:=λb hb=>by rw[hw1,ayr];rw[axi (by omega)]
 have L:Later ρ w ρ' w1:=by
  refine⟨by omega,λid loc hl=>?_,λb hb=>?_,λb hb=>?_,λb _ hb _=>.inl hb,λb hb _=>hold' b hb⟩
  ·show(if id=nx then _ else ρ id)=some loc;rw[axi (λe=>by subst e;rw[hnone]at hl;cases hl)];exact hl
  ·rcases hb with h|h
   ·exact .inl h
   ·exact .inr (by omega)
  ·rcases hb with h|h
   ·exact .inl h
   ·exact .inr (by omega)
 have hnew:ρ' nx=some ⟨w.heap.size,ty,cap⟩:=axp rfl;have hold: ∀id,id≠nx->ρ' id=ρ id:=λid hne=>axi hne
 have hw:w1.heap[w.heap.size]?=some ob:=by rw[hw1,ayr];simp
 have hfz: ∀a,a.block<w.heap.size->w1.frozen? a=w.frozen? a:=by intro a ha;simp only[World.frozen?,hold' _ ha]
 refine⟨ρ',⟨h.defers,h.tmps,λt pv hl=>?_,λid o' hl=>?_,λid id' o1 o2 loc loc' h1 h2 d1 d2 h3 h4 h5=>?_,λid loc hl=>?_,λb hb=>?_,?_,λb hb=>?_,?_⟩,L,hnew,hold⟩
 ·obtain⟨v,h1,h2⟩:=h.env t pv hl;exact⟨v,h1,h2.later L⟩
 ·change look ((nx,o)::s.hp) id=some o' at hl;rw[aG]at hl;split at hl
  ·rename_i e;subst e;simp only[axe]at hl;subst hl;exact .inr ⟨_,hnew,ho _ _ L (.inr rfl) hw⟩
  ·rename_i hne;rcases h.obj id o' hl with h1|⟨loc,h1,h2⟩
   ·refine .inl ?_;rw[hold id (Ne.symm hne)];exact h1
   ·exact .inr ⟨loc,L.up _ _ h1,h2.later L (.inr λ_ h=>.inl h) (hold' _ (h.own id loc h1))⟩
 ·change look ((nx,o)::s.hp) id=some o1 at h1;change look ((nx,o)::s.hp) id'=some o2 at h2;rw[aG]at h1 h2;by_cases e1:nx=id
  ·by_cases e2:nx=id'
   ·exact e1.symm.trans e2
   ·rw[axi e2]at h2;subst e1;rw[hnew]at h3;rw[hold id' (Ne.symm e2)]at h4;have:=h.own id' loc' h4;simp only[axe]at h3;subst h3;simp only at h5;omega
  ·rw[axi e1]at h1;rw[hold id (Ne.symm e1)]at h3;by_cases e2:nx=id'
   ·subst e2;rw[hnew]at h4;have:=h.own id loc h3;simp only[axe]at h4;subst h4;simp only at h5;omega
   ·rw[axi e2]at h2;rw[hold id' (Ne.symm e2)]at h4;exact h.inj id id' o1 o2 loc loc' h1 h2 d1 d2 h3 h4 h5
 ·by_cases e:id=nx
  ·subst e;rw[hnew]at hl;simp only[axe]at hl;subst hl;simp only;omega
  ·rw[hold id e]at hl;have:=h.own id loc hl;omega
 ·rcases hb with hb|hb
  ·have:=h.ownA b hb;omega
  ·omega
 ·exact⟨hos.trans h.base.os,hta.trans h.base.tape,hou.trans h.base.output,λa ha hm=>(hfz a (axJ ha h.base.size)).trans (h.base.froz a ha hm),by have:=h.base.size;omega⟩
 ·rcases hb with hb|rfl
  ·exact h.may b hb
  ·exact .inr h.base.size
 ·exact h.hid.imp λF hF=>hF.step L.keeps
   (λid o' loc' h1 h2 h3=>by
    change look ((nx,o)::s.hp) id=some o' at h1;rw[aG]at h1;split at h1
    ·cases h1;rw[hnb]at h2;cases h2
    ·rename_i hne;rw[hold id (Ne.symm hne)]at h3;exact⟨h1,loc',h3,rfl⟩)
   (λid o' loc _ _ h3 _=>hold' _ (h.own id loc h3))
   (λid o' loc b h1 h2 h3 h4=>⟨hold' _ (hF.own id o' loc b h1 h2 h3 h4).2,.inl (hF.own id o' loc b h1 h2 h3 h4).1⟩)
   (λid' o' loc' h1 h2 h3=>by
    change look ((nx,o)::s.hp) id'=some o' at h1;rw[aG]at h1;split at h1
    ·rename_i e;subst e;rw[hnew]at h3;cases h3;exact .inl (axr _)
    ·rename_i hne;rw[hold id' (Ne.symm hne)]at h3;exact .inr ⟨id',o',loc',h1,h2,h3,rfl⟩)
theorem aI.alloc {B:Base}{ρ:Rho}{s:DS}{a:Act}{w:World}(h:aI B ρ s a w)(nx:Nat)(hnone:ρ nx=none)(o:PO)(cells:Array Value)(T:TypeId)(ty:Ty)(cap:Option Nat)
  (ho: ∀ρ' w',Later ρ w ρ' w'->ρ'.W w.heap.size->w'.heap[w.heap.size]?=some (.cells cells T (0,0))->OR ρ' w' ⟨w.heap.size,ty,cap⟩ o) (w1:World) (hw1:w1.heap=w.heap.push (.cells cells T (0,0)))
  (hos:w1.os=w.os) (hta:w1.tape=w.tape) (hou:w1.output=w.output) (hnb:o.isBag=false:=by rfl):
  ∃ρ',aI B ρ' { s with hp:=(nx,o)::s.hp } a w1/\Later ρ w ρ' w1/\ρ' nx=some ⟨w.heap.size,ty,cap⟩/\ ∀id,id≠nx->ρ' id=ρ id:=
 h.allocO nx hnone o _ ty cap ho w1 hw1 hos hta hou hnb
theorem aI.store {B:Base}{ρ:Rho}{s:DS}{a:Act}{w:World}(h:aI B ρ s a w){id:Nat}{o o':PO}{loc:Loc}(ho:look s.hp id=some o)(hd:o≠ .dead)(hd':o'≠ .dead)(hl:ρ id=some loc)
  (w':World) (hsz:w'.heap.size=w.heap.size) (hk: ∀b,b≠loc.blk->w'.heap[b]?=w.heap[b]?) (hos:w'.os=w.os) (ht:w'.tape=w.tape) (hou:w'.output=w.output)
  (hfz0: ∀a,a.block=loc.blk->w'.frozen? a=w.frozen? a) (hor:Later ρ w ρ w'->OR ρ w' loc o') (hnb:o'.isBag=false:=by rfl):aI B ρ { s with hp:=(id,o')::s.hp } a w'/\Later ρ w ρ w':=by
 have hW:=(h.live ho hd hl).writes hd;have L:Later ρ w ρ w':=⟨by omega,λ_ _ h=>h,λ_ h=>.inl h,λ_ h=>.inl h,λ_ _ h _=>h,λb _ hn=>hk b (λe=>hn (by rw[e];exact hW))⟩;have hfz:=G5 loc.blk hk hfz0;have hlk: ∀id' o1,look ((id,o')::s.hp) id'=some o1->(id'=id/\o1=o')\/(id'≠id/\look s.hp id'=some o1):=by
  intro id' o1 h1;change look ((id,o')::s.hp) id'=some o1 at h1;rw[aG]at h1;split at h1
  ·rename_i e;simp only[axe]at h1;exact .inl ⟨e.symm,h1.symm⟩
  ·rename_i e;exact .inr ⟨Ne.symm e,h1⟩
 have hex: ∀id' o1,look ((id,o')::s.hp) id'=some o1->o1≠ .dead-> ∃o2,look s.hp id'=some o2/\o2≠ .dead:=by
  intro id' o1 h1 hd1;rcases hlk id' o1 h1 with⟨rfl,_⟩|⟨_,h⟩
  ·exact⟨_,ho,hd⟩
  ·exact⟨_,h,hd1⟩
 refine⟨⟨h.defers,h.tmps,λt pv hl'=>?_,λid' o1 hl'=>?_,λi j o1 o2 l1 l2 h1 h2 d1 d2 h3 h4 h5=>?_,λid' loc' hl'=>?_,λb hb=>?_,?_,h.may,?_⟩,L⟩
 ·obtain⟨v,h1,h2⟩:=h.env t pv hl';exact⟨v,h1,h2.later L⟩
 ·rcases hlk id' o1 hl' with⟨rfl,rfl⟩|⟨hne,h1⟩
  ·exact .inr ⟨loc,hl,hor L⟩
  ·rcases h.obj id' o1 h1 with h2|⟨loc',h2,h3⟩
   ·exact .inl h2
   ·by_cases hd1:o1= .dead
    ·exact .inl (.inl hd1)
    ·exact .inr ⟨loc',h2,h3.later L (.inl rfl) (hk _ (λe=>hne (h.inj id' id o1 o loc' loc h1 ho hd1 hd h2 hl e)))⟩
 ·obtain⟨o3,h6,d6⟩:=hex i o1 h1 d1;obtain⟨o4,h7,d7⟩:=hex j o2 h2 d2;exact h.inj i j o3 o4 l1 l2 h6 h7 d6 d7 h3 h4 h5
 ·have:=h.own id' loc' hl';omega
 ·have:=h.ownA b hb;omega
 ·exact⟨hos.trans h.base.os,ht.trans h.base.tape,hou.trans h.base.output,λa ha hm=>(hfz a).trans (h.base.froz a ha hm),by have:=h.base.size;omega⟩
 ·exact h.hid.imp λF hF=>hF.step L.keeps
   (λi o1 l1 h1 h2 h3=>by
    rcases hlk i o1 h1 with⟨rfl,rfl⟩|⟨_,h4⟩
    ·rw[hnb]at h2;cases h2
    ·exact⟨h4,l1,h3,rfl⟩)
   (λi o1 l1 h1 h2 h3 h4=>hk _ (λe=>by
    rcases hlk i o1 h4 with⟨rfl,rfl⟩|⟨hne,_⟩
    ·rw[hnb]at h2;cases h2
    ·exact hne (h.inj i id o1 o l1 loc h1 ho (PO.bag_ne h2) hd h3 hl e)))
   (λi o1 l1 b h1 h2 h3 h4=>⟨hk b (λe=>hF.dis i o1 l1 b id o loc h1 h2 h3 h4 ho hd hl e.symm),(hF.own i o1 l1 b h1 h2 h3 h4).1⟩)
   (λi o1 l1 h1 h2 h3=>by obtain⟨o2,h4,h5⟩:=hex i o1 h1 h2;exact .inr ⟨i,o2,l1,h4,h5,h3,rfl⟩)
theorem aI.kill {B:Base}{ρ:Rho}{s:DS}{a:Act}{w:World}(h:aI B ρ s a w)(id:Nat):aI B ρ { s with hp:=(id,.dead)::s.hp } a w:=by
 have hlk: ∀id' o1,look ((id,PO.dead)::s.hp) id'=some o1->o1= .dead\/look s.hp id'=some o1:=by
  intro id' o1 h1;rw[aG]at h1;split at h1
  ·simp only[axe]at h1;exact .inl h1.symm
  ·exact .inr h1
 refine⟨h.defers,h.tmps,h.env,λid' o1 hl'=>?_,λi j o1 o2 l1 l2 h1 h2 d1 d2 h3 h4 h5=>?_,h.own,h.ownA,h.base,h.may,?_⟩
 ·rcases hlk id' o1 hl' with rfl|h1
  ·exact .inl (.inl rfl)
  ·exact h.obj id' o1 h1
 ·rcases hlk i o1 h1 with e|h1
  ·exact absurd e d1
  ·rcases hlk j o2 h2 with e|h2
   ·exact absurd e d2
   ·exact h.inj i j o1 o2 l1 l2 h1 h2 d1 d2 h3 h4 h5
 ·exact h.hid.imp λF hF=>hF.step (Later.refl ρ w).keeps
   (λi o1 l1 h1 h2 h3=>by
    rcases hlk i o1 h1 with e|h4
    ·subst e;cases h2
    ·exact⟨h4,l1,h3,rfl⟩)
   (λ_ _ _ _ _ _ _=>rfl)
   (λi o1 l1 b h1 h2 h3 h4=>⟨rfl,(hF.own i o1 l1 b h1 h2 h3 h4).1⟩)
   (λi o1 l1 h1 h2 h3=>by
    rcases hlk i o1 h1 with e|h4
    ·exact absurd e h2
    ·exact .inr ⟨i,o1,l1,h4,h2,h3,rfl⟩)
theorem aI.freeze {B:Base}{ρ:Rho}{s:DS}{a:Act}{w:World}(h:aI B ρ s a w){id:Nat}{o:PO}{loc:Loc}(ho:look s.hp id=some o)(hd:o≠ .dead)(hl:ρ id=some loc):
  ∃ρ',aI B ρ' { s with hp:=(id,.dead)::s.hp } a w/\Later ρ w ρ' w/\ρ'.f=ρ.f/\(∀b,ρ'.A b->ρ.A b)/\ ¬ρ'.A loc.blk:=by
 have hW:=(h.live ho hd hl).writes hd;let ρ':Rho:=⟨ρ.f,λb=>ρ.W b/\b≠loc.blk,λb=>ρ.A b/\b≠loc.blk,λb hb=>⟨ρ.sub b hb.1,hb.2⟩⟩;have L:Later ρ w ρ' w:=⟨axr _,λ_ _ h=>h,λb hb=>.inl hb.1,λb hb=>.inl hb.1,λb _ hb hn=>⟨hb,λe=>hn (by rw[e];exact hW)⟩,λ_ _ _=>rfl⟩;refine⟨ρ',⟨h.defers,h.tmps,λt pv hl'=>?_,λid' o1 hl'=>?_,λi j o1 o2 l1 l2 h1 h2 d1 d2 h3 h4 h5=>?_,h.own,λb hb=>h.ownA b hb.1,h.base,λb hb=>h.may b hb.1,?_⟩,L,rfl,λb hb=>hb.1,λhb=>hb.2 rfl⟩
 ·obtain⟨v,h1,h2⟩:=h.env t pv hl';exact⟨v,h1,h2.later L⟩
 ·change look ((id,PO.dead)::s.hp) id'=some o1 at hl';rw[aG]at hl';split at hl'
  ·simp only[axe]at hl';exact .inl (.inl hl'.symm)
  ·rename_i hne;rcases h.obj id' o1 hl' with h1|⟨loc',h1,h2⟩
   ·exact .inl h1
   ·by_cases hd1:o1= .dead
    ·exact .inl (.inl hd1)
    ·have hbl:loc'.blk≠loc.blk:=λe=>hne (h.inj id' id o1 o loc' loc hl' ho hd1 hd h1 hl e).symm
     refine .inr ⟨loc',h1,?_⟩;cases o1 with
     |obj t x=>obtain⟨e1,e0,cs,T,e2,e3,e4⟩:=h2;exact⟨e1,⟨e0,hbl⟩,cs,T,e2.later L,e3,e4⟩
     |row sh e t n f=>obtain⟨e1,e0,cs,sp,e2,e3⟩:=h2;exact⟨e1,⟨e0,hbl⟩,cs,sp,e2.keeps (L.keeps.at sh),e3⟩
     |mp k v l=>obtain⟨e1,e0,es,e2,e3⟩:=h2;exact⟨e1,⟨e0,hbl⟩,es,e2.keeps L.keeps.shut,e3⟩
     |bag k t l out=>exact⟨h2.1,⟨h2.2,hbl⟩⟩
     |dead=>trivial
 ·have hlk: ∀id' o1,look ((id,PO.dead)::s.hp) id'=some o1->o1≠ .dead->look s.hp id'=some o1:=by
   intro id' o1 h1 hd1;rw[aG]at h1;split at h1
   ·simp only[axe]at h1;exact absurd h1.symm hd1
   ·exact h1
  exact h.inj i j o1 o2 l1 l2 (hlk i o1 h1 d1) (hlk j o2 h2 d2) d1 d2 h3 h4 h5
 ·have hlk: ∀id' o1,look ((id,PO.dead)::s.hp) id'=some o1->o1≠ .dead->look s.hp id'=some o1:=by
   intro id' o1 h1 hd1;rw[aG]at h1;split at h1
   ·simp only[axe]at h1;exact absurd h1.symm hd1
   ·exact h1
  exact h.hid.imp λF hF=>hF.step L.keeps
   (λi o1 l1 h1 h2 h3=>⟨hlk i o1 h1 (PO.bag_ne h2),l1,h3,rfl⟩)
   (λ_ _ _ _ _ _ _=>rfl)
   (λi o1 l1 b h1 h2 h3 h4=>⟨rfl,(hF.own i o1 l1 b h1 h2 h3 h4).1,λe=>hF.dis i o1 l1 b id o loc h1 h2 h3 h4 ho hd hl e.symm⟩)
   (λi o1 l1 h1 h2 h3=>.inr ⟨i,o1,l1,hlk i o1 h1 h2,h2,h3,rfl⟩)
theorem aI.renew {B:Base}{ρ:Rho}{s:DS}{a:Act}{w:World}(h:aI B ρ s a w){id nx:Nat}{o o':PO}{loc:Loc}(ho:look s.hp id=some o)(hd:o≠ .dead)(hd':o'≠ .dead)(hl:ρ id=some loc)(hnone:ρ nx=none)(ty:Ty)
  (w':World) (hsz:w'.heap.size=w.heap.size) (hk: ∀b,b≠loc.blk->w'.heap[b]?=w.heap[b]?) (hos:w'.os=w.os) (ht:w'.tape=w.tape) (hou:w'.output=w.output)
  (hfz0: ∀a,a.block=loc.blk->w'.frozen? a=w.frozen? a) (hor: ∀ρ',Later ρ w ρ' w'->ρ'.W loc.blk->OR ρ' w' ⟨loc.blk,ty,loc.cap⟩ o') (hnb:o'.isBag=false:=by rfl):
  ∃ρ',aI B ρ' { s with hp:=(nx,o')::(id,.dead)::s.hp } a w'/\Later ρ w ρ' w'/\ρ' nx=some ⟨loc.blk,ty,loc.cap⟩/\ ∀id,id≠nx->ρ' id=ρ id:=by
 have hW:=(h.live ho hd hl).writes hd;let ρ':Rho:=⟨λid=>if id=nx then some ⟨loc.blk,ty,loc.cap⟩else ρ id,ρ.W,ρ.A,ρ.sub⟩;have hnew:ρ' nx=some ⟨loc.blk,ty,loc.cap⟩:=axp rfl;have hold: ∀id,id≠nx->ρ' id=ρ id:=λid hne=>axi hne
 have hidn:id≠nx:=λe=>by subst e;rw[hnone]at hl;cases hl
 have L:Later ρ w ρ' w':=by refine⟨by omega,λid loc hl=>?_,λ_ h=>.inl h,λ_ h=>.inl h,λ_ _ h _=>h,λb _ hn=>hk b (λe=>hn (by rw[e];exact hW))⟩;rw[hold id (λe=>by subst e;rw[hnone]at hl;cases hl)];exact hl
 have hfz:=G5 loc.blk hk hfz0;have hlk: ∀id' o1,look ((nx,o')::(id,PO.dead)::s.hp) id'=some o1->(id'=nx/\o1=o')\/o1= .dead\/(id'≠nx/\id'≠id/\look s.hp id'=some o1):=by
  intro id' o1 h1;rw[aG,aG]at h1;split at h1
  ·rename_i e;simp only[axe]at h1;exact .inl ⟨e.symm,h1.symm⟩
  ·rename_i e1;split at h1
   ·simp only[axe]at h1;exact .inr (.inl h1.symm)
   ·rename_i e2;exact .inr (.inr ⟨Ne.symm e1,Ne.symm e2,h1⟩)
 refine⟨ρ',⟨h.defers,h.tmps,λt pv hl'=>?_,λid' o1 hl'=>?_,λi j o1 o2 l1 l2 h1 h2 d1 d2 h3 h4 h5=>?_,λid' loc' hl'=>?_,λb hb=>?_,?_,h.may,?_⟩,L,hnew,hold⟩
 ·obtain⟨v,h1,h2⟩:=h.env t pv hl';exact⟨v,h1,h2.later L⟩
 ·rcases hlk id' o1 hl' with⟨rfl,rfl⟩|rfl|⟨hn1,hn2,h1⟩
  ·exact .inr ⟨_,hnew,hor ρ' L hW⟩
  ·exact .inl (.inl rfl)
  ·rw[hold id' hn1];rcases h.obj id' o1 h1 with h2|⟨loc',h2,h3⟩
   ·exact .inl h2
   ·by_cases hd1:o1= .dead
    ·exact .inl (.inl hd1)
    ·exact .inr ⟨loc',h2,h3.later L (.inl rfl) (hk _ (λe=>hn2 (h.inj id' id o1 o loc' loc h1 ho hd1 hd h2 hl e)))⟩
 ·rcases hlk i o1 h1 with⟨rfl,rfl⟩|e|⟨hn1,hn2,h6⟩
  ·rcases hlk j o2 h2 with⟨rfl,rfl⟩|e|⟨hn3,hn4,h7⟩
   ·rfl
   ·exact absurd e d2
   ·rw[hnew]at h3;cases h3;rw[hold j hn3]at h4;exact absurd (h.inj id j o o2 loc l2 ho h7 hd d2 hl h4 h5).symm hn4
  ·exact absurd e d1
  ·rw[hold i hn1]at h3;rcases hlk j o2 h2 with⟨rfl,rfl⟩|e|⟨hn3,hn4,h7⟩
   ·rw[hnew]at h4;cases h4;exact absurd (h.inj i id o1 o l1 loc h6 ho d1 hd h3 hl h5) hn2
   ·exact absurd e d2
   ·rw[hold j hn3]at h4;exact h.inj i j o1 o2 l1 l2 h6 h7 d1 d2 h3 h4 h5
 ·by_cases e:id'=nx
  ·subst e;rw[hnew]at hl';cases hl';have:=h.own id loc hl;simp only;omega
  ·rw[hold id' e]at hl';have:=h.own id' loc' hl';omega
 ·have:=h.ownA b hb;omega
 ·exact⟨hos.trans h.base.os,ht.trans h.base.tape,hou.trans h.base.output,λa ha hm=>(hfz a).trans (h.base.froz a ha hm),by have:=h.base.size;omega⟩
 ·exact h.hid.imp λF hF=>hF.step L.keeps
   (λi o1 l1 h1 h2 h3=>by
    rcases hlk i o1 h1 with⟨rfl,rfl⟩|e|⟨hn1,_,h4⟩
    ·rw[hnb]at h2;cases h2
    ·subst e;cases h2
    ·rw[hold i hn1]at h3;exact⟨h4,l1,h3,rfl⟩)
   (λi o1 l1 h1 h2 h3 h4=>hk _ (λe=>by
    rcases hlk i o1 h4 with⟨rfl,rfl⟩|e2|⟨_,hn2,_⟩
    ·rw[hnb]at h2;cases h2
    ·subst e2;cases h2
    ·exact hn2 (h.inj i id o1 o l1 loc h1 ho (PO.bag_ne h2) hd h3 hl e)))
   (λi o1 l1 b h1 h2 h3 h4=>⟨hk b (λe=>hF.dis i o1 l1 b id o loc h1 h2 h3 h4 ho hd hl e.symm),(hF.own i o1 l1 b h1 h2 h3 h4).1⟩)
   (λi o1 l1 h1 h2 h3=>by
    rcases hlk i o1 h1 with⟨rfl,rfl⟩|e|⟨hn1,_,h4⟩
    ·rw[hnew]at h3;cases h3;exact .inr ⟨id,o,loc,ho,hd,hl,rfl⟩
    ·exact absurd e h2
    ·rw[hold i hn1]at h3;exact .inr ⟨i,o1,l1,h4,h2,h3,rfl⟩)
theorem aI.spoil {B:Base}{ρ:Rho}{s:DS}{a:Act}{w:World}(h:aI B ρ s a w){id:Nat}{o:PO}{loc:Loc}(ho:look s.hp id=some o)(hd:o≠ .dead)(hl:ρ id=some loc)
  (w':World) (hsz:w'.heap.size=w.heap.size) (hk: ∀b,b≠loc.blk->w'.heap[b]?=w.heap[b]?) (hos:w'.os=w.os) (ht:w'.tape=w.tape) (hou:w'.output=w.output):
  aI B ρ { s with hp:=(id,.dead)::s.hp } a w'/\Later ρ w ρ w':=by
 have hW:=(h.live ho hd hl).writes hd;have L:Later ρ w ρ w':=⟨by omega,λ_ _ h=>h,λ_ h=>.inl h,λ_ h=>.inl h,λ_ _ h _=>h,λb _ hn=>hk b (λe=>hn (by rw[e];exact hW))⟩;have hlk: ∀id' o1,look ((id,PO.dead)::s.hp) id'=some o1->o1= .dead\/(id'≠id/\look s.hp id'=some o1):=by
  intro id' o1 h1;rw[aG]at h1;split at h1
  ·simp only[axe]at h1;exact .inl h1.symm
  ·rename_i e;exact .inr ⟨Ne.symm e,h1⟩
 refine⟨⟨h.defers,h.tmps,λt pv hl'=>?_,λid' o1 hl'=>?_,λi j o1 o2 l1 l2 h1 h2 d1 d2 h3 h4 h5=>?_,λid' loc' hl'=>by have:=h.own id' loc' hl';omega,λb hb=>by have:=h.ownA b hb;omega,?_,h.may,?_⟩,L⟩
 ·obtain⟨v,h1,h2⟩:=h.env t pv hl';exact⟨v,h1,h2.later L⟩
 ·rcases hlk id' o1 hl' with rfl|⟨hne,h1⟩
  ·exact .inl (.inl rfl)
  ·rcases h.obj id' o1 h1 with h2|⟨loc',h2,h3⟩
   ·exact .inl h2
   ·by_cases hd1:o1= .dead
    ·exact .inl (.inl hd1)
    ·exact .inr ⟨loc',h2,h3.later L (.inl rfl) (hk _ (λe=>hne (h.inj id' id o1 o loc' loc h1 ho hd1 hd h2 hl e)))⟩
 ·rcases hlk i o1 h1 with e|⟨_,h6⟩
  ·exact absurd e d1
  ·rcases hlk j o2 h2 with e|⟨_,h7⟩
   ·exact absurd e d2
   ·exact h.inj i j o1 o2 l1 l2 h6 h7 d1 d2 h3 h4 h5
 ·refine⟨hos.trans h.base.os,ht.trans h.base.tape,hou.trans h.base.output,λa ha hm=>?_,by have:=h.base.size;omega⟩;have hne:a.block≠loc.blk:=λe=>by
   rcases h.may _ hW with h1|h1
   ·rw[e]at hm;exact hm h1
   ·omega
  rw[<-h.base.froz a ha hm];simp only[World.frozen?,hk _ hne]
 ·exact h.hid.imp λF hF=>hF.step L.keeps
   (λi o1 l1 h1 h2 h3=>by
    rcases hlk i o1 h1 with e|⟨_,h4⟩
    ·subst e;cases h2
    ·exact⟨h4,l1,h3,rfl⟩)
   (λi o1 l1 h1 h2 h3 h4=>hk _ (λe=>by
    rcases hlk i o1 h4 with e2|⟨hne,_⟩
    ·subst e2;cases h2
    ·exact hne (h.inj i id o1 o l1 loc h1 ho (PO.bag_ne h2) hd h3 hl e)))
   (λi o1 l1 b h1 h2 h3 h4=>⟨hk b (λe=>hF.dis i o1 l1 b id o loc h1 h2 h3 h4 ho hd hl e.symm),(hF.own i o1 l1 b h1 h2 h3 h4).1⟩)
   (λi o1 l1 h1 h2 h3=>by
    rcases hlk i o1 h1 with e|⟨_,h4⟩
    ·exact absurd e h2
    ·exact .inr ⟨i,o1,l1,h4,h2,h3,rfl⟩)
theorem aI.put {B:Base}{ρ:Rho}{s:DS}{a:Act}{w:World}(h:aI B ρ s a w){d:Nat}(hd:d<s.n){pv:PV}{v:Value}(hv:VP ρ w pv v):
  aI B ρ { s with env:=(d,pv)::s.env } (a.put (some d) v) w:=by
 refine⟨h.defers,by simp[Act.put];exact h.tmps,λt pv' hl=>?_,h.obj,h.inj,h.own,h.ownA,h.base,h.may,h.hid⟩;change look ((d,pv)::s.env) t=some pv' at hl;rw[aG]at hl;have hsz:=h.tmps;split at hl
 ·rename_i e;subst e;simp only[axe]at hl;subst hl;exact⟨v,by simp[Act.put,az8];omega,hv⟩
 ·rename_i e;obtain⟨v',h1,h2⟩:=h.env t pv' hl;exact⟨v',by simp only[Act.put];rw[Array.getElem?_setIfInBounds_ne (by omega)];exact h1,h2⟩
theorem aI.putNone {B:Base}{ρ:Rho}{s:DS}{a:Act}{w:World}(h:aI B ρ s a w)(v:Value):aI B ρ s (a.put none v) w:=h
theorem aI.eval {B:Base}{ρ:Rho}{s:DS}{a:Act}{w:World}(h:aI B ρ s a w)(x:Operand):VP ρ w (s.val x) (a.eval x):=by
 cases x with
 |tmp t=>
  simp only[DS.val,Act.eval];cases hl:look s.env t with
  |none=>trivial
  |some pv=>
   obtain⟨v,h1,h2⟩:=h.env t pv hl;simp only[Option.getD_some,ayC,h1];exact h2
 |const v=>
  simp only[DS.val,Act.eval];unfold ofValue;split<;>first
   |exact trivial
   |exact⟨_,rfl,rfl⟩
   |exact⟨_,⟨_,rfl,rfl⟩,rfl⟩
 |global g=>trivial
 |func f=>exact⟨[.func (.func f) #[] #[]],⟨[],rfl,rfl,λj c v hc=>by simp at hc⟩,rfl⟩
section
variable {R:Type} (ti:List (Nat×TI))
theorem bI {α β:Type}(c:Bool)(x:Option α)(f:α->Option β):(bif c then x else none).bind f=bif c then x.bind f else none:=by cases c<;>rfl
theorem nO {α β:Type}(c:Bool)(x:Option α)(f:α->Option β):(bif c then none else x).bind f=bif c then none else x.bind f:=by cases c<;>rfl
theorem jP {α β:Type}(c:Bool)(x y:Option α)(f:α->Option β):(bif c then x else y).bind f=bif c then x.bind f else y.bind f:=by cases c<;>rfl
theorem a2A(op:BinOp)(k:IntKind)(x y:Int)(K:PV->Option R):Om op k x y K=(Om op k x y some).bind K:=by cases op<;>simp only[Om,ay4,Option.bind_none,nO]
theorem a2B(op:BinOp)(x y:ByteArray)(K:PV->Option R):Oo op x y K=(Oo op x y some).bind K:=by cases op<;>simp only[Oo,ay4,Option.bind_none,nO]
theorem Ou(op:BinOp)(T:TypeId)(x y:PV)(K:PV->Option R):M4 ti op T x y K=(M4 ti op T x y some).bind K:=by
 unfold M4;split
 ·split
  ·rw[nO];rfl
  ·rw[nO];rfl
  ·split
   ·exact a2A ..
   ·rfl
 ·exact a2B ..
 ·rw[bI];congr 1;split<;>rfl
 ·rw[bI];congr 1;split<;>rfl
 ·split
  ·split
   ·split
    ·rw[jP];congr 1
     ·split<;>rfl
     ·rw[bI];congr 1;split<;>rfl
    ·rfl
   ·rfl
  ·rfl
 ·rfl
theorem SX(op:UnOp)(x:PV)(K:PV->Option R):YA op x K=(YA op x some).bind K:=by unfold YA;split<;>rfl
theorem YC(T:TypeId)(y:V)(K:PV->Option R):chk ti T y K=(chk ti T y some).bind K:=by
 unfold chk;split
 ·rw[bI];rfl
 ·rfl
theorem AY: ∀(t:Ty) (x:t.den) (K:t.den->Option R),spl t x K=(spl t x some).bind K:=by
 intro t
 induction t generalizing R with
 |pair a b iha ihb=>
  intro x K;simp only[spl];rw[jP]
  congr 1
  rw[iha,iha (R:=(Ty.pair a b).den)];cases spl a x.1 some with
  |none=>rfl
  |some y=>
   simp only[ay4];rw[ihb,ihb (R:=(Ty.pair a b).den)];cases spl b x.2 some<;>rfl
 |sl t=>intro x K;simp only[spl];rw[nO];rfl
 |ptr t=>intro x K;simp only[spl];rw[nO];congr 1;rw[jP];rfl
 |mp=>intro x K;simp only[spl];rw[nO];rfl
 |_=>intro x K;rfl
theorem DU(T:TypeId)(a:PV)(h:Heap)(K:PV->Option R):rJ ti T a h K=(rJ ti T a h some).bind K:=by
 unfold rJ;split
 ·split
  ·split
   ·rename_i o _ _ y _;cases o.shutRow
    ·exact YC ..
    ·simp only[axy];rw[AY,AY (R:=PV)];cases spl y.1 y.2 some with
     |none=>rfl
     |some z=>exact YC ..
   ·rfl
  ·rfl
 ·rename_i t x;rw[AY,AY (R:=PV)];cases spl t x some with
  |none=>rfl
  |some y=>exact YC ..
 ·rfl
theorem G6(T:TypeId)(a v:PV)(h:Heap)(K:PV->Upd->Option R):rD ti T a v h K=(rD ti T a v h λp u=>some (p,u)).bind λx=>K x.1 x.2:=by
 unfold rD;split
 ·split
  ·split
   ·rw[bI];congr 1;split<;>rfl
   ·rfl
  ·rfl
 ·rfl
theorem G7(T:TypeId)(parts:List (Nat×PV))(K:PV->Option R):yZ ti T parts K=(yZ ti T parts some).bind K:=by
 unfold yZ;split
 ·split
  ·rw[jP];congr 1;rw[bI];congr 1;split<;>rfl
  ·rw[bI];congr 1;split<;>rfl
  ·rfl
 ·rfl
theorem yh(T:TypeId)(x:PV)(j:Nat)(K:PV->Option R):jC ti T x j K=(jC ti T x j some).bind K:=by
 unfold jC;split
 ·split
  ·rw[bI];congr 1;split
   ·split
    ·split<;>rfl
    ·rfl
   ·split
    ·split<;>rfl
    ·rfl
   ·rfl
  ·rfl
 ·rfl
theorem G8(T:TypeId)(x:PV)(j:Nat)(K:PV->Option R):z8 ti T x j K=(z8 ti T x j some).bind K:=by
 unfold z8;split
 ·split
  ·rw[bI];congr 1;split
   ·split<;>rfl
   ·rfl
  ·rfl
 ·rfl
theorem yj(T:TypeId)(x ix:PV)(K:PV->Option R):jD ti T x ix K=(jD ti T x ix some).bind K:=by
 unfold jD;split
 ·split
  ·split
   ·split
    ·rw[bI];rfl
    ·rfl
   ·split
    ·rw[bI];rfl
    ·rfl
   ·rfl
  ·split
   ·split
    ·rw[bI];rfl
    ·rfl
   ·split
    ·rw[bI];rfl
    ·rfl
   ·rfl
  ·rfl
 ·rfl
theorem G9(T:TypeId)(x ix:PV)(K:PV->Option R):za ti T x ix K=(za ti T x ix some).bind K:=by
 unfold za;split
 ·split
  ·split
   ·rw[bI];rfl
   ·rfl
  ·rw[bI];rfl
  ·rfl
 ·rfl
theorem BS(x:PV)(j:Nat)(K:PV->Option R):oV x j K=(oV x j some).bind K:=by
 unfold oV;split
 ·split<;>rfl
 ·rfl
theorem iL(n:Nat)(lo hi:Option PV)(K:Nat->Nat->Option R):bounds n lo hi K=(bounds n lo hi λa b=>some (a,b)).bind λx=>K x.1 x.2:=by
 unfold bounds;split
 ·split
  ·rfl
  ·rw[bI];rfl
  ·rfl
 ·rw[bI];congr 1;split
  ·rfl
  ·rw[bI];rfl
  ·rfl
 ·rfl
theorem Ga(T:TypeId)(x:PV)(lo hi:Option PV)(K:PV->Option R):ze ti T x lo hi K=(ze ti T x lo hi some).bind K:=by
 unfold ze;split
 ·split
  ·split
   ·split
    ·rw[iL,iL (R:=PV)];cases bounds _ lo hi (λa b=>some (a,b))<;>rfl
    ·rfl
   ·rfl
  ·split
   ·split
    ·rw[iL,iL (R:=PV)];cases bounds _ lo hi (λa b=>some (a,b))<;>rfl
    ·rfl
   ·split
    ·rw[iL,iL (R:=PV)];cases bounds _ lo hi (λa b=>some (a,b))<;>rfl
    ·rfl
   ·rfl
  ·split
   ·rw[iL,iL (R:=PV)];cases bounds _ lo hi (λa b=>some (a,b))<;>rfl
   ·rfl
  ·rfl
 ·rfl
theorem DV(T:TypeId)(x:PV)(K:PV->Option R):tQ ti T x K=(tQ ti T x some).bind K:=by
 unfold tQ;split
 ·split
  ·split
   ·split
    ·rw[bI];rfl
    ·rfl
   ·rfl
  ·rfl
 ·rfl
abbrev Ans:=PV×Upd×Nat
abbrev pk:K3 Ans:=λp u n=>some (p,u,n)
theorem a2C(T:TypeId)(d x:PV)(h:Heap)(K:K3 R):BP ti T d x h K=(BP ti T d x h pk).bind λr=>K r.1 r.2.1 r.2.2:=by
 unfold BP;split
 ·split
  ·split
   ·split
    ·rw[jP];congr 1;split
     ·split
      ·split<;>rfl
      ·rfl
     ·rfl
    ·rfl
   ·rfl
  ·rfl
 ·rfl
theorem WG(src dst:TypeId)(x:PV)(h:Heap)(nx:Nat)(K:K3 R):kJ ti src dst x h nx K=(kJ ti src dst x h nx pk).bind λr=>K r.1 r.2.1 r.2.2:=by
 unfold kJ;split
 ·split
  ·split<;>rfl
  ·rw[bI];congr 1;split<;>rfl
  ·rw[bI];congr 1;split
   ·rw[bI];rfl
   ·rfl
  ·rfl
 ·rfl
theorem zN(fn:Fn)(first:List Operand)(caps:List PV)(K:PV->Option R):nN fn first caps K=(nN fn first caps some).bind K:=by unfold nN;split<;>rfl
theorem Ov(x y:PV)(K:PV->Option R):M6 x y K=(M6 x y some).bind K:=by
 unfold M6;split
 ·split<;>rfl
 ·rfl
theorem Ow(x y:PV)(K:PV->Option R):M7 x y K=(M7 x y some).bind K:=by
 unfold M7;split
 ·split<;>rfl
 ·rfl
theorem Ox(T:TypeId)(x:PV)(K:PV->Option R):M8 ti T x K=(M8 ti T x some).bind K:=by
 unfold M8;split
 ·split
  ·split<;>rfl
  ·split
   ·split<;>rfl
   ·rfl
  ·rfl
  ·rfl
 ·rfl
theorem Ma(T:TypeId)(d x:PV)(h:Heap)(nx:Nat)(K:K3 R):iO ti T d x h nx K=(iO ti T d x h nx pk).bind λr=>K r.1 r.2.1 r.2.2:=by
 unfold iO;split
 ·split
  ·split
   ·split
    ·split
     ·rw[bI];rfl
     ·rfl
    ·rfl
   ·rfl
  ·rfl
 ·rfl
theorem a2D(T:TypeId)(l c:PV)(nx:Nat)(K:K3 R):DT ti T l c nx K=(DT ti T l c nx pk).bind λr=>K r.1 r.2.1 r.2.2:=by
 unfold DT;split
 ·split
  ·split
   ·split
    ·split
     ·rw[bI];rfl
     ·rfl
    ·rfl
   ·rfl
  ·rfl
 ·rfl
theorem SY(f:(R:Type)->(PV->Option R)->Option R)(hf: ∀(R:Type) (K:PV->Option R),f R K=(f PV some).bind K)(K:K3 R):
  f R (λv=>K v [] 0)=(f Ans (λv=>pk v [] 0)).bind λr=>K r.1 r.2.1 r.2.2:=by
 rw[hf R,hf Ans];cases f PV some<;>rfl
theorem a0k(T:TypeId)(d:PV)(u:Ty)(m:Nat)(g:Nat->u.den)(h:Heap)(K:K3 R):AR ti T d u m g h K=(AR ti T d u m g h pk).bind λr=>K r.1 r.2.1 r.2.2:=by
 unfold AR;split
 ·split
  ·split
   ·split
    ·rw[jP];congr 1;split
     ·split<;>rfl
     ·rfl
    ·rfl
   ·rfl
  ·rfl
 ·rfl
theorem T9 {v:Ty}(ok:Bool)(r:Option v.den)(K:PV->Option R):KI ok r K=(KI ok r some).bind K:=by unfold KI;rw[jP];rfl
theorem DW(T:TypeId)(x ix:PV)(ok:Bool)(h:Heap)(K:PV->Option R):qI ti T x ix ok h K=(qI ti T x ix ok h some).bind K:=by
 unfold qI;split
 ·split
  ·split
   ·exact T9 ..
   ·split
    ·split
     ·exact T9 ..
     ·rfl
    ·rfl
   ·rfl
  ·rfl
 ·rfl
theorem yt(T:TypeId)(x ix y:PV)(h:Heap)(K:PV->Upd->Option R):iZ ti T x ix y h K=(iZ ti T x ix y h λp u=>some (p,u)).bind λx=>K x.1 x.2:=by
 unfold iZ;split
 ·split
  ·split
   ·split
    ·split<;>rfl
    ·rfl
   ·rfl
  ·rfl
 ·rfl
theorem zO(T:TypeId)(x ix:PV)(h:Heap)(K:PV->Upd->Option R):jO ti T x ix h K=(jO ti T x ix h λp u=>some (p,u)).bind λx=>K x.1 x.2:=by
 unfold jO;split
 ·split
  ·split
   ·split
    ·split<;>rfl
    ·rfl
   ·rfl
  ·rfl
 ·rfl
theorem vH(T:TypeId)(x st y:PV)(h:Heap)(K:PV->Upd->Option R):iA ti T x st y h K=(iA ti T x st y h λp u=>some (p,u)).bind λx=>K x.1 x.2:=by
 unfold iA;split
 ·split
  ·split
   ·split
    ·split
     ·rw[bI];rfl
     ·rfl
    ·rfl
   ·rfl
  ·rfl
 ·rfl
theorem WH(T:TypeId)(nx:Nat)(K:K3 R):sG ti T nx K=(sG ti T nx pk).bind λr=>K r.1 r.2.1 r.2.2:=by
 unfold sG;split
 ·rfl
 ·split<;>rfl
theorem a5n(k t:Ty)(l:List (k.den×(t.den×lF (aX t))))(key:k.den)(id nx:Nat)(K:K3 R):SI k t l key id nx K=(SI k t l key id nx pk).bind λr=>K r.1 r.2.1 r.2.2:=by unfold SI;split<;>rfl
theorem WI(kt:Ty×Ty)(x ix:PV)(ok:Bool)(h:Heap)(nx:Nat)(K:K3 R):oZ kt x ix ok h nx K=(oZ kt x ix ok h nx pk).bind λr=>K r.1 r.2.1 r.2.2:=by
 unfold oZ;split
 ·split
  ·rw[jP];congr 1;split
   ·rfl
   ·split
    ·split
     ·exact a5n ..
     ·rfl
    ·rfl
   ·rfl
  ·rfl
 ·rfl
theorem DX(kt:Ty×Ty)(x ix y:PV)(h:Heap)(K:PV->Upd->Option R):qJ kt x ix y h K=(qJ kt x ix y h λp u=>some (p,u)).bind λx=>K x.1 x.2:=by
 unfold qJ;split
 ·split
  ·split
   ·split
    ·split<;>rfl
    ·rfl
   ·rfl
  ·rfl
 ·rfl
theorem KO(ty:TypeId)(x:PV)(h:Heap)(K:PV->Option R):BQ ti ty x h K=(BQ ti ty x h some).bind K:=by
 unfold BQ;split
 ·split
  ·rfl
  ·split<;>rfl
  ·rfl
 ·rfl
theorem KP(T:TypeId)(x n:PV)(h:Heap)(K:PV->Upd->Option R):BR ti T x n h K=(BR ti T x n h λp u=>some (p,u)).bind λx=>K x.1 x.2:=by
 unfold BR;split
 ·split
  ·rw[bI];congr 1;split
   ·rw[bI];rfl
   ·rw[bI];rfl
  ·rfl
 ·rfl
theorem WJ(C:Cx)(c:Callee)(args:List PV)(ts:List TypeId)(ty:TypeId)(h:Heap)(nx:Nat)(K:K3 R):sH C c args ts ty h nx K=(sH C c args ts ty h nx pk).bind λr=>K r.1 r.2.1 r.2.2:=by
 unfold sH;split
 ·split
  ·exact SY (λR K=>M8 C.ti _ _ K) (λR K=>Ox ..) K
  ·exact SY (λR K=>BQ C.ti _ _ h K) (λR K=>KO ..) K
  ·rw[KP,KP (R:=Ans)];cases BR C.ti _ _ _ h (λp u=>some (p,u))<;>rfl
  ·exact SY (λR K=>M6 _ _ K) (λR K=>Ov ..) K
  ·exact SY (λR K=>M7 _ _ K) (λR K=>Ow ..) K
  ·split
   ·exact a0k ..
   ·exact a2C ..
  ·split
   ·exact Ma ..
   ·split
    ·rw[bI];congr 1;exact Ma ..
    ·rfl
  ·rfl
 ·rfl
theorem a0l(C:Cx)(o:Oper)(vl:Operand->PV)(h:Heap)(nx:Nat)(K:K3 R):FP C o vl h nx K=(FP C o vl h nx pk).bind λr=>K r.1 r.2.1 r.2.2:=by
 unfold FP k0;have hk: ∀(f:(R:Type)->(PV->Option R)->Option R),(∀(R:Type) (K:PV->Option R),f R K=(f PV some).bind K)->
   f R (λv=>K v [] 0)=(f Ans (λv=>pk v [] 0)).bind λr=>K r.1 r.2.1 r.2.2:=λf hf=>SY f hf K
 split
 ·rfl
 ·rfl
 ·split
  ·rw[jP];rfl
  ·rfl
 ·split<;>rfl
 ·split
  ·split
   ·rw[jP];congr 1
    ·rw[bI];rfl
    ·rw[nO];rfl
   ·rfl
  ·split
   ·cases List.any _ _<;>rfl
   ·rfl
  ·rfl
 ·exact hk (λR K=>yZ C.ti _ _ K) (λR K=>G7 ..)
 ·split
  ·split
   ·split
    ·split
     ·split
      ·rw[bI];congr 1;cases List.any _ _
       ·rfl
       ·simp only[axy];rw[bI];rfl
      ·rfl
     ·rfl
    ·rfl
   ·rfl
  ·rfl
 ·exact hk (λR K=>rJ C.ti _ _ h K) (λR K=>DU ..)
 ·rw[G6,G6 (R:=Ans)];cases rD C.ti _ _ _ h (λp u=>some (p,u))<;>rfl
 ·split<;>rfl
 ·exact hk (λR K=>M4 C.ti _ _ _ _ K) (λR K=>Ou ..)
 ·exact hk (λR K=>YA _ _ K) (λR K=>SX ..)
 ·exact WG ..
 ·exact hk (λR K=>tQ C.ti _ _ K) (λR K=>DV ..)
 ·exact hk (λR K=>nN _ _ _ K) (λR K=>zN ..)
 ·split
  ·exact hk (λR K=>ze C.ti _ _ _ _ K) (λR K=>Ga ..)
  ·rfl
 ·exact hk (λR K=>jC C.ti _ _ _ K) (λR K=>yh ..)
 ·exact hk (λR K=>z8 C.ti _ _ _ K) (λR K=>G8 ..)
 ·exact hk (λR K=>jD C.ti _ _ _ K) (λR K=>yj ..)
 ·exact hk (λR K=>za C.ti _ _ _ K) (λR K=>G9 ..)
 ·exact hk (λR K=>oV _ _ K) (λR K=>BS ..)
 ·exact a2D ..
 ·split
  ·exact WH ..
  ·rfl
 ·split
  ·exact WI ..
  ·exact hk (λR K=>qI C.ti _ _ _ _ h K) (λR K=>DW ..)
 ·split
  ·rw[DX,DX (R:=Ans)];cases qJ _ _ _ _ h (λp u=>some (p,u))<;>rfl
  ·rw[yt,yt (R:=Ans)];cases iZ C.ti _ _ _ _ h (λp u=>some (p,u))<;>rfl
 ·rw[zO,zO (R:=Ans)];cases jO C.ti _ _ _ h (λp u=>some (p,u))<;>rfl
 ·rw[vH,vH (R:=Ans)];cases iA C.ti _ _ _ _ h (λp u=>some (p,u))<;>rfl
 ·exact WJ ..
 ·rfl
end
def CQ(ti:List (Nat×TI)):Ty->Nat->List Field->Prop| .unit,_,[]=>True|t,o,[f]=>f.offset=o/\f.name≠ "_" /\ ∃i,look ti f.type=some i/\i.ty=t.un/\0<t.size| .pair a b,o,f::g::l=>f.offset=o/\f.name≠ "_" /\(∃i,look ti f.type=some i/\i.ty=a.un/\0<a.size)/\CQ ti b (o+a.size) (g::l)|_,_,_=>False
def kE(ti:List (Nat×TI))(i:TI):Prop:=match i.desc with| .int k=>i.ty= .int k| .bool=>i.ty= .bool| .string=>i.ty= .str| .struct fs=>i.ty.agg=true/\CQ ti i.ty 0 fs.toList| .array n e=> ∃i',look ti e=some i'/\i.ty= .arr n i'.ty/\0<i'.ty.size/\1<n| .slice e=> ∃i',look ti e=some i'/\i.ty= .sl i'.ty/\0<i'.ty.size| .pointer _=>(∃t,i.ty= .ptr t)\/ ∃T,i.ty= .sp T| .map _ _=>i.ty= .mp| .func _ _ _=>i.ty= .fn|_=>False
def Ty.dep:Ty->Nat| .pair a b=>max a.dep b.dep+1| .arr _ t=>t.dep+1|_=>1
structure xJ(P:Program)(ti:List (Nat×TI)):Prop where
 under: ∀T i,look ti T=some i->P.underlying T=some i.desc
 size: ∀T i w,look ti T=some i->(sizeOf T).run P w= .ok i.ty.size w
 agg: ∀T i w,look ti T=some i->(isAgg T).run P w= .ok i.ty.agg w
 zero: ∀T i w,look ti T=some i->(zeroValue T).run P w= .ok (mkV i.ty i.ty.zcells) w
 info: ∀T i,look ti T=some i-> ∃inf,P.info? T=some inf/\inf.size=i.ty.size/\inf.bytes=i.bytes/\inf.zero=some (mkV i.ty i.ty.zcells)
 shape: ∀T i,look ti T=some i->kE ti i
 head: ∀T i T0,look ti T=some i->i.ty.head=some T0->T0=T
 eq: ∀T i,look ti T=some i->i.ty.agg=true->i.ty.flat=true->P.eqGuardType P.depth T=false/\P.stoodInHeld T=false/\(∀fs,i.desc= .struct fs->fs.size≠1)/\i.ty.dep<=10000
theorem dA: ∀t:Ty,t.zcells.length=t.size:=by
 intro t
 induction t with
 |pair a b iha ihb=>simp[Ty.zcells,Ty.size,iha,ihb]
 |arr n t ih=>simp[Ty.zcells,Ty.size,ih]
 |_=>rfl
theorem sJ(l:List Value): ∀(n i:Nat),i<n->(((List.replicate n l).flatten).drop (i*l.length)).take l.length=l:=by
 intro n
 induction n with
 |zero=>intro i h;omega
 |succ n ih=>
  intro i h;rw[List.replicate_succ,List.flatten_cons];cases i with
  |zero=>simp
  |succ i=>
   rw[Nat.succ_mul,ayK,<-azr,List.drop_left];exact ih i (by omega)
theorem Rd.zero(ρ:Rho)(w:World): ∀t:Ty,Rd ρ w t t.zero t.zcells:=by
 intro t
 induction t with
 |pair a b iha ihb=>
  refine⟨?_,?_⟩
  ·simp only[Ty.zcells];rw[List.take_left' (dA a)];exact iha
  ·simp only[Ty.zcells];rw[List.drop_left' (dA a)];exact ihb
 |arr n t ih=>
  refine⟨dA (.arr n t),λi hi=>?_⟩;simp only[Ty.zcells];have:=sJ t.zcells n i hi;rw[dA]at this;rw[this];exact ih
 |sp _=>exact⟨_,rfl,rfl⟩
 |st t=>exact⟨none,0,rfl,axr _,λi hi=>absurd hi (axS _)⟩
 |_=>rfl
theorem VR.int {ρ:Rho}{w:World}{k:IntKind}{n:Int}{v:Value}(h:VR ρ w ⟨.int k,n⟩ v):v= .int k n:=by obtain⟨cs,h1,rfl⟩:=h;simp only[Rd]at h1;subst h1;rfl
theorem VR.bool {ρ:Rho}{w:World}{b:Bool}{v:Value}(h:VR ρ w ⟨.bool,b⟩ v):v= .bool b:=by obtain⟨cs,h1,rfl⟩:=h;simp only[Rd]at h1;subst h1;rfl
theorem VR.str {ρ:Rho}{w:World}{s:ByteArray}{v:Value}(h:VR ρ w ⟨.str,s⟩ v):v= .string s:=by obtain⟨cs,h1,rfl⟩:=h;simp only[Rd]at h1;subst h1;rfl
theorem VR.mkInt {ρ:Rho}{w:World}{k:IntKind}{n:Int} :VR ρ w ⟨.int k,n⟩ (.int k n):=⟨[.int k n],rfl,rfl⟩
theorem VR.mkBool {ρ:Rho}{w:World}{b:Bool} :VR ρ w ⟨.bool,b⟩ (.bool b):=⟨[.bool b],rfl,rfl⟩
theorem VR.mkStr {ρ:Rho}{w:World}{s:ByteArray} :VR ρ w ⟨.str,s⟩ (.string s):=⟨[.string s],rfl,rfl⟩
theorem YD(t:Ty):t.un.size=t.size:=by cases t<;>rfl
theorem adH(t:Ty):t.un.agg=t.agg:=by cases t<;>rfl
theorem YE {t:Ty}(h:t.flat=true):t.un=t:=by cases t<;>first|rfl|cases h
theorem a4C(y:V):(KH y).1=y.1.un:=by obtain⟨t,y⟩:=y;cases t<;>rfl
theorem Rd.KH {ρ:Rho}{w:World}{y:V}{cs:List Value}(h:Rd ρ w y.1 y.2 cs):Rd ρ w (KH y).1 (KH y).2 cs:=by obtain⟨t,y⟩:=y;cases t<;>exact h
theorem adI(t:Ty)(cs:List Value):mkV t.un cs=mkV t cs:=by unfold mkV;rw[adH]
theorem VR.KH {ρ:Rho}{w:World}{y:V}{v:Value}(h:VR ρ w y v):VR ρ w (KH y) v:=by obtain⟨cs,h1,rfl⟩:=h;exact⟨cs,h1.KH,by rw[a4C,adI]⟩
theorem a5o {ρ:Rho}{w:World}{u t:Ty}{x:SlV u.den}{y:Nat×(Nat->t.den)}{cs:List Value}(h:Rd ρ w (.sl u) x cs)(hy:adB u t x=some y):Rd ρ w (.st t) y cs:=by
 cases x with
 |nil=>cases hy;exact⟨none,0,h,axr _,λi hi=>absurd hi (axS _)⟩
 |fz n f=>
  simp only[adB]at hy;split at hy
  ·rename_i e;subst e;cases hy;exact h
  ·cases hy
 |ms id p lo len=>cases hy
theorem VR.to {ρ:Rho}{w:World}{x:V}{v:Value}{t:Ty}{y:t.den}(h:VR ρ w x v)(hy:x.to t=some y):VR ρ w ⟨t,y⟩ v:=by
 unfold V.to at hy;split at hy
 ·rename_i e;obtain⟨u,x⟩:=x;simp only at e;subst e;simp only[axe]at hy;subst hy;exact h
 ·split at hy
  ·simp only[axe]at hy;subst hy;obtain⟨cs,h1,rfl⟩:=h;exact⟨[.pointer none],rfl,by simp only[Rd]at h1;subst h1;rfl⟩
  ·simp only[axe]at hy;subst hy;obtain⟨cs,h1,rfl⟩:=h;exact⟨[.slice none 0 0],rfl,by simp only[Rd]at h1;subst h1;rfl⟩
  ·obtain⟨cs,h1,rfl⟩:=h;exact⟨cs,a5o h1 hy,rfl⟩
  ·cases hy
theorem VR.ptrNil {ρ:Rho}{w:World}{t:Ty}{v:Value}(h:VR ρ w ⟨.ptr t,.nil⟩ v):v= .pointer none:=by obtain⟨cs,h1,rfl⟩:=h;simp only[Rd]at h1;subst h1;rfl
theorem VR.ptrFz {ρ:Rho}{w:World}{t:Ty}{x:t.den}{v:Value}(h:VR ρ w ⟨.ptr t,.fz x⟩ v): ∃b o c,v= .pointer (some ⟨b,o,none⟩)/\Rd ρ.shut w t x c/\Fz ρ w b o c:=by obtain⟨cs,h1,rfl⟩:=h;obtain⟨b,o,c,rfl,h2,h3⟩:=h1;exact⟨b,o,c,rfl,h2,h3⟩
theorem VR.ptrRf {ρ:Rho}{w:World}{t:Ty}{id:Nat}{p:Path}{v:Value}(h:VR ρ w ⟨.ptr t,.rf id p⟩ v):uZ ρ t id p v:=by obtain⟨cs,h1,rfl⟩:=h;obtain⟨v,rfl,h2⟩:=h1;exact h2
theorem VR.mkRf {ρ:Rho}{w:World}{t:Ty}{id:Nat}{p:Path}{v:Value}(h:uZ ρ t id p v):VR ρ w ⟨.ptr t,.rf id p⟩ v:=⟨[v],⟨v,rfl,h⟩,rfl⟩
theorem VR.mkFz {ρ:Rho}{w:World}{t:Ty}{x:t.den}{b o:Nat}{c:List Value}(h:Rd ρ.shut w t x c)(hf:Fz ρ w b o c):VR ρ w ⟨.ptr t,.fz x⟩ (.pointer (some ⟨b,o,none⟩)):=
 ⟨[.pointer (some ⟨b,o,none⟩)],⟨b,o,c,rfl,h,hf⟩,rfl⟩
section
variable {P:Program} {ti:List (Nat×TI)} (hti:xJ P ti) {ρ:Rho} {w:World}
theorem YF {op:BinOp}{k:IntKind}{x y:Int}{pv:PV}(T:TypeId)(h:Om op k x y some=some pv)(h1:op≠ .shl)(h2:op≠ .shr):
  ∃v,(∀w,(binOp op T (.int k x) (.int k y)).run P w= .ok v w)/\ ∀ρ w,VP ρ w pv v:=by
 cases op<;>simp only[Om,axe,reduceCtorEq]at h
 case add=>subst h;exact⟨_,λw=>by simp only[binOp,ne_eq,ayk,ayH,Op.intArith];rfl,λρ w=>VR.mkInt⟩
 case sub=>subst h;exact⟨_,λw=>by simp only[binOp,ne_eq,ayk,ayH,Op.intArith];rfl,λρ w=>VR.mkInt⟩
 case mul=>subst h;exact⟨_,λw=>by simp only[binOp,ne_eq,ayk,ayH,Op.intArith];rfl,λρ w=>VR.mkInt⟩
 case quo=>
  by_cases hy:y=0
  ·simp[hy]at h
  ·simp only[hy,decide_false,axL,axe]at h;subst h;exact⟨_,λw=>by simp only[binOp,ne_eq,ayk,ayH,Op.intDiv,hy];rfl,λρ w=>VR.mkInt⟩
 case rem=>
  by_cases hy:y=0
  ·simp[hy]at h
  ·simp only[hy,decide_false,axL,axe]at h;subst h;exact⟨_,λw=>by simp only[binOp,ne_eq,ayk,ayH,Op.intDiv,hy];rfl,λρ w=>VR.mkInt⟩
 case and=>subst h;exact⟨_,λw=>by simp only[binOp,ne_eq,ayk,ayH,Op.intBits];rfl,λρ w=>VR.mkInt⟩
 case or=>subst h;exact⟨_,λw=>by simp only[binOp,ne_eq,ayk,ayH,Op.intBits];rfl,λρ w=>VR.mkInt⟩
 case xor=>subst h;exact⟨_,λw=>by simp only[binOp,ne_eq,ayk,ayH,Op.intBits];rfl,λρ w=>VR.mkInt⟩
 case andNot=>subst h;exact⟨_,λw=>by simp only[binOp,ne_eq,ayk,ayH,Op.intBits];rfl,λρ w=>VR.mkInt⟩
 case eql=>subst h;exact⟨_,λw=>by simp only[binOp,ne_eq,ayk,ayH,Op.intCmp];rfl,λρ w=>VR.mkBool⟩
 case neq=>subst h;exact⟨_,λw=>by simp only[binOp,ne_eq,ayk,ayH,Op.intCmp];rfl,λρ w=>VR.mkBool⟩
 case lss=>subst h;exact⟨_,λw=>by simp only[binOp,ne_eq,ayk,ayH,Op.intCmp];rfl,λρ w=>VR.mkBool⟩
 case leq=>subst h;exact⟨_,λw=>by simp only[binOp,ne_eq,ayk,ayH,Op.intCmp];rfl,λρ w=>VR.mkBool⟩
 case gtr=>subst h;exact⟨_,λw=>by simp only[binOp,ne_eq,ayk,ayH,Op.intCmp];rfl,λρ w=>VR.mkBool⟩
 case geq=>subst h;exact⟨_,λw=>by simp only[binOp,ne_eq,ayk,ayH,Op.intCmp];rfl,λρ w=>VR.mkBool⟩
theorem YG {op:BinOp}{x y:ByteArray}{pv:PV}(T:TypeId)(h:Oo op x y some=some pv):
  ∃v,(∀w,(binOp op T (.string x) (.string y)).run P w= .ok v w)/\ ∀ρ w,VP ρ w pv v:=by
 cases op<;>simp only[Oo,axe,reduceCtorEq]at h
 case add=>
  by_cases hy:((x.size+y.size:Nat):Int)>IntKind.i64.max
  ·rw[axw hy]at h;cases h
  ·rw[axz hy]at h;simp only[axL,axe]at h;subst h;exact⟨_,λw=>by simp only[binOp,Op.stringOp,axi hy];rfl,λρ w=>VR.mkStr⟩
 all_goals subst h;exact⟨_,λw=>by simp only[binOp,Op.stringOp];rfl,λρ w=>VR.mkBool⟩
theorem run_equalIn_array {P:Program}(w:World)(d n:Nat)(t e:TypeId)(xs ys:Array Value)(s:Nat)(p:Nat->Bool)(ht:P.underlying t=some (.array n e))(hs: ∀w,(sizeOf e).run P w= .ok s w)
  (hp: ∀i w,i<n-> ∃a b,(part e xs (i*s)).run P w= .ok a w/\(part e ys (i*s)).run P w= .ok b w/\(Op.equalIn d e a b).run P w= .ok (p i) w):
  (Op.equalIn (d+1) t (.agg xs) (.agg ys)).run P w= .ok (a7a n p) w:=by
 simp only[Op.equalIn,axj,axv ht,axg,hs];simp only[Std.Legacy.Range.forIn_eq_forIn_range',Std.Legacy.Range.size,Nat.sub_zero,azS,azY,<-List.range_eq_range',a7a];have: ∀(l:List Nat),(∀i∈l,i<n)-> ∀w,((forIn l ((none,()):Option Bool×Unit) λi r=>do
   let a<-part e xs (i*s);let b<-part e ys (i*s);let r<-Op.equalIn d e a b
   if(!r)=true then pure (ForInStep.done (some false,()))else pure (ForInStep.yield (none,())):Sem _).run P w)= .ok (if l.all p then(none,())else(some false,())) w:=by
  intro l
  induction l with
  |nil=>intro _ w;rfl
  |cons i l ih=>
   intro hl w;obtain⟨a,b,h1,h2,h3⟩:=hp i w (hl i (by simp));simp only[List.forIn_cons,axj,h1,h2,h3,axg,azI];cases hpi:p i
   ·simp[hpi]
   ·simp only[aym,axX,ayH,axD,axg,azU,hpi,axV];exact ih (λj hj=>hl j (by simp[hj])) w
 rw[this (List.range n) (λi hi=>azt.1 hi) w];cases h:(List.range n).all p<;>simp[Result.andThen]
theorem vI {P:Program}{T e:TypeId}(hu:P.underlying T=some (.pointer e))(d:Nat)(q:Option Addr)(w:World):(Op.equalIn (d+1) T (.pointer none) (.pointer q)).run P w= .ok q.isNone w:=by simp[Op.equalIn,axv hu]
theorem CS {P:Program}{T e:TypeId}(hu:P.underlying T=some (.pointer e))(d:Nat)(p:Addr)(w:World):(Op.equalIn (d+1) T (.pointer (some p)) (.pointer none)).run P w= .ok false w:=by simp[Op.equalIn,axv hu]
theorem CU {P:Program}{T k e:TypeId}(hu:P.underlying T=some (.map k e))(d:Nat)(p q:Option Nat)(r:Bool)(h:(p=none/\r=q.isNone)\/(q=none/\r=p.isNone))(w:World):(Op.equalIn (d+1) T (.map p) (.map q)).run P w= .ok r w:=by
 rcases h with⟨rfl,rfl⟩|⟨rfl,rfl⟩
 ·cases q<;>simp[Op.equalIn,axv hu]
 ·cases p<;>simp[Op.equalIn,axv hu]
theorem xK {P:Program}{ti:List (Nat×TI)}(hti:xJ P ti){T:TypeId}{i:TI}(hi:look ti T=some i){ρ:Rho}{w0:World}{x:i.ty.den}{c:List Value}(cs:Array Value)(o:Nat)(w:World)
  (hc:(cs.toList.drop o).take i.ty.size=c) (h:Rd ρ w0 i.ty x c):(part T cs o).run P w= .ok (mkV i.ty c) w:=by
 subst hc;unfold part mkV;simp only[axj,hti.agg T i w hi,axg];cases ha:i.ty.agg
 ·obtain⟨v,hv⟩:=h.single ha;have hsz:i.ty.size=1:=by have:=h.length;rw[hv]at this;exact this.symm
  have:cs[o]?=some v:=by
   have h1:((cs.toList.drop o).take i.ty.size)[0]?=some v:=by rw[hv];rfl
   rw[axI (by omega),axU]at h1;simpa using h1
  simp only[axX,ayH,this,hv,List.headD_cons];rfl
 ·simp only[ayB,axj,hti.size T i w hi,axg,axD]
  congr 2
  apply azk;simp[Array.toList_extract,List.take_drop]
theorem Qa {P:Program}{T:TypeId}{fs:Array Field}(h:P.underlying T=some (.struct fs)):P.fieldsOf T=fs:=by unfold Program.fieldsOf;rw[h]
theorem a5p {P:Program}{ti:List (Nat×TI)}(hti:xJ P ti): ∀(N:Nat) (t:Ty) (T:TypeId) (i:TI) (d:Nat),t.dep<=N->look ti T=some i->i.ty=t->t.flat=true->t.dep<=d->
  ∀(ρ:Rho) (w0:World) (x y:t.den) (xs ys:List Value) (w:World),Rd ρ w0 t x xs->Rd ρ w0 t y ys->(Op.equalIn d T (mkV t xs) (mkV t ys)).run P w= .ok (eqF t x y) w:=by
 intro N
 induction N with
 |zero=>intro t T i d hN;cases t<;>simp only[Ty.dep]at hN<;>omega
 |succ N IH=>
  have fields: ∀(fs:List Field) (t:Ty) (o d:Nat),t.dep<=N->CQ ti t o fs->t.flat=true->t.dep<=d-> ∀(ρ:Rho) (w0:World) (x y:t.den) (xs ys:Array Value) (w:World),
    Rd ρ w0 t x ((xs.toList.drop o).take t.size)->Rd ρ w0 t y ((ys.toList.drop o).take t.size)->(Op.eqFields d xs ys fs).run P w= .ok (eqF t x y) w:=by
   intro fs
   induction fs with
   |nil=>intro t o d _ hc _ _ ρ w0 x y xs ys w _ _;cases t<;>simp only[CQ]at hc;rfl
   |cons f l ihl=>
    intro t o d hN hc hfl hd ρ w0 x y xs ys w hx hy;have one: ∀(t:Ty) (i:TI),t.dep<=N->look ti f.type=some i->i.ty=t->t.flat=true->t.dep<=d-> ∀(x y:t.den),f.name≠ "_" ->f.offset=o->
      Rd ρ w0 t x ((xs.toList.drop o).take t.size)->Rd ρ w0 t y ((ys.toList.drop o).take t.size)->(Op.eqFields d xs ys (f::l)).run P w=if eqF t x y then(Op.eqFields d xs ys l).run P w else .ok false w:=by
     intro t i hN hi e hfl hd x y hn ho hx hy;subst e;have hd0:1<=d:=by cases hh:i.ty<;>rw[hh]at hd<;>simp only[Ty.dep]at hd<;>omega
     simp only[Op.eqFields,axj,azI];rw[axp hn,ho,xK hti hi xs o w rfl hx];simp only[axg];rw[xK hti hi ys o w rfl hy];simp only[axg];rw[IH i.ty f.type i d hN hi rfl hfl hd ρ w0 x y _ _ w hx hy];cases eqF i.ty x y<;>simp[Result.andThen]
    cases l with
    |nil=>
     have hc':f.offset=o/\f.name≠ "_" /\ ∃i,look ti f.type=some i/\i.ty=t.un/\0<t.size:=by cases t<;>exact hc
     obtain⟨ho,hn,i,hi,e,_⟩:=hc';rw[YE hfl]at e;rw[one t i hN hi e hfl hd x y hn ho hx hy];cases eqF t x y<;>rfl
    |cons g l=>
     cases t<;>simp only[CQ]at hc;rename_i a b;obtain⟨ho,hn,⟨i,hi,e,_⟩,hcb⟩:=hc;simp only[Ty.flat,axh]at hfl;rw[YE hfl.1]at e;simp only[Ty.dep]at hd;have hNs:a.dep<=N/\b.dep<=N:=by simp only[Ty.dep]at hN;omega
     have hxa:=hx.1;have hxb:=hx.2;have hya:=hy.1;have hyb:=hy.2;rw[azR,ayT (by simp only[Ty.size];omega)]at hxa hya;rw[azQ,azr,show(Ty.pair a b).size-a.size=b.size by simp only[Ty.size];omega]at hxb hyb;rw[one a i hNs.1 hi e hfl.1 (by omega) x.1 y.1 hn ho hxa hya,ihl b (o+a.size) d hNs.2 hcb hfl.2 (by omega) ρ w0 x.2 y.2 xs ys w hxb hyb];simp only[eqF];cases eqF a x.1 y.1<;>simp
  intro t T i d hN hi e hfl hd ρ w0 x y xs ys w hx hy;have hu:=hti.under T i hi;have hs:=hti.shape T i hi;obtain⟨d,rfl⟩: ∃e,d=e+1:=⟨d-1,by cases t<;>simp only[Ty.dep]at hd<;>omega⟩;subst e;unfold kE at hs;cases hdesc:i.desc<;>rw[hdesc]at hs hu<;>simp only at hs
  case int k=>
   obtain⟨dd,ty⟩:=i;simp only at hs;subst hs;simp only[Rd]at hx hy;subst hx;subst hy;exact run_equalIn_int w d T k k x y hu
  case bool=>
   obtain⟨dd,ty⟩:=i;simp only at hs;subst hs;simp only[Rd]at hx hy;subst hx;subst hy;exact run_equalIn_bool' w d T x y hu
  case string=>
   obtain⟨dd,ty⟩:=i;simp only at hs;subst hs;simp only[Rd]at hx hy;subst hx;subst hy;exact run_equalIn_string w d T x y hu
  case pointer=>
   rcases hs with⟨t,e⟩|⟨_,e⟩
   ·rw[e]at hfl;cases hfl
   ·rw[e]at hfl;cases hfl
  case map=>rw[hs]at hfl;cases hfl
  case slice=>obtain⟨_,_,e,_⟩:=hs;rw[e]at hfl;cases hfl
  case func=>rw[hs]at hfl;cases hfl
  case array n e=>
   obtain⟨i',hi',e',_⟩:=hs;obtain⟨dd,ty⟩:=i;simp only at e';subst e';simp only[Ty.dep]at hd;refine run_equalIn_array w d n T e _ _ i'.ty.size _ hu (λw=>hti.size e i' w hi') (λj w hj=>?_);refine⟨_,_,xK hti hi' _ _ w rfl (hx.2 j hj),xK hti hi' _ _ w rfl (hy.2 j hj),?_⟩;exact IH i'.ty e i' d (by simp only[Ty.dep]at hN;omega) hi' rfl hfl (by omega) ρ w0 _ _ _ _ w (hx.2 j hj) (hy.2 j hj)
  case struct fs=>
   obtain⟨hag,hc⟩:=hs;obtain⟨_,hst,hne,_⟩:=hti.eq T i hi hag hfl;have hlen:fs.toList.length≠1:=by have:=hne fs hdesc;simpa using this
   have hu':=hu;rw[<-Qa hu]at hu';have hxl:=hx.length;have hyl:=hy.length;unfold mkV;rw[hag];simp only[ayB];rw[run_equalIn_struct w d T _ _ hu' hst,Qa hu];obtain⟨dd,ty⟩:=i;simp only at hag hc hfl hd hN x y hx hy hxl hyl;generalize fs.toList=L at hc hlen
   match L,hc,hlen with
   | [],hc,_=>
    cases ty with
    |unit=>rfl
    |_=>simp only[CQ]at hc
   | [f],_,hl=>simp at hl
   |f::g::l,hc,_=>
    cases ty with
    |pair a b=>
     simp only[CQ]at hc;obtain⟨ho,hn,⟨i',hi',e,_⟩,hcb⟩:=hc;simp only[Ty.flat,axh]at hfl;rw[YE hfl.1]at e;simp only[Ty.dep]at hd;have hNs:a.dep<=N/\b.dep<=N:=by simp only[Ty.dep]at hN;omega
     subst e;have hxa:=hx.1;have hya:=hy.1;simp only[Op.eqFields,axj,azI];rw[axp hn,ho,xK hti hi' _ _ w (c:=xs.take i'.ty.size) (by simp) hxa];simp only[axg];rw[xK hti hi' _ _ w (c:=ys.take i'.ty.size) (by simp) hya];simp only[axg];rw[IH i'.ty f.type i' d hNs.1 hi' rfl hfl.1 (by omega) ρ w0 x.1 y.1 _ _ w hxa hya];have hb:=fields (g::l) b (0+i'.ty.size) d hNs.2 hcb hfl.2 (by omega) ρ w0 x.2 y.2 xs.toArray ys.toArray w
      (by have:=hx.2;simp only[Ty.size]at hxl;rw[axA,ayg (by simp;omega)];exact this)
      (by have:=hy.2;simp only[Ty.size]at hyl;rw[axA,ayg (by simp;omega)];exact this)
     simp only[eqF];cases eqF i'.ty x.1 y.1
     ·simp[Result.andThen]
     ·simp only[aym,axX,ayH,axV,axg];simp only[Op.eqFields,axj,azI]at hb;exact hb
    |_=>simp only[CQ]at hc
  all_goals exact hs.elim
end
end Go.Den
