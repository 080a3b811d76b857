/-
 The plain reading of code: contracts by shapes.
-/
import Derived.Test.YtidodcilgldjoaaGreatDenE
set_option linter.unusedVariables false
set_option linter.unusedSimpArgs false
namespace Go.Den
def ren(τ:Nat→Nat):(t:Ty)→t.den→t.den
 | .pair a b,x=>bif a.flat&&b.flat then x else(ren τ a x.1,ren τ b x.2)
 | .arr _ t,f=>bif t.flat then f else fun i=>ren τ t (f i)
 | .sl _,x=>match x with
  | .ms id p lo n=>.ms (τ id) p lo n
  | .nil=>.nil
  | .fz n f=>.fz n f
 | .ptr _,x=>match x with
  | .rf id p=>.rf (τ id) p
  | .nil=>.nil
  | .fz y=>.fz y
 | .fn,x=>match x with
  | .mk f c=>.mk f (c.map fun q=>(q.1,τ q.2.1,q.2.2))
  | .nil=>.nil
 | .sp _,x=>x
 | .mp,x=>match x with
  |some id=>some (τ id)
  |none=>none
 | .int _,x=>x
 | .bool,x=>x
 | .str,x=>x
 | .unit,x=>x
def a3U(τ:Nat→Nat)(v:V):V:=⟨v.1,ren τ v.1 v.2⟩
def a3V(τ:Nat→Nat):PV→PV
 | .un=>.un
 | .v v=>.v (a3U τ v)
 | .tup l=>.tup (l.map (a3U τ))
 | .dp id n=>.dp (τ id) n
 | .zr t=>.zr t
def NR(τ:Nat→Nat):PO→PO
 | .obj t x=>.obj t (ren τ t x)
 | .row sh e t n f=>.row sh e t n (bif sh then f else ren τ (.arr n t) f)
 | .mp k v l=>.mp k v l
 | .dead=>.dead
section
variable {ρ ρ':Rho} {w:World} {τ:Nat→Nat}
theorem uN.ren(h: ∀id loc,ρ id=some loc→ρ' (τ id)=some loc) {t:Ty} {id:Nat} {p:Path} {v:Value}(hr:uN ρ t id p v):uN ρ' t (τ id) p v:=by
 obtain⟨loc,h1,h2⟩:=hr
 exact⟨loc,h _ _ h1,h2⟩
theorem Rd.ren(hA:ρ'.A=ρ.A)(h: ∀id loc,ρ id=some loc→ρ' (τ id)=some loc): ∀ {t:Ty} {x:t.den} {cs:List Value},Rd ρ w t x cs→Rd ρ' w t (ren τ t x) cs:=by
 have hs:ρ'.shut=ρ.shut:=yA hA
 have hfz: ∀ {b o c},Fz ρ w b o c→Fz ρ' w b o c:=fun hf=>⟨by rw[hA]; exact hf.1,hf.2⟩
 intro t
 induction t with
 |int k=>intro x cs hr; exact hr
 |bool=>intro x cs hr; exact hr
 |str=>intro x cs hr; exact hr
 |unit=>intro x cs hr; exact hr
 |pair a b iha ihb=>
  intro x cs hr
  simp only[Den.ren]
  cases hf:a.flat&&b.flat
  ·exact⟨iha hr.1,ihb hr.2⟩
  ·exact Rd.flatAny (t:=.pair a b) hf hr
 |arr n t ih=>
  intro x cs hr
  simp only[Den.ren]
  cases hf:t.flat
  ·exact⟨hr.1,fun i hi=>ih (hr.2 i hi)⟩
  ·exact Rd.flatAny (t:=.arr n t) hf hr
 |sl t ih=>
  intro x cs hr
  cases x with
  |nil=>exact hr
  |fz n f=>
   obtain⟨a,cap,h1,hle,h2⟩:=hr
   refine⟨a,cap,h1,hle,fun i hi=>?_⟩
   obtain⟨b,o,c,h3,h4,h5⟩:=h2 i hi
   exact⟨b,o,c,h3,by rw[hs]; exact h4,hfz h5⟩
  |ms id p lo len=>
   rcases hr with hr|⟨loc,m,cap,o,h1,h2⟩
   ·exact .inl hr
   ·exact .inr ⟨loc,m,cap,o,h _ _ h1,h2⟩
 |ptr t ih=>
  intro x cs hr
  cases x with
  |nil=>exact hr
  |fz y=>obtain⟨b,o,c,h1,h2,h3⟩:=hr; exact⟨b,o,c,h1,by rw[hs]; exact h2,hfz h3⟩
  |rf id p=>obtain⟨v,h1,h2⟩:=hr; exact⟨v,h1,h2.ren h⟩
 |fn=>
  intro x cs hr
  cases x with
  |nil=>exact hr
  |mk f caps=>
   obtain⟨vs,h1,h2,h3⟩:=hr
   refine⟨vs,h1,by simpa using h2,fun j c v hc hv=>?_⟩
   simp only[List.getElem?_map,Option.map_eq_some_iff]at hc
   obtain⟨c0,hc0,rfl⟩:=hc
   exact(h3 j c0 v hc0 hv).ren h
 |sp _=>intro x cs hr; exact hr
 |mp=>
  intro x cs hr
  cases x with
  |none=>exact hr
  |some id=>obtain⟨loc,h1,h2⟩:=hr; exact⟨loc,h _ _ h1,h2⟩
theorem VR.ren(hA:ρ'.A=ρ.A)(h: ∀id loc,ρ id=some loc→ρ' (τ id)=some loc) {x:V} {v:Value}(hr:VR ρ w x v):VR ρ' w (a3U τ x) v:=
 let⟨cs,h1,h2⟩:=hr
 ⟨cs,h1.ren hA h,h2⟩
theorem VRs.ren(hA:ρ'.A=ρ.A)(h: ∀id loc,ρ id=some loc→ρ' (τ id)=some loc): ∀ {l:List V} {vs:List Value},VRs ρ w l vs→VRs ρ' w (l.map (a3U τ)) vs
 | [],[],_=>trivial
 |_::_,_::_,hr=>⟨VR.ren hA h hr.1,VRs.ren hA h hr.2⟩
theorem VP.ren(hA:ρ'.A=ρ.A)(h: ∀id loc,ρ id=some loc→ρ' (τ id)=some loc) {x:PV} {v:Value}(hr:VP ρ w x v):VP ρ' w (a3V τ x) v:=by
 cases x with
 |un=>trivial
 |v x=>exact VR.ren hA h hr
 |tup l=>obtain⟨vs,h1,h2⟩:=hr; exact⟨vs,h1,h2.ren hA h⟩
 |zr t=>exact hr
 |dp id n=>obtain⟨p,h1,h2⟩:=hr; exact⟨p,h1,fun h0=>let⟨loc,m,t,h3,h4⟩:=h2 h0;⟨loc,m,t,h _ _ h3,h4⟩⟩
theorem VPs.ren(hA:ρ'.A=ρ.A)(h: ∀id loc,ρ id=some loc→ρ' (τ id)=some loc): ∀ {l:List PV} {vs:List Value},VPs ρ w l vs→VPs ρ' w (l.map (a3V τ)) vs
 | [],[],_=>trivial
 |_::_,_::_,hr=>⟨VP.ren hA h hr.1,VPs.ren hA h hr.2⟩
theorem OR.ren(hA:ρ'.A=ρ.A)(h: ∀id loc,ρ id=some loc→ρ' (τ id)=some loc) {loc:Loc} {o:PO}(hW:ρ.W loc.blk→ρ'.W loc.blk)(hr:OR ρ w loc o):OR ρ' w loc (NR τ o):=by
 cases o with
 |obj t x=>obtain⟨h1,h2,cs,T,h3,h4⟩:=hr; exact⟨h1,hW h2,cs,T,h3.ren hA h,h4⟩
 |mp k v l=>
  obtain⟨h1,h2,es,h3,h4⟩:=hr
  rw[←yA hA]at h3
  exact⟨h1,hW h2,es,h3,h4⟩
 |row sh e t n f=>
  obtain⟨h1,h2,cs,sp,h3,h4⟩:=hr
  refine⟨h1,hW h2,cs,sp,?_,h4⟩
  cases sh
  ·exact Rd.ren hA h h3
  ·have e:ρ'.shut=ρ.shut:=yA hA
   change Rd ρ'.shut w (.arr n t) f cs
   rw[e]; exact h3
 |dead=>trivial
theorem Qr {o:PO} {l:Option Loc}(h:o.idle l):(NR τ o).idle l:=by
 rcases h with rfl|⟨h1,sh,e,t,f,rfl⟩
 ·exact .inl rfl
 ·exact .inr ⟨h1,sh,e,t,_,rfl⟩
end
def Pat.bind:(p:Pat)→p.ty.den→List (Nat×Nat)
 | .c ⟨.ptr _,.rf i _⟩,x=>match x with
  | .rf id _=>[(i,id)]
  |_=>[]
 | .p a b,x=>a.bind x.1++b.bind x.2
 |_,_=>[]
def Pat.rws:(p:Pat)→p.ty.den→List Nat
 | .w _ _ _,x=>match x with
  | .ms id [] 0 _=>[id]
  |_=>[]
 | .m _ _ _,x=>match x with
  |some id=>[id]
  |none=>[]
 | .p a b,x=>a.rws x.1++b.rws x.2
 |_,_=>[]
def Ch:List (Nat×Pat)→List PV→List (Nat×Nat)×List Nat
 |q::l,.v v::ps=>match v.to q.2.ty with
  |some y=>(q.2.bind y++(Ch l ps).1,q.2.rws y++(Ch l ps).2)
  |none=>Ch l ps
 |_::l,_::ps=>Ch l ps
 |_,_=>([],[])
def NS(h:Heap)(ob:List (Nat×Pat)):Nat→Nat→List (Nat×Nat)→Option (List Nat×List Nat)
 |0,_,_=>some ([],[])
 |n+1,i,b=>match look b i with
  |some x=>match h x with
   |some (.obj t y)=>match look ob i with
    |some p=>if e:t=p.ty then match NS h ob n (i+1) (b++p.bind (e▸y))with
      |some (l,r)=>some (x::l,p.rws (e▸y)++r)
      |none=>none
     else none
    |none=>none
   |_=>none
  |none=>none
def hpU(u:Upd)(h:Heap):Heap:=fun i=>match look u i with|some o=>some o|none=>h i
def WK:Pat→Bool
 | .sz _=>true
 | .pz _=>true
 | .po _=>true
 |_=>false
def lu:List (Nat×Pat)→List PV→Heap→Option (List PV×Upd)
 | [],[],_=>some ([],[])
 |q::l,p::ps,h=>bif WK q.2 then
   match dD [p] h with
   |some (p',u)=>match lu l ps (hpU u h)with
    |some (ps',u')=>some (p'++ps',u'++u)
    |none=>none
   |none=>none
  else match lu l ps h with
   |some (ps',u')=>some (p::ps',u')
   |none=>none
 |_,_,_=>none
def toC(K:Nat):List Nat→Nat→Nat→Nat
 | [],_,id=>K+id
 |x::l,k,id=>bif Nat.beq x id then k else toC K l (k+1) id
def ofC(lo nx:Nat)(l:List Nat)(i:Nat):Nat:=bif Nat.blt i lo then l.getD i 0 else nx+(i-lo)
def NT(σ:Nat→Nat)(h:Heap):List Nat→List (Nat×PO)
 | []=>[]
 |x::l=>match h x with
  |some o=>(σ x,NR σ o)::NT σ h l
  |none=>NT σ h l
def JL(K:Nat)(l r:List Nat)(args:List PV)(h:Heap):DS:=
 { env:=numbered 0 (args.map (a3V (toC K l 0))),hp:=NT (toC K l 0) h (l++r),nx:=K,n:=args.length }
structure acV where
 args:List PV
 u:Upd
 l:List Nat
 r:List Nat
def isObj(h:Heap)(x:Nat):Bool:=match h x with|some (.obj _ _)=>true|_=>false
def isRow(h:Heap)(x:Nat):Bool:=match h x with|some o=>o.held|_=>false
def ZQ(sh:Shape)(args:List PV)(h:Heap):Option acV:=
 match lu sh.sl args h with
 |some (args',u)=>match NS (hpU u h) sh.ob sh.lo 0 (Ch sh.sl args').1 with
  |some (l,r)=>
   bif nodupB l&&nodupB (r++(Ch sh.sl args').2)&&l.all (isObj (hpU u h))&&(r++(Ch sh.sl args').2).all (isRow (hpU u h))then some ⟨args',u,l,r++(Ch sh.sl args').2⟩else none
  |none=>none
 |none=>none
def bY:(l:List (Nat×Pat))→Xs l→List V
 | [],_=>[]
 |q::l,x=>⟨q.2.ty,q.2.mk x.1⟩::bY l x.2
@[reducible] def YsS:List Shape→Type
 | []=>Empty
 | [q]=>q.X
 |q::r::l=>q.X⊕YsS (r::l)
def a1a(vs:List V)(s:DS)(q:Shape):Option q.X:=
 match lu q.sl (vs.map .v) s.h with
 |some (ps,u)=>q.rd { s with env:=numbered 0 ps,hp:=u++s.hp,n:=ps.length }
 |none=>none
def a2e(vs:List V)(s:DS):(l:List Shape)→Option (YsS l)
 | []=>none
 | [q]=>a1a vs s q
 |q::r::l=>match a1a vs s q with
  |some x=>some (.inl x)
  |none=>match a2e vs s (r::l)with
   |some y=>some (.inr y)
   |none=>none
def a2f {R:Type} :(l:List Shape)→YsS l→((sh:Shape)→sh.X→Option R)→Option R
 | [],y,_=>nomatch y
 | [q],x,K=>K q x
 |q::r::l,y,K=>match y with
  | .inl x=>K q x
  | .inr y=>a2f (r::l) y K
def iy(k:Nat)(outs:List Shape)(pv:PV)(s:DS):Option (YsS outs):=
 match pv with
 | .v v=>bif Nat.beq k 1 then a2e [v] s outs else none
 | .tup vs=>bif Nat.beq vs.length 1 then none else bif Nat.beq vs.length k then a2e vs s outs else none
 |_=>none
def mK(sh:Shape)(x:sh.X):List (Nat×PO):=UN sh.ob x.2++(qZ sh.sl x.1++qZ sh.ob x.2)
def NU(τ:Nat→Nat)(l:List (Nat×PO)):Upd:=l.map fun q=>(τ q.1,NR τ q.2)
def NV(l:List Nat):Upd:=l.map fun i=>(i,.dead)
def nM(ish:Shape)(outs:List Shape)(f:ish.X→Option (YsS outs)):Con where
 fp args h:=match ZQ ish args h with
  |some p=>(dL args++(p.l++p.r),dL args++(p.l++p.r))
  |none=>([],[])
 run args h nx K:=match ZQ ish args h with
  |some p=>bif p.l.all fun x=>Nat.blt x nx then
   match ish.rd (JL ish.nx p.l p.r p.args (hpU p.u h))with
   |some x=>match f x with
    |some y=>a2f outs y fun sh y=>K (OJ ((bY sh.sl y.1).map (a3U (ofC ish.lo nx p.l)))) (NU (ofC ish.lo nx p.l) (mK sh y)++(NV (p.l++(p.r++List.range' nx (sh.nx-ish.lo)))++p.u)) (sh.nx-ish.lo)
    |none=>none
   |none=>none
   else none
  |none=>none
def a3W(j:Nat)(args:List PV):Bool:=
 match args[j]? with
 |some (.v ⟨.ptr _,.rf _ _⟩)=>true
 |_=>false
section
variable {B:Base} {ρ ρ':Rho} {s:DS} {a:Act} {w w':World}
theorem OR.later1(L:Later ρ w ρ' w') {loc:Loc} {o:PO}(hW:o≠ .dead→ρ'.W loc.blk)(hb:w'.heap[loc.blk]?=w.heap[loc.blk]?)(h:OR ρ w loc o):OR ρ' w' loc o:=by
 cases o with
 |obj t x=>obtain⟨h1,h0,cs,T,h2,h3,h4⟩:=h; exact⟨h1,hW (by intro e; cases e),cs,T,h2.later L,hb.trans h3,h4⟩
 |mp k v l=>obtain⟨h1,h0,es,h2,h3⟩:=h; exact⟨h1,hW (by intro e; cases e),es,h2.keeps L.keeps.shut,hb.trans h3⟩
 |row sh e t n f=>obtain⟨h1,h0,cs,sp,h2,h3,h4⟩:=h; exact⟨h1,hW (by intro e; cases e),cs,sp,h2.keeps (L.keeps.at sh),h3.trans hb,h4⟩
 |dead=>trivial
theorem ZR {τ:Nat→Nat} : ∀ {l:List (Nat×PO)} {id:Nat} {o:PO},look (NU τ l) id=some o→ ∃i o0,look l i=some o0∧id=τ i∧o=NR τ o0:=by
 intro l
 induction l with
 |nil=>intro id o h; cases h
 |cons q l ih=>
  intro id o h
  obtain⟨k,v⟩:=q
  have h':look ((τ k,NR τ v)::NU τ l) id=some o:=h
  rw[aV]at h'
  split at h'
  ·rename_i e
   exact⟨k,v,by rw[aV,if_pos rfl],e.symm,(Option.some.inj h').symm⟩
  ·rename_i e
   obtain⟨i,o0,h1,h2,h3⟩:=ih h'
   refine⟨i,o0,?_,h2,h3⟩
   rw[aV,if_neg (fun e1=>e (by rw[e1,h2]))]; exact h1
theorem ZT: ∀ {l:List Nat} {hp:List (Nat×PO)} {id:Nat} {o:PO},look (NV l++hp) id=some o→(o= .dead∧id∈l)∨(id∉ l∧look hp id=some o):=by
 intro l
 induction l with
 |nil=>intro hp id o h; exact .inr ⟨by simp,h⟩
 |cons x l ih=>
  intro hp id o h
  have h':look ((x,PO.dead)::(NV l++hp)) id=some o:=h
  rw[aV]at h'
  split at h'
  ·rename_i e; exact .inl ⟨(Option.some.inj h').symm,by simp[e]⟩
  ·rename_i e
   rcases ih h' with⟨h1,h2⟩|⟨h1,h2⟩
   ·exact .inl ⟨h1,List.mem_cons_of_mem _ h2⟩
   ·exact .inr ⟨by simp only[List.mem_cons,not_or]; exact⟨Ne.symm e,h1⟩,h2⟩
theorem aP.back(hr:aP B ρ s a w) {l r:List Nat}(hl: ∀x∈l,∃t y,look s.hp x=some (.obj t y)) {nx n:Nat}(hlt: ∀x∈l,x<nx)(hnx: ∀id,nx≤id→id<nx+n→ρ id=none)
  {ρ0:Rho} (h0: ∀i,i<l.length→ρ0 i=(l[i]?).bind ρ.f) (hW0: ∀b,ρ0.W b→ ∃x∈l++r,∃o loc,look s.hp x=some o∧o≠ .dead∧ρ x=some loc∧loc.blk=b) (hA0:ρ0.A=ρ.A)
  {ρo:Rho} {so:DS} {a1:Act} (hro:aP ⟨w,ρ0.W⟩ ρo so a1 w') (L:Later ρ0 w ρo w') (hkeys: ∀i o,look so.hp i=some o→i<l.length+n) (hfr: ∀i,l.length+n≤i→ρo i=none):
  ∃ρ3,aP B ρ3 { s with hp:=NU (ofC l.length nx l) so.hp++(NV (l++(r++List.range' nx n))++s.hp) } a w'∧Later ρ w ρ3 w'∧(∀i loc,ρo i=some loc→ρ3 (ofC l.length nx l i)=some loc)∧ρ3.A=ρo.A∧ ∀id,id<nx∨nx+n≤id→ρ3 id=ρ id:=by
 have hblt: ∀a b:Nat,Nat.blt a b=true↔a<b:=fun a b=>sU
 have hofl: ∀i,i<l.length→ ∃x,l[i]?=some x∧x∈l∧ofC l.length nx l i=x:=by
  intro i hi
  refine⟨l[i],List.getElem?_eq_getElem hi,List.getElem_mem hi,?_⟩
  unfold ofC
  rw[(hblt _ _).2 hi,cond_true,List.getD_eq_getElem?_getD,List.getElem?_eq_getElem hi]; rfl
 have hofr: ∀i,l.length≤i→ofC l.length nx l i=nx+(i-l.length):=by
  intro i hi
  unfold ofC
  have:Nat.blt i l.length=false:=by
   cases hb:Nat.blt i l.length
   ·rfl
   ·have:=(hblt _ _).1 hb; omega
  rw[this]; rfl
 have hobj: ∀x∈l,∃o loc,look s.hp x=some o∧o≠ .dead∧ρ x=some loc:=by
  intro x hx
  obtain⟨t,y,hy⟩:=hl x hx
  rcases hr.obj x _ hy with(h|⟨_,_,_,_,_,h⟩)|⟨loc,h1,h2⟩
  ·cases h
  ·cases h
  ·exact⟨_,loc,hy,(by intro e; cases e),h1⟩
 let ρ3:Rho:=⟨fun id=>if nx≤id∧id<nx+n then ρo (l.length+(id-nx))else ρ id,fun b=>(ρ.W b∧ ¬ρ0.W b)∨ρo.W b,ρo.A,fun b hb=>by
  rcases hb with⟨h1,h2⟩|h1
  ·exact L.upA b (hr.ownA b (ρ.sub b h1)) (by rw[hA0]; exact ρ.sub b h1) h2
  ·exact ρo.sub b h1⟩
 have hold: ∀id,id<nx∨nx+n≤id→ρ3 id=ρ id:=fun id h=>if_neg (by omega)
 have hτ: ∀i,i<l.length+n→ρ3 (ofC l.length nx l i)=ρo i:=by
  intro i hi
  by_cases hil:i<l.length
  ·obtain⟨x,h1,h2,h3⟩:=hofl i hil
   obtain⟨o,loc,_,_,h4⟩:=hobj x h2
   rw[h3,hold x (.inl (hlt x h2)),h4]
   have:ρ0 i=some loc:=by rw[h0 i hil,h1]; exact h4
   exact(L.up i loc this).symm
  ·rw[hofr i (by omega)]
   show(if _ then _ else _)=_
   rw[if_pos (by omega)]
   congr 1; omega
 have hWsub: ∀b,ρ0.W b→ρ.W b:=by
  intro b hb
  obtain⟨x,_,o,loc,h1,h2,h3,rfl⟩:=hW0 b hb
  exact(hr.live h1 h2 h3).writes h2
 have LL:Later ρ w ρ3 w':=by
  refine⟨L.size,fun id loc h=>?_,fun b h=>?_,fun b h=>?_,fun b hb h1 h2=>?_,fun b hb h=>?_⟩
  ·rw[hold id]
   ·exact h
   ·rcases Nat.lt_or_ge id nx with h1|h1
    ·exact .inl h1
    ·rcases Nat.lt_or_ge id (nx+n)with h2|h2
     ·rw[hnx id h1 h2]at h; cases h
     ·exact .inr h2
  ·have:=L.downA b h
   rw[hA0]at this; exact this
  ·rcases h with⟨h1,_⟩|h1
   ·exact .inl h1
   ·exact(L.downW b h1).imp_left (hWsub b)
  ·exact L.upA b hb (by rw[hA0]; exact h1) (fun h=>h2 (hWsub b h))
  ·exact L.keep b hb (fun h1=>h (hWsub b h1))
 have hren: ∀i loc,ρo i=some loc→ρ3 (ofC l.length nx l i)=some loc:=by
  intro i loc h
  rw[hτ i]
  ·exact h
  ·rcases Nat.lt_or_ge i (l.length+n)with h1|h1
   ·exact h1
   ·rw[hfr i h1]at h; cases h
 have src: ∀id o,look (NU (ofC l.length nx l) so.hp++(NV (l++(r++List.range' nx n))++s.hp)) id=some o→o= .dead∨(∃i o0,look so.hp i=some o0∧id=ofC l.length nx l i∧o=NR (ofC l.length nx l) o0)∨
   (id∉ l++r∧(id<nx∨nx+n≤id)∧look s.hp id=some o):=by
  intro id o h
  rcases Qq h with h|h
  ·exact .inr (.inl (ZR h))
  ·rcases ZT h with⟨h1,_⟩|⟨h1,h2⟩
   ·exact .inl h1
   ·simp only[List.mem_append,List.mem_range'_1,not_or,not_and]at h1
    refine .inr (.inr ⟨by simp only[List.mem_append,not_or]; exact⟨h1.1,h1.2.1⟩,?_,h2⟩)
    have:=h1.2.2
    rcases Nat.lt_or_ge id nx with h3|h3
    ·exact .inl h3
    ·exact .inr (by have:=this h3; omega)
 have hfar: ∀id o loc,id∉ l++r→look s.hp id=some o→o≠ .dead→ρ id=some loc→ ¬ρ0.W loc.blk:=by
  intro id o loc h1 h2 h3 h4 h5
  obtain⟨x,hx,o',loc',h6,h7,h8,h9⟩:=hW0 _ h5
  exact h1 (by rw[hr.inj id x o o' loc loc' h2 h6 h3 h7 h4 h8 h9.symm]; exact hx)
 have cross: ∀i o0 loc id o loc',look so.hp i=some o0→o0≠ .dead→ρo i=some loc→id∉ l++r→look s.hp id=some o→o≠ .dead→ρ id=some loc'→loc.blk≠loc'.blk:=by
  intro i o0 loc id o loc' h1 h2 h3 h4 h5 h6 h7 h8
  rcases L.downW _ ((hro.live h1 h2 h3).writes h2)with h|h
  ·exact hfar id o loc' h4 h5 h6 h7 (by rw[←h8]; exact h)
  ·have:=hr.own id loc' h7; omega
 refine⟨ρ3,⟨hr.defers,hr.tmps,fun t pv h=>?_,fun id o h=>?_,fun id id' o o' loc loc' h1 h2 d1 d2 h3 h4 h5=>?_,fun id loc h=>?_,fun b h=>hro.ownA b h,?_,fun b h=>?_⟩,LL,hren,rfl,hold⟩
 ·obtain⟨v,h1,h2⟩:=hr.env t pv h
  exact⟨v,h1,h2.later LL⟩
 ·rcases src id o h with rfl|⟨i,o0,h1,rfl,rfl⟩|⟨h1,hid,h2⟩
  ·exact .inl (.inl rfl)
  ·rcases hro.obj i o0 h1 with h2|⟨loc,h2,h3⟩
   ·rw[hτ i (hkeys i o0 h1)]
    exact .inl (Qr h2)
   ·exact .inr ⟨loc,hren i loc h2,OR.ren (ρ:=ρo) (ρ':=ρ3) rfl hren (fun h=>.inr h) h3⟩
  ·rw[hold id hid]
   rcases hr.obj id o h2 with h3|⟨loc,h3,h4⟩
   ·exact .inl h3
   ·by_cases hd:o= .dead
    ·exact .inl (.inl hd)
    ·have hnw:=hfar id o loc h1 h2 hd h3
     exact .inr ⟨loc,h3,h4.later1 LL (fun hd=>.inl ⟨h4.writes hd,hnw⟩) (L.keep _ (hr.own id loc h3) hnw)⟩
 ·rcases src id o h1 with rfl|⟨i,o0,e1,rfl,rfl⟩|⟨e1,hid,e2⟩
  ·exact absurd rfl d1
  ·have di:o0≠ .dead:=fun e=>d1 (by rw[e]; rfl)
   rw[hτ i (hkeys i o0 e1)]at h3
   rcases src id' o' h2 with rfl|⟨j,o1,f1,rfl,rfl⟩|⟨f1,hid',f2⟩
   ·exact absurd rfl d2
   ·have dj:o1≠ .dead:=fun e=>d2 (by rw[e]; rfl)
    rw[hτ j (hkeys j o1 f1)]at h4
    rw[hro.inj i j o0 o1 loc loc' e1 f1 di dj h3 h4 h5]
   ·rw[hold id' hid']at h4
    exact absurd h5 (cross i o0 loc id' o' loc' e1 di h3 f1 f2 d2 h4)
  ·rw[hold id hid]at h3
   rcases src id' o' h2 with rfl|⟨j,o1,f1,rfl,rfl⟩|⟨f1,hid',f2⟩
   ·exact absurd rfl d2
   ·have dj:o1≠ .dead:=fun e=>d2 (by rw[e]; rfl)
    rw[hτ j (hkeys j o1 f1)]at h4
    exact absurd h5.symm (cross j o1 loc' id o loc f1 dj h4 e1 e2 d1 h3)
   ·rw[hold id' hid']at h4
    exact hr.inj id id' o o' loc loc' e2 f2 d1 d2 h3 h4 h5
 ·by_cases hin:nx≤id∧id<nx+n
  ·have:ρ3 id=ρo (l.length+(id-nx)):=if_pos hin
   rw[this]at h
   exact hro.own _ loc h
  ·rw[hold id (by omega)]at h
   exact Nat.lt_of_lt_of_le (hr.own id loc h) L.size
 ·exact⟨hro.base.os.trans hr.base.os,hro.base.tape.trans hr.base.tape,hro.base.output.trans hr.base.output,fun a ha hm=>(hro.base.froz a (Nat.lt_of_lt_of_le ha hr.base.size) (fun h=>by
   rcases hr.may _ (hWsub _ h)with h1|h1
   ·exact hm h1
   ·omega)).trans (hr.base.froz a ha hm),Nat.le_trans hr.base.size hro.base.size⟩
 ·rcases h with⟨h1,_⟩|h1
  ·exact hr.may b h1
  ·rcases hro.may b h1 with h2|h2
   ·exact hr.may b (hWsub b h2)
   ·exact .inr (Nat.le_trans hr.base.size h2)
end
def JM:List (Nat×Pat)→Nat→Bool
 | [],_=>true
 |q::l,i=>Nat.beq q.1 i&&JM l (i+1)
def okS(k:Nat)(ish:Shape)(outs:List Shape):Bool:=
 ish.ok&&JM ish.sl 0&&outs.all fun sh=>sh.ok&&JM sh.sl 0&&Nat.beq sh.sl.length k&&Nat.ble ish.lo sh.lo
theorem WL {u hp:List (Nat×PO)} :hpU u (look hp)=look (u++hp):=by
 funext i
 induction u with
 |nil=>rfl
 |cons q u ih=>
  obtain⟨k,v⟩:=q
  have e:look (((k,v)::u)++hp) i=if k=i then some v else look (u++hp) i:=by rw[List.cons_append,aV]
  rw[e,←ih]
  unfold hpU
  rw[aV]
  by_cases h:k=i
  ·rw[if_pos h,if_pos h]
  ·rw[if_neg h,if_neg h]
theorem VPs.length {ρ:Rho} {w:World} : ∀ {l:List PV} {vs:List Value},VPs ρ w l vs→l.length=vs.length
 | [],[],_=>rfl
 |_::_,_::_,h=>by simp[VPs.length h.2]
theorem VPs.laterS {ρ ρ':Rho} {w w':World}(L:Later ρ w ρ' w'): ∀ {l:List PV} {vs:List Value},VPs ρ w l vs→VPs ρ' w' l vs
 | [],[],_=>trivial
 |_::_,_::_,h=>⟨h.1.later L,VPs.laterS L h.2⟩
theorem VPs.append {ρ:Rho} {w:World} : ∀ {l l':List PV} {vs vs':List Value},VPs ρ w l vs→VPs ρ w l' vs'→VPs ρ w (l++l') (vs++vs')
 | [],_,[],_,_,h=>h
 |_::_,_,_::_,_,h,h'=>⟨h.1,VPs.append h.2 h'⟩
theorem VRs.of {ρ:Rho} {w:World} : ∀ {l:List V} {vs:List Value},l.length=vs.length→(∀(j:Nat) x v,l[j]?=some x→vs[j]?=some v→VR ρ w x v)→VRs ρ w l vs
 | [],[],_,_=>trivial
 |x::l,v::vs,h,h'=>⟨h' 0 x v rfl rfl,VRs.of (by simpa using h) fun j x v h1 h2=>h' (j+1) x v (by simpa using h1) (by simpa using h2)⟩
theorem VRs.pvs {ρ:Rho} {w:World} : ∀ {l:List V} {vs:List Value},VRs ρ w l vs→VPs ρ w (l.map .v) vs
 | [],[],_=>trivial
 |_::_,_::_,h=>⟨h.1,VRs.pvs h.2⟩
theorem BA: ∀ {l:List (Nat×Pat)} {x:Xs l},(bY l x).length=l.length
 | [],_=>rfl
 |_::l,x=>by simp[bY,BA (l:=l)]
theorem ZU: ∀ {l:List (Nat×Pat)} {xs:Xs l} {i:Nat},JM l i=true→ ∀(j:Nat) v,(bY l xs)[j]?=some v→look (TV l xs) (i+j)=some (.v v):=by
 intro l
 induction l with
 |nil=>intro xs i _ j v h; simp[bY]at h
 |cons q l ih=>
  intro xs i h j v hj
  simp only[JM,Bool.and_eq_true]at h
  have e:=Nat.eq_of_beq_eq_true h.1
  simp only[TV]
  rw[aV]
  cases j with
  |zero=>simp only[bY,List.getElem?_cons_zero,Option.some.injEq]at hj; subst hj; rw[if_pos (by omega)]
  |succ j=>
   simp only[bY,List.getElem?_cons_succ]at hj
   rw[if_neg (by omega),←ih h.2 j v hj]
   congr 1; omega
theorem WM {B:Base} {ρ:Rho} {sh:Shape} {n:Nat} {x:sh.X} {a:Act} {w:World}(hr:aP B ρ (sh.mkS n x) a w)(hs:JM sh.sl 0=true) {vs:List Value}(ha:a.tmps=vs.toArray)(hl:sh.sl.length=vs.length):
  VRs ρ w (bY sh.sl x.1) vs:=by
 refine VRs.of (by rw[BA]; exact hl) fun j y v h1 h2=>?_
 have h3:=ZU hs j y h1
 rw[Nat.zero_add]at h3
 obtain⟨v',h4,h5⟩:=hr.env j _ h3
 rw[ha]at h4
 have h6:vs[j]?=some v':=by simpa using h4
 rw[h2]at h6; cases h6
 exact h5
section
variable {B:Base} {ρ:Rho} {s:DS} {a:Act} {w:World}
theorem II: ∀ {sl:List (Nat×Pat)} {ps:List PV} {vs:List Value} {ps':List PV} {u:Upd} {s:DS} {ρ:Rho},aP B ρ s a w→VPs ρ w ps vs→lu sl ps s.h=some (ps',u)→
  ∃ρ',aP B ρ' { s with hp:=u++s.hp } a w∧Later ρ w ρ' w∧ρ'.f=ρ.f∧VPs ρ' w ps' vs:=by
 intro sl
 induction sl with
 |nil=>
  intro ps vs ps' u s ρ hr hv h
  cases ps with
  |nil=>cases h; exact⟨ρ,hr,Later.refl _ _,rfl,hv⟩
  |cons _ _=>cases h
 |cons q l ih=>
  intro ps vs ps' u s ρ hr hv h
  cases ps with
  |nil=>cases h
  |cons p ps=>
   cases vs with
   |nil=>exact hv.elim
   |cons v vs=>
    simp only[lu]at h
    cases hb:WK q.2
    ·rw[hb]at h; simp only[cond_false]at h
     split at h
     ·rename_i ps1 u1 h1
      cases h
      obtain⟨ρ2,g1,g2,g3,g4⟩:=ih hr hv.2 h1
      exact⟨ρ2,g1,g2,g3,hv.1.later g2,g4⟩
     ·cases h
    ·rw[hb]at h; simp only[cond_true]at h
     split at h
     ·rename_i p1 u1 h1
      split at h
      ·rename_i ps2 u2 h2
       cases h
       obtain⟨ρ1,g1,g2,g3,g4⟩:=vw hr (show VPs ρ w [p] [v]from⟨hv.1,trivial⟩) h1
       have e:hpU u1 s.h=look (u1++s.hp):=WL
       rw[e]at h2
       obtain⟨ρ2,k1,k2,k3,k4⟩:=ih (s:= { s with hp:=u1++s.hp }) g1 (VPs.laterS g2 hv.2) h2
       refine⟨ρ2,by simpa using k1,g2.trans k2,k3.trans g3,?_⟩
       exact VPs.append (vs:=[v]) (VPs.laterS k2 g4) k4
      ·cases h
     ·cases h
theorem Qs: ∀ {sl:List (Nat×Pat)} {ps ps':List PV} {u:Upd} {h:Heap},lu sl ps h=some (ps',u)→ps.length=sl.length:=by
 intro sl
 induction sl with
 |nil=>
  intro ps ps' u h hf
  cases ps with
  |nil=>rfl
  |cons _ _=>cases hf
 |cons q l ih=>
  intro ps ps' u h hf
  cases ps with
  |nil=>cases hf
  |cons p ps=>
   simp only[lu]at hf
   cases hb:WK q.2
   ·rw[hb]at hf; simp only[cond_false]at hf
    split at hf
    ·rename_i h1; simp[ih h1]
    ·cases hf
   ·rw[hb]at hf; simp only[cond_true]at hf
    split at hf
    ·split at hf
     ·rename_i h2; simp[ih h2]
     ·cases hf
    ·cases hf
theorem WO: ∀ {sl:List (Nat×Pat)} {ps:List PV} {h h':Heap},(∀id∈dL ps,h id=h' id)→lu sl ps h=lu sl ps h':=by
 intro sl
 induction sl with
 |nil=>intro ps h h' _; cases ps<;>rfl
 |cons q l ih=>
  intro ps h h' hh
  cases ps with
  |nil=>rfl
  |cons p ps=>
   rw[wC]at hh
   have h1: ∀id∈dL ps,h id=h' id:=fun id hid=>hh id (List.mem_append_right _ hid)
   have h2: ∀id∈dL [p],h id=h' id:=fun id hid=>hh id (List.mem_append_left _ hid)
   simp only[lu]
   rw[Fj h2,ih h1]
   cases WK q.2
   ·rfl
   ·simp only[cond_true]
    split
    ·rename_i p1 u1 _
     have: ∀id∈dL ps,hpU u1 h id=hpU u1 h' id:=by
      intro id hid
      unfold hpU
      rw[h1 id hid]
     rw[ih this]
    ·rfl
theorem WQ: ∀ {sl:List (Nat×Pat)} {ps ps':List PV} {u:Upd} {h:Heap},lu sl ps h=some (ps',u)→ ∀x∈u,x.1∈dL ps:=by
 intro sl
 induction sl with
 |nil=>
  intro ps ps' u h hf x hx
  cases ps with
  |nil=>cases hf; cases hx
  |cons _ _=>cases hf
 |cons q l ih=>
  intro ps ps' u h hf x hx
  cases ps with
  |nil=>cases hf
  |cons p ps=>
   rw[wC]
   simp only[lu]at hf
   cases hb:WK q.2
   ·rw[hb]at hf; simp only[cond_false]at hf
    split at hf
    ·rename_i h1; cases hf; exact List.mem_append_right _ (ih h1 x hx)
    ·cases hf
   ·rw[hb]at hf; simp only[cond_true]at hf
    split at hf
    ·rename_i p1 u1 h1
     split at hf
     ·rename_i ps2 u2 h2
      cases hf
      rcases List.mem_append.1 hx with hx|hx
      ·exact List.mem_append_right _ (ih h2 x hx)
      ·exact List.mem_append_left _ (Fq h1 x hx)
     ·cases hf
    ·cases hf
theorem Kw {h:Heap} {ob:List (Nat×Pat)} : ∀ {n i:Nat} {b:List (Nat×Nat)} {l r:List Nat},NS h ob n i b=some (l,r)→l.length=n:=by
 intro n
 induction n with
 |zero=>intro i b l r hb; cases hb; rfl
 |succ n ih=>
  intro i b l r hb
  simp only[NS]at hb
  split at hb
  ·split at hb
   ·split at hb
    ·split at hb
     ·split at hb
      ·rename_i h1; cases hb; simp[ih h1]
      ·cases hb
     ·cases hb
    ·cases hb
   ·cases hb
  ·cases hb
theorem a2g {h h':Heap} {ob:List (Nat×Pat)} : ∀ {n i:Nat} {b:List (Nat×Nat)} {l r:List Nat},NS h ob n i b=some (l,r)→(∀x∈l,h x=h' x)→NS h' ob n i b=some (l,r):=by
 intro n
 induction n with
 |zero=>intro i b l r hb _; exact hb
 |succ n ih=>
  intro i b l r hb hh
  simp only[NS]at hb⊢
  split at hb
  ·rename_i x hx
   split at hb
   ·rename_i t y hy
    split at hb
    ·rename_i p hp
     split at hb
     ·rename_i e
      split at hb
      ·rename_i l1 r1 h1
       cases hb
       rw[←hh x (List.mem_cons_self ..),hy]
       simp only
       rw[dif_pos e,ih h1 fun z hz=>hh z (List.mem_cons_of_mem _ hz)]
      ·cases hb
     ·cases hb
    ·cases hb
   ·cases hb
  ·cases hb
theorem Pj {K:Nat} : ∀ {l:List Nat} {k:Nat},l.Nodup→ ∀(i x:Nat),l[i]?=some x→toC K l k x=k+i:=by
 intro l
 induction l with
 |nil=>intro k _ i x h; simp at h
 |cons y l ih=>
  intro k hnd i x h
  simp only[toC]
  cases i with
  |zero=>simp only[List.getElem?_cons_zero,Option.some.injEq]at h; subst h; simp
  |succ i=>
   simp only[List.getElem?_cons_succ]at h
   have hne:y≠x:=fun e=>by subst e; exact(List.nodup_cons.1 hnd).1 (List.mem_of_getElem? h)
   have:Nat.beq y x=false:=by
    cases hb:Nat.beq y x
    ·rfl
    ·exact absurd (Nat.eq_of_beq_eq_true hb) hne
   rw[this,cond_false,ih (List.nodup_cons.1 hnd).2 i x h]; omega
theorem Pk {K:Nat} : ∀ {l:List Nat} {k x:Nat},x∉ l→toC K l k x=K+x:=by
 intro l
 induction l with
 |nil=>intro k x _; rfl
 |cons y l ih=>
  intro k x h
  simp only[List.mem_cons,not_or]at h
  simp only[toC]
  have:Nat.beq y x=false:=by
   cases hb:Nat.beq y x
   ·rfl
   ·exact absurd (Nat.eq_of_beq_eq_true hb).symm h.1
  rw[this,cond_false,ih h.2]
theorem JN {σ:Nat→Nat} {h:Heap} : ∀ {l:List Nat} {i:Nat} {o:PO},look (NT σ h l) i=some o→ ∃x∈l,∃o0,h x=some o0∧i=σ x∧o=NR σ o0:=by
 intro l
 induction l with
 |nil=>intro i o h; cases h
 |cons y l ih=>
  intro i o hl
  simp only[NT]at hl
  split at hl
  ·rename_i o1 h1
   rw[aV]at hl
   split at hl
   ·rename_i e
    exact⟨y,List.mem_cons_self .., o1,h1,e.symm,(Option.some.inj hl).symm⟩
   ·obtain⟨x,hx,h2⟩:=ih hl
    exact⟨x,List.mem_cons_of_mem _ hx,h2⟩
  ·obtain⟨x,hx,h2⟩:=ih hl
   exact⟨x,List.mem_cons_of_mem _ hx,h2⟩
theorem a2h {σ:Nat→Nat} {h h':Heap} : ∀ {l:List Nat},(∀x∈l,h x=h' x)→NT σ h l=NT σ h' l:=by
 intro l
 induction l with
 |nil=>intro _; rfl
 |cons y l ih=>
  intro hh
  simp only[NT]
  rw[hh y (List.mem_cons_self ..),ih fun x hx=>hh x (List.mem_cons_of_mem _ hx)]
theorem Qt {h:Heap} {x:Nat}(hx:isObj h x=true): ∃t y,h x=some (.obj t y):=by
 unfold isObj at hx
 split at hx
 ·rename_i t y h1; exact⟨t,y,h1⟩
 ·cases hx
theorem ZV {h:Heap} {x:Nat}(hx:isRow h x=true): ∃o,h x=some o∧o.held=true:=by
 unfold isRow at hx
 split at hx
 ·rename_i o h1; exact⟨o,h1,hx⟩
 ·cases hx
theorem a2i(hr:aP B ρ s a w) {args:List PV} {vs:List Value}(hv:VPs ρ w args vs) {l r:List Nat} {K:Nat}(hK:l.length≤K)(hnd:l.Nodup)(hl: ∀x∈l,isObj s.h x=true)(hrw: ∀x∈r,isRow s.h x=true):
  ∃ρc,aP ⟨w,ρc.W⟩ ρc (JL K l r args s.h) ⟨vs.toArray,[]⟩ w∧ρc.A=ρ.A∧(∀i,i<l.length→ρc i=(l[i]?).bind ρ.f)∧
   ∀b,ρc.W b→ ∃x∈l++r,∃o loc,look s.hp x=some o∧o≠ .dead∧ρ x=some loc∧loc.blk=b:=by
 let W:Nat→Prop:=fun b=> ∃x∈l++r,∃o loc,look s.hp x=some o∧o≠ .dead∧ρ x=some loc∧loc.blk=b
 have hWA: ∀b,W b→ρ.A b:=by
  rintro b ⟨x,_,o,loc,h1,h2,h3,rfl⟩
  exact ρ.sub _ ((hr.live h1 h2 h3).writes h2)
 let ρc:Rho:=⟨fun i=>if i<l.length then(l[i]?).bind ρ.f else if i<K then none else if(i-K)∈l then none else ρ (i-K),W,ρ.A,hWA⟩
 have hσ: ∀id,ρc (toC K l 0 id)=ρ id:=by
  intro id
  by_cases h:id∈l
  ·obtain⟨i,hi⟩:=List.getElem?_of_mem h
   have hlt:=(List.getElem?_eq_some_iff.1 hi).1
   rw[Pj hnd i id hi,Nat.zero_add]
   show(if _ then _ else _)=_
   rw[if_pos hlt,hi]; rfl
  ·rw[Pk h]
   show(if _ then _ else _)=_
   rw[if_neg (by omega),if_neg (by omega),show K+id-K=id by omega,if_neg h]
 have hinj: ∀x y,toC K l 0 x=toC K l 0 y→x=y:=by
  intro x y e
  by_cases hx:x∈l
  ·obtain⟨i,hi⟩:=List.getElem?_of_mem hx
   have hil:=(List.getElem?_eq_some_iff.1 hi).1
   rw[Pj hnd i x hi]at e
   by_cases hy:y∈l
   ·obtain⟨j,hj⟩:=List.getElem?_of_mem hy
    rw[Pj hnd j y hj]at e
    obtain rfl:i=j:=by omega
    rw[hi]at hj; exact Option.some.inj hj
   ·rw[Pk hy]at e; omega
  ·rw[Pk hx]at e
   by_cases hy:y∈l
   ·obtain⟨j,hj⟩:=List.getElem?_of_mem hy
    have hjl:=(List.getElem?_eq_some_iff.1 hj).1
    rw[Pj hnd j y hj]at e; omega
   ·rw[Pk hy]at e; omega
 have hren: ∀id loc,ρ id=some loc→ρc (toC K l 0 id)=some loc:=fun id loc h=>by rw[hσ]; exact h
 have hnd': ∀x∈l++r,∀o,s.h x=some o→o≠ .dead:=by
  intro x hx o ho e
  subst e
  rcases List.mem_append.1 hx with h|h
  ·obtain⟨t,y,h1⟩:=Qt (hl x h); rw[h1]at ho; cases ho
  ·obtain⟨o1,h1,h2⟩:=ZV (hrw x h); rw[h1]at ho; cases ho; cases h2
 refine⟨ρc,⟨rfl,?_,fun t pv h=>?_,fun id o h=>?_,fun id id' o o' loc loc' h1 h2 d1 d2 h3 h4 h5=>?_,fun id loc h=>?_,hr.ownA,⟨rfl,rfl,rfl,fun _ _ _=>rfl,Nat.le_refl _⟩,fun b h=>.inl h⟩,rfl,fun i hi=>if_pos hi,fun b h=>h⟩
 ·simp only[JL,hv.length,List.size_toArray]; omega
 ·obtain⟨_,h1⟩:=Bz _ 0 t pv h
  obtain⟨v,h2,h3⟩:=(VPs.ren (ρ:=ρ) (ρ':=ρc) (τ:=toC K l 0) rfl hren hv).get t pv (by simpa using h1)
  exact⟨v,by simpa using h2,h3⟩
 ·obtain⟨x,hx,o0,h1,rfl,rfl⟩:=JN h
  rw[hσ]
  rcases hr.obj x o0 h1 with h2|⟨loc,h2,h3⟩
  ·exact .inl (Qr h2)
  ·exact .inr ⟨loc,h2,OR.ren (ρ:=ρ) (ρ':=ρc) rfl hren (fun _=>⟨x,hx,o0,loc,h1,hnd' x hx o0 h1,h2,rfl⟩) h3⟩
 ·obtain⟨x,hx,o0,e1,rfl,rfl⟩:=JN h1
  obtain⟨y,hy,o1,e2,rfl,rfl⟩:=JN h2
  rw[hσ]at h3 h4
  rw[hr.inj x y o0 o1 loc loc' e1 e2 (hnd' x hx o0 e1) (hnd' y hy o1 e2) h3 h4 h5]
 ·have: ∃x,ρ x=some loc:=by
   change (if _ then _ else _)=_ at h
   split at h
   ·obtain⟨x,_,h2⟩:=Option.bind_eq_some_iff.1 h
    exact⟨x,h2⟩
   ·split at h
    ·cases h
    ·split at h
     ·cases h
     ·exact⟨_,h⟩
  obtain⟨x,hx⟩:=this
  exact hr.own x loc hx
end
theorem a2j {vs:List V} {s:DS} : ∀ {l:List Shape} {y:YsS l},a2e vs s l=some y→ ∃sh z,sh∈l∧a1a vs s sh=some z∧ ∀(R:Type) (K:(sh:Shape)→sh.X→Option R),a2f l y K=K sh z:=by
 intro l
 induction l with
 |nil=>intro y h; cases h
 |cons q l ih=>
  intro y h
  cases l with
  |nil=>exact⟨q,y,List.mem_cons_self .., h,fun R K=>rfl⟩
  |cons r l=>
   simp only[a2e]at h
   split at h
   ·rename_i x hx; cases h
    exact⟨q,x,List.mem_cons_self .., hx,fun R K=>rfl⟩
   ·split at h
    ·rename_i y' hy'; cases h
     obtain⟨sh,z,h1,h2,h3⟩:=ih hy'
     exact⟨sh,z,List.mem_cons_of_mem _ h1,h2,fun R K=>h3 R K⟩
    ·cases h
theorem a3X {R:Type} : ∀ {l:List Shape} {y:YsS l} {K:(sh:Shape)→sh.X→Option Ans} {K':K3 R},a2f l y (fun sh x=>(K sh x).bind fun r=>K' r.1 r.2.1 r.2.2)=(a2f l y K).bind fun r=>K' r.1 r.2.1 r.2.2:=by
 intro l
 induction l with
 |nil=>intro y; exact nomatch y
 |cons q l ih=>
  intro y K K'
  cases l with
  |nil=>rfl
  |cons r l=>
   cases y with
   |inl x=>rfl
   |inr y=>exact ih
theorem a2k {α:Type} : ∀ {l:List Shape} {y:YsS l} {K:(sh:Shape)→sh.X→Option α} {r:α},a2f l y K=some r→ ∃sh z,sh∈l∧K sh z=some r:=by
 intro l
 induction l with
 |nil=>intro y; exact nomatch y
 |cons q l ih=>
  intro y K r h
  cases l with
  |nil=>exact⟨q,y,List.mem_cons_self .., h⟩
  |cons q' l=>
   cases y with
   |inl x=>exact⟨q,x,List.mem_cons_self .., h⟩
   |inr y=>
    obtain⟨sh,z,h1,h2⟩:=ih h
    exact⟨sh,z,List.mem_cons_of_mem _ h1,h2⟩
theorem ZW {k:Nat} {outs:List Shape} {pv:PV} {s:DS} {y:YsS outs}(h:iy k outs pv s=some y) {ρ:Rho} {w:World} {v:Value}(hv:VP ρ w pv v):
  ∃vs us,a2e vs s outs=some y∧VRs ρ w vs us∧vs.length=k∧ ∀(ρ':Rho) (w':World) (ls:List V),ls.length=k→VRs ρ' w' ls us→VP ρ' w' (OJ ls) v:=by
 unfold iy at h
 split at h
 ·rename_i x
  cases hb:Nat.beq k 1
  ·rw[hb]at h; cases h
  ·rw[hb]at h
   have:=Nat.eq_of_beq_eq_true hb
   subst this
   refine⟨[x],[v],h,⟨hv,trivial⟩,rfl,fun ρ' w' ls hl hls=>?_⟩
   match ls,hl,hls with
   | [y],_,hls=>exact hls.1
 ·rename_i vs
  cases hb:Nat.beq vs.length 1
  ·rw[hb]at h; simp only[cond_false]at h
   cases hb2:Nat.beq vs.length k
   ·rw[hb2]at h; cases h
   ·rw[hb2]at h
    have:=Nat.eq_of_beq_eq_true hb2
    subst this
    obtain⟨us,rfl,hus⟩:=hv
    refine⟨vs,us,h,hus,rfl,fun ρ' w' ls hl hls=>?_⟩
    have hne:ls.length≠1:=fun e=>by rw[←hl,e]at hb; cases hb
    have:OJ ls= .tup ls:=by
     match ls,hne with
     | [],_=>rfl
     | [x],h=>exact absurd rfl h
     |_::_::_,_=>rfl
    rw[this]
    exact⟨us,rfl,hls⟩
  ·rw[hb]at h; cases h
 ·cases h
theorem a3Y: ∀ {p:Pat} {x:p.X} {q:Nat×PO},q∈p.objs x→q.1∈p.ids:=by
 intro p
 induction p with
 |w e t id=>intro x q h; simp only[Pat.objs,List.mem_singleton]at h; subst h; simp[Pat.ids]
 |p a b iha ihb=>
  intro x q h
  simp only[Pat.objs,List.mem_append]at h
  simp only[Pat.ids,List.mem_append]
  exact h.imp iha ihb
 |m kt vt id=>
  intro x q h
  simp only[Pat.objs,List.mem_singleton]at h; subst h; simp[Pat.ids]
 |_=>intro x q h; cases h
theorem Qu: ∀ {l:List (Nat×Pat)} {x:Xs l} {q:Nat×PO},q∈qZ l x→q.1∈l.flatMap fun q=>q.2.ids:=by
 intro l
 induction l with
 |nil=>intro x q h; cases h
 |cons p l ih=>
  intro x q h
  simp only[qZ,List.mem_append]at h
  simp only[List.flatMap_cons,List.mem_append]
  exact h.imp a3Y ih
theorem a3Z: ∀ {l:List (Nat×Pat)} {x:Xs l} {q:Nat×PO},q∈UN l x→ ∃p∈l,p.1=q.1:=by
 intro l
 induction l with
 |nil=>intro x q h; cases h
 |cons p l ih=>
  intro x q h
  simp only[UN]at h
  rcases List.mem_cons.1 h with rfl|h
  ·exact⟨p,List.mem_cons_self .., rfl⟩
  ·obtain⟨p',h1,h2⟩:=ih h
   exact⟨p',List.mem_cons_of_mem _ h1,h2⟩
theorem a1b {sh:Shape}(hok:sh.ok=true) {x:sh.X} {q:Nat×PO}(h:q∈mK sh x):q.1<sh.nx:=by
 unfold Shape.ok at hok
 simp only[Bool.and_eq_true]at hok
 obtain⟨⟨⟨⟨hn1,hn2⟩,hob⟩,hsl⟩,hlx⟩:=hok
 have hlx:=Nat.le_of_ble_eq_true hlx
 have hid: ∀i∈sh.ids,i<sh.nx:=by
  intro i hi
  have:=List.all_eq_true.1 hn2 i hi
  simp only[Bool.and_eq_true]at this
  exact sU.1 this.2
 simp only[mK,List.mem_append]at h
 rcases h with h|h|h
 ·obtain⟨p,h1,h2⟩:=a3Z h
  have:=List.all_eq_true.1 hob p h1
  simp only[Bool.and_eq_true]at this
  have:=sU.1 this.1
  omega
 ·exact hid _ (List.mem_append_left _ (Qu h))
 ·exact hid _ (List.mem_append_right _ (Qu h))
theorem Shape.ok_le {sh:Shape}(hok:sh.ok=true):sh.lo≤sh.nx:=by
 unfold Shape.ok at hok
 simp only[Bool.and_eq_true]at hok
 exact Nat.le_of_ble_eq_true hok.2
theorem U2 {sh:Shape} {args:List PV} {h:Heap} {p:acV}(hp:ZQ sh args h=some p): ∃l r,lu sh.sl args h=some (p.args,p.u)∧NS (hpU p.u h) sh.ob sh.lo 0 (Ch sh.sl p.args).1=some (l,r)∧p.l=l∧p.r=r++(Ch sh.sl p.args).2∧
  p.l.Nodup∧(∀x∈p.l,isObj (hpU p.u h) x=true)∧ ∀x∈p.r,isRow (hpU p.u h) x=true:=by
 unfold ZQ at hp
 split at hp
 ·rename_i args' u h1
  split at hp
  ·rename_i l r h2
   generalize hb:(_&&_)=b at hp
   cases b
   ·cases hp
   ·cases hp
    simp only[Bool.and_eq_true,List.all_eq_true]at hb
    exact⟨l,r,h1,h2,rfl,rfl,Ar hb.1.1.1,hb.1.2,hb.2⟩
  ·cases hp
 ·cases hp
theorem a4a {sh:Shape} {args:List PV} {h h':Heap} {p:acV}(hp:ZQ sh args h=some p)(hh: ∀id∈dL args++(p.l++p.r),h id=h' id):ZQ sh args h'=some p:=by
 have hf:lu sh.sl args h'=lu sh.sl args h:=(WO fun id hid=>hh id (List.mem_append_left _ hid)).symm
 unfold ZQ at hp⊢
 rw[hf]
 split at hp
 ·rename_i args' u h1
  split at hp
  ·rename_i l r h2
   generalize hb:(_&&_)=b at hp
   cases b
   ·cases hp
   ·cases hp
    have hl: ∀x∈l,hpU u h x=hpU u h' x:=fun x hx=>by unfold hpU; rw[hh x (List.mem_append_right _ (List.mem_append_left _ hx))]
    have hr: ∀x∈r++(Ch sh.sl args').2,hpU u h x=hpU u h' x:=fun x hx=>by unfold hpU; rw[hh x (List.mem_append_right _ (List.mem_append_right _ hx))]
    rw[a2g h2 hl]
    simp only
    have e1:l.all (isObj (hpU u h'))=l.all (isObj (hpU u h)):=by
     rw[Bool.eq_iff_iff,List.all_eq_true,List.all_eq_true]
     exact⟨fun g x hx=>by have:=g x hx; unfold isObj at this⊢; rw[hl x hx]; exact this,fun g x hx=>by have:=g x hx; unfold isObj at this⊢; rw[←hl x hx]; exact this⟩
    have e2:(r++(Ch sh.sl args').2).all (isRow (hpU u h'))=(r++(Ch sh.sl args').2).all (isRow (hpU u h)):=by
     rw[Bool.eq_iff_iff,List.all_eq_true,List.all_eq_true]
     exact⟨fun g x hx=>by have:=g x hx; unfold isRow at this⊢; rw[hr x hx]; exact this,fun g x hx=>by have:=g x hx; unfold isRow at this⊢; rw[←hr x hx]; exact this⟩
    rw[e1,e2,hb]; rfl
  ·cases hp
 ·cases hp
theorem cO {P:Program} {C:Cx}(hC:ay P C) {f:FuncId} {fn:Func} {lps:List (Nat×Lp)}(d:Nat)(hfn:aY P f fn lps)(k:Nat)(ish:Shape)(outs:List Shape)(impl:ish.X→Option (YsS outs))(hok:okS k ish outs=true)
  (himpl: ∀x:ish.X,bodyK C lps (denF C d) fn ((bY ish.sl x.1).map .v) (mK ish x) ish.nx (iy k outs)=impl x):aD P f (nM ish outs impl):=by
 unfold okS at hok
 simp only[Bool.and_eq_true,List.all_eq_true]at hok
 obtain⟨⟨hio,his⟩,hos⟩:=hok
 have hout: ∀sh∈outs,sh.ok=true∧JM sh.sl 0=true∧sh.sl.length=k∧ish.lo≤sh.lo:=by
  intro sh hsh
  obtain⟨⟨⟨h1,h2⟩,h3⟩,h4⟩:=hos sh hsh
  exact⟨h1,h2,Nat.eq_of_beq_eq_true h3,Nat.le_of_ble_eq_true h4⟩
 refine⟨fun args h h' nx r hh hr=>?_,fun args h nx r hr=>?_,fun R args h nx K=>?_,fun B ρ s a w nx args vargs r hr hnx hv h=>?_⟩
 ·simp only[nM]at hh hr⊢
  split at hr
  ·rename_i p hp
   rw[hp]at hh
   simp only at hh
   have hp':=a4a hp hh
   rw[hp']
   simp only
   refine⟨?_,trivial⟩
   have e:JL ish.nx p.l p.r p.args (hpU p.u h')=JL ish.nx p.l p.r p.args (hpU p.u h):=by
    unfold JL
    rw[a2h (h:=hpU p.u h') (h':=hpU p.u h) fun x hx=>by unfold hpU; rw[hh x (List.mem_append_right _ hx)]]
   rw[e]; exact hr
  ·cases hr
 ·simp only[nM]at hr⊢
  split at hr
  ·rename_i p hp
   obtain⟨l,r0,h1,h2,h3,h4,_⟩:=U2 hp
   have hll:p.l.length=ish.lo:=by rw[h3]; exact Kw h2
   generalize hb:p.l.all _=b at hr
   cases b
   ·cases hr
   ·simp only[cond_true]at hr
    split at hr
    ·split at hr
     ·obtain⟨sh,z,hsh,hk⟩:=a2k hr
      obtain⟨g1,g2,g3,g4⟩:=hout sh hsh
      have hle:=Shape.ok_le g1
      cases hk
      intro x hx
      simp only[List.mem_append]at hx
      rcases hx with hx|hx|hx
      ·simp only[NU,List.mem_map]at hx
       obtain⟨q,hq,rfl⟩:=hx
       have hlt:=a1b g1 hq
       simp only[ofC]
       cases hb2:Nat.blt q.1 ish.lo
       ·rw[cond_false]
        have: ¬q.1<ish.lo:=fun h=>by rw[sU.2 h]at hb2; cases hb2
        exact .inr ⟨by omega,by omega⟩
       ·rw[cond_true]
        have:=sU.1 hb2
        refine .inl (List.mem_append_right _ (List.mem_append_left _ ?_))
        rw[List.getD_eq_getElem?_getD,List.getElem?_eq_getElem (by omega)]
        exact List.getElem_mem _
      ·simp only[NV,List.mem_map,List.mem_append,List.mem_range'_1]at hx
       obtain⟨i,hi,rfl⟩:=hx
       rcases hi with hi|hi|hi
       ·exact .inl (List.mem_append_right _ (List.mem_append_left _ hi))
       ·exact .inl (List.mem_append_right _ (List.mem_append_right _ hi))
       ·exact .inr hi
      ·exact .inl (List.mem_append_left _ (WQ h1 x hx))
     ·cases hr
    ·cases hr
  ·cases hr
 ·simp only[nM]
  split
  ·generalize List.all _ _=b
   cases b
   ·rfl
   ·simp only[cond_true]
    split
    ·split
     ·rw[←a3X]; rfl
     ·rfl
    ·rfl
  ·rfl
 ·simp only[nM]at h
  split at h
  ·rename_i p hp
   obtain⟨l,r0,h1,h2,h3,h4,hnd,hobj,hrow⟩:=U2 hp
   have hll:p.l.length=ish.lo:=by rw[h3]; exact Kw h2
   generalize hb:p.l.all _=b at h
   cases b
   ·cases h
   ·simp only[cond_true]at h
    have hlt: ∀x∈p.l,x<nx:=fun x hx=>sU.1 (List.all_eq_true.1 hb x hx)
    split at h
    ·rename_i x hx
     split at h
     ·rename_i y hy
      obtain⟨ρ1,hr1,L1,f1,hv1⟩:=II hr hv h1
      have eh:hpU p.u s.h=look (p.u++s.hp):=WL
      rw[eh]at hobj hrow hx
      obtain⟨ρc,hrc,hAc,hfc,hWc⟩:=a2i (s:= { s with hp:=p.u++s.hp }) hr1 hv1 (K:=ish.nx) (by have:=Shape.ok_le hio; omega) hnd hobj hrow
      let ρ0:Rho:=⟨fun i=>if i<p.l.length then ρc i else none,ρc.W,ρc.A,ρc.sub⟩
      have L0:Later ρ0 w ρc w:=⟨Nat.le_refl _,(fun id loc h=>by
       change (if _ then _ else _)=_ at h
       split at h
       ·exact h
       ·cases h),fun _ h=>.inl h,fun _ h=>.inl h,fun _ _ h _=>h,fun _ _ _=>rfl⟩
      have F0: ∀k,p.l.length≤k→mD ρ0 k:=fun k hk id hid=>if_neg (by omega)
      obtain⟨ρ2,hr2,F2,K2⟩:=Shape.fold ish hio hx hrc
      have L2:=K2 ρ0 w L0 (F0 _ (by omega))
      have hargs:=(WM hr2 his (vs:=vargs) rfl (by rw[←Qs h1,hv.length])).pvs
      have hbody:=himpl x
      rw[hy]at hbody
      refine .inr ⟨hfn.enter _ _,?_⟩
      refine(Ao hC (Ap hC _) (Dq hC (Ap hC _) d) lps hfn.func hfn.blocks (s:=ish.mkS (JL ish.nx p.l p.r p.args (look (p.u++s.hp))).n x) hbody hr2 F2 hargs).mono ?_
      rintro e w' ⟨v,rfl,pv,s',ρ',a',hk,hr',hf',hv',L'⟩
      refine⟨v,rfl,?_⟩
      obtain⟨vs,us,k1,k2,k3,k4⟩:=ZW hk hv'
      obtain⟨sh,z,hsh,hz,hgo⟩:=a2j k1
      obtain⟨g1,g2,g3,g4⟩:=hout sh hsh
      have hle:=Shape.ok_le g1
      rw[hgo]at h
      cases h
      unfold a1a at hz
      split at hz
      ·rename_i ps u1 hfz
       obtain⟨ρ'',hr'',L'',_,hps⟩:=II hr' k2.pvs hfz
       have hr1':aP ⟨w,ρc.W⟩ ρ'' { s' with env:=numbered 0 ps,hp:=u1++s'.hp,n:=ps.length } ⟨us.toArray,[]⟩ w':=by
        refine⟨rfl,by simp[hps.length],fun t pv h=>?_,hr''.obj,hr''.inj,hr''.own,hr''.ownA,hr''.base,hr''.may⟩
        obtain⟨_,h5⟩:=Bz _ 0 t pv h
        obtain⟨v,h6,h7⟩:=hps.get t pv (by simpa using h5)
        exact⟨v,by simpa using h6,h7⟩
       obtain⟨ρo,hro,Fo,Ko⟩:=Shape.fold sh g1 hz hr1'
       have Lo:=Ko ρ0 w ((L2.trans L').trans L'') (F0 _ (by omega))
       have hvals:=WM hro g2 (vs:=us) rfl (by rw[g3,←k3,k2.length])
       have en:p.l.length+(sh.nx-ish.lo)=sh.nx:=by omega
       obtain⟨ρ3,b1,b2,b3,b4,b5⟩:=hr1.back (l:=p.l) (r:=p.r) (fun x hx=>Qt (hobj x hx)) (nx:=nx) (n:=sh.nx-ish.lo) hlt (fun id i1 i2=>by rw[f1]; exact hnx id i1 i2)
        (ρ0:=ρ0) (fun i hi=>by show(if _ then _ else _)=_; rw[if_pos hi]; exact hfc i hi) hWc hAc hro Lo (fun i o hio'=>by rw[en]; exact a1b (sh:=sh) (x:=z) g1 (q:=(i,o)) (lQ hio')) (fun i hi=>Fo i (by omega))
       refine⟨ρ3,⟨?_,L1.trans b2,?_,fun id hid=>by rw[b5 id hid,f1]⟩⟩
       ·rw[hll]at b1
        have e:(NU (ofC ish.lo nx p.l) (mK sh z)++(NV (p.l++(p.r++List.range' nx (sh.nx-ish.lo)))++p.u))++s.hp=NU (ofC ish.lo nx p.l) (mK sh z)++(NV (p.l++(p.r++List.range' nx (sh.nx-ish.lo)))++(p.u++s.hp)):=by
         simp only[List.append_assoc]
        simp only
        rw[e]
        exact b1
       ·rw[hll]at b3
        exact k4 ρ3 w' _ (by rw[List.length_map,BA,g3]) (VRs.ren b4 b3 hvals)
      ·cases hz
     ·cases h
    ·cases h
  ·cases h
end Go.Den
