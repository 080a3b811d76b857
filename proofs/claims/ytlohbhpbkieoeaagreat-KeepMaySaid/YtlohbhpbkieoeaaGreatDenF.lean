/-
 The plain reading of code: contracts by shapes.
-/
import Derived.Test.YtlohbhpbkieoeaaGreatDenE
set_option linter.unusedVariables false
set_option linter.unusedSimpArgs false
namespace Go.Den
def ren(τ:Nat->Nat):(t:Ty)->t.den->t.den
 | .pair a b,x=>bif a.nr&&b.nr then x else(ren τ a x.1,ren τ b x.2)
 | .arr _ t,f=>bif t.nr then f else λi=>ren τ t (f i)
 | .sl _,x=>match x with
  | .ms id p lo n=>.ms (τ id) p lo n
  | .nil=>.nil
  | .fz n f=>.fz n f
 | .ptr _,x=>match x with
  | .rf id p=>.rf (τ id) p
  | .nil=>.nil
  | .fz y=>.fz y
 | .fn,x=>match x with
  | .mk f c=>.mk f (c.map λq=>(q.1,τ q.2.1,q.2.2))
  | .nil=>.nil
 | .sp _,x=>x
 | .mp,x=>match x with
  |some id=>some (τ id)
  |none=>none
 | .int _,x=>x
 | .bool,x=>x
 | .str,x=>x
 | .unit,x=>x
 | .st _,x=>x
def a6K(τ:Nat->Nat)(v:V):V:=⟨v.1,ren τ v.1 v.2⟩
def a6L(τ:Nat->Nat):PV->PV| .un=>.un| .v v=>.v (a6K τ v)| .tup l=>.tup (l.map (a6K τ))| .dp id n=>.dp (τ id) n| .zr t=>.zr t
def xX(τ:Nat->Nat):PO->PO
 | .obj t x=>.obj t (ren τ t x)
 | .row sh e t n f=>.row sh e t n (bif sh then f else ren τ (.arr n t) f)
 | .mp k v l=>.mp k v l
 | .bag k t l out=>.bag k t l (match out with
  |some q=>some (q.1,τ q.2)
  |none=>none)
 | .dead=>.dead
theorem Rd.nrAny {ρ ρ':Rho}{w:World}(hs:ρ'.shut=ρ.shut){t:Ty}(hf:t.nr=true){x:t.den}{cs:List Value}(h:Rd ρ w t x cs):Rd ρ' w t x cs:=by have h:=h.shutNr hf;rw[<-hs]at h;exact h.openIn
section
variable {ρ ρ':Rho} {w:World} {τ:Nat->Nat}
theorem uK.ren(h: ∀id loc,ρ id=some loc->ρ' (τ id)=some loc){t:Ty}{id:Nat}{p:Path}{v:Value}(hr:uK ρ t id p v):uK ρ' t (τ id) p v:=by obtain⟨loc,h1,h2⟩:=hr;exact⟨loc,h _ _ h1,h2⟩
theorem Rd.ren(hA:ρ'.A=ρ.A)(h: ∀id loc,ρ id=some loc->ρ' (τ id)=some loc): ∀ {t:Ty} {x:t.den} {cs:List Value},Rd ρ w t x cs->Rd ρ' w t (ren τ t x) cs:=by
 have hs:ρ'.shut=ρ.shut:=yG hA;have hfz: ∀ {b o c},Fz ρ w b o c->Fz ρ' w b o c:=λhf=>⟨by rw[hA];exact hf.1,hf.2⟩
 intro t
 induction t with
 |int k=>intro x cs hr;exact hr
 |bool=>intro x cs hr;exact hr
 |str=>intro x cs hr;exact hr
 |unit=>intro x cs hr;exact hr
 |pair a b iha ihb=>
  intro x cs hr;simp only[Den.ren];cases hf:a.nr&&b.nr
  ·exact⟨iha hr.1,ihb hr.2⟩
  ·exact Rd.nrAny hs (t:=.pair a b) hf hr
 |arr n t ih=>
  intro x cs hr;simp only[Den.ren];cases hf:t.nr
  ·exact⟨hr.1,λi hi=>ih (hr.2 i hi)⟩
  ·exact Rd.nrAny hs (t:=.arr n t) hf hr
 |sl t ih=>
  intro x cs hr;cases x with
  |nil=>exact hr
  |fz n f=>
   obtain⟨a,cap,h1,hle,h2⟩:=hr;refine⟨a,cap,h1,hle,λi hi=>?_⟩;obtain⟨b,o,c,h3,h4,h5⟩:=h2 i hi;exact⟨b,o,c,h3,by rw[hs];exact h4,hfz h5⟩
  |ms id p lo len=>
   rcases hr with hr|⟨loc,m,cap,o,h1,h2⟩
   ·exact .inl hr
   ·exact .inr ⟨loc,m,cap,o,h _ _ h1,h2⟩
 |ptr t ih=>
  intro x cs hr;cases x with
  |nil=>exact hr
  |fz y=>obtain⟨b,o,c,h1,h2,h3⟩:=hr;exact⟨b,o,c,h1,by rw[hs];exact h2,hfz h3⟩
  |rf id p=>obtain⟨v,h1,h2⟩:=hr;exact⟨v,h1,h2.ren h⟩
 |fn=>
  intro x cs hr;cases x with
  |nil=>exact hr
  |mk f caps=>
   obtain⟨vs,h1,h2,h3⟩:=hr;refine⟨vs,h1,by simpa using h2,λj c v hc hv=>?_⟩;simp only[axk,axr]at hc;obtain⟨c0,hc0,rfl⟩:=hc;exact(h3 j c0 v hc0 hv).ren h
 |sp _=>intro x cs hr;exact hr
 |mp=>
  intro x cs hr;cases x with
  |none=>exact hr
  |some id=>obtain⟨loc,h1,h2⟩:=hr;exact⟨loc,h _ _ h1,h2⟩
 |st t ih=>intro x cs hr;exact Rd.nrAny hs (t:=.st t) rfl hr
theorem VR.ren(hA:ρ'.A=ρ.A)(h: ∀id loc,ρ id=some loc->ρ' (τ id)=some loc){x:V}{v:Value}(hr:VR ρ w x v):VR ρ' w (a6K τ x) v:=
 let⟨cs,h1,h2⟩:=hr
 ⟨cs,h1.ren hA h,h2⟩
theorem VRs.ren(hA:ρ'.A=ρ.A)(h: ∀id loc,ρ id=some loc->ρ' (τ id)=some loc): ∀ {l:List V} {vs:List Value},VRs ρ w l vs->VRs ρ' w (l.map (a6K τ)) vs
 | [],[],_=>trivial
 |_::_,_::_,hr=>⟨VR.ren hA h hr.1,VRs.ren hA h hr.2⟩
theorem VP.ren(hA:ρ'.A=ρ.A)(h: ∀id loc,ρ id=some loc->ρ' (τ id)=some loc){x:PV}{v:Value}(hr:VP ρ w x v):VP ρ' w (a6L τ x) v:=by
 cases x with
 |un=>trivial
 |v x=>exact VR.ren hA h hr
 |tup l=>obtain⟨vs,h1,h2⟩:=hr;exact⟨vs,h1,h2.ren hA h⟩
 |zr t=>exact hr
 |dp id n=>obtain⟨p,h1,h2⟩:=hr;exact⟨p,h1,λh0=>let⟨loc,m,t,h3,h4⟩:=h2 h0;⟨loc,m,t,h _ _ h3,h4⟩⟩
theorem VPs.ren(hA:ρ'.A=ρ.A)(h: ∀id loc,ρ id=some loc->ρ' (τ id)=some loc): ∀ {l:List PV} {vs:List Value},VPs ρ w l vs->VPs ρ' w (l.map (a6L τ)) vs
 | [],[],_=>trivial
 |_::_,_::_,hr=>⟨VP.ren hA h hr.1,VPs.ren hA h hr.2⟩
theorem OR.ren(hA:ρ'.A=ρ.A)(h: ∀id loc,ρ id=some loc->ρ' (τ id)=some loc){loc:Loc}{o:PO}(hW:ρ.W loc.blk->ρ'.W loc.blk)(hr:OR ρ w loc o):OR ρ' w loc (xX τ o):=by
 cases o with
 |obj t x=>obtain⟨h1,h2,cs,T,h3,h4⟩:=hr;exact⟨h1,hW h2,cs,T,h3.ren hA h,h4⟩
 |mp k v l=>
  obtain⟨h1,h2,es,h3,h4⟩:=hr;rw[<-yG hA]at h3;exact⟨h1,hW h2,es,h3,h4⟩
 |bag k t l out=>exact⟨hr.1,hW hr.2⟩
 |row sh e t n f=>
  obtain⟨h1,h2,cs,sp,h3,h4⟩:=hr;refine⟨h1,hW h2,cs,sp,?_,h4⟩;cases sh
  ·exact Rd.ren hA h h3
  ·have e:ρ'.shut=ρ.shut:=yG hA;change Rd ρ'.shut w (.arr n t) f cs;rw[e];exact h3
 |dead=>trivial
theorem Iw {o:PO} :(xX τ o).isBag=o.isBag:=by cases o<;>rfl
theorem Td {o:PO}{l:Option Loc}(h:o.idle l):(xX τ o).idle l:=by
 rcases h with rfl|⟨h1,sh,e,t,f,rfl⟩
 ·exact .inl rfl
 ·exact .inr ⟨h1,sh,e,t,_,rfl⟩
end
def Pat.bind:(p:Pat)->p.ty.den->List (Nat×Nat)
 | .c ⟨.ptr _,.rf i _⟩,x=>match x with
  | .rf id _=>[(i,id)]
  |_=>[]
 | .p a b,x=>a.bind x.1++b.bind x.2
 |_,_=>[]
def Pat.rws:(p:Pat)->p.ty.den->List Nat
 | .w _ _ _,x=>match x with
  | .ms id [] 0 _=>[id]
  |_=>[]
 | .m _ _ _,x=>match x with
  |some id=>[id]
  |none=>[]
 | .bg _ _ _ _,x=>match x with
  |some id=>[id]
  |none=>[]
 | .p a b,x=>a.rws x.1++b.rws x.2
 |_,_=>[]
def Pat.bindB(h:Heap):(p:Pat)->p.ty.den->List (Nat×Nat)
 | .bg _ _ _ (some q),x=>match x with
  |some id=>match h id with
   |some (.bag _ _ _ (some o))=>[(q,o.2)]
   |_=>[]
  |none=>[]
 | .p a b,x=>a.bindB h x.1++b.bindB h x.2
 |_,_=>[]
theorem Pat.bindB_loc {h h':Heap} : ∀ {p:Pat} {x:p.ty.den},(∀id∈p.rws x,h id=h' id)->p.bindB h x=p.bindB h' x:=by
 intro p
 induction p with
 |bg kt t id q=>
  intro x hh;cases q with
  |none=>rfl
  |some q=>
   cases x with
   |none=>rfl
   |some id=>
    have:=hh id (axI.2 rfl);simp only[Pat.bindB,this]
 |p a b iha ihb=>
  intro x hh;simp only[Pat.bindB];rw[iha λid hid=>hh id (awK _ hid),ihb λid hid=>hh id (awE _ hid)]
 |_=>intro x _;rfl
def Cw:List (Nat×Pat)->List PV->List (Nat×Nat)×List Nat
 |q::l,.v v::ps=>match v.to q.2.ty with
  |some y=>(q.2.bind y++(Cw l ps).1,q.2.rws y++(Cw l ps).2)
  |none=>Cw l ps
 |_::l,_::ps=>Cw l ps
 |_,_=>([],[])
def Qj(h:Heap)(ob:List (Nat×Pat)):Nat->Nat->List (Nat×Nat)->Option (List Nat×List Nat)
 |0,_,_=>some ([],[])
 |n+1,i,b=>match look b i with
  |some x=>match h x with
   |some (.obj t y)=>match look ob i with
    |some p=>if e:t=p.ty then match Qj h ob n (i+1) (b++(p.bind (e▸y)++p.bindB h (e▸y)))with
      |some (l,r)=>some (x::l,p.rws (e▸y)++r)
      |none=>none
     else none
    |none=>none
   |_=>none
  |none=>none
def hpU(u:Upd)(h:Heap):Heap:=λi=>match look u i with|some o=>some o|none=>h i
def a0i:Pat->Bool| .sz _=>true| .pz _=>true| .po _=>true|_=>false
def kP:List (Nat×Pat)->List PV->Heap->Option (List PV×Upd)
 | [],[],_=>some ([],[])
 |q::l,p::ps,h=>bif a0i q.2 then
   match bW [p] h with
   |some (p',u)=>match kP l ps (hpU u h)with
    |some (ps',u')=>some (p'++ps',u'++u)
    |none=>none
   |none=>none
  else match kP l ps h with
   |some (ps',u')=>some (p::ps',u')
   |none=>none
 |_,_,_=>none
def toC(K:Nat):List Nat->Nat->Nat->Nat| [],_,id=>K+id|x::l,k,id=>bif Nat.beq x id then k else toC K l (k+1) id
def ofC(lo nx:Nat)(l:List Nat)(i:Nat):Nat:=bif Nat.blt i lo then l.getD i 0 else nx+(i-lo)
def Qk(σ:Nat->Nat)(h:Heap):List Nat->List (Nat×PO)
 | []=>[]
 |x::l=>match h x with
  |some o=>(σ x,xX σ o)::Qk σ h l
  |none=>Qk σ h l
def BD(K:Nat)(l r:List Nat)(args:List PV)(h:Heap):DS:=
 { env:=numbered 0 (args.map (a6L (toC K l 0))),hp:=Qk (toC K l 0) h (l++r),nx:=K,n:=args.length }
structure adM where
 args:List PV
 u:Upd
 l:List Nat
 r:List Nat
def isObj(h:Heap)(x:Nat):Bool:=match h x with|some (.obj _ _)=>true|_=>false
def isRow(h:Heap)(x:Nat):Bool:=match h x with|some o=>o.held|_=>false
def WA(sh:Shape)(args:List PV)(h:Heap):Option adM:=
 match kP sh.sl args h with
 |some (args',u)=>match Qj (hpU u h) sh.ob sh.lo 0 (Cw sh.sl args').1 with
  |some (l,r)=>
   bif nodupB l&&nodupB (r++(Cw sh.sl args').2)&&l.all (isObj (hpU u h))&&(r++(Cw sh.sl args').2).all (isRow (hpU u h))then some ⟨args',u,l,r++(Cw sh.sl args').2⟩else none
  |none=>none
 |none=>none
def nC:(l:List (Nat×Pat))->Xs l->List V| [],_=>[]|q::l,x=>⟨q.2.ty,q.2.mk x.1⟩::nC l x.2
@[reducible] def YsS:List Shape->Type
 | []=>Empty
 | [q]=>q.X
 |q::r::l=>q.X⊕YsS (r::l)
def a4b(vs:List V)(s:DS)(q:Shape):Option q.X:=match kP q.sl (vs.map .v) s.h with|some (ps,u)=>q.rd { s with env:=numbered 0 ps,hp:=u++s.hp,n:=ps.length }|none=>none
def a5k(vs:List V)(s:DS):(l:List Shape)->Option (YsS l)
 | []=>none
 | [q]=>a4b vs s q
 |q::r::l=>match a4b vs s q with
  |some x=>some (.inl x)
  |none=>match a5k vs s (r::l)with
   |some y=>some (.inr y)
   |none=>none
def a2y {R:Type} :(l:List Shape)->YsS l->((sh:Shape)->sh.X->Option R)->Option R
 | [],y,_=>nomatch y
 | [q],x,K=>K q x
 |q::r::l,y,K=>match y with
  | .inl x=>K q x
  | .inr y=>a2y (r::l) y K
def JC(k:Nat)(outs:List Shape)(pv:PV)(s:DS):Option (YsS outs):=match pv with| .v v=>bif Nat.beq k 1 then a5k [v] s outs else none| .tup vs=>bif Nat.beq vs.length 1 then none else bif Nat.beq vs.length k then a5k vs s outs else none|_=>none
def Jk(sh:Shape)(x:sh.X):List (Nat×PO):=Fy sh.ob x.2++(om sh.sl x.1++om sh.ob x.2)
def FW(τ:Nat->Nat)(l:List (Nat×PO)):Upd:=l.map λq=>(τ q.1,xX τ q.2)
def MG(l:List Nat):Upd:=l.map λi=>(i,.dead)
def nV(ish:Shape)(outs:List Shape)(f:ish.X->Option (YsS outs)):Con where
 fp args h:=match WA ish args h with
  |some p=>(cK args++(p.l++p.r),cK args++(p.l++p.r))
  |none=>([],[])
 run args h nx K:=match WA ish args h with
  |some p=>bif p.l.all λx=>Nat.blt x nx then
   match ish.rd (BD ish.nx p.l p.r p.args (hpU p.u h))with
   |some x=>match f x with
    |some y=>a2y outs y λsh y=>K (Ra ((nC sh.sl y.1).map (a6K (ofC ish.lo nx p.l)))) (FW (ofC ish.lo nx p.l) (Jk sh y)++(MG (p.l++(p.r++List.range' nx (sh.nx-ish.lo)))++p.u)) (sh.nx-ish.lo)
    |none=>none
   |none=>none
   else none
  |none=>none
def Te(j:Nat)(args:List PV):Bool:=match args[j]? with|some (.v ⟨.ptr _,.rf _ _⟩)=>true|_=>false
def Cy(j:Nat)(a b:Con):Con where
 fp args h:=bif Te j args then a.fp args h else b.fp args h
 run args h nx K:=bif Te j args then a.run args h nx K else b.run args h nx K
theorem wQ {P:Program}{f:FuncId}{j:Nat}{a b:Con}(ha:aA P f a)(hb:aA P f b):aA P f (Cy j a b) where
 loc args h h' nx r:=by
  simp only[Cy];cases Te j args
  ·exact hb.loc args h h' nx r
  ·exact ha.loc args h h' nx r
 upd args h nx r:=by
  simp only[Cy];cases Te j args
  ·exact hb.upd args h nx r
  ·exact ha.upd args h nx r
 nat R args h nx K:=by
  simp only[Cy];cases Te j args
  ·exact hb.nat R args h nx K
  ·exact ha.nat R args h nx K
 sound B ρ s a0 w nx args vargs r:=by
  simp only[Cy];cases Te j args
  ·exact hb.sound B ρ s a0 w nx args vargs r
  ·exact ha.sound B ρ s a0 w nx args vargs r
section
variable {B:Base} {ρ ρ':Rho} {s:DS} {a:Act} {w w':World}
theorem OR.later1(L:Later ρ w ρ' w'){loc:Loc}{o:PO}(hW:o≠ .dead->ρ'.W loc.blk)(hb:w'.heap[loc.blk]?=w.heap[loc.blk]?)(h:OR ρ w loc o):OR ρ' w' loc o:=by
 cases o with
 |obj t x=>obtain⟨h1,h0,cs,T,h2,h3,h4⟩:=h;exact⟨h1,hW (by intro e;cases e),cs,T,h2.later L,hb.trans h3,h4⟩
 |mp k v l=>obtain⟨h1,h0,es,h2,h3⟩:=h;exact⟨h1,hW (by intro e;cases e),es,h2.keeps L.keeps.shut,hb.trans h3⟩
 |bag k t l out=>exact⟨h.1,hW (by intro e;cases e)⟩
 |row sh e t n f=>obtain⟨h1,h0,cs,sp,h2,h3,h4⟩:=h;exact⟨h1,hW (by intro e;cases e),cs,sp,h2.keeps (L.keeps.at sh),h3.trans hb,h4⟩
 |dead=>trivial
theorem Tf {τ:Nat->Nat} : ∀ {l:List (Nat×PO)} {id:Nat} {o:PO},look (FW τ l) id=some o-> ∃i o0,look l i=some o0/\id=τ i/\o=xX τ o0:=by
 intro l
 induction l with
 |nil=>intro id o h;cases h
 |cons q l ih=>
  intro id o h;obtain⟨k,v⟩:=q;have h':look ((τ k,xX τ v)::FW τ l) id=some o:=h;rw[aH]at h';split at h'
  ·rename_i e;exact⟨k,v,by rw[aH,awQ rfl],e.symm,(axm h').symm⟩
  ·rename_i e;obtain⟨i,o0,h1,h2,h3⟩:=ih h';refine⟨i,o0,?_,h2,h3⟩;rw[aH,awG (λe1=>e (by rw[e1,h2]))];exact h1
theorem a2z: ∀ {l:List Nat} {hp:List (Nat×PO)} {id:Nat} {o:PO},look (MG l++hp) id=some o->(o= .dead/\id∈l)\/(id∉ l/\look hp id=some o):=by
 intro l
 induction l with
 |nil=>intro hp id o h;exact .inr ⟨by simp,h⟩
 |cons x l ih=>
  intro hp id o h;have h':look ((x,PO.dead)::(MG l++hp)) id=some o:=h;rw[aH]at h';split at h'
  ·rename_i e;exact .inl ⟨(axm h').symm,by simp[e]⟩
  ·rename_i e;rcases ih h' with⟨h1,h2⟩|⟨h1,h2⟩
   ·exact .inl ⟨h1,ax8 _ h2⟩
   ·exact .inr ⟨by simp only[axL,not_or];exact⟨Ne.symm e,h1⟩,h2⟩
theorem aJ.back(hr:aJ B ρ s a w){l r:List Nat}(hl: ∀x∈l,∃t y,look s.hp x=some (.obj t y)){nx n:Nat}(hlt: ∀x∈l,x<nx)(hnx: ∀id,nx<=id->id<nx+n->ρ id=none)
  {F:Nat->Nat->Prop} (hF:Wi ρ s.hp w F) {ρ0:Rho} (h0: ∀i,i<l.length->ρ0 i=(l[i]?).bind ρ.f) (hW0: ∀b,ρ0.W b-> ∃x∈l++r,∃o loc,look s.hp x=some o/\o≠ .dead/\ρ x=some loc/\(loc.blk=b\/(o.isBag=true/\F x b))) (hA0:ρ0.A=ρ.A)
  {ρo:Rho} {so:DS} {a1:Act} (hro:aJ ⟨w,ρ0.W⟩ ρo so a1 w') (L:Later ρ0 w ρo w') (hkeys: ∀i o,look so.hp i=some o->i<l.length+n) (hfr: ∀i,l.length+n<=i->ρo i=none):
  ∃ρ3,aJ B ρ3 { s with hp:=FW (ofC l.length nx l) so.hp++(MG (l++(r++List.range' nx n))++s.hp) } a w'/\Later ρ w ρ3 w'/\(∀i loc,ρo i=some loc->ρ3 (ofC l.length nx l i)=some loc)/\ρ3.A=ρo.A/\ ∀id,id<nx\/nx+n<=id->ρ3 id=ρ id:=by
 have hblt: ∀a b:Nat,Nat.blt a b=true↔a<b:=λa b=>iQ
 have hofl: ∀i,i<l.length-> ∃x,l[i]?=some x/\x∈l/\ofC l.length nx l i=x:=by intro i hi;refine⟨l[i],awy hi,List.getElem_mem hi,?_⟩;unfold ofC;rw[(hblt _ _).2 hi,awL,awC,awy hi];rfl
 have hofr: ∀i,l.length<=i->ofC l.length nx l i=nx+(i-l.length):=by
  intro i hi;unfold ofC;have:Nat.blt i l.length=false:=by
   cases hb:Nat.blt i l.length
   ·rfl
   ·have:=(hblt _ _).1 hb;omega
  rw[this];rfl
 have hobj: ∀x∈l,∃o loc,look s.hp x=some o/\o≠ .dead/\ρ x=some loc:=by
  intro x hx;obtain⟨t,y,hy⟩:=hl x hx;rcases hr.obj x _ hy with(h|⟨_,_,_,_,_,h⟩)|⟨loc,h1,h2⟩
  ·cases h
  ·cases h
  ·exact⟨_,loc,hy,(by intro e;cases e),h1⟩
 let ρ3:Rho:=⟨λid=>if nx<=id/\id<nx+n then ρo (l.length+(id-nx))else ρ id,λb=>(ρ.W b/\ ¬ρ0.W b)\/ρo.W b,ρo.A,λb hb=>by
  rcases hb with⟨h1,h2⟩|h1
  ·exact L.upA b (hr.ownA b (ρ.sub b h1)) (by rw[hA0];exact ρ.sub b h1) h2
  ·exact ρo.sub b h1⟩
 have hold: ∀id,id<nx\/nx+n<=id->ρ3 id=ρ id:=λid h=>awG (by omega)
 have hτ: ∀i,i<l.length+n->ρ3 (ofC l.length nx l i)=ρo i:=by
  intro i hi;by_cases hil:i<l.length
  ·obtain⟨x,h1,h2,h3⟩:=hofl i hil;obtain⟨o,loc,_,_,h4⟩:=hobj x h2;rw[h3,hold x (.inl (hlt x h2)),h4];have:ρ0 i=some loc:=by rw[h0 i hil,h1];exact h4
   exact(L.up i loc this).symm
  ·rw[hofr i (by omega)];show(if _ then _ else _)=_;rw[awQ (by omega)]
   congr 1;omega
 have hWsub: ∀b,ρ0.W b->ρ.W b:=by
  intro b hb;obtain⟨x,_,o,loc,h1,h2,h3,h4⟩:=hW0 b hb;rcases h4 with rfl|⟨h4,h5⟩
  ·exact(hr.live h1 h2 h3).writes h2
  ·exact(hF.own x o loc b h1 h4 h3 h5).1
 have LL:Later ρ w ρ3 w':=by
  refine⟨L.size,λid loc h=>?_,λb h=>?_,λb h=>?_,λb hb h1 h2=>?_,λb hb h=>?_⟩
  ·rw[hold id]
   ·exact h
   ·rcases ayC id nx with h1|h1
    ·exact .inl h1
    ·rcases ayC id (nx+n)with h2|h2
     ·rw[hnx id h1 h2]at h;cases h
     ·exact .inr h2
  ·have:=L.downA b h;rw[hA0]at this;exact this
  ·rcases h with⟨h1,_⟩|h1
   ·exact .inl h1
   ·exact(L.downW b h1).imp_left (hWsub b)
  ·exact L.upA b hb (by rw[hA0];exact h1) (λh=>h2 (hWsub b h))
  ·exact L.keep b hb (λh1=>h (hWsub b h1))
 have hren: ∀i loc,ρo i=some loc->ρ3 (ofC l.length nx l i)=some loc:=by
  intro i loc h;rw[hτ i]
  ·exact h
  ·rcases ayC i (l.length+n)with h1|h1
   ·exact h1
   ·rw[hfr i h1]at h;cases h
 have src: ∀id o,look (FW (ofC l.length nx l) so.hp++(MG (l++(r++List.range' nx n))++s.hp)) id=some o->o= .dead\/(∃i o0,look so.hp i=some o0/\id=ofC l.length nx l i/\o=xX (ofC l.length nx l) o0)\/
   (id∉ l++r/\(id<nx\/nx+n<=id)/\look s.hp id=some o):=by
  intro id o h;rcases Tc h with h|h
  ·exact .inr (.inl (Tf h))
  ·rcases a2z h with⟨h1,_⟩|⟨h1,h2⟩
   ·exact .inl h1
   ·simp only[axo,List.mem_range'_1,not_or,not_and]at h1;refine .inr (.inr ⟨by simp only[axo,not_or];exact⟨h1.1,h1.2.1⟩,?_,h2⟩);have:=h1.2.2;rcases ayC id nx with h3|h3
    ·exact .inl h3
    ·exact .inr (by have:=this h3;omega)
 have hfar: ∀id o loc,id∉ l++r->look s.hp id=some o->o≠ .dead->ρ id=some loc-> ¬ρ0.W loc.blk:=by
  intro id o loc h1 h2 h3 h4 h5;obtain⟨x,hx,o',loc',h6,h7,h8,h9⟩:=hW0 _ h5;rcases h9 with h9|⟨h9,h10⟩
  ·exact h1 (by rw[hr.inj id x o o' loc loc' h2 h6 h3 h7 h4 h8 h9.symm];exact hx)
  ·exact hF.dis x o' loc' loc.blk id o loc h6 h9 h8 h10 h2 h3 h4 rfl
 have cross: ∀i o0 loc id o loc',look so.hp i=some o0->o0≠ .dead->ρo i=some loc->id∉ l++r->look s.hp id=some o->o≠ .dead->ρ id=some loc'->loc.blk≠loc'.blk:=by
  intro i o0 loc id o loc' h1 h2 h3 h4 h5 h6 h7 h8;rcases L.downW _ ((hro.live h1 h2 h3).writes h2)with h|h
  ·exact hfar id o loc' h4 h5 h6 h7 (by rw[<-h8];exact h)
  ·have:=hr.own id loc' h7;omega
 refine⟨ρ3,⟨hr.defers,hr.tmps,λt pv h=>?_,λid o h=>?_,λid id' o o' loc loc' h1 h2 d1 d2 h3 h4 h5=>?_,λid loc h=>?_,λb h=>hro.ownA b h,?_,λb h=>?_,?_⟩,LL,hren,rfl,hold⟩
 ·obtain⟨v,h1,h2⟩:=hr.env t pv h;exact⟨v,h1,h2.later LL⟩
 ·rcases src id o h with rfl|⟨i,o0,h1,rfl,rfl⟩|⟨h1,hid,h2⟩
  ·exact .inl (.inl rfl)
  ·rcases hro.obj i o0 h1 with h2|⟨loc,h2,h3⟩
   ·rw[hτ i (hkeys i o0 h1)];exact .inl (Td h2)
   ·exact .inr ⟨loc,hren i loc h2,OR.ren (ρ:=ρo) (ρ':=ρ3) rfl hren (λh=>.inr h) h3⟩
  ·rw[hold id hid];rcases hr.obj id o h2 with h3|⟨loc,h3,h4⟩
   ·exact .inl h3
   ·by_cases hd:o= .dead
    ·exact .inl (.inl hd)
    ·have hnw:=hfar id o loc h1 h2 hd h3;exact .inr ⟨loc,h3,h4.later1 LL (λhd=>.inl ⟨h4.writes hd,hnw⟩) (L.keep _ (hr.own id loc h3) hnw)⟩
 ·rcases src id o h1 with rfl|⟨i,o0,e1,rfl,rfl⟩|⟨e1,hid,e2⟩
  ·exact absurd rfl d1
  ·have di:o0≠ .dead:=λe=>d1 (by rw[e];rfl)
   rw[hτ i (hkeys i o0 e1)]at h3;rcases src id' o' h2 with rfl|⟨j,o1,f1,rfl,rfl⟩|⟨f1,hid',f2⟩
   ·exact absurd rfl d2
   ·have dj:o1≠ .dead:=λe=>d2 (by rw[e];rfl)
    rw[hτ j (hkeys j o1 f1)]at h4;rw[hro.inj i j o0 o1 loc loc' e1 f1 di dj h3 h4 h5]
   ·rw[hold id' hid']at h4;exact absurd h5 (cross i o0 loc id' o' loc' e1 di h3 f1 f2 d2 h4)
  ·rw[hold id hid]at h3;rcases src id' o' h2 with rfl|⟨j,o1,f1,rfl,rfl⟩|⟨f1,hid',f2⟩
   ·exact absurd rfl d2
   ·have dj:o1≠ .dead:=λe=>d2 (by rw[e];rfl)
    rw[hτ j (hkeys j o1 f1)]at h4;exact absurd h5.symm (cross j o1 loc' id o loc f1 dj h4 e1 e2 d1 h3)
   ·rw[hold id' hid']at h4;exact hr.inj id id' o o' loc loc' e2 f2 d1 d2 h3 h4 h5
 ·by_cases hin:nx<=id/\id<nx+n
  ·have:ρ3 id=ρo (l.length+(id-nx)):=awQ hin;rw[this]at h;exact hro.own _ loc h
  ·rw[hold id (by omega)]at h;exact awU (hr.own id loc h) L.size
 ·exact⟨hro.base.os.trans hr.base.os,hro.base.tape.trans hr.base.tape,hro.base.output.trans hr.base.output,λa ha hm=>(hro.base.froz a (awU ha hr.base.size) (λh=>by
   rcases hr.may _ (hWsub _ h)with h1|h1
   ·exact hm h1
   ·omega)).trans (hr.base.froz a ha hm),ayF hr.base.size hro.base.size⟩
 ·rcases h with⟨h1,_⟩|h1
  ·exact hr.may b h1
  ·rcases hro.may b h1 with h2|h2
   ·exact hr.may b (hWsub b h2)
   ·exact .inr (ayF hr.base.size h2)
 ·obtain⟨Fo,hFo⟩:=hro.hid;have hfarF: ∀id o loc b,id∉ l++r->look s.hp id=some o->o.isBag=true->ρ id=some loc->F id b-> ¬ρ0.W b:=by
   intro id o loc b h1 h2 h3 h4 h5 h6;obtain⟨x,hx,o',loc',g1,g2,g3,g4⟩:=hW0 b h6;rcases g4 with g4|⟨g4,g5⟩
   ·exact hF.dis id o loc b x o' loc' h2 h3 h4 h5 g1 g2 g3 g4
   ·exact h1 (by rw[hF.sep id x o o' loc loc' b h2 h3 h4 g1 g4 g3 h5 g5];exact hx)
  have bgs: ∀id o loc,look (FW (ofC l.length nx l) so.hp++(MG (l++(r++List.range' nx n))++s.hp)) id=some o->o.isBag=true->ρ3 id=some loc->
    (∃i o0,look so.hp i=some o0/\id=ofC l.length nx l i/\o=xX (ofC l.length nx l) o0/\o0.isBag=true/\ρo i=some loc)\/(id∉ l++r/\look s.hp id=some o/\ρ id=some loc):=by
   intro id o loc h1 h2 h3;rcases src id o h1 with rfl|⟨i,o0,e1,rfl,rfl⟩|⟨e1,hid,e2⟩
   ·cases h2
   ·rw[Iw]at h2;rw[hτ i (hkeys i o0 e1)]at h3;exact .inl ⟨i,o0,e1,rfl,rfl,h2,h3⟩
   ·rw[hold id hid]at h3;exact .inr ⟨e1,e2,h3⟩
  have ρinj: ∀i i' o o' loc loc',look so.hp i=some o->look so.hp i'=some o'->o≠ .dead->o'≠ .dead->ρo i=some loc->ρo i'=some loc'->ofC l.length nx l i=ofC l.length nx l i'->i=i':=by intro i i' o o' loc loc' h1 h2 d1 d2 h3 h4 e;have e1:=hren i loc h3;have e2:=hren i' loc' h4;rw[e,e2]at e1;cases e1;exact hro.inj i i' o o' loc loc h1 h2 d1 d2 h3 h4 rfl
  refine⟨λid b=>(∃i o0 loc,look so.hp i=some o0/\o0.isBag=true/\ρo i=some loc/\id=ofC l.length nx l i/\Fo i b)\/(id∉ l++r/\(∃o loc,look s.hp id=some o/\o.isBag=true/\ρ id=some loc)/\F id b/\ ¬ ∃i o0 loc,look so.hp i=some o0/\o0.isBag=true/\ρo i=some loc/\id=ofC l.length nx l i),?_⟩;have own: ∀id b,((∃i o0 loc,look so.hp i=some o0/\o0.isBag=true/\ρo i=some loc/\id=ofC l.length nx l i/\Fo i b)->(ρ0.W b\/w.heap.size<=b)/\ρ3.W b/\b<w'.heap.size)/\((id∉ l++r/\(∃o loc,look s.hp id=some o/\o.isBag=true/\ρ id=some loc)/\F id b)-> ¬ρ0.W b/\b<w.heap.size/\ρ3.W b):=by
   intro id b;constructor
   ·rintro ⟨i,o0,loc,h1,h2,h3,_,h4⟩;have:=hFo.own i o0 loc b h1 h2 h3 h4;exact⟨L.downW b this.1,.inr this.1,this.2⟩
   ·rintro ⟨h1,⟨o,loc,h2,h3,h4⟩,h5⟩;have:=hF.own id o loc b h2 h3 h4 h5;have hn:=hfarF id o loc b h1 h2 h3 h4 h5;exact⟨hn,this.2,.inl ⟨this.1,hn⟩⟩
  refine⟨λid k t l' out loc h1 h2=>?_,λid o loc b h1 h2 h3 h4=>?_,λid o loc b id' o' loc' h1 h2 h3 h4 h5 h6 h7=>?_,λid id' o o' loc loc' b h1 h2 h3 h4 h5 h6 h7 h8=>?_⟩
  ·rcases bgs id _ loc h1 rfl h2 with⟨i,o0,e1,rfl,e2,e3,e4⟩|⟨e1,e2,e3⟩
   ·cases o0 with
    |bag k0 t0 l0 out0=>
     simp only[xX]at e2;cases e2;have:=hFo.val i _ _ _ out0 loc e1 e4;refine(this.re (ρ:=ρo) (ρ':=ρ3) rfl (λj oid e=>?_) (λe=>by rw[e])).mono λb hb=>.inl ⟨i,_,loc,e1,rfl,e4,rfl,hb⟩
     rw[e];exact⟨ofC l.length nx l oid,rfl,λc hc=>hren oid c hc⟩
    |_=>cases e3
   ·by_cases hc: ∃i o0 loc,look so.hp i=some o0/\o0.isBag=true/\ρo i=some loc/\id=ofC l.length nx l i
    ·exfalso;obtain⟨i,o0,c,g1,g2,g3,g4⟩:=hc;subst g4;have:=hren i c g3;rw[h2]at this;cases this;exact cross i o0 loc _ _ loc g1 (PO.bag_ne g2) g3 e1 e2 (by intro e;cases e) e3 rfl
    ·exact((hF.val id k t l' out loc e2 e3).keeps LL.keeps (L.keep _ (hr.own id loc e3) (hfar id _ loc e1 e2 (by intro e;cases e) e3)) λb hb=>L.keep b (hF.own id _ loc b e2 rfl e3 hb).2 (hfarF id _ loc b e1 e2 rfl e3 hb)).mono λb hb=>.inr ⟨e1,⟨_,loc,e2,rfl,e3⟩,hb,hc⟩
  ·rcases h4 with h4|⟨g1,g2,g3,_⟩
   ·exact((own id b).1 h4).2
   ·have:=(own id b).2 ⟨g1,g2,g3⟩;exact⟨this.2.2,awU this.2.1 L.size⟩
  ·
   have live':(∃i o0,look so.hp i=some o0/\o0≠ .dead/\ρo i=some loc')\/(id'∉ l++r/\look s.hp id'=some o'/\ρ id'=some loc'):=by
    rcases src id' o' h5 with rfl|⟨i,o0,e1,rfl,rfl⟩|⟨e1,hid,e2⟩
    ·exact absurd rfl h6
    ·rw[hτ i (hkeys i o0 e1)]at h7;exact .inl ⟨i,o0,e1,λe=>h6 (by rw[e];rfl),h7⟩
    ·rw[hold id' hid]at h7;exact .inr ⟨e1,e2,h7⟩
   rcases h4 with h4|⟨g1,g2,g3,_⟩
   ·have hb:=((own id b).1 h4).1;obtain⟨i,o0,c,f1,f2,f3,_,f4⟩:=h4;rcases live' with⟨i',o1,e1,e2,e3⟩|⟨e1,e2,e3⟩
    ·exact hFo.dis i o0 c b i' o1 loc' f1 f2 f3 f4 e1 e2 e3
    ·intro e;rcases hb with hb|hb
     ·exact hfar id' o' loc' e1 e2 h6 e3 (by rw[e];exact hb)
     ·have:=hr.own id' loc' e3;omega
   ·have hb:=(own id b).2 ⟨g1,g2,g3⟩;obtain⟨o2,c2,f1,f2,f3⟩:=g2;rcases live' with⟨i',o1,e1,e2,e3⟩|⟨e1,e2,e3⟩
    ·intro e;rcases L.downW _ ((hro.live e1 e2 e3).writes e2)with h|h
     ·exact hb.1 (by rw[<-e];exact h)
     ·have:=hb.2.1;omega
    ·exact hF.dis id o2 c2 b id' o' loc' f1 f2 f3 g3 e2 h6 e3
  ·rcases h7 with h7|⟨g1,g2,g3,_⟩<;>rcases h8 with h8|⟨f1,f2,f3,_⟩
   ·obtain⟨i,o0,c,a1,a2,a3,rfl,a4⟩:=h7;obtain⟨i',o1,c',b1,b2,b3,rfl,b4⟩:=h8;rw[hFo.sep i i' o0 o1 c c' b a1 a2 a3 b1 b2 b3 a4 b4]
   ·have p1:=((own id b).1 h7).1;have p2:=(own id' b).2 ⟨f1,f2,f3⟩;rcases p1 with p1|p1
    ·exact absurd p1 p2.1
    ·have:=p2.2.1;omega
   ·have p1:=((own id' b).1 h8).1;have p2:=(own id b).2 ⟨g1,g2,g3⟩;rcases p1 with p1|p1
    ·exact absurd p1 p2.1
    ·have:=p2.2.1;omega
   ·obtain⟨o2,c2,a1,a2,a3⟩:=g2;obtain⟨o3,c3,b1,b2,b3⟩:=f2;exact hF.sep id id' o2 o3 c2 c3 b a1 a2 a3 b1 b2 b3 g3 f3
end
def L8:List (Nat×Pat)->Nat->Bool| [],_=>true|q::l,i=>Nat.beq q.1 i&&L8 l (i+1)
def okS(k:Nat)(ish:Shape)(outs:List Shape):Bool:=
 ish.ok&&L8 ish.sl 0&&outs.all λsh=>sh.ok&&L8 sh.sl 0&&Nat.beq sh.sl.length k&&Nat.ble ish.lo sh.lo
theorem a0j {u hp:List (Nat×PO)} :hpU u (look hp)=look (u++hp):=by
 funext i
 induction u with
 |nil=>rfl
 |cons q u ih=>
  obtain⟨k,v⟩:=q;have e:look (((k,v)::u)++hp) i=if k=i then some v else look (u++hp) i:=by rw[ayv,aH]
  rw[e,<-ih];unfold hpU;rw[aH];by_cases h:k=i
  ·rw[awQ h,awQ h]
  ·rw[awG h,awG h]
theorem VPs.length {ρ:Rho}{w:World} : ∀ {l:List PV} {vs:List Value},VPs ρ w l vs->l.length=vs.length
 | [],[],_=>rfl
 |_::_,_::_,h=>by simp[VPs.length h.2]
theorem VPs.laterS {ρ ρ':Rho}{w w':World}(L:Later ρ w ρ' w'): ∀ {l:List PV} {vs:List Value},VPs ρ w l vs->VPs ρ' w' l vs
 | [],[],_=>trivial
 |_::_,_::_,h=>⟨h.1.later L,VPs.laterS L h.2⟩
theorem VPs.append {ρ:Rho}{w:World} : ∀ {l l':List PV} {vs vs':List Value},VPs ρ w l vs->VPs ρ w l' vs'->VPs ρ w (l++l') (vs++vs')
 | [],_,[],_,_,h=>h
 |_::_,_,_::_,_,h,h'=>⟨h.1,VPs.append h.2 h'⟩
theorem VRs.of {ρ:Rho}{w:World} : ∀ {l:List V} {vs:List Value},l.length=vs.length->(∀(j:Nat) x v,l[j]?=some x->vs[j]?=some v->VR ρ w x v)->VRs ρ w l vs
 | [],[],_,_=>trivial
 |x::l,v::vs,h,h'=>⟨h' 0 x v rfl rfl,VRs.of (by simpa using h) λj x v h1 h2=>h' (j+1) x v (by simpa using h1) (by simpa using h2)⟩
theorem VRs.pvs {ρ:Rho}{w:World} : ∀ {l:List V} {vs:List Value},VRs ρ w l vs->VPs ρ w (l.map .v) vs
 | [],[],_=>trivial
 |_::_,_::_,h=>⟨h.1,VRs.pvs h.2⟩
theorem BF: ∀ {l:List (Nat×Pat)} {x:Xs l},(nC l x).length=l.length
 | [],_=>rfl
 |_::l,x=>by simp[nC,BF (l:=l)]
theorem a2A: ∀ {l:List (Nat×Pat)} {xs:Xs l} {i:Nat},L8 l i=true-> ∀(j:Nat) v,(nC l xs)[j]?=some v->look (Xv l xs) (i+j)=some (.v v):=by
 intro l
 induction l with
 |nil=>intro xs i _ j v h;simp[nC]at h
 |cons q l ih=>
  intro xs i h j v hj;simp only[L8,awu]at h;have e:=ax0 h.1;simp only[Xv];rw[aH];cases j with
  |zero=>simp only[nC,ax5,awr]at hj;subst hj;rw[awQ (by omega)]
  |succ j=>
   simp only[nC,axF]at hj;rw[awG (by omega),<-ih h.2 j v hj]
   congr 1;omega
theorem a0k {B:Base}{ρ:Rho}{sh:Shape}{n:Nat}{x:sh.X}{a:Act}{w:World}(hr:aJ B ρ (sh.mkS n x) a w)(hs:L8 sh.sl 0=true){vs:List Value}(ha:a.tmps=vs.toArray)(hl:sh.sl.length=vs.length):
  VRs ρ w (nC sh.sl x.1) vs:=by
 refine VRs.of (by rw[BF];exact hl) λj y v h1 h2=>?_
 have h3:=a2A hs j y h1;rw[awR]at h3;obtain⟨v',h4,h5⟩:=hr.env j _ h3;rw[ha]at h4;have h6:vs[j]?=some v':=by simpa using h4
 rw[h2]at h6;cases h6;exact h5
section
variable {B:Base} {ρ:Rho} {s:DS} {a:Act} {w:World}
theorem JD: ∀ {sl:List (Nat×Pat)} {ps:List PV} {vs:List Value} {ps':List PV} {u:Upd} {s:DS} {ρ:Rho},aJ B ρ s a w->VPs ρ w ps vs->kP sl ps s.h=some (ps',u)->
  ∃ρ',aJ B ρ' { s with hp:=u++s.hp } a w/\Later ρ w ρ' w/\ρ'.f=ρ.f/\VPs ρ' w ps' vs:=by
 intro sl
 induction sl with
 |nil=>
  intro ps vs ps' u s ρ hr hv h;cases ps with
  |nil=>cases h;exact⟨ρ,hr,Later.refl _ _,rfl,hv⟩
  |cons _ _=>cases h
 |cons q l ih=>
  intro ps vs ps' u s ρ hr hv h;cases ps with
  |nil=>cases h
  |cons p ps=>
   cases vs with
   |nil=>exact hv.elim
   |cons v vs=>
    simp only[kP]at h;cases hb:a0i q.2
    ·rw[hb]at h;simp only[awW]at h;split at h
     ·rename_i ps1 u1 h1;cases h;obtain⟨ρ2,g1,g2,g3,g4⟩:=ih hr hv.2 h1;exact⟨ρ2,g1,g2,g3,hv.1.later g2,g4⟩
     ·cases h
    ·rw[hb]at h;simp only[awL]at h;split at h
     ·rename_i p1 u1 h1;split at h
      ·rename_i ps2 u2 h2;cases h;obtain⟨ρ1,g1,g2,g3,g4⟩:=uX hr (show VPs ρ w [p] [v]from⟨hv.1,trivial⟩) h1;have e:hpU u1 s.h=look (u1++s.hp):=a0j;rw[e]at h2;obtain⟨ρ2,k1,k2,k3,k4⟩:=ih (s:= { s with hp:=u1++s.hp }) g1 (VPs.laterS g2 hv.2) h2;refine⟨ρ2,by simpa using k1,g2.trans k2,k3.trans g3,?_⟩;exact VPs.append (vs:=[v]) (VPs.laterS k2 g4) k4
      ·cases h
     ·cases h
theorem Tg: ∀ {sl:List (Nat×Pat)} {ps ps':List PV} {u:Upd} {h:Heap},kP sl ps h=some (ps',u)->ps.length=sl.length:=by
 intro sl
 induction sl with
 |nil=>
  intro ps ps' u h hf;cases ps with
  |nil=>rfl
  |cons _ _=>cases hf
 |cons q l ih=>
  intro ps ps' u h hf;cases ps with
  |nil=>cases hf
  |cons p ps=>
   simp only[kP]at hf;cases hb:a0i q.2
   ·rw[hb]at hf;simp only[awW]at hf;split at hf
    ·rename_i h1;simp[ih h1]
    ·cases hf
   ·rw[hb]at hf;simp only[awL]at hf;split at hf
    ·split at hf
     ·rename_i h2;simp[ih h2]
     ·cases hf
    ·cases hf
theorem a0l: ∀ {sl:List (Nat×Pat)} {ps:List PV} {h h':Heap},(∀id∈cK ps,h id=h' id)->kP sl ps h=kP sl ps h':=by
 intro sl
 induction sl with
 |nil=>intro ps h h' _;cases ps<;>rfl
 |cons q l ih=>
  intro ps h h' hh;cases ps with
  |nil=>rfl
  |cons p ps=>
   rw[wP]at hh;have h1: ∀id∈cK ps,h id=h' id:=λid hid=>hh id (awE _ hid)
   have h2: ∀id∈cK [p],h id=h' id:=λid hid=>hh id (awK _ hid)
   simp only[kP];rw[FT h2,ih h1];cases a0i q.2
   ·rfl
   ·simp only[awL];split
    ·rename_i p1 u1 _;have: ∀id∈cK ps,hpU u1 h id=hpU u1 h' id:=by intro id hid;unfold hpU;rw[h1 id hid]
     rw[ih this]
    ·rfl
theorem a0m: ∀ {sl:List (Nat×Pat)} {ps ps':List PV} {u:Upd} {h:Heap},kP sl ps h=some (ps',u)-> ∀x∈u,x.1∈cK ps:=by
 intro sl
 induction sl with
 |nil=>
  intro ps ps' u h hf x hx;cases ps with
  |nil=>cases hf;cases hx
  |cons _ _=>cases hf
 |cons q l ih=>
  intro ps ps' u h hf x hx;cases ps with
  |nil=>cases hf
  |cons p ps=>
   rw[wP];simp only[kP]at hf;cases hb:a0i q.2
   ·rw[hb]at hf;simp only[awW]at hf;split at hf
    ·rename_i h1;cases hf;exact awE _ (ih h1 x hx)
    ·cases hf
   ·rw[hb]at hf;simp only[awL]at hf;split at hf
    ·rename_i p1 u1 h1;split at hf
     ·rename_i ps2 u2 h2;cases hf;rcases axo.1 hx with hx|hx
      ·exact awE _ (ih h2 x hx)
      ·exact awK _ (FU h1 x hx)
     ·cases hf
    ·cases hf
theorem DF {h:Heap}{ob:List (Nat×Pat)} : ∀ {n i:Nat} {b:List (Nat×Nat)} {l r:List Nat},Qj h ob n i b=some (l,r)->l.length=n:=by
 intro n
 induction n with
 |zero=>intro i b l r hb;cases hb;rfl
 |succ n ih=>
  intro i b l r hb;simp only[Qj]at hb;split at hb
  ·split at hb
   ·split at hb
    ·split at hb
     ·split at hb
      ·rename_i h1;cases hb;simp[ih h1]
      ·cases hb
     ·cases hb
    ·cases hb
   ·cases hb
  ·cases hb
theorem a5l {h h':Heap}{ob:List (Nat×Pat)} : ∀ {n i:Nat} {b:List (Nat×Nat)} {l r:List Nat},Qj h ob n i b=some (l,r)->(∀x∈l,h x=h' x)->(∀x∈r,h x=h' x)->Qj h' ob n i b=some (l,r):=by
 intro n
 induction n with
 |zero=>intro i b l r hb _ _;exact hb
 |succ n ih=>
  intro i b l r hb hh hr;simp only[Qj]at hb⊢;split at hb
  ·rename_i x hx;split at hb
   ·rename_i t y hy;split at hb
    ·rename_i p hp;split at hb
     ·rename_i e;split at hb
      ·rename_i l1 r1 h1;cases hb;rw[<-hh x (ax9 ..),hy];simp only;rw[dif_pos e,<-Pat.bindB_loc λid hid=>hr id (awK _ hid),ih h1 (λz hz=>hh z (ax8 _ hz)) λz hz=>hr z (awE _ hz)]
      ·cases hb
     ·cases hb
    ·cases hb
   ·cases hb
  ·cases hb
theorem Av {K:Nat} : ∀ {l:List Nat} {k:Nat},l.Nodup-> ∀(i x:Nat),l[i]?=some x->toC K l k x=k+i:=by
 intro l
 induction l with
 |nil=>intro k _ i x h;simp at h
 |cons y l ih=>
  intro k hnd i x h;simp only[toC];cases i with
  |zero=>simp only[ax5,awr]at h;subst h;simp
  |succ i=>
   simp only[axF]at h;have hne:y≠x:=λe=>by subst e;exact(ay0.1 hnd).1 (axy h)
   have:Nat.beq y x=false:=by
    cases hb:Nat.beq y x
    ·rfl
    ·exact absurd (ax0 hb) hne
   rw[this,awW,ih (ay0.1 hnd).2 i x h];omega
theorem Iy {K:Nat} : ∀ {l:List Nat} {k x:Nat},x∉ l->toC K l k x=K+x:=by
 intro l
 induction l with
 |nil=>intro k x _;rfl
 |cons y l ih=>
  intro k x h;simp only[axL,not_or]at h;simp only[toC];have:Nat.beq y x=false:=by
   cases hb:Nat.beq y x
   ·rfl
   ·exact absurd (ax0 hb).symm h.1
  rw[this,awW,ih h.2]
theorem jY {σ:Nat->Nat}{h:Heap} : ∀ {l:List Nat} {i:Nat} {o:PO},look (Qk σ h l) i=some o-> ∃x∈l,∃o0,h x=some o0/\i=σ x/\o=xX σ o0:=by
 intro l
 induction l with
 |nil=>intro i o h;cases h
 |cons y l ih=>
  intro i o hl;simp only[Qk]at hl;split at hl
  ·rename_i o1 h1;rw[aH]at hl;split at hl
   ·rename_i e;exact⟨y,ax9 .., o1,h1,e.symm,(axm hl).symm⟩
   ·obtain⟨x,hx,h2⟩:=ih hl;exact⟨x,ax8 _ hx,h2⟩
  ·obtain⟨x,hx,h2⟩:=ih hl;exact⟨x,ax8 _ hx,h2⟩
theorem a5m {σ:Nat->Nat}{h h':Heap} : ∀ {l:List Nat},(∀x∈l,h x=h' x)->Qk σ h l=Qk σ h' l:=by
 intro l
 induction l with
 |nil=>intro _;rfl
 |cons y l ih=>
  intro hh;simp only[Qk];rw[hh y (ax9 ..),ih λx hx=>hh x (ax8 _ hx)]
theorem Ti {h:Heap}{x:Nat}(hx:isObj h x=true): ∃t y,h x=some (.obj t y):=by
 unfold isObj at hx;split at hx
 ·rename_i t y h1;exact⟨t,y,h1⟩
 ·cases hx
theorem a2B {h:Heap}{x:Nat}(hx:isRow h x=true): ∃o,h x=some o/\o.held=true:=by
 unfold isRow at hx;split at hx
 ·rename_i o h1;exact⟨o,h1,hx⟩
 ·cases hx
theorem a5n(hr:aJ B ρ s a w){args:List PV}{vs:List Value}(hv:VPs ρ w args vs){l r:List Nat}{K:Nat}(hK:l.length<=K)(hnd:l.Nodup)(hl: ∀x∈l,isObj s.h x=true)(hrw: ∀x∈r,isRow s.h x=true){F:Nat->Nat->Prop}(hF:Wi ρ s.hp w F):
  ∃ρc,aJ ⟨w,ρc.W⟩ ρc (BD K l r args s.h) ⟨vs.toArray,[]⟩ w/\ρc.A=ρ.A/\(∀i,i<l.length->ρc i=(l[i]?).bind ρ.f)/\
   ∀b,ρc.W b-> ∃x∈l++r,∃o loc,look s.hp x=some o/\o≠ .dead/\ρ x=some loc/\(loc.blk=b\/(o.isBag=true/\F x b)):=by
 let W:Nat->Prop:=λb=> ∃x∈l++r,∃o loc,look s.hp x=some o/\o≠ .dead/\ρ x=some loc/\(loc.blk=b\/(o.isBag=true/\F x b))
 have hWA: ∀b,W b->ρ.A b:=by
  rintro b ⟨x,_,o,loc,h1,h2,h3,rfl|⟨h4,h5⟩⟩
  ·exact ρ.sub _ ((hr.live h1 h2 h3).writes h2)
  ·exact ρ.sub _ (hF.own x o loc b h1 h4 h3 h5).1
 let ρc:Rho:=⟨λi=>if i<l.length then(l[i]?).bind ρ.f else if i<K then none else if(i-K)∈l then none else ρ (i-K),W,ρ.A,hWA⟩;have hσ: ∀id,ρc (toC K l 0 id)=ρ id:=by
  intro id;by_cases h:id∈l
  ·obtain⟨i,hi⟩:=axY h;have hlt:=(awH.1 hi).1;rw[Av hnd i id hi,awR];show(if _ then _ else _)=_;rw[awQ hlt,hi];rfl
  ·rw[Iy h];show(if _ then _ else _)=_;rw[awG (by omega),awG (by omega),show K+id-K=id by omega,awG h]
 have hinj: ∀x y,toC K l 0 x=toC K l 0 y->x=y:=by
  intro x y e;by_cases hx:x∈l
  ·obtain⟨i,hi⟩:=axY hx;have hil:=(awH.1 hi).1;rw[Av hnd i x hi]at e;by_cases hy:y∈l
   ·obtain⟨j,hj⟩:=axY hy;rw[Av hnd j y hj]at e;obtain rfl:i=j:=by omega
    rw[hi]at hj;exact axm hj
   ·rw[Iy hy]at e;omega
  ·rw[Iy hx]at e;by_cases hy:y∈l
   ·obtain⟨j,hj⟩:=axY hy;have hjl:=(awH.1 hj).1;rw[Av hnd j y hj]at e;omega
   ·rw[Iy hy]at e;omega
 have hren: ∀id loc,ρ id=some loc->ρc (toC K l 0 id)=some loc:=λid loc h=>by rw[hσ];exact h
 have hnd': ∀x∈l++r,∀o,s.h x=some o->o≠ .dead:=by
  intro x hx o ho e;subst e;rcases axo.1 hx with h|h
  ·obtain⟨t,y,h1⟩:=Ti (hl x h);rw[h1]at ho;cases ho
  ·obtain⟨o1,h1,h2⟩:=a2B (hrw x h);rw[h1]at ho;cases ho;cases h2
 refine⟨ρc,⟨rfl,?_,λt pv h=>?_,λid o h=>?_,λid id' o o' loc loc' h1 h2 d1 d2 h3 h4 h5=>?_,λid loc h=>?_,hr.ownA,⟨rfl,rfl,rfl,λ_ _ _=>rfl,ax2 _⟩,λb h=>.inl h,?_⟩,rfl,λi hi=>awQ hi,λb h=>h⟩
 ·simp only[BD,hv.length,ayO];omega
 ·obtain⟨_,h1⟩:=BA _ 0 t pv h;obtain⟨v,h2,h3⟩:=(VPs.ren (ρ:=ρ) (ρ':=ρc) (τ:=toC K l 0) rfl hren hv).get t pv (by simpa using h1);exact⟨v,by simpa using h2,h3⟩
 ·obtain⟨x,hx,o0,h1,rfl,rfl⟩:=jY h;rw[hσ];rcases hr.obj x o0 h1 with h2|⟨loc,h2,h3⟩
  ·exact .inl (Td h2)
  ·exact .inr ⟨loc,h2,OR.ren (ρ:=ρ) (ρ':=ρc) rfl hren (λ_=>⟨x,hx,o0,loc,h1,hnd' x hx o0 h1,h2,.inl rfl⟩) h3⟩
 ·obtain⟨x,hx,o0,e1,rfl,rfl⟩:=jY h1;obtain⟨y,hy,o1,e2,rfl,rfl⟩:=jY h2;rw[hσ]at h3 h4;rw[hr.inj x y o0 o1 loc loc' e1 e2 (hnd' x hx o0 e1) (hnd' y hy o1 e2) h3 h4 h5]
 ·have: ∃x,ρ x=some loc:=by
   change (if _ then _ else _)=_ at h;split at h
   ·obtain⟨x,_,h2⟩:=ayh.1 h;exact⟨x,h2⟩
   ·split at h
    ·cases h
    ·split at h
     ·cases h
     ·exact⟨_,h⟩
  obtain⟨x,hx⟩:=this;exact hr.own x loc hx
 ·refine⟨λi b=> ∃x,toC K l 0 x=i/\F x b,λid k t l' out loc h1 h2=>?_,λid o loc b h1 h2 h3 ⟨x,hx,h4⟩=>?_,λid o loc b id' o' loc' h1 h2 h3 ⟨x,hx,h4⟩ h5 h6 h7=>?_,λid id' o o' loc loc' b h1 h2 h3 h4 h5 h6 ⟨x,hx,h7⟩ ⟨x',hx',h8⟩=>?_⟩
  ·obtain⟨y,hy,o0,e1,e2,e3⟩:=jY h1;subst e2;rw[hσ]at h2;cases o0 with
   |bag k0 t0 l0 out0=>
    simp only[xX]at e3;cases e3;refine((hF.val y _ _ _ out0 loc e1 h2).re (ρ:=ρ) (ρ':=ρc) rfl (λj oid e=>?_) (λe=>by rw[e])).mono λb hb=>⟨y,rfl,hb⟩
    rw[e];exact⟨toC K l 0 oid,rfl,λc hc=>hren oid c hc⟩
   |_=>cases e3
  ·obtain⟨y,hy,o0,e1,rfl,rfl⟩:=jY h1;have:=hinj _ _ hx;subst this;rw[hσ]at h3;rw[Iw]at h2;exact⟨⟨x,hy,o0,loc,e1,PO.bag_ne h2,h3,.inr ⟨h2,h4⟩⟩,(hF.own x o0 loc b e1 h2 h3 h4).2⟩
  ·obtain⟨y,hy,o0,e1,rfl,rfl⟩:=jY h1;have:=hinj _ _ hx;subst this;obtain⟨y',hy',o1,f1,rfl,rfl⟩:=jY h5;rw[hσ]at h3 h7;rw[Iw]at h2;exact hF.dis x o0 loc b y' o1 loc' e1 h2 h3 h4 f1 (λe=>h6 (by rw[e];rfl)) h7
  ·obtain⟨y,hy,o0,e1,rfl,rfl⟩:=jY h1;have:=hinj _ _ hx;subst this;obtain⟨y',hy',o1,f1,rfl,rfl⟩:=jY h4;have:=hinj _ _ hx';subst this;rw[hσ]at h3 h6;rw[Iw]at h2 h5;rw[hF.sep x x' o0 o1 loc loc' b e1 h2 h3 f1 h5 h6 h7 h8]
end
theorem a5o {vs:List V}{s:DS} : ∀ {l:List Shape} {y:YsS l},a5k vs s l=some y-> ∃sh z,sh∈l/\a4b vs s sh=some z/\ ∀(R:Type) (K:(sh:Shape)->sh.X->Option R),a2y l y K=K sh z:=by
 intro l
 induction l with
 |nil=>intro y h;cases h
 |cons q l ih=>
  intro y h;cases l with
  |nil=>exact⟨q,y,ax9 .., h,λR K=>rfl⟩
  |cons r l=>
   simp only[a5k]at h;split at h
   ·rename_i x hx;cases h;exact⟨q,x,ax9 .., hx,λR K=>rfl⟩
   ·split at h
    ·rename_i y' hy';cases h;obtain⟨sh,z,h1,h2,h3⟩:=ih hy';exact⟨sh,z,ax8 _ h1,h2,λR K=>h3 R K⟩
    ·cases h
theorem a6M {R:Type} : ∀ {l:List Shape} {y:YsS l} {K:(sh:Shape)->sh.X->Option Ans} {K':K3 R},a2y l y (λsh x=>(K sh x).bind λr=>K' r.1 r.2.1 r.2.2)=(a2y l y K).bind λr=>K' r.1 r.2.1 r.2.2:=by
 intro l
 induction l with
 |nil=>intro y;exact nomatch y
 |cons q l ih=>
  intro y K K';cases l with
  |nil=>rfl
  |cons r l=>
   cases y with
   |inl x=>rfl
   |inr y=>exact ih
theorem a5p {α:Type} : ∀ {l:List Shape} {y:YsS l} {K:(sh:Shape)->sh.X->Option α} {r:α},a2y l y K=some r-> ∃sh z,sh∈l/\K sh z=some r:=by
 intro l
 induction l with
 |nil=>intro y;exact nomatch y
 |cons q l ih=>
  intro y K r h;cases l with
  |nil=>exact⟨q,y,ax9 .., h⟩
  |cons q' l=>
   cases y with
   |inl x=>exact⟨q,x,ax9 .., h⟩
   |inr y=>
    obtain⟨sh,z,h1,h2⟩:=ih h;exact⟨sh,z,ax8 _ h1,h2⟩
theorem a2C {k:Nat}{outs:List Shape}{pv:PV}{s:DS}{y:YsS outs}(h:JC k outs pv s=some y){ρ:Rho}{w:World}{v:Value}(hv:VP ρ w pv v):
  ∃vs us,a5k vs s outs=some y/\VRs ρ w vs us/\vs.length=k/\ ∀(ρ':Rho) (w':World) (ls:List V),ls.length=k->VRs ρ' w' ls us->VP ρ' w' (Ra ls) v:=by
 unfold JC at h;split at h
 ·rename_i x;cases hb:Nat.beq k 1
  ·rw[hb]at h;cases h
  ·rw[hb]at h;have:=ax0 hb;subst this;refine⟨[x],[v],h,⟨hv,trivial⟩,rfl,λρ' w' ls hl hls=>?_⟩
   match ls,hl,hls with
   | [y],_,hls=>exact hls.1
 ·rename_i vs;cases hb:Nat.beq vs.length 1
  ·rw[hb]at h;simp only[awW]at h;cases hb2:Nat.beq vs.length k
   ·rw[hb2]at h;cases h
   ·rw[hb2]at h;have:=ax0 hb2;subst this;obtain⟨us,rfl,hus⟩:=hv;refine⟨vs,us,h,hus,rfl,λρ' w' ls hl hls=>?_⟩;have hne:ls.length≠1:=λe=>by rw[<-hl,e]at hb;cases hb
    have:Ra ls= .tup ls:=by
     match ls,hne with
     | [],_=>rfl
     | [x],h=>exact absurd rfl h
     |_::_::_,_=>rfl
    rw[this];exact⟨us,rfl,hls⟩
  ·rw[hb]at h;cases h
 ·cases h
theorem a6N: ∀ {p:Pat} {x:p.X} {q:Nat×PO},q∈p.objs x->q.1∈p.ids:=by
 intro p
 induction p with
 |w e t id=>intro x q h;simp only[Pat.objs,axI]at h;subst h;simp[Pat.ids]
 |p a b iha ihb=>
  intro x q h;simp only[Pat.objs,axo]at h;simp only[Pat.ids,axo];exact h.imp iha ihb
 |m kt vt id=>
  intro x q h;simp only[Pat.objs,axI]at h;subst h;simp[Pat.ids]
 |bg kt t id s=>
  intro x q h;simp only[Pat.objs,axI]at h;subst h;simp[Pat.ids]
 |_=>intro x q h;cases h
theorem Tj: ∀ {l:List (Nat×Pat)} {x:Xs l} {q:Nat×PO},q∈om l x->q.1∈l.flatMap λq=>q.2.ids:=by
 intro l
 induction l with
 |nil=>intro x q h;cases h
 |cons p l ih=>
  intro x q h;simp only[om,axo]at h;simp only[az3,axo];exact h.imp a6N ih
theorem a6O: ∀ {l:List (Nat×Pat)} {x:Xs l} {q:Nat×PO},q∈Fy l x-> ∃p∈l,p.1=q.1:=by
 intro l
 induction l with
 |nil=>intro x q h;cases h
 |cons p l ih=>
  intro x q h;simp only[Fy]at h;rcases axL.1 h with rfl|h
  ·exact⟨p,ax9 .., rfl⟩
  ·obtain⟨p',h1,h2⟩:=ih h;exact⟨p',ax8 _ h1,h2⟩
theorem a4c {sh:Shape}(hok:sh.ok=true){x:sh.X}{q:Nat×PO}(h:q∈Jk sh x):q.1<sh.nx:=by
 unfold Shape.ok at hok;simp only[awu]at hok;obtain⟨⟨⟨⟨hn1,hn2⟩,hob⟩,hsl⟩,hlx⟩:=hok;have hlx:=awN hlx;have hid: ∀i∈sh.ids,i<sh.nx:=by intro i hi;have:=axB.1 hn2 i hi;simp only[awu]at this;exact iQ.1 this.2
 simp only[Jk,axo]at h;rcases h with h|h|h
 ·obtain⟨p,h1,h2⟩:=a6O h;have:=axB.1 hob p h1;simp only[awu]at this;have:=iQ.1 this.1;omega
 ·exact hid _ (awK _ (Tj h))
 ·exact hid _ (awE _ (Tj h))
theorem Shape.ok_le {sh:Shape}(hok:sh.ok=true):sh.lo<=sh.nx:=by unfold Shape.ok at hok;simp only[awu]at hok;exact awN hok.2
theorem OM {sh:Shape}{args:List PV}{h:Heap}{p:adM}(hp:WA sh args h=some p): ∃l r,kP sh.sl args h=some (p.args,p.u)/\Qj (hpU p.u h) sh.ob sh.lo 0 (Cw sh.sl p.args).1=some (l,r)/\p.l=l/\p.r=r++(Cw sh.sl p.args).2/\
  p.l.Nodup/\(∀x∈p.l,isObj (hpU p.u h) x=true)/\ ∀x∈p.r,isRow (hpU p.u h) x=true:=by
 unfold WA at hp;split at hp
 ·rename_i args' u h1;split at hp
  ·rename_i l r h2;generalize hb:(_&&_)=b at hp;cases b
   ·cases hp
   ·cases hp;simp only[awu,axB]at hb;exact⟨l,r,h1,h2,rfl,rfl,wN hb.1.1.1,hb.1.2,hb.2⟩
  ·cases hp
 ·cases hp
theorem a0n {sh:Shape}{args:List PV}{h h':Heap}{p:adM}(hp:WA sh args h=some p)(hh: ∀id∈cK args++(p.l++p.r),h id=h' id):WA sh args h'=some p:=by
 have hf:kP sh.sl args h'=kP sh.sl args h:=(a0l λid hid=>hh id (awK _ hid)).symm;unfold WA at hp⊢;rw[hf];split at hp
 ·rename_i args' u h1;split at hp
  ·rename_i l r h2;generalize hb:(_&&_)=b at hp;cases b
   ·cases hp
   ·cases hp;have hl: ∀x∈l,hpU u h x=hpU u h' x:=λx hx=>by unfold hpU;rw[hh x (awE _ (awK _ hx))]
    have hr: ∀x∈r++(Cw sh.sl args').2,hpU u h x=hpU u h' x:=λx hx=>by unfold hpU;rw[hh x (awE _ (awE _ hx))]
    rw[a5l h2 hl λx hx=>hr x (awK _ hx)];simp only;have e1:l.all (isObj (hpU u h'))=l.all (isObj (hpU u h)):=by rw[axg,axB,axB];exact⟨λg x hx=>by have:=g x hx;unfold isObj at this⊢;rw[hl x hx];exact this,λg x hx=>by have:=g x hx;unfold isObj at this⊢;rw[<-hl x hx];exact this⟩
    have e2:(r++(Cw sh.sl args').2).all (isRow (hpU u h'))=(r++(Cw sh.sl args').2).all (isRow (hpU u h)):=by rw[axg,axB,axB];exact⟨λg x hx=>by have:=g x hx;unfold isRow at this⊢;rw[hr x hx];exact this,λg x hx=>by have:=g x hx;unfold isRow at this⊢;rw[<-hr x hx];exact this⟩
    rw[e1,e2,hb];rfl
  ·cases hp
 ·cases hp
structure Pre where
 go:PV->DS->PV×DS
 ok: ∀ {B:Base} {ρ:Rho} {s:DS} {a:Act} {w:World} {pv:PV} {v:Value},aJ B ρ s a w->VP ρ w pv v-> ∃ρ1,aJ B ρ1 (go pv s).2 a w/\VP ρ1 w (go pv s).1 v/\Later ρ w ρ1 w
def a6P(p:Pre)(k:Nat)(outs:List Shape)(pv:PV)(s:DS):Option (YsS outs):=JC k outs (p.go pv s).1 (p.go pv s).2
theorem YE(pre:Pre){P:Program}{C:Cx}(hC:av P C){f:FuncId}{fn:Func}{lps:List (Nat×Lp)}(d:Nat)(hfn:dU P f fn lps)(k:Nat)(ish:Shape)(outs:List Shape)(impl:ish.X->Option (YsS outs))(hok:okS k ish outs=true)
  (himpl: ∀(x:ish.X) y,impl x=some y->dJ C lps (fD C d) fn ((nC ish.sl x.1).map .v) (Jk ish x) ish.nx (a6P pre k outs)=some y):aA P f (nV ish outs impl):=by
 unfold okS at hok;simp only[awu,axB]at hok;obtain⟨⟨hio,his⟩,hos⟩:=hok;have hout: ∀sh∈outs,sh.ok=true/\L8 sh.sl 0=true/\sh.sl.length=k/\ish.lo<=sh.lo:=by intro sh hsh;obtain⟨⟨⟨h1,h2⟩,h3⟩,h4⟩:=hos sh hsh;exact⟨h1,h2,ax0 h3,awN h4⟩
 refine⟨λargs h h' nx r hh hr=>?_,λargs h nx r hr=>?_,λR args h nx K=>?_,λB ρ s a w nx args vargs r hr hnx hv h=>?_⟩
 ·simp only[nV]at hh hr⊢;split at hr
  ·rename_i p hp;rw[hp]at hh;simp only at hh;have hp':=a0n hp hh;rw[hp'];simp only;refine⟨?_,trivial⟩;have e:BD ish.nx p.l p.r p.args (hpU p.u h')=BD ish.nx p.l p.r p.args (hpU p.u h):=by unfold BD;rw[a5m (h:=hpU p.u h') (h':=hpU p.u h) λx hx=>by unfold hpU;rw[hh x (awE _ hx)]]
   rw[e];exact hr
  ·cases hr
 ·simp only[nV]at hr⊢;split at hr
  ·rename_i p hp;obtain⟨l,r0,h1,h2,h3,h4,_⟩:=OM hp;have hll:p.l.length=ish.lo:=by rw[h3];exact DF h2
   generalize hb:p.l.all _=b at hr;cases b
   ·cases hr
   ·simp only[awL]at hr;split at hr
    ·split at hr
     ·obtain⟨sh,z,hsh,hk⟩:=a5p hr;obtain⟨g1,g2,g3,g4⟩:=hout sh hsh;have hle:=Shape.ok_le g1;cases hk;intro x hx;simp only[axo]at hx;rcases hx with hx|hx|hx
      ·simp only[FW,ayP]at hx;obtain⟨q,hq,rfl⟩:=hx;have hlt:=a4c g1 hq;simp only[ofC];cases hb2:Nat.blt q.1 ish.lo
       ·rw[awW];have: ¬q.1<ish.lo:=λh=>by rw[iQ.2 h]at hb2;cases hb2
        exact .inr ⟨by omega,by omega⟩
       ·rw[awL];have:=iQ.1 hb2;refine .inl (awE _ (awK _ ?_));rw[awC,awy (by omega)];exact List.getElem_mem _
      ·simp only[MG,ayP,axo,List.mem_range'_1]at hx;obtain⟨i,hi,rfl⟩:=hx;rcases hi with hi|hi|hi
       ·exact .inl (awE _ (awK _ hi))
       ·exact .inl (awE _ (awE _ hi))
       ·exact .inr hi
      ·exact .inl (awK _ (a0m h1 x hx))
     ·cases hr
    ·cases hr
  ·cases hr
 ·simp only[nV];split
  ·generalize List.all _ _=b;cases b
   ·rfl
   ·simp only[awL];split
    ·split
     ·rw[<-a6M];rfl
     ·rfl
    ·rfl
  ·rfl
 ·simp only[nV]at h;split at h
  ·rename_i p hp;obtain⟨l,r0,h1,h2,h3,h4,hnd,hobj,hrow⟩:=OM hp;have hll:p.l.length=ish.lo:=by rw[h3];exact DF h2
   generalize hb:p.l.all _=b at h;cases b
   ·cases h
   ·simp only[awL]at h;have hlt: ∀x∈p.l,x<nx:=λx hx=>iQ.1 (axB.1 hb x hx)
    split at h
    ·rename_i x hx;split at h
     ·rename_i y hy;obtain⟨ρ1,hr1,L1,f1,hv1⟩:=JD hr hv h1;have eh:hpU p.u s.h=look (p.u++s.hp):=a0j;rw[eh]at hobj hrow hx;obtain⟨F,hF⟩:=hr1.hid;obtain⟨ρc,hrc,hAc,hfc,hWc⟩:=a5n (s:= { s with hp:=p.u++s.hp }) hr1 hv1 (K:=ish.nx) (by have:=Shape.ok_le hio;omega) hnd hobj hrow hF;let ρ0:Rho:=⟨λi=>if i<p.l.length then ρc i else none,ρc.W,ρc.A,ρc.sub⟩;have L0:Later ρ0 w ρc w:=⟨ax2 _,(λid loc h=>by
       change (if _ then _ else _)=_ at h;split at h
       ·exact h
       ·cases h),λ_ h=>.inl h,λ_ h=>.inl h,λ_ _ h _=>h,λ_ _ _=>rfl⟩
      have F0: ∀k,p.l.length<=k->kL ρ0 k:=λk hk id hid=>awG (by omega)
      obtain⟨ρ2,hr2,F2,K2⟩:=Shape.fold ish hio hx hrc;have L2:=K2 ρ0 w L0 (F0 _ (by omega));have hargs:=(a0k hr2 his (vs:=vargs) rfl (by rw[<-Tg h1,hv.length])).pvs;have hbody:=himpl x _ hy;refine .inr ⟨hfn.enter _ _,?_⟩;refine(Aq hC (Ar hC _) (Dy hC (Ar hC _) d) lps hfn.func hfn.blocks (s:=ish.mkS (BD ish.nx p.l p.r p.args (look (p.u++s.hp))).n x) hbody hr2 F2 hargs).mono ?_;rintro e w' ⟨v,rfl,pv,s',ρ',a',hk,hr',hf',hv',L'⟩;refine⟨v,rfl,?_⟩;obtain⟨ρ',hr',hv',Lp⟩:=pre.ok hr' hv';unfold a6P at hk;generalize hq:pre.go pv s'=q at hk hr' hv';obtain⟨pv,s'⟩:=q;replace L':=L'.trans Lp;obtain⟨vs,us,k1,k2,k3,k4⟩:=a2C hk hv';obtain⟨sh,z,hsh,hz,hgo⟩:=a5o k1;obtain⟨g1,g2,g3,g4⟩:=hout sh hsh;have hle:=Shape.ok_le g1;rw[hgo]at h;cases h;unfold a4b at hz;split at hz
      ·rename_i ps u1 hfz;obtain⟨ρ'',hr'',L'',_,hps⟩:=JD hr' k2.pvs hfz;have hr1':aJ ⟨w,ρc.W⟩ ρ'' { s' with env:=numbered 0 ps,hp:=u1++s'.hp,n:=ps.length } ⟨us.toArray,[]⟩ w':=by refine⟨rfl,by simp[hps.length],λt pv h=>?_,hr''.obj,hr''.inj,hr''.own,hr''.ownA,hr''.base,hr''.may,hr''.hid⟩;obtain⟨_,h5⟩:=BA _ 0 t pv h;obtain⟨v,h6,h7⟩:=hps.get t pv (by simpa using h5);exact⟨v,by simpa using h6,h7⟩
       obtain⟨ρo,hro,Fo,Ko⟩:=Shape.fold sh g1 hz hr1';have Lo:=Ko ρ0 w ((L2.trans L').trans L'') (F0 _ (by omega));have hvals:=a0k hro g2 (vs:=us) rfl (by rw[g3,<-k3,k2.length]);have en:p.l.length+(sh.nx-ish.lo)=sh.nx:=by omega
       obtain⟨ρ3,b1,b2,b3,b4,b5⟩:=hr1.back (l:=p.l) (r:=p.r) (λx hx=>Ti (hobj x hx)) (nx:=nx) (n:=sh.nx-ish.lo) hlt (λid i1 i2=>by rw[f1];exact hnx id i1 i2) hF
        (ρ0:=ρ0) (λi hi=>by show(if _ then _ else _)=_;rw[awQ hi];exact hfc i hi) hWc hAc hro Lo (λi o hio'=>by rw[en];exact a4c (sh:=sh) (x:=z) g1 (q:=(i,o)) (kS hio')) (λi hi=>Fo i (by omega))
       refine⟨ρ3,⟨?_,L1.trans b2,?_,λid hid=>by rw[b5 id hid,f1]⟩⟩
       ·rw[hll]at b1;have e:(FW (ofC ish.lo nx p.l) (Jk sh z)++(MG (p.l++(p.r++List.range' nx (sh.nx-ish.lo)))++p.u))++s.hp=FW (ofC ish.lo nx p.l) (Jk sh z)++(MG (p.l++(p.r++List.range' nx (sh.nx-ish.lo)))++(p.u++s.hp)):=by simp only[axx]
        simp only;rw[e];exact b1
       ·rw[hll]at b3;exact k4 ρ3 w' _ (by rw[List.length_map,BF,g3]) (VRs.ren b4 b3 hvals)
      ·cases hz
     ·cases h
    ·cases h
  ·cases h
theorem aaL(pre:Pre){P:Program}{C:Cx}(hC:av P C){f:FuncId}{fn:Func}{lps:List (Nat×Lp)}(d:Nat)(hfn:dU P f fn lps)(k:Nat)(ish:Shape)(outs:List Shape)(impl:ish.X->Option (YsS outs))(hok:okS k ish outs=true)
  (himpl: ∀x:ish.X,dJ C lps (fD C d) fn ((nC ish.sl x.1).map .v) (Jk ish x) ish.nx (a6P pre k outs)=impl x):aA P f (nV ish outs impl):=
 YE pre hC d hfn k ish outs impl hok λx y h=>(himpl x).trans h
theorem jB {P:Program}{C:Cx}(hC:av P C){f:FuncId}{fn:Func}{lps:List (Nat×Lp)}(d:Nat)(hfn:dU P f fn lps)(k:Nat)(ish:Shape)(outs:List Shape)(impl:ish.X->Option (YsS outs))(hok:okS k ish outs=true)
  (himpl: ∀x:ish.X,dJ C lps (fD C d) fn ((nC ish.sl x.1).map .v) (Jk ish x) ish.nx (JC k outs)=impl x):aA P f (nV ish outs impl):=
 aaL ⟨λpv s=>(pv,s),λhr hv=>⟨_,hr,hv,Later.refl _ _⟩⟩ hC d hfn k ish outs impl hok himpl
end Go.Den
