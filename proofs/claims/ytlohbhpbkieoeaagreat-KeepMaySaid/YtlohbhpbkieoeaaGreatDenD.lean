/-
 The plain reading of code: contracts, shapes, loops, laws.
-/
import Derived.Test.YtlohbhpbkieoeaaGreatDenC
import Derived.Test.YtlohbhpbkieoeaaGreatDenB
import Derived.ChangeArms
import Derived.OpenShut
import Derived.RowKit3
import Derived.WideKeyArgs
import Derived.Laws.Externs
set_option linter.unusedVariables false
set_option linter.unusedSimpArgs false
namespace Go.Den
noncomputable section
def Rho.of(A:Nat->Prop):Rho:=⟨λ_=>none,λ_=>False,A,λ_ h=>h.elim⟩
theorem Rd.thin {t:Ty}{A A':Nat->Prop}(h: ∀b,A' b->A b){w:World}{x:t.den}{cs:List Value}(hr:Rd (Rho.of A) w t x cs):Rd (Rho.of A') w t x cs:=by
 have hf: ∀ {b o c},Fz (Rho.of A) w b o c->Fz (Rho.of A') w b o c:=λhfz=>⟨λha=>hfz.1 (h _ ha),hfz.2⟩
 induction t generalizing cs with
 |int k=>exact hr
 |bool=>exact hr
 |str=>exact hr
 |unit=>exact hr
 |pair a b iha ihb=>exact⟨iha hr.1,ihb hr.2⟩
 |arr n t ih=>exact⟨hr.1,λi hi=>ih (hr.2 i hi)⟩
 |sl t ih=>
  cases x with
  |nil=>exact hr
  |fz n f=>
   obtain⟨a,cap,h1,hle,h2⟩:=hr;refine⟨a,cap,h1,hle,λi hi=>?_⟩;obtain⟨b,o,c,h3,h4,h5⟩:=h2 i hi;exact⟨b,o,c,h3,ih h4,hf h5⟩
  |ms id p lo len=>
   rcases hr with h|⟨loc,m,cap,o,h1,h2⟩
   ·exact .inl h
   ·cases h1
 |ptr t ih=>
  cases x with
  |nil=>exact hr
  |fz y=>obtain⟨b,o,c,h1,h2,h3⟩:=hr;exact⟨b,o,c,h1,ih h2,hf h3⟩
  |rf id p=>obtain⟨v,_,loc,h1,_⟩:=hr;cases h1
 |fn=>
  cases x with
  |nil=>exact hr
  |mk f caps=>
   obtain⟨vs,h1,h2,h3⟩:=hr;refine⟨vs,h1,h2,λj c v hc hv=>?_⟩;obtain⟨loc,h4,_⟩:=h3 j c v hc hv;cases h4
 |sp _=>exact hr
 |st t ih=>
  obtain⟨a,cap,h1,hle,h2⟩:=hr;refine⟨a,cap,h1,hle,λi hi=>?_⟩;obtain⟨b,o,c,h3,h4,h5⟩:=h2 i hi;exact⟨b,o,c,h3,ih h4,hf h5⟩
 |mp=>
  cases x with
  |none=>exact hr
  |some id=>obtain⟨loc,h1,_⟩:=hr;cases h1
theorem Rd.flatAny {t:Ty}(hf:t.flat=true){ρ ρ':Rho}{w w':World}{x:t.den}{cs:List Value}(h:Rd ρ w t x cs):Rd ρ' w' t x cs:=by
 induction t generalizing cs with
 |int k=>exact h
 |bool=>exact h
 |str=>exact h
 |unit=>exact h
 |pair a b iha ihb=>
  simp only[Ty.flat,awu]at hf;exact⟨iha hf.1 h.1,ihb hf.2 h.2⟩
 |arr n t ih=>exact⟨h.1,λi hi=>ih hf (h.2 i hi)⟩
 |sl t ih=>cases hf
 |ptr t ih=>cases hf
 |fn=>cases hf
 |sp _=>cases hf
 |mp=>cases hf
 |st t ih=>cases hf
def nJ(h:Heap)(t:Ty)(id:Nat)(p:Path)(lo len:Nat):Option (SlV t.den):=
 match h id with
 |some o=>match o.get p with
  |some ⟨.arr _ u,g⟩=>if e:u=t then bif t.flat||ZG o p then some (.fz len λj=>(e▸g:Nat->t.den) (lo+j))else none else none
  |_=>none
 |none=>none
def L6(h:Heap):(t:Ty)->t.den->Option t.den
 | .sl t,x=>match x with
  | .ms id p lo len=>nJ h t id p lo len
  |y=>some y
 | .ptr t,x=>match x with
  | .rf id p=>match h id with
   |some o=>match o.get p with
    |some ⟨u,y⟩=>if e:u=t then bif dG u y then some (.fz (e▸y))else none else none
    |none=>none
   |none=>none
  |y=>some y
 | .pair a b,x=>bif (Ty.pair a b).flat||dG (.pair a b) x then some x else match L6 h a x.1,L6 h b x.2 with
  |some y,some z=>some (y,z)
  |_,_=>none
 |t,x=>bif t.flat||dG t x then some x else none
def a05(h:Heap):(t:Ty)->t.den->Option t.den
 | .sl t,x=>match x with
  | .ms id p lo len=>nJ h t id p lo len
  |y=>some y
 | .ptr t,x=>match x with
  | .rf id p=>match h id with
   |some o=>match o.get p with
    |some ⟨u,y⟩=>if e:u=t then match a05 h t (e▸y)with
     |some z=>some (.fz z)
     |none=>none
     else none
    |none=>none
   |none=>none
  |y=>some y
 | .pair a b,x=>match a05 h a x.1,a05 h b x.2 with
  |some y,some z=>some (y,z)
  |_,_=>none
 |t,x=>bif t.flat||dG t x then some x else none
section
variable {B:Base} {ρ:Rho} {s:DS} {a:Act} {w:World}
theorem yF {h:Heap}{t:Ty}{id:Nat}{p:Path}{lo len:Nat}{y:SlV t.den}(hh:nJ h t id p lo len=some y):
  ∃(o:PO) (k:Nat) (g:Nat->t.den),h id=some o/\o.get p=some ⟨.arr k t,g⟩/\(t.flat||ZG o p)=true/\y= .fz len λj=>g (lo+j):=by
 unfold nJ at hh;split at hh
 ·rename_i o ho;split at hh
  ·rename_i k u g hg;split at hh
   ·rename_i e;subst e;cases hb:u.flat||ZG o p
    ·rw[hb]at hh;cases hh
    ·rw[hb]at hh;cases hh;exact⟨o,k,g,ho,hg,hb,rfl⟩
   ·cases hh
  ·cases hh
 ·cases hh
theorem sU(hr:aJ B ρ s a w){t:Ty}{id:Nat}{p:Path}{lo len:Nat}{cs:List Value}{y:SlV t.den}(A2:Nat->Prop)(h1: ∀b,A2 b->ρ.A b)(h2: ∀loc,ρ id=some loc-> ¬A2 loc.blk)
  (hx:Rd ρ w (.sl t) (.ms id p lo len) cs) (h:nJ s.h t id p lo len=some y):Rd (Rho.of A2) w (.sl t) y cs:=by
 obtain⟨o,k,g,ho,hg,hb,rfl⟩:=yF h;have hel:sQ (.v ⟨.sl t,.ms id p lo len⟩) t s.h=some (true,len,λj=>g (lo+j)):=by unfold sQ;simp only[ho,hg,and_self,dite_true,hb]
 have hv:VP ρ w (.v ⟨.sl t,.ms id p lo len⟩) (mkV (.sl t) cs):=⟨cs,hx,rfl⟩;obtain⟨v,rfl⟩:=hx.single rfl;obtain⟨ad,cap,news,e,hnews,had,hcell⟩:=Dv hr hv hel;have e':v= .slice ad len cap:=e;subst e';have hle:len<=cap:=by
  rcases VR.slMs hv with⟨h0,_⟩|⟨_,_,_,_,_,_,_,_,e,_,h,_⟩
  ·omega
  ·cases e;exact h
 refine⟨ad,cap,rfl,hle,λi hi=>?_⟩;rcases VR.slMs hv with⟨h0,_⟩|⟨loc,m,cap',o',hloc,hok,hat,hlm,e,ho',_⟩
 ·omega
 ·cases e;refine⟨loc.blk,o',_,rfl,Rd.thin h1 (hnews.2 i hi),λha=>h2 loc hloc ha,hr.own id loc hloc,λj v hj=>?_⟩;have hl:=hnews.1;have hmul:=eT (s:=t.size) hi;have hj':j<t.size:=by have:=(awH.1 hj).1;simp only[az5,axZ]at this;omega
  rw[awX hj',axa]at hj;have:=hcell _ rfl _ v hj;rw[fU]at this;rw[<-this];congr 2;omega
theorem Jw(hr:aJ B ρ s a w){t:Ty}{id:Nat}{p:Path}{lo len:Nat}{cs:List Value}{y:SlV t.den}(A2:Nat->Prop)(h1: ∀b,A2 b->ρ.A b)(h2: ∀b,ρ.W b-> ¬A2 b)
  (hx:Rd ρ w (.sl t) (.ms id p lo len) cs) (h:nJ s.h t id p lo len=some y):Rd (Rho.of A2) w (.sl t) y cs:=by
 obtain⟨o,k,g,ho,hg,hb,rfl⟩:=yF h;exact sU hr A2 h1 (λloc hl=>h2 _ ((hr.live ho (PO.ne_dead hg) hl).writes (PO.ne_dead hg))) hx h
theorem OL {o:PO}{loc:Loc}{p:Path}{u:Ty}{z:u.den}(hor:OR ρ w loc o)(hok:loc.ty.okP p)(hg:o.get p=some ⟨u,z⟩):
  ∃c,Rd ρ w u z c/\ ∀(j:Nat) v,c[j]?=some v->w.cell? ⟨loc.blk,loc.ty.off p+j,none⟩=some v:=by
 have key: ∀(t0:Ty) (x0:t0.den) (cs0 sp:List Value) (T:TypeId),loc.ty=t0->t0.get x0 p=some ⟨u,z⟩->Rd ρ w t0 x0 cs0->kK w loc.blk (cs0++sp) T->
   ∃c,Rd ρ w u z c/\ ∀(j:Nat) v,c[j]?=some v->w.cell? ⟨loc.blk,loc.ty.off p+j,none⟩=some v:=by
  intro t0 x0 cs0 sp T e hgx hc hb;subst e;have h3:=hc.get hok hgx;have hle2:loc.ty.off p+u.size<=loc.ty.size:=Ty.off_le hok (Ty.at_of_get hgx);have hcs:=hc.length;refine⟨_,h3,λj v hj=>?_⟩;have hl2:=h3.length;simp only at hl2 hj;have hj':j<u.size:=by rw[<-hl2];exact(awH.1 hj).1
  rw[awX hj',axa]at hj;rw[hb.cell];rw[awY (by omega),<-hj]
 cases o with
 |dead=>cases hg
 |mp k v l=>cases hg
 |bag k t l out=>cases hg
 |obj t0 x0=>
  obtain⟨e,_,cs,T,hc,hb,_⟩:=hor;exact key t0 x0 cs [] T e hg hc (kK.of (by simpa using hb))
 |row sh T t0 k f=>
  obtain⟨e,_,cs,sp,hc,hb,_⟩:=hor;exact key (.arr k t0) f cs sp T e hg hc.openAt hb.weak
theorem a2t(hr:aJ B ρ s a w)(A2:Nat->Prop)(h1: ∀b,A2 b->ρ.A b)(h2: ∀b,ρ.W b-> ¬A2 b){t:Ty}{x y:t.den}{cs:List Value}(hx:Rd ρ w t x cs)(h:L6 s.h t x=some y):Rd (Rho.of A2) w t y cs:=by
 have base: ∀ {t:Ty} {x y:t.den} {cs:List Value},Rd ρ w t x cs->(bif t.flat||dG t x then some x else none)=some y->Rd (Rho.of A2) w t y cs:=by
  intro t x y cs hx h;cases hb:t.flat||dG t x
  ·rw[hb]at h;cases h
  ·rw[hb]at h;cases h;rw[axU]at hb;have h3:Rd ρ.shut w t x cs:=by
    rcases hb with hb|hb
    ·exact hx.shutFlat hb
    ·exact hx.shutOf hb
   exact Rd.thin h1 h3
 have base2: ∀ {t:Ty} {x:t.den} {cs:List Value},Rd ρ w t x cs->dG t x=true->Rd (Rho.of A2) w t x cs:=λhx hb=>Rd.thin h1 (hx.shutOf hb)
 induction t generalizing cs with
 |sl t _=>
  cases x with
  |nil=>cases h;exact base2 hx rfl
  |fz n f=>cases h;exact base2 hx rfl
  |ms id p lo len=>exact Jw hr A2 h1 h2 hx h
 |ptr t _=>
  cases x with
  |nil=>cases h;exact base2 hx rfl
  |fz z=>cases h;exact base2 hx rfl
  |rf id p=>
   simp only[L6]at h;split at h
   ·rename_i o ho;split at h
    ·rename_i u z hg;split at h
     ·rename_i e;subst e;cases hb:dG u z
      ·rw[hb]at h;cases h
      ·rw[hb]at h;cases h;obtain⟨v,rfl,loc,hloc,hok,hat,hcap,rfl⟩:=hx;have hor:=hr.live ho (PO.ne_dead hg) hloc;obtain⟨c,hc,hcell⟩:=OL hor hok hg;exact⟨_,_,c,rfl,base2 hc hb,λha=>h2 _ (hor.writes (PO.ne_dead hg)) ha,hr.own id loc hloc,hcell⟩
     ·cases h
    ·cases h
   ·cases h
 |pair a b iha ihb=>
  simp only[L6]at h;cases hb:(Ty.pair a b).flat||dG (.pair a b) x
  ·rw[hb]at h;simp only[awW]at h;split at h
   ·rename_i y z hy hz;cases h;exact⟨iha hx.1 hy,ihb hx.2 hz⟩
   ·cases h
  ·rw[hb]at h;exact base hx (by rw[hb];exact h)
 |_=>exact base hx h
theorem SV(hr:aJ B ρ s a w)(A2:Nat->Prop)(h1: ∀b,A2 b->ρ.A b)(h2: ∀b,ρ.W b-> ¬A2 b){t:Ty}{x y:t.den}{cs:List Value}(hx:Rd ρ w t x cs)(h:a05 s.h t x=some y):Rd (Rho.of A2) w t y cs:=by
 have base: ∀ {t:Ty} {x y:t.den} {cs:List Value},Rd ρ w t x cs->(bif t.flat||dG t x then some x else none)=some y->Rd (Rho.of A2) w t y cs:=by
  intro t x y cs hx h;cases hb:t.flat||dG t x
  ·rw[hb]at h;cases h
  ·rw[hb]at h;cases h;rw[axU]at hb;have h3:Rd ρ.shut w t x cs:=by
    rcases hb with hb|hb
    ·exact hx.shutFlat hb
    ·exact hx.shutOf hb
   exact Rd.thin h1 h3
 have base2: ∀ {t:Ty} {x:t.den} {cs:List Value},Rd ρ w t x cs->dG t x=true->Rd (Rho.of A2) w t x cs:=λhx hb=>Rd.thin h1 (hx.shutOf hb)
 induction t generalizing cs with
 |sl t ih=>
  cases x with
  |nil=>cases h;exact base2 hx rfl
  |fz n f=>cases h;exact base2 hx rfl
  |ms id p lo len=>exact Jw hr A2 h1 h2 hx h
 |ptr t ih=>
  cases x with
  |nil=>cases h;exact base2 hx rfl
  |fz z=>cases h;exact base2 hx rfl
  |rf id p=>
   simp only[a05]at h;split at h
   ·rename_i o ho;split at h
    ·rename_i u z hg;split at h
     ·rename_i e;subst e;split at h
      ·rename_i z' hz';cases h;obtain⟨v,rfl,loc,hloc,hok,hat,hcap,rfl⟩:=hx;have hor:=hr.live ho (PO.ne_dead hg) hloc;obtain⟨c,hc,hcell⟩:=OL hor hok hg;exact⟨_,_,c,rfl,ih hc hz',λha=>h2 _ (hor.writes (PO.ne_dead hg)) ha,hr.own id loc hloc,hcell⟩
      ·cases h
     ·cases h
    ·cases h
   ·cases h
 |pair a b iha ihb=>
  simp only[a05]at h;split at h
  ·rename_i y' z' h3 h4;cases h;exact⟨iha hx.1 h3,ihb hx.2 h4⟩
  ·cases h
 |_=>exact base hx h
end
@[reducible] def Ty.arg:Ty->Type
 | .int _=>Int
 | .bool=>Bool
 | .str=>ByteArray
 | .unit=>Unit
 | .pair a b=>a.arg×b.arg
 | .arr _ t=>Nat->t.den
 | .sl t=>Nat×(Nat->t.den)
 | .ptr t=>Option t.den
 | .fn=>FnV
 | .sp _=>Unit
 | .mp=>Option Nat
 | .st t=>Nat×(Nat->t.den)
def wO:(t:Ty)->t.arg->t.den
 | .sl _,x=>.fz x.1 x.2
 | .ptr _,x=>match x with
  |none=>.nil
  |some y=>.fz y
 | .int _,x=>x
 | .bool,x=>x
 | .str,x=>x
 | .unit,x=>x
 | .pair a b,x=>(wO a x.1,wO b x.2)
 | .arr _ _,x=>x
 | .fn,x=>x
 | .sp _,x=>x
 | .mp,x=>x
 | .st _,x=>x
def toArg:(t:Ty)->t.den->Option t.arg
 | .sl t,x=>match x with
  | .nil=>some (0,λ_=>t.zero)
  | .fz n f=>some (n,f)
  | .ms _ _ _ _=>none
 | .ptr _,x=>match x with
  | .nil=>some none
  | .fz y=>some (some y)
  | .rf _ _=>none
 | .int _,x=>some x
 | .bool,x=>some x
 | .str,x=>some x
 | .unit,x=>some x
 | .pair a b,x=>match toArg a x.1 with
  |some y=>match toArg b x.2 with
   |some z=>some (y,z)
   |none=>none
  |none=>none
 | .arr _ _,x=>some x
 | .fn,x=>some x
 | .sp _,x=>some x
 | .mp,x=>some x
 | .st _,x=>some x
theorem FR {t:Ty}{ρ:Rho}{w:World}{x:t.den}{y:t.arg}{cs:List Value}(h:Rd ρ w t x cs)(hy:toArg t x=some y):Rd ρ w t (wO t y) cs:=by
 induction t generalizing cs with
 |sl t=>
  cases x with
  |nil=>
   cases hy;simp only[Rd]at h;exact⟨none,0,h,ax2 _,λi hi=>by cases hi⟩
  |fz n f=>cases hy;exact h
  |ms id p lo len=>cases hy
 |ptr t=>
  cases x with
  |nil=>cases hy;exact h
  |fz z=>cases hy;exact h
  |rf id p=>cases hy
 |pair a b iha ihb=>
  simp only[toArg]at hy;split at hy
  ·rename_i y1 h1;split at hy
   ·rename_i y2 h2;cases hy;exact⟨iha h.1 h1,ihb h.2 h2⟩
   ·cases hy
  ·cases hy
 |_=>cases hy;exact h
def Dom:List Ty->Type| []=>Unit|t::l=>t.arg×Dom l
@[reducible] def Cod:List Ty->Type
 | []=>Unit
 | [t]=>t.arg
 |t::u::l=>t.arg×Cod (u::l)
def nU:(l:List Ty)->Dom l->List PV| [],_=>[]|t::l,x=>.v ⟨t,wO t x.1⟩::nU l x.2
def Cu:(l:List Ty)->Cod l->List V| [],_=>[]| [t],x=>[⟨t,wO t x⟩]|t::u::l,x=>⟨t,wO t x.1⟩::Cu (u::l) x.2
def ME {R:Type} :(t:Ty)->t.arg->(t.den->Option R)->Option R
 | .sl _,x,K=>K (.fz x.1 x.2)
 | .ptr _,x,K=>match x with
  |none=>K .nil
  |some y=>K (.fz y)
 | .int _,x,K=>K x
 | .bool,x,K=>K x
 | .str,x,K=>K x
 | .unit,x,K=>K x
 | .pair a b,x,K=>ME a x.1 λy=>ME b x.2 λz=>K (y,z)
 | .arr _ _,x,K=>K x
 | .fn,x,K=>K x
 | .sp _,x,K=>K x
 | .mp,x,K=>K x
 | .st _,x,K=>K x
def Yy {R:Type}(t:Ty)(x:t.arg)(K:V->Option R):Option R:=ME t x λy=>K ⟨t,y⟩
def spread {R:Type} :(l:List Ty)->Cod l->(List V->Option R)->Option R| [],_,K=>K []| [t],x,K=>Yy t x λv=>K [v]|t::u::l,x,K=>Yy t x.1 λv=>spread (u::l) x.2 λvs=>K (v::vs)
theorem a2u {R:Type}{t:Ty}{x:t.arg}{K:t.den->Option R} :ME t x K=K (wO t x):=by
 induction t generalizing R with
 |ptr t=>cases x<;>rfl
 |pair a b iha ihb=>simp only[ME,iha,ihb,wO]
 |_=>rfl
theorem SX {R:Type}{t:Ty}{x:t.arg}{K:V->Option R} :Yy t x K=K ⟨t,wO t x⟩:=a2u
theorem Cv {R:Type} : ∀ {l:List Ty} {x:Cod l} {K:List V->Option R},spread l x K=K (Cu l x):=by
 intro l
 induction l with
 |nil=>intro x K;rfl
 |cons t l ih=>
  intro x K;cases l with
  |nil=>simp only[spread,SX,Cu]
  |cons u l=>simp only[spread,SX,Cu,ih]
def oh(still:Bool)(h:Heap):(l:List Ty)->List PV->Option (Dom l)
 | [],[]=>some ()
 |t::l,.v v::ps=>match v.to t with
  |some x=>match(bif still then L6 h t x else bif t.flat||dG t x then some x else none)with
   |some y=>match toArg t y with
    |some z=>match oh still h l ps with
     |some ys=>some (z,ys)
     |none=>none
    |none=>none
   |none=>none
  |none=>none
 |_,_=>none
def bW:List PV->Heap->Option (List PV×Upd)
 | [],_=>some ([],[])
 |p::l,h=>match p with
  | .v ⟨.sl t,.ms id [] lo len⟩=>match nJ h t id [] lo len with
   |some y=>match bW l (λi=>bif Nat.beq id i then some .dead else h i)with
    |some (ps,u)=>some (.v ⟨.sl t,y⟩::ps,u++[(id,.dead)])
    |none=>none
   |none=>none
  | .v ⟨.ptr t,.rf id []⟩=>match h id with
   |some (.obj t' y)=>if e:t'=t then bif dG t' y then
     match bW l (λi=>bif Nat.beq id i then some .dead else h i)with
     |some (ps,u)=>some (.v ⟨.ptr t,.fz (e▸y)⟩::ps,u++[(id,.dead)])
     |none=>none
     else none else none
   |_=>none
  |p=>match bW l h with
   |some (ps,u)=>some (p::ps,u)
   |none=>none
def Au(h:Heap):(l:List Ty)->List V->Option (Cod l)
 | [],[]=>some ()
 | [t],[v]=>match v.to t with
  |some x=>match a05 h t x with
   |some y=>toArg t y
   |none=>none
  |none=>none
 |t::u::l,v::vs=>match v.to t with
  |some x=>match a05 h t x with
   |some y=>match toArg t y with
    |some z=>match Au h (u::l) vs with
     |some ys=>some (z,ys)
     |none=>none
    |none=>none
   |none=>none
  |none=>none
 |_,_=>none
def qw(l:List Ty)(pv:PV)(s:DS):Option (Cod l):=match pv with| .v v=>Au s.h l [v]| .tup vs=>bif Nat.beq vs.length 1 then none else Au s.h l vs|_=>none
def a06:(t:Ty)->t.den->List Nat
 | .sl _,x=>match x with
  | .ms id _ _ _=>[id]
  |_=>[]
 | .ptr _,x=>match x with
  | .rf id _=>[id]
  |_=>[]
 | .pair a b,x=>a06 a x.1++a06 b x.2
 |_,_=>[]
def cK:List PV->List Nat| []=>[]| .v ⟨.pair a b,x⟩::l=>a06 (.pair a b) x++cK l| .v ⟨.sl _,.ms id _ _ _⟩::l=>id::cK l| .v ⟨.ptr _,.rf id _⟩::l=>id::cK l|_::l=>cK l
def aO(still:Bool)(dom cod:List Ty)(f:Dom dom->Option (Cod cod)):Con where
 fp args _:=(cK args,bif still then []else cK args)
 run args h _ K:=match(bif still then some (args,[])else bW args h:Option (List PV×Upd))with
  |some (args,u)=>match oh still h dom args with
   |some xs=>match f xs with
    |some r=>spread cod r λvs=>K (Ra vs) u 0
    |none=>none
   |none=>none
  |none=>none
theorem a4Z {h h':Heap}{t:Ty}{x:t.den}(hh: ∀id∈a06 t x,h id=h' id):L6 h t x=L6 h' t x:=by
 induction t with
 |sl t _=>
  cases x with
  |ms id p lo len=>simp only[L6,nJ];rw[hh id (by simp[a06])]
  |_=>rfl
 |ptr t _=>
  cases x with
  |rf id p=>simp only[L6];rw[hh id (by simp[a06])]
  |_=>rfl
 |pair a b iha ihb=>
  simp only[L6];rw[iha (λid hid=>hh id (by simp only[a06];exact awK _ hid)),ihb (λid hid=>hh id (by simp only[a06];exact awE _ hid))]
 |_=>rfl
theorem a6v {h h':Heap}{t:Ty}{x:t.den}(hh: ∀id∈cK [.v ⟨t,x⟩],h id=h' id):L6 h t x=L6 h' t x:=by
 apply a4Z;cases t with
 |sl t=>cases x<;>exact hh
 |ptr t=>cases x<;>exact hh
 |pair a b=>exact λid hid=>hh id (by simp only[cK];exact awK _ hid)
 |_=>intro id hid;cases hid
theorem a5a {v:V}{t:Ty}{x:t.den}(h:v.to t=some x):cK [.v ⟨t,x⟩]=cK [.v v]:=by
 unfold V.to at h;split at h
 ·rename_i e;obtain⟨u,y⟩:=v;simp only at e;subst e;simp only[awr]at h;subst h;rfl
 ·split at h
  ·cases h;rfl
  ·cases h;rfl
  ·rename_i u y _ _;cases y with
   |ms id p lo len=>cases h
   |nil=>cases h;rfl
   |fz n f=>rfl
  ·cases h
theorem wP(p:PV)(l:List PV):cK (p::l)=cK [p]++cK l:=by
 match p with
 | .v ⟨.sl _,.ms _ _ _ _⟩=>rfl
 | .v ⟨.sl _,.nil⟩=>rfl
 | .v ⟨.sl _,.fz _ _⟩=>rfl
 | .v ⟨.ptr _,.rf _ _⟩=>rfl
 | .v ⟨.ptr _,.nil⟩=>rfl
 | .v ⟨.ptr _,.fz _⟩=>rfl
 | .v ⟨.int _,_⟩=>rfl
 | .v ⟨.bool,_⟩=>rfl
 | .v ⟨.str,_⟩=>rfl
 | .v ⟨.unit,_⟩=>rfl
 | .v ⟨.pair _ _,_⟩=>simp[cK]
 | .v ⟨.arr _ _,_⟩=>rfl
 | .v ⟨.fn,_⟩=>rfl
 | .v ⟨.sp _,_⟩=>rfl
 | .v ⟨.mp,_⟩=>rfl
 | .v ⟨.st _,_⟩=>rfl
 | .un=>rfl
 | .tup _=>rfl
 | .dp _ _=>rfl
 | .zr _=>rfl
theorem Yz {still:Bool}{h h':Heap} : ∀ {l:List Ty} {ps:List PV},(∀id∈cK ps,h id=h' id)->oh still h l ps=oh still h' l ps:=by
 intro l
 induction l with
 |nil=>intro ps hh;cases ps<;>rfl
 |cons t l ih=>
  intro ps hh;cases ps with
  |nil=>rfl
  |cons p ps=>
   rw[wP]at hh;cases p with
   |v v=>
    simp only[oh];split
    ·rename_i x hx;have e:(bif still then L6 h t x else bif t.flat||dG t x then some x else none)=(bif still then L6 h' t x else bif t.flat||dG t x then some x else none):=by
      cases still
      ·rfl
      ·simp only[awL];exact a6v λid hid=>hh id (awK _ (by rw[<-a5a hx];exact hid))
     rw[e,ih (λid hid=>hh id (awE _ hid))]
    ·rfl
   |_=>rfl
theorem Dz {h h':Heap} : ∀ {l:List Ty} {ps:List PV},oh false h l ps=oh false h' l ps:=by
 intro l
 induction l with
 |nil=>intro ps;cases ps<;>rfl
 |cons t l ih=>
  intro ps;cases ps with
  |nil=>rfl
  |cons p ps=>
   cases p with
   |v v=>simp only[oh,awW,ih (ps:=ps)]
   |_=>rfl
theorem a07 {h h':Heap}{t:Ty}{id:Nat}{p:Path}{lo len:Nat}(hh:h id=h' id):nJ h t id p lo len=nJ h' t id p lo len:=by simp only[nJ,hh]
theorem DC(p:PV):(∃t id lo len,p= .v ⟨.sl t,.ms id [] lo len⟩)\/(∃t id,p= .v ⟨.ptr t,.rf id []⟩)\/
  ∀l h,bW (p::l) h=match bW l h with
   |some (ps,u)=>some (p::ps,u)
   |none=>none:=by
 match p with
 | .v ⟨.sl t,.ms id [] lo len⟩=>exact .inl ⟨t,id,lo,len,rfl⟩
 | .v ⟨.sl _,.ms _ (_::_) _ _⟩=>exact .inr (.inr λ_ _=>rfl)
 | .v ⟨.sl _,.nil⟩=>exact .inr (.inr λ_ _=>rfl)
 | .v ⟨.sl _,.fz _ _⟩=>exact .inr (.inr λ_ _=>rfl)
 | .v ⟨.ptr t,.rf id []⟩=>exact .inr (.inl ⟨t,id,rfl⟩)
 | .v ⟨.ptr _,.rf _ (_::_)⟩=>exact .inr (.inr λ_ _=>rfl)
 | .v ⟨.ptr _,.nil⟩=>exact .inr (.inr λ_ _=>rfl)
 | .v ⟨.ptr _,.fz _⟩=>exact .inr (.inr λ_ _=>rfl)
 | .v ⟨.int _,_⟩=>exact .inr (.inr λ_ _=>rfl)
 | .v ⟨.bool,_⟩=>exact .inr (.inr λ_ _=>rfl)
 | .v ⟨.str,_⟩=>exact .inr (.inr λ_ _=>rfl)
 | .v ⟨.unit,_⟩=>exact .inr (.inr λ_ _=>rfl)
 | .v ⟨.pair _ _,_⟩=>exact .inr (.inr λ_ _=>rfl)
 | .v ⟨.arr _ _,_⟩=>exact .inr (.inr λ_ _=>rfl)
 | .v ⟨.fn,_⟩=>exact .inr (.inr λ_ _=>rfl)
 | .v ⟨.sp _,_⟩=>exact .inr (.inr λ_ _=>rfl)
 | .v ⟨.mp,_⟩=>exact .inr (.inr λ_ _=>rfl)
 | .v ⟨.st _,_⟩=>exact .inr (.inr λ_ _=>rfl)
 | .un=>exact .inr (.inr λ_ _=>rfl)
 | .tup _=>exact .inr (.inr λ_ _=>rfl)
 | .dp _ _=>exact .inr (.inr λ_ _=>rfl)
 | .zr _=>exact .inr (.inr λ_ _=>rfl)
theorem FT: ∀ {ps:List PV} {h h':Heap},(∀id∈cK ps,h id=h' id)->bW ps h=bW ps h':=by
 intro ps
 induction ps with
 |nil=>intro h h' _;rfl
 |cons p l ih=>
  intro h h' hh;rw[wP]at hh;have tl: ∀id,bW l (λi=>bif Nat.beq id i then some .dead else h i)=bW l (λi=>bif Nat.beq id i then some .dead else h' i):=by
   intro id;refine ih λi hi=>?_
   rw[hh i (awE _ hi)]
  rcases DC p with⟨t,id,lo,len,rfl⟩|⟨t,id,rfl⟩|hp
  ·have hid:=hh id (by simp[cK]);simp only[bW,a07 hid,tl id]
  ·have hid:=hh id (by simp[cK]);simp only[bW,hid,tl id]
  ·rw[hp,hp,ih λi hi=>hh i (awE _ hi)]
theorem FU: ∀ {ps ps':List PV} {h:Heap} {u:Upd},bW ps h=some (ps',u)-> ∀x∈u,x.1∈cK ps:=by
 intro ps
 induction ps with
 |nil=>intro ps' h u hf x hx;cases hf;cases hx
 |cons p l ih=>
  intro ps' h u hf x hx;rw[wP];rcases DC p with⟨t,id,lo,len,rfl⟩|⟨t,id,rfl⟩|hp
  ·simp only[bW]at hf;split at hf
   ·split at hf
    ·rename_i ps1 u1 h1;cases hf;rcases axo.1 hx with hx|hx
     ·exact awE _ (ih h1 x hx)
     ·simp at hx;subst hx;exact awK _ (by simp[cK])
    ·cases hf
   ·cases hf
  ·simp only[bW]at hf;split at hf
   ·split at hf
    ·rename_i t' y _ e;cases hb:dG t' y
     ·rw[hb]at hf;cases hf
     ·rw[hb]at hf;simp only[awL]at hf;split at hf
      ·rename_i ps1 u1 h1;cases hf;rcases axo.1 hx with hx|hx
       ·exact awE _ (ih h1 x hx)
       ·simp at hx;subst hx;exact awK _ (by simp[cK])
      ·cases hf
    ·cases hf
   ·cases hf
  ·rw[hp]at hf;split at hf
   ·rename_i ps1 u1 h1;cases hf;exact awE _ (ih h1 x hx)
   ·cases hf
section
variable {B:Base} {ρ:Rho} {s:DS} {a:Act} {w:World}
theorem uX: ∀ {ps:List PV} {vs:List Value} {ps':List PV} {u:Upd} {s:DS} {ρ:Rho},aJ B ρ s a w->VPs ρ w ps vs->bW ps s.h=some (ps',u)->
  ∃ρ',aJ B ρ' { s with hp:=u++s.hp } a w/\Later ρ w ρ' w/\ρ'.f=ρ.f/\VPs ρ' w ps' vs:=by
 intro ps
 induction ps with
 |nil=>intro vs ps' u s ρ hr hv h;cases h;exact⟨ρ,hr,Later.refl _ _,rfl,hv⟩
 |cons p l ih=>
  intro vs ps' u s ρ hr hv h;cases vs with
  |nil=>exact hv.elim
  |cons v vs=>
   obtain⟨hv1,hv2⟩:=hv;have later: ∀ {ρ ρ':Rho} (L:Later ρ w ρ' w) {l:List PV} {vs:List Value},VPs ρ w l vs->VPs ρ' w l vs:=by
    intro ρ ρ' L l
    induction l with
    |nil=>intro vs h;cases vs with
     |nil=>trivial
     |cons _ _=>exact h.elim
    |cons x l ih=>intro vs h;cases vs with
     |nil=>exact h.elim
     |cons v vs=>exact⟨h.1.later L,ih h.2⟩
   rcases DC p with⟨t,id,lo,len,rfl⟩|⟨t,id,rfl⟩|hp
   ·simp only[bW]at h;split at h
    ·rename_i y hy;split at h
     ·rename_i ps1 u1 h1;cases h;obtain⟨o,k,g,ho,hg,hb,_⟩:=yF hy;cases hl:ρ id with
      |none=>
       obtain⟨ρ2,h2,h3,h4,h5⟩:=ih (hr.kill id) hv2 h1;refine⟨ρ2,by simpa using h2,h3,h4,?_,h5⟩;obtain⟨cs,hc,e⟩:=hv1;have h6:=sU hr ρ.A (λ_ h=>h) (λloc hl'=>by rw[hl]at hl';cases hl') hc hy;exact VR.later h3 ⟨cs,Rd.openIn (ρ:=ρ) h6,e⟩
      |some loc=>
       obtain⟨ρ1,g1,g2,g3,g4,g5⟩:=hr.freeze ho (PO.ne_dead hg) hl;obtain⟨ρ2,h2,h3,h4,h5⟩:=ih g1 (later g2 hv2) h1;refine⟨ρ2,by simpa using h2,g2.trans h3,h4.trans g3,?_,h5⟩;obtain⟨cs,hc,e⟩:=hv1;have h6:=sU hr ρ1.A g4 (λloc' hl'=>by rw[hl]at hl';cases hl';exact g5) hc hy;exact VR.later h3 ⟨cs,Rd.openIn (ρ:=ρ1) h6,e⟩
     ·cases h
    ·cases h
   ·simp only[bW]at h;split at h
    ·rename_i t' y ho;split at h
     ·rename_i e;subst e;cases hb:dG t' y
      ·rw[hb]at h;cases h
      ·rw[hb]at h;simp only[awL]at h;split at h
       ·rename_i ps1 u1 h1;cases h;obtain⟨loc,hl,hok,hat,hcap,rfl⟩:=VR.ptrRf hv1;have hor:=hr.live ho (by intro e;cases e) hl;obtain⟨c,hc,hcell⟩:=OL (p:=[]) hor hok (show(PO.obj t' y).get []=some ⟨t',y⟩by simp[PO.get,Ty.get_nil]);obtain⟨ρ1,g1,g2,g3,g4,g5⟩:=hr.freeze ho (by intro e;cases e) hl;obtain⟨ρ2,h2,h3,h4,h5⟩:=ih g1 (later g2 hv2) h1;refine⟨ρ2,by simpa using h2,g2.trans h3,h4.trans g3,?_,h5⟩;have h6:Rd ρ1.shut w t' y c:=Rd.thin g4 (hc.shutOf hb);exact VP.later h3 (VR.mkFz h6 ⟨g5,hr.own id loc hl,hcell⟩)
       ·cases h
     ·cases h
    ·cases h
   ·rw[hp]at h;split at h
    ·rename_i ps1 u1 h1;cases h;obtain⟨ρ2,h2,h3,h4,h5⟩:=ih hr hv2 h1;exact⟨ρ2,h2,h3,h4,hv1.later h3,h5⟩
    ·cases h
theorem FV(hr:aJ B ρ s a w)(A2:Nat->Prop)(h1: ∀b,A2 b->ρ.A b){still:Bool}(h2:still=true-> ∀b,ρ.W b-> ¬A2 b): ∀ {l:List Ty} {ps:List PV} {vs:List Value} {xs:Dom l},VPs ρ w ps vs->oh still s.h l ps=some xs->VPs (Rho.of A2) w (nU l xs) vs:=by
 intro l
 induction l with
 |nil=>
  intro ps vs xs hv h;cases ps with
  |nil=>cases vs with
   |nil=>trivial
   |cons _ _=>exact hv.elim
  |cons p ps=>cases p<;>cases h
 |cons t l ih=>
  intro ps vs xs hv h;cases ps with
  |nil=>cases h
  |cons p ps=>
   cases vs with
   |nil=>exact hv.elim
   |cons v0 vs=>
    cases p with
    |v v=>
     simp only[oh]at h;split at h
     ·rename_i x hx;split at h
      ·rename_i y hy;split at h
       ·rename_i z hz;split at h
        ·rename_i ys hys;cases h;refine⟨?_,ih hv.2 hys⟩;obtain⟨cs,hc,e⟩:=VR.to hv.1 hx;refine⟨cs,FR ?_ hz,e⟩;cases still
         ·simp only[awW]at hy;cases hb:t.flat||dG t x
          ·rw[hb]at hy;cases hy
          ·rw[hb]at hy;cases hy;rw[axU]at hb;rcases hb with hb|hb
           ·exact Rd.thin h1 (hc.shutFlat hb)
           ·exact Rd.thin h1 (hc.shutOf hb)
         ·exact a2t hr A2 h1 (h2 rfl) hc hy
        ·cases h
       ·cases h
      ·cases h
     ·cases h
    |_=>cases h
theorem Jy(hr:aJ B ρ s a w)(A2:Nat->Prop)(h1: ∀b,A2 b->ρ.A b)(h2: ∀b,ρ.W b-> ¬A2 b): ∀ {l:List Ty} {vs:List V} {us:List Value} {r:Cod l},VRs ρ w vs us->Au s.h l vs=some r->VRs (Rho.of A2) w (Cu l r) us:=by
 intro l
 induction l with
 |nil=>
  intro vs us r hv h;cases vs with
  |nil=>cases us with
   |nil=>trivial
   |cons _ _=>exact hv.elim
  |cons _ _=>cases h
 |cons t l ih=>
  intro vs us r hv h;cases l with
  |nil=>
   match vs,us,hv,h with
   | [v],[u],hv,h=>
    simp only[Au]at h;split at h
    ·rename_i x hx;split at h
     ·rename_i y hy;obtain⟨cs,hc,e⟩:=VR.to hv.1 hx;exact⟨⟨cs,FR (SV hr A2 h1 h2 hc hy) h,e⟩,trivial⟩
     ·cases h
    ·cases h
   | [v],u::u'::us,hv,h=>exact hv.2.elim
  |cons t' l=>
   match vs,us,hv,h with
   |v::vs,u::us,hv,h=>
    simp only[Au]at h;split at h
    ·rename_i x hx;split at h
     ·rename_i y hy;split at h
      ·rename_i z hz;split at h
       ·rename_i ys hys;cases h;obtain⟨cs,hc,e⟩:=VR.to hv.1 hx;exact⟨⟨cs,FR (SV hr A2 h1 h2 hc hy) hz,e⟩,ih hv.2 hys⟩
       ·cases h
      ·cases h
     ·cases h
    ·cases h
theorem SY(hr:aJ B ρ s a w)(A2:Nat->Prop)(h1: ∀b,A2 b->ρ.A b)(h2: ∀b,ρ.W b-> ¬A2 b){l:List Ty}{pv:PV}{v:Value}{r:Cod l}(hv:VP ρ w pv v)(h:qw l pv s=some r):VP (Rho.of A2) w (Ra (Cu l r)) v:=by
 unfold qw at h;have len: ∀ {l:List Ty} {vs:List V} {r:Cod l},Au s.h l vs=some r->l.length=vs.length/\(Cu l r).length=l.length:=by
  intro l
  induction l with
  |nil=>intro vs r h;cases vs with
   |nil=>exact⟨rfl,rfl⟩
   |cons _ _=>cases h
  |cons t l ih=>
   intro vs r h;cases l with
   |nil=>
    match vs,h with
    | [v],h=>exact⟨rfl,rfl⟩
   |cons t' l=>
    match vs,h with
    |v::vs,h=>
     simp only[Au]at h;split at h
     ·split at h
      ·split at h
       ·split at h
        ·rename_i ys hys;cases h;obtain⟨h1,h2⟩:=ih hys;exact⟨by simp at h1⊢;exact h1,by simp only[Cu,axH]at h2⊢;omega⟩
        ·cases h
       ·cases h
      ·cases h
     ·cases h
 split at h
 ·rename_i x;have hvs:VRs ρ w [x] [v]:=⟨hv,trivial⟩;have h3:=Jy hr A2 h1 h2 hvs h;obtain⟨h4,h5⟩:=len h
  match l,r,h3,h4,h5 with
  | [t],r,h3,h4,h5=>exact h3.1
 ·rename_i vs;cases hb:Nat.beq vs.length 1
  ·rw[hb]at h;simp only[awW]at h;obtain⟨us,rfl,hus⟩:=hv;have h3:=Jy hr A2 h1 h2 hus h;obtain⟨h4,h5⟩:=len h;have hne:(Cu l r).length≠1:=by intro e;rw[<-h4,<-h5,e]at hb;cases hb
   have:Ra (Cu l r)= .tup (Cu l r):=by
    match Cu l r,hne with
    | [],_=>rfl
    | [x],h=>exact absurd rfl h
    |_::_::_,_=>rfl
   rw[this];exact⟨us,rfl,h3⟩
  ·rw[hb]at h;cases h
 ·cases h
theorem a5b: ∀ {l:List Ty} {r:Cod l} {us:List Value} {ρ ρ':Rho} {w w':World},l.all Ty.flat=true->VRs ρ w (Cu l r) us->VRs ρ' w' (Cu l r) us:=by
 intro l
 induction l with
 |nil=>intro r us ρ ρ' w w' _ h;cases us with
  |nil=>trivial
  |cons _ _=>exact h.elim
 |cons t l ih=>
  intro r us ρ ρ' w w' hf h;simp only[az1,awu]at hf;cases l with
  |nil=>
   cases us with
   |nil=>exact h.elim
   |cons u us=>
    obtain⟨⟨cs,h1,h2⟩,h3⟩:=h;cases us with
    |nil=>exact⟨⟨cs,h1.flatAny hf.1,h2⟩,trivial⟩
    |cons _ _=>exact h3.elim
  |cons t' l=>
   cases us with
   |nil=>exact h.elim
   |cons u us=>
    obtain⟨⟨cs,h1,h2⟩,h3⟩:=h;exact⟨⟨cs,h1.flatAny hf.1,h2⟩,ih hf.2 h3⟩
theorem a5c {l:List Ty}{r:Cod l}{v:Value}{ρ ρ':Rho}{w w':World}(hf:l.all Ty.flat=true)(h:VP ρ w (Ra (Cu l r)) v):VP ρ' w' (Ra (Cu l r)) v:=by
 have key: ∀us,VRs ρ w (Cu l r) us->VRs ρ' w' (Cu l r) us:=λus h=>a5b hf h
 generalize Cu l r=vs at*
 match vs with
 | []=>obtain⟨us,h1,h2⟩:=h;exact⟨us,h1,key us h2⟩
 | [x]=>exact(key [v] ⟨h,trivial⟩).1
 |_::_::_=>obtain⟨us,h1,h2⟩:=h;exact⟨us,h1,key us h2⟩
end
theorem a08 {still:Bool}{dom cod:List Ty}{f:Dom dom->Option (Cod cod)}{args:List PV}{h h':Heap}{nx:Nat}(hh: ∀id∈((aO still dom cod f).fp args h).1,h id=h' id):
  (aO still dom cod f).run args h nx pk=(aO still dom cod f).run args h' nx pk:=by
 simp only[aO]at hh⊢;cases still
 ·simp only[awW];rw[FT hh];split
  ·rw[Dz]
  ·rfl
 ·simp only[awL];rw[Yz hh]
theorem a09 {still:Bool}{dom cod:List Ty}{f:Dom dom->Option (Cod cod)}{args:List PV}{h:Heap}{nx:Nat}{r:Ans}(hr:(aO still dom cod f).run args h nx pk=some r):
  ∀x∈r.2.1,x.1∈((aO still dom cod f).fp args h).2\/(nx<=x.1/\x.1<nx+r.2.2):=by
 simp only[aO]at hr;split at hr
 ·rename_i args' u hfr;split at hr
  ·split at hr
   ·rw[Cv]at hr;cases hr;intro x hx;cases still
    ·exact .inl (FU hfr x hx)
    ·cases hfr;cases hx
   ·cases hr
  ·cases hr
 ·cases hr
theorem a0a {still:Bool}{dom cod:List Ty}{f:Dom dom->Option (Cod cod)}{R:Type}{args:List PV}{h:Heap}{nx:Nat}{K:K3 R} :
  (aO still dom cod f).run args h nx K=((aO still dom cod f).run args h nx pk).bind λr=>K r.1 r.2.1 r.2.2:=by
 simp only[aO];split
 ·split
  ·split
   ·rw[Cv,Cv];rfl
   ·rfl
  ·rfl
 ·rfl
theorem aaJ {P:Program}{C:Cx}(hC:av P C){f:FuncId}{fn:Func}{lps:List (Nat×Lp)}(d:Nat)(hf:P.funcs[f]?=some fn)(hent: ∀args w,(callFunc f args).run P w= .ok (.enter f args) w)
  (hlp: ∀c,fn.body=some c-> ∀q∈blocks c,∀lp,look lps q.1=some lp->aX P q.1 q.2 lp) (still:Bool) (dom cod:List Ty) (impl:Dom dom->Option (Cod cod)) (hst:still=true->cod.all Ty.flat=true)
  (himpl: ∀xs,dJ C lps (fD C d) fn (nU dom xs) [] 0 (qw cod)=impl xs):aA P f (aO still dom cod impl) where
 loc args h h' nx r hh hr:=⟨by rw[<-a08 hh];exact hr,rfl⟩
 upd args h nx r hr:=a09 hr
 nat R args h nx K:=a0a
 sound B ρ s a w nx args vargs r hr hnx hv h:=by
  simp only[aO]at h;split at h
  ·rename_i args' u hfr;split at h
   ·rename_i xs hxs;split at h
    ·rename_i res hres;rw[Cv]at h;cases h;obtain⟨ρ1,hr1,L1,hf1,hv1⟩: ∃ρ1,aJ B ρ1 { s with hp:=u++s.hp } a w/\Later ρ w ρ1 w/\ρ1.f=ρ.f/\VPs ρ1 w args' vargs:=by
      cases still
      ·exact uX hr hv hfr
      ·cases hfr;exact⟨ρ,hr,Later.refl _ _,rfl,hv⟩
     have hxs1:oh still (look (u++s.hp)) dom args'=some xs:=by
      cases hs:still
      ·rw[hs]at hxs;rw[<-hxs];exact Dz
      ·rw[hs]at hfr hxs;cases hfr;exact hxs
     let A2:Nat->Prop:=λb=>still=false/\ρ1.A b
     have hA2: ∀b,A2 b->ρ1.A b:=λb h=>h.2
     have hargs:=FV hr1 A2 hA2 (λe b _ h=>by have:=h.1;rw[e]at this;cases this) hv1 hxs1;rw[<-himpl]at hres;let a0:Act:= { tmps:=Array.replicate 0 undef,defers:=[] };have hr0:aJ ⟨w,λ_=>False⟩ (Rho.of A2) { env:=[],hp:=[],nx:=0,n:=0 } a0 w:=
      ⟨rfl,az9 _,(λt pv h=>by cases h),(λid o h=>by cases h),(λid id' o o' loc loc' h=>by cases h),(λid loc h=>by cases h),(λb hb=>hr1.ownA b hb.2),⟨rfl,rfl,rfl,λ_ _ _=>rfl,ax2 _⟩,λ_ h=>h.elim,Wi.free λid o h=>by cases h⟩
     refine .inr ⟨hent _ _,?_⟩;refine(Aq hC (Ar hC _) (Dy hC (Ar hC _) d) lps hf hlp hres hr0 (λid _=>rfl) hargs).mono ?_;rintro e w' ⟨v,rfl,pv,s',ρ',a',hk,hr',_,hv',L⟩;have hkeep: ∀b,b<w.heap.size->w'.heap[b]?=w.heap[b]?:=λb hb=>L.keep b hb (λh=>h)
     have hsame:=hr1.same L.size hkeep hr'.base.os hr'.base.tape hr'.base.output (λa ha=>hr'.base.froz a ha id);refine⟨v,rfl,ρ1,hsame.1,L1.trans hsame.2,?_,λid _=>by show ρ1.f id=ρ.f id;rw[hf1]⟩;have hWn: ∀b,ρ'.W b-> ¬ρ1.A b:=by
      intro b hb ha;rcases L.downW b hb with h|h
      ·exact h
      ·have:=hr1.ownA b ha;omega
     cases hs:still
     ·
      have hA: ∀b,ρ1.A b->ρ'.A b:=λb hb=>L.upA b (hr1.ownA b hb) ⟨hs,hb⟩ (λh=>h)
      have h3:=SY hr' ρ1.A hA hWn hv' hk;have: ∀x v,VR (Rho.of ρ1.A) w' x v->VR ρ1 w' x v:=λx v ⟨cs,h1,h2⟩=>⟨cs,Rd.openIn (ρ:=ρ1) h1,h2⟩
      have this2: ∀l us,VRs (Rho.of ρ1.A) w' l us->VRs ρ1 w' l us:=by
       intro l
       induction l with
       |nil=>intro us h;cases us with
        |nil=>trivial
        |cons _ _=>exact h.elim
       |cons x l ih=>intro us h;cases us with
        |nil=>exact h.elim
        |cons u us=>exact⟨this _ _ h.1,ih us h.2⟩
      generalize Ra (Cu cod res)=pr at h3;cases pr with
      |un=>trivial
      |v x=>exact this x v h3
      |tup l=>obtain⟨us,h1,h2⟩:=h3;exact⟨us,h1,this2 l us h2⟩
      |zr t=>exact h3
      |dp id n=>
       obtain⟨p,h1,h2⟩:=h3;refine⟨p,h1,λh0=>?_⟩;obtain⟨loc,_,_,h4,_⟩:=h2 h0;cases h4
     ·have h3:=SY hr' (λ_=>False) (λ_ h=>h.elim) (λ_ _ h=>h) hv' hk;exact a5c (hst hs) h3
    ·cases h
   ·cases h
  ·cases h
inductive Pat where
 |v (t:Ty)
 |c (x:V)
 |w (e:TypeId) (t:Ty) (id:Nat)
 |p (a b:Pat)
 |sz (t:Ty)
 |pz (t:Ty)
 |po (t:Ty)
 |m (kt vt:Ty) (id:Nat)
 |bg (kt t:Ty) (id:Nat) (q:Option Nat)
@[reducible] def a6w (kt t:Ty):Option Nat->Type
 |none=>List (kt.den×(t.den×lC (aQ t)))
 |some _=>List (kt.den×(t.den×lC (aQ t)))×Nat
def aiH {kt t:Ty} :(q:Option Nat)->a6w kt t q->List (kt.den×(t.den×lC (aQ t)))|none,x=>x|some _,x=>x.1
def aaK {kt t:Ty} :(q:Option Nat)->a6w kt t q->Option (Nat×Nat)|none,_=>none|some s,x=>some (x.2,s)
def adJ {kt t:Ty}(l:List (kt.den×(t.den×lC (aQ t)))):(q:Option Nat)->Option (Nat×Nat)->Option (a6w kt t q)|none,none=>some l|some s,some (j,oid)=>bif Nat.beq oid s then some (l,j)else none|_,_=>none
theorem a5d {kt t:Ty}{l:List (kt.den×(t.den×lC (aQ t)))}{q:Option Nat}{out:Option (Nat×Nat)}{x:a6w kt t q}(h:adJ l q out=some x):aiH q x=l/\aaK q x=out:=by
 cases q with
 |none=>
  cases out with
  |none=>cases h;exact⟨rfl,rfl⟩
  |some _=>cases h
 |some s=>
  cases out with
  |none=>cases h
  |some r=>
   obtain⟨j,oid⟩:=r;simp only[adJ]at h;cases hb:Nat.beq oid s
   ·rw[hb]at h;cases h
   ·rw[hb]at h;cases h;exact⟨rfl,by simp only[aaK];rw[ax0 hb]⟩
@[reducible] def Pat.ty:Pat->Ty
 | .v t=>t
 | .c x=>x.1
 | .w _ t _=>.sl t
 | .p a b=>.pair a.ty b.ty
 | .sz t=>.sl t
 | .pz t=>.ptr t
 | .po t=>.ptr t
 | .m _ _ _=>.mp
 | .bg _ _ _ _=>.mp
@[reducible] def Pat.X:Pat->Type
 | .v t=>t.den
 | .c _=>Unit
 | .w _ t _=>Nat×(Nat->t.den)
 | .p a b=>a.X×b.X
 | .sz t=>Nat×(Nat->t.den)
 | .pz t=>t.den
 | .po t=>Option t.den
 | .m kt vt _=>List (kt.den×vt.den)
 | .bg kt t _ q=>a6w kt t q
def Pat.mk:(p:Pat)->p.X->p.ty.den
 | .v _,x=>x
 | .c x,_=>x.2
 | .w _ _ id,x=>.ms id [] 0 x.1
 | .p a b,x=>(a.mk x.1,b.mk x.2)
 | .sz _,x=>.fz x.1 x.2
 | .pz _,x=>.fz x
 | .po _,x=>match x with
  |none=>.nil
  |some y=>.fz y
 | .m _ _ id,_=>some id
 | .bg _ _ id _,_=>some id
def Pat.objs:(p:Pat)->p.X->List (Nat×PO)| .w e t id,x=>[(id,.row true e t x.1 x.2)]| .m kt vt id,l=>[(id,.mp kt vt l)]| .bg kt t id q,x=>[(id,.bag kt t (aiH q x) (aaK q x))]| .p a b,x=>a.objs x.1++b.objs x.2|_,_=>[]
def w9:(t:Ty)->t.den->t.den->Bool
 | .ptr _,x,y=>match x,y with
  | .rf id p,.rf id' p'=>decide (id=id')&&decide (p=p')
  | .nil,.nil=>true
  |_,_=>false
 | .fn,x,y=>match x,y with
  | .mk f c,.mk f' c'=>decide (f=f')&&decide (c=c')
  |_,_=>false
 | .mp,x,y=>match x,y with
  |none,none=>true
  |_,_=>false
 | .sl _,x,y=>match x,y with
  | .nil,.nil=>true
  |_,_=>false
 |_,_,_=>false
def aiI {k v k' v':Ty}(e:k'=k/\v'=v)(l:List (k'.den×v'.den)):List (k.den×v.den):=e.1▸e.2▸l
def aiJ {k t k' t':Ty}(e:k'=k/\t'=t)(l:List (k'.den×(t'.den×lC (aQ t')))):List (k.den×(t.den×lC (aQ t))):=e.1▸e.2▸l
def Pat.rd(h:Heap):(p:Pat)->p.ty.den->Option p.X
 | .v t,x=>bif t.flat||dG t x then some x else none
 | .c x,y=>bif w9 x.1 x.2 y then some ()else none
 | .w e t _,x=>match x with
  | .nil=>some (0,λ_=>t.zero)
  | .ms id [] 0 n=>match h id with
   |some (.row sh' e' t' _ f)=>if ht:t'=t then bif Nat.beq e' e&&(t.flat||sh')then some (n,ht▸f)else none else none
   |_=>none
  |_=>none
 | .p a b,x=>match a.rd h x.1,b.rd h x.2 with
  |some y,some z=>some (y,z)
  |_,_=>none
 | .sz t,x=>match x with
  | .nil=>some (0,λ_=>t.zero)
  | .fz n f=>some (n,f)
  | .ms _ _ _ _=>none
 | .pz _,x=>match x with
  | .fz y=>some y
  |_=>none
 | .po _,x=>match x with
  | .nil=>some none
  | .fz y=>some (some y)
  | .rf _ _=>none
 | .m kt vt _,x=>match x with
  |none=>none
  |some id=>match h id with
   |some (.mp k' v' l)=>if e:k'=kt/\v'=vt then some (aiI e l)else none
   |_=>none
 | .bg kt t _ q,x=>match x with
  |none=>none
  |some id=>match h id with
   |some (.bag k' t' l out)=>if e:k'=kt/\t'=t then adJ (aiJ e l) q out else none
   |_=>none
structure Mv where
 new:Nat
 old:Option Nat
 ty:Ty
def Pat.mv:(p:Pat)->p.ty.den->List Mv
 | .w _ t id,x=>match x with
  | .ms id' [] 0 n=>[⟨id,some id',.arr n t⟩]
  |_=>[⟨id,none,.unit⟩]
 | .m _ _ id,x=>match x with
  |some id'=>[⟨id,some id',.mp⟩]
  |none=>[⟨id,none,.unit⟩]
 | .bg _ _ id _,x=>match x with
  |some id'=>[⟨id,some id',.mp⟩]
  |none=>[⟨id,none,.unit⟩]
 | .p a b,x=>a.mv x.1++b.mv x.2
 |_,_=>[]
def T9(lo:Nat):(t:Ty)->t.den->Bool
 | .ptr _,x=>match x with
  | .rf id _=>Nat.blt id lo
  | .nil=>true
  |_=>false
 | .fn,x=>match x with
  | .mk _ c=>c.all λq=>Nat.blt q.2.1 lo
  |_=>false
 | .mp,x=>match x with
  |none=>true
  |some _=>false
 | .sl _,x=>match x with
  | .nil=>true
  |_=>false
 |_,_=>false
def Pat.low(lo:Nat):Pat->Bool
 | .c x=>T9 lo x.1 x.2
 | .p a b=>a.low lo&&b.low lo
 | .bg _ _ _ q=>match q with
  |some s=>Nat.blt s lo
  |none=>true
 |_=>true
def Pat.ids:Pat->List Nat| .w _ _ id=>[id]| .m _ _ id=>[id]| .bg _ _ id _=>[id]| .p a b=>a.ids++b.ids|_=>[]
section
variable {B:Base} {ρ:Rho} {s:DS} {a:Act} {w:World}
theorem Ta {t:Ty}{x y:t.den}(h:w9 t x y=true):y=x:=by
 cases t with
 |ptr t=>
  cases x<;>cases y<;>simp only[w9,awu,awI]at h
  all_goals first|rfl|(obtain⟨rfl,rfl⟩:=h;rfl)|cases h
 |fn=>
  cases x<;>cases y<;>simp only[w9,awu,awI]at h
  all_goals first|(obtain⟨rfl,rfl⟩:=h;rfl)|cases h
 |mp=>cases x<;>cases y<;>first|rfl|cases h
 |sl t=>cases x<;>cases y<;>first|rfl|cases h
 |_=>cases h
theorem iQ {a b:Nat} :Nat.blt a b=true↔a<b:=by simp[Nat.blt_eq]
def PO.held:PO->Bool| .row _ _ _ _ _=>true| .mp _ _ _=>true| .bag _ _ _ _=>true|_=>false
theorem PO.held_ne {o:PO}(h:o.held=true):o≠ .dead:=by intro e;subst e;cases h
structure Moves(lo:Nat)(ρ ρ':Rho)(m:List Mv):Prop where
 low: ∀id,id<lo->ρ' id=ρ id
 A:ρ'.A=ρ.A
 W:ρ'.W=ρ.W
 new: ∀q∈m,ρ' q.new=(q.old.bind ρ.f).map λl=> { l with ty:=q.ty }
theorem uK.low {lo:Nat}{ρ ρ':Rho}{t:Ty}{id:Nat}{p:Path}{v:Value}(hl: ∀id,id<lo->ρ' id=ρ id)(hi:id<lo)(h:uK ρ t id p v):uK ρ' t id p v:=by obtain⟨loc,h1,h2⟩:=h;exact⟨loc,by rw[hl id hi];exact h1,h2⟩
theorem yG {ρ ρ':Rho}(h:ρ'.A=ρ.A):ρ'.shut=ρ.shut:=by
 unfold Rho.shut
 congr 1
theorem a6x {lo:Nat}{ρ':Rho}{m:List Mv}(hm:Moves lo ρ ρ' m){t:Ty}{x y:t.den}{cs:List Value}(hx:Rd ρ w t x cs)(hb:w9 t y x=true)(hl:T9 lo t y=true):Rd ρ' w t y cs:=by
 have:=Ta hb;subst this;cases t with
 |ptr t=>
  cases x with
  |rf id p=>
   obtain⟨v,rfl,h2⟩:=hx;exact⟨v,rfl,h2.low hm.low (by simpa [T9,Nat.blt_eq]using hl)⟩
  |nil=>exact hx
  |fz z=>cases hb
 |sl t=>
  cases x with
  |nil=>exact hx
  |_=>cases hb
 |fn=>
  cases x with
  |nil=>cases hb
  |mk f caps=>
   obtain⟨vs,h1,h2,h3⟩:=hx;refine⟨vs,h1,h2,λj c v hc hv=>(h3 j c v hc hv).low hm.low ?_⟩;simp only[T9,axB]at hl;exact iQ.1 (hl c (axy hc))
 |mp=>
  cases x with
  |none=>exact hx
  |some id=>cases hb
 |_=>cases hb
theorem Pat.sound(hr:aJ B ρ s a w){lo:Nat}{ρ':Rho} : ∀ {p:Pat} {x:p.ty.den} {X:p.X} {cs:List Value},Moves lo ρ ρ' (p.mv x)->p.low lo=true->Rd ρ w p.ty x cs->p.rd s.h x=some X->Rd ρ' w p.ty (p.mk X) cs:=by
 intro p
 induction p with
 |v t=>
  intro x X cs hm _ hx h;simp only[Pat.rd]at h;cases hb:t.flat||dG t x
  ·rw[hb]at h;cases h
  ·rw[hb]at h;cases h;rw[axU]at hb;have h3:Rd ρ.shut w t x cs:=by
    rcases hb with hb|hb
    ·exact hx.shutFlat hb
    ·exact hx.shutOf hb
   rw[<-yG hm.A]at h3;exact h3.openIn
 |c y=>
  intro x X cs hm hl hx h;simp only[Pat.rd]at h;cases hb:w9 y.1 y.2 x
  ·rw[hb]at h;cases h
  ·exact a6x hm hx hb hl
 |w e t id=>
  intro x X cs hm _ hx h;simp only[Pat.rd]at h;split at h
  ·cases h;simp only[Pat.mk];exact .inl ⟨rfl,hx⟩
  ·rename_i id' n;split at h
   ·rename_i sh' e' t' k f ho;split at h
    ·rename_i ht;subst ht;generalize (_&&_)=b at h;cases b
     ·cases h
     ·cases h;simp only[Pat.mk];rcases hx with⟨h0,h1⟩|⟨loc,m,cap,o,h1,h2,h3,h4,h5,h6,h7,h8⟩
      ·exact .inl ⟨h0,h1⟩
      ·have hn:=hm.new ⟨id,some id',.arr n t'⟩ (by simp[Pat.mv]);simp only[axh,h1,ay6]at hn;refine .inr ⟨_,n,cap,o,hn,Ty.okP_nil _,Ty.at_nil _,by omega,h5,λh=>?_,h7,λc hc _ _=>h8 c hc rfl rfl⟩;have:=h6 h;rw[Ty.off_nil]at this⊢;exact this
    ·cases h
   ·cases h
  ·cases h
 |p pa pb iha ihb=>
  intro x X cs hm hl hx h;simp only[Pat.low,awu]at hl;simp only[Pat.rd]at h;split at h
  ·rename_i y z hy hz;cases h;exact⟨iha ⟨hm.low,hm.A,hm.W,λq hq=>hm.new q (awK _ hq)⟩ hl.1 hx.1 hy,ihb ⟨hm.low,hm.A,hm.W,λq hq=>hm.new q (awE _ hq)⟩ hl.2 hx.2 hz⟩
  ·cases h
 |sz t=>
  intro x X cs hm _ hx h;simp only[Pat.rd]at h;split at h
  ·cases h;simp only[Rd]at hx;exact⟨none,0,hx,ax2 _,λi hi=>by cases hi⟩
  ·cases h;have h3:Rd ρ.shut w (.sl t) _ cs:=hx.shutOf rfl;rw[<-yG hm.A]at h3;exact h3.openIn
  ·cases h
 |pz t=>
  intro x X cs hm _ hx h;simp only[Pat.rd]at h;split at h
  ·cases h;have h3:Rd ρ.shut w (.ptr t) _ cs:=hx.shutOf rfl;rw[<-yG hm.A]at h3;exact h3.openIn
  ·cases h
 |po t=>
  intro x X cs hm _ hx h;simp only[Pat.rd]at h;split at h
  ·cases h;exact hx
  ·cases h;have h3:Rd ρ.shut w (.ptr t) _ cs:=hx.shutOf rfl;rw[<-yG hm.A]at h3;exact h3.openIn
  ·cases h
 |m kt vt id=>
  intro x X cs hm _ hx h;simp only[Pat.rd]at h;split at h
  ·cases h
  ·rename_i id';split at h
   ·rename_i k' v' l ho;split at h
    ·cases h;obtain⟨loc,h1,h2,h3⟩:=hx;have hn:=hm.new ⟨id,some id',.mp⟩ (by simp[Pat.mv]);simp only[axh,h1,ay6]at hn;exact⟨_,hn,rfl,h3⟩
    ·cases h
   ·cases h
 |bg kt t id q=>
  intro x X cs hm _ hx h;simp only[Pat.rd]at h;split at h
  ·cases h
  ·rename_i id';split at h
   ·rename_i k' t' l out ho;split at h
    ·obtain⟨loc,h1,h2,h3⟩:=hx;have hn:=hm.new ⟨id,some id',.mp⟩ (by simp[Pat.mv]);simp only[axh,h1,ay6]at hn;exact⟨_,hn,rfl,h3⟩
    ·cases h
   ·cases h
theorem Pat.rows(hr:aJ B ρ s a w){lo:Nat}{ρ':Rho} : ∀ {p:Pat} {x:p.ty.den} {X:p.X} {cs:List Value},Moves lo ρ ρ' (p.mv x)->p.low lo=true->Rd ρ w p.ty x cs->p.rd s.h x=some X-> ∀id o,(id,o)∈p.objs X->
  ∃q∈p.mv x,q.new=id/\(q.old.bind ρ.f=none-> ∃sh e t f,o= .row sh e t 0 f)/\(∀k t l j oid,o= .bag k t l (some (j,oid))->oid<lo)/\ ∀old,q.old=some old->(∃oo,s.h old=some oo/\oo.held=true/\(o.isBag=true->oo=o))/\ ∀loc,ρ old=some loc->OR ρ' w { loc with ty:=q.ty } o:=by
 intro p
 induction p with
 |v t=>intro x X cs _ _ _ _ id o h;cases h
 |c y=>intro x X cs _ _ _ _ id o h;cases h
 |sz t=>intro x X cs _ _ _ _ id o h;cases h
 |pz t=>intro x X cs _ _ _ _ id o h;cases h
 |po t=>intro x X cs _ _ _ _ id o h;cases h
 |bg kt t id q=>
  intro x X cs hm hlow hx h id1 o h1;simp only[Pat.rd]at h;split at h
  ·cases h
  ·rename_i id';split at h
   ·rename_i k' t' l out ho;split at h
    ·rename_i e;obtain⟨rfl,rfl⟩:=e;obtain⟨e1,e2⟩:=a5d h;simp only[Pat.objs,axI,ayR]at h1;obtain⟨rfl,rfl⟩:=h1;rw[e1,e2];obtain⟨loc,h1,h2,h3⟩:=hx;refine⟨⟨id1,some id',.mp⟩,by simp[Pat.mv],rfl,λhnone=>?_,λk t l j oid e=>?_,λold ho'=>?_⟩
     ·simp only[axh]at hnone;rw[hnone]at h1;cases h1
     ·cases e;cases q with
      |none=>cases e2
      |some s=>
       simp only[aaK,awr,ayR]at e2;rw[<-e2.2];exact iQ.1 hlow
     ·simp only[awr]at ho';subst ho';refine⟨⟨_,ho,rfl,λ_=>rfl⟩,λloc' hloc=>?_⟩;have hor:=hr.live ho (by intro e;cases e) hloc;exact⟨rfl,by rw[hm.W];exact hor.2⟩
    ·cases h
   ·cases h
 |m kt vt id=>
  intro x X cs hm _ hx h id1 o h1;simp only[Pat.rd]at h;split at h
  ·cases h
  ·rename_i id';split at h
   ·rename_i k' v' l ho;split at h
    ·rename_i e;obtain⟨rfl,rfl⟩:=e;cases h;simp only[Pat.objs,axI,ayR]at h1;obtain⟨rfl,rfl⟩:=h1;obtain⟨loc,h1,h2,h3⟩:=hx;refine⟨⟨id1,some id',.mp⟩,by simp[Pat.mv],rfl,λhnone=>?_,(λ_ _ _ _ _ e=>by cases e),λold ho'=>?_⟩
     ·simp only[axh]at hnone;rw[hnone]at h1;cases h1
     ·simp only[awr]at ho';subst ho';refine⟨⟨_,ho,rfl,λh=>by cases h⟩,λloc' hloc=>?_⟩;obtain⟨e1,hW,es,h4,h5⟩:=hr.live ho (by intro e;cases e) hloc;rw[<-yG hm.A]at h4;exact⟨rfl,by rw[hm.W];exact hW,es,h4,h5⟩
    ·cases h
   ·cases h
 |w e t id=>
  intro x X cs hm _ hx h id1 o h1;simp only[Pat.objs,axI,ayR]at h1;obtain⟨rfl,rfl⟩:=h1;simp only[Pat.rd]at h;split at h
  ·cases h;exact⟨⟨id1,none,.unit⟩,by simp[Pat.mv],rfl,λ_=>⟨true,e,t,_,rfl⟩,(λ_ _ _ _ _ e=>by cases e),λold h=>by cases h⟩
  ·rename_i id' n;split at h
   ·rename_i sh' e' t' k f ho;split at h
    ·rename_i ht;subst ht;cases hb:Nat.beq e' e&&(t'.flat||sh')
     ·rw[hb]at h;cases h
     ·rw[hb]at h;cases h;simp only[awu]at hb;obtain⟨hb1,hb2⟩:=hb;have:=ax0 hb1;subst this;refine⟨⟨id1,some id',.arr n t'⟩,by simp[Pat.mv],rfl,λhnone=>?_,(λ_ _ _ _ _ e=>by cases e),λold ho'=>?_⟩
      ·simp only[axh]at hnone;rcases hx with⟨h0,h1⟩|⟨loc,m,cap,o,h1,_⟩
       ·subst h0;exact⟨true,e',t',_,rfl⟩
       ·rw[hnone]at h1;cases h1
      ·simp only[awr]at ho';subst ho';refine⟨⟨_,ho,rfl,λh=>by cases h⟩,λloc hloc=>?_⟩;have hor:=hr.live ho (by intro e;cases e) hloc;obtain⟨e1,hW,cs1,sp,hcs,hb,cap,hc1,hc2,hc3,hc4⟩:=hor;have hnk:n<=k:=by
        rcases hx with⟨h0,h1⟩|⟨loc',m,cap',o,h1,_,h3,h4,_⟩
        ·omega
        ·rw[hloc]at h1;cases h1;rw[e1,Ty.at_nil]at h3;cases h3;omega
       have hcl:cs1.length=k*t'.size:=hcs.1;have hmul:n*t'.size<=k*t'.size:=awP _ hnk;have h3:=Rd.sub hcs (lo:=0) (n:=n) (by omega);simp only[ay2,ayV,awR]at h3;refine⟨rfl,by rw[hm.W];exact hW,cs1.take (n*t'.size),cs1.drop (n*t'.size)++sp,?_,?_,cap,hc1,?_,by simp only;omega,hc4⟩
       ·have h4:Rd ρ.shut w (.arr n t') f (cs1.take (n*t'.size)):=by
         rw[axU]at hb2;rcases hb2 with hb2|hb2
         ·exact Rd.shutFlat h3.openAt hb2
         ·subst hb2;exact h3
        rw[<-yG hm.A]at h4;exact h4
       ·rw[<-axx,axT];exact hb
       ·rw[<-axx,axT];exact hc2
    ·cases h
   ·cases h
  ·cases h
 |p pa pb iha ihb=>
  intro x X cs hm hlow hx h id o hio;simp only[Pat.low,awu]at hlow;simp only[Pat.rd]at h;split at h
  ·rename_i y z hy hz;cases h;simp only[Pat.objs,axo]at hio;rcases hio with hio|hio
   ·obtain⟨q,hq,h1⟩:=iha ⟨hm.low,hm.A,hm.W,λq hq=>hm.new q (awK _ hq)⟩ hlow.1 hx.1 hy id o hio;exact⟨q,awK _ hq,h1⟩
   ·obtain⟨q,hq,h1⟩:=ihb ⟨hm.low,hm.A,hm.W,λq hq=>hm.new q (awE _ hq)⟩ hlow.2 hx.2 hz id o hio;exact⟨q,awE _ hq,h1⟩
  ·cases h
end
def Xs:List (Nat×Pat)->Type| []=>Unit|q::l=>q.2.X×Xs l
structure Shape where
 sl:List (Nat×Pat)
 ob:List (Nat×Pat)
 lo:Nat
 nx:Nat
@[reducible] def Shape.X (sh:Shape):Type:=Xs sh.sl×Xs sh.ob
def Xv:(l:List (Nat×Pat))->Xs l->List (Nat×PV)| [],_=>[]|q::l,x=>(q.1,.v ⟨q.2.ty,q.2.mk x.1⟩)::Xv l x.2
def Fy:(l:List (Nat×Pat))->Xs l->List (Nat×PO)| [],_=>[]|q::l,x=>(q.1,.obj q.2.ty (q.2.mk x.1))::Fy l x.2
def om:(l:List (Nat×Pat))->Xs l->List (Nat×PO)| [],_=>[]|q::l,x=>q.2.objs x.1++om l x.2
def Shape.mkS(sh:Shape)(n:Nat)(x:sh.X):DS:=
 { env:=Xv sh.sl x.1,hp:=Fy sh.ob x.2++(om sh.sl x.1++om sh.ob x.2),nx:=sh.nx,n:=n }
def MF(s:DS):(l:List (Nat×Pat))->Option (Xs l×List Mv)
 | []=>some ((),[])
 |q::l=>match look s.env q.1 with
  |some (.v v)=>match v.to q.2.ty with
   |some y=>match q.2.rd s.h y with
    |some x=>match MF s l with
     |some (xs,m)=>some ((x,xs),q.2.mv y++m)
     |none=>none
    |none=>none
   |none=>none
  |_=>none
def Rl(s:DS):(l:List (Nat×Pat))->Option (Xs l×List Mv)
 | []=>some ((),[])
 |q::l=>match s.h q.1 with
  |some (.obj t y)=>if e:t=q.2.ty then match q.2.rd s.h (e▸y)with
    |some x=>match Rl s l with
     |some (xs,m)=>some ((x,xs),q.2.mv (e▸y)++m)
     |none=>none
    |none=>none
   else none
  |_=>none
def Pat.whole:Pat->Bool| .bg _ _ _ none=>true| .p a b=>a.whole||b.whole|_=>false
def Shape.td(sh:Shape):Bool:=sh.sl.any (λq=>q.2.whole)||sh.ob.any λq=>q.2.whole
def Shape.rd0(sh:Shape)(s:DS):Option sh.X:=match MF s sh.sl,Rl s sh.ob with|some (xe,m1),some (xh,m2)=>bif nodupB ((m1++m2).filterMap Mv.old)then some (xe,xh)else none|_,_=>none
def Shape.rd(sh:Shape)(s:DS):Option sh.X:=sh.rd0 (bif sh.td then s.tidy else s)
def Shape.ids(sh:Shape):List Nat:=sh.sl.flatMap (λq=>q.2.ids)++sh.ob.flatMap λq=>q.2.ids
def Shape.ok(sh:Shape):Bool:=
 nodupB sh.ids&&sh.ids.all (λi=>Nat.ble sh.lo i&&Nat.blt i sh.nx)&&sh.ob.all (λq=>Nat.blt q.1 sh.lo&&q.2.low sh.lo)&&sh.sl.all (λq=>q.2.low sh.lo)&&Nat.ble sh.lo sh.nx
theorem Pat.mv_ids: ∀ {p:Pat} {x:p.ty.den},(p.mv x).map Mv.new=p.ids:=by
 intro p
 induction p with
 |v t=>intro x;rfl
 |c y=>intro x;rfl
 |sz t=>intro x;rfl
 |pz t=>intro x;rfl
 |po t=>intro x;rfl
 |m kt vt id=>
  intro x;cases x<;>rfl
 |bg kt t id q=>
  intro x;cases x<;>rfl
 |w e t id=>
  intro x;simp only[Pat.mv,Pat.ids];split<;>rfl
 |p a b iha ihb=>intro x;simp only[Pat.mv,Pat.ids,az0,iha,ihb]
theorem a5e {s:DS} : ∀ {l:List (Nat×Pat)} {xs:Xs l} {m:List Mv},MF s l=some (xs,m)->m.map Mv.new=l.flatMap λq=>q.2.ids:=by
 intro l
 induction l with
 |nil=>intro xs m h;cases h;rfl
 |cons q l ih=>
  intro xs m h;simp only[MF]at h;split at h
  ·split at h
   ·split at h
    ·split at h
     ·rename_i m' hm;cases h;simp only[az0,Pat.mv_ids,ih hm,az3]
     ·cases h
    ·cases h
   ·cases h
  ·cases h
theorem a6y {s:DS} : ∀ {l:List (Nat×Pat)} {xs:Xs l} {m:List Mv},Rl s l=some (xs,m)->m.map Mv.new=l.flatMap λq=>q.2.ids:=by
 intro l
 induction l with
 |nil=>intro xs m h;cases h;rfl
 |cons q l ih=>
  intro xs m h;simp only[Rl]at h;split at h
  ·split at h
   ·split at h
    ·split at h
     ·rename_i m' hm;cases h;simp only[az0,Pat.mv_ids,ih hm,az3]
     ·cases h
    ·cases h
   ·cases h
  ·cases h
section
variable {B:Base} {ρ:Rho} {s:DS} {a:Act} {w:World}
theorem Moves.mono {lo:Nat}{ρ ρ':Rho}{m m':List Mv}(h:Moves lo ρ ρ' m)(hs: ∀q∈m',q∈m):Moves lo ρ ρ' m':=⟨h.low,h.A,h.W,λq hq=>h.new q (hs q hq)⟩
theorem a2v(hr:aJ B ρ s a w){lo:Nat}{ρ':Rho} : ∀ {l:List (Nat×Pat)} {xs:Xs l} {m:List Mv},MF s l=some (xs,m)->Moves lo ρ ρ' m->(l.all λq=>q.2.low lo)=true->
  ∀t pv,look (Xv l xs) t=some pv-> ∃v,a.tmps[t]?=some v/\VP ρ' w pv v:=by
 intro l
 induction l with
 |nil=>intro xs m _ _ _ t pv h;cases h
 |cons q l ih=>
  intro xs m h hm hlow t pv ht;simp only[az1,awu]at hlow;simp only[MF]at h;split at h
  ·rename_i v hv;split at h
   ·rename_i y hy;split at h
    ·rename_i x hx;split at h
     ·rename_i xs' m' hl;cases h;simp only[Xv]at ht;rw[aH]at ht;split at ht
      ·rename_i e;subst e;simp only[awr]at ht;subst ht;obtain⟨vv,h1,h2⟩:=hr.env _ _ hv;obtain⟨cs,h3,h4⟩:=VR.to h2 hy;exact⟨vv,h1,cs,Pat.sound hr (hm.mono λq hq=>awK _ hq) hlow.1 h3 hx,h4⟩
      ·exact ih hl (hm.mono λq hq=>awE _ hq) hlow.2 t pv ht
     ·cases h
    ·cases h
   ·cases h
  ·cases h
theorem a5f(hr:aJ B ρ s a w){lo:Nat}{ρ':Rho} : ∀ {l:List (Nat×Pat)} {xs:Xs l} {m:List Mv},Rl s l=some (xs,m)->Moves lo ρ ρ' m->(l.all λq=>Nat.blt q.1 lo&&q.2.low lo)=true->
  ∀id o,look (Fy l xs) id=some o->id<lo/\(∃t y,s.h id=some (.obj t y))/\o≠ .dead/\ ∃loc,ρ id=some loc/\OR ρ' w loc o:=by
 intro l
 induction l with
 |nil=>intro xs m _ _ _ t pv h;cases h
 |cons q l ih=>
  intro xs m h hm hlow id o ht;simp only[az1,awu]at hlow;simp only[Rl]at h;split at h
  ·rename_i t y hv;split at h
   ·rename_i e;split at h
    ·rename_i x hx;split at h
     ·rename_i xs' m' hl;cases h;simp only[Fy]at ht;rw[aH]at ht;split at ht
      ·rename_i e2;subst e2;simp only[awr]at ht;subst ht;refine⟨iQ.1 hlow.1.1,⟨_,_,hv⟩,(by intro e;cases e),?_⟩;rcases hr.obj _ _ hv with(h|⟨_,_,_,_,_,h⟩)|⟨loc,h1,h2⟩
       ·cases h
       ·cases h
       ·refine⟨loc,h1,?_⟩;subst e;obtain⟨e1,hW,cs,T,h3,h4⟩:=h2;exact⟨e1,by rw[hm.W];exact hW,cs,T,Pat.sound hr (hm.mono λq hq=>awK _ hq) hlow.1.2 h3 hx,h4⟩
      ·exact ih hl (hm.mono λq hq=>awE _ hq) hlow.2 id o ht
     ·cases h
    ·cases h
   ·cases h
  ·cases h
def Jz(lo:Nat)(ρ ρ':Rho)(w:World)(s:DS)(m:List Mv)(id:Nat)(o:PO):Prop:=
 ∃q∈m,q.new=id/\(q.old.bind ρ.f=none-> ∃sh e t f,o= .row sh e t 0 f)/\(∀k t l j oid,o= .bag k t l (some (j,oid))->oid<lo)/\ ∀old,q.old=some old->(∃oo,s.h old=some oo/\oo.held=true/\(o.isBag=true->oo=o))/\ ∀loc,ρ old=some loc->OR ρ' w { loc with ty:=q.ty } o
theorem Jz.mono {lo:Nat}{ρ ρ':Rho}{m m':List Mv}{id:Nat}{o:PO}(h:Jz lo ρ ρ' w s m id o)(hs: ∀q∈m,q∈m'):Jz lo ρ ρ' w s m' id o:=by obtain⟨q,h1,h2⟩:=h;exact⟨q,hs q h1,h2⟩
theorem YA(hr:aJ B ρ s a w){lo:Nat}{ρ':Rho} : ∀ {l:List (Nat×Pat)} {xs:Xs l} {m:List Mv},MF s l=some (xs,m)->Moves lo ρ ρ' m->(l.all λq=>q.2.low lo)=true-> ∀id o,(id,o)∈om l xs->Jz lo ρ ρ' w s m id o:=by
 intro l
 induction l with
 |nil=>intro xs m _ _ _ id o h;cases h
 |cons q l ih=>
  intro xs m h hm hlow id o hio;simp only[az1,awu]at hlow;simp only[MF]at h;split at h
  ·rename_i v hv;split at h
   ·rename_i y hy;split at h
    ·rename_i x hx;split at h
     ·rename_i xs' m' hl;cases h;simp only[om,axo]at hio;rcases hio with hio|hio
      ·obtain⟨vv,h1,h2⟩:=hr.env _ _ hv;obtain⟨cs,h3,h4⟩:=VR.to h2 hy;have h5:=Pat.rows hr (hm.mono λq hq=>awK _ hq) hlow.1 h3 hx id o hio;exact Jz.mono (s:=s) (ρ:=ρ) (ρ':=ρ') (w:=w) h5 (λq hq=>awK _ hq)
      ·exact Jz.mono (ih hl (hm.mono λq hq=>awE _ hq) hlow.2 id o hio) (λq hq=>awE _ hq)
     ·cases h
    ·cases h
   ·cases h
  ·cases h
theorem a0b(hr:aJ B ρ s a w){lo:Nat}{ρ':Rho} : ∀ {l:List (Nat×Pat)} {xs:Xs l} {m:List Mv},Rl s l=some (xs,m)->Moves lo ρ ρ' m->(l.all λq=>Nat.blt q.1 lo&&q.2.low lo)=true-> ∀id o,(id,o)∈om l xs->Jz lo ρ ρ' w s m id o:=by
 intro l
 induction l with
 |nil=>intro xs m _ _ _ id o h;cases h
 |cons q l ih=>
  intro xs m h hm hlow id o hio;simp only[az1,awu]at hlow;simp only[Rl]at h;split at h
  ·rename_i t y hv;split at h
   ·rename_i e;split at h
    ·rename_i x hx;split at h
     ·rename_i xs' m' hl;cases h;simp only[om,axo]at hio;rcases hio with hio|hio
      ·rcases hr.obj _ _ hv with(h|⟨_,_,_,_,_,h⟩)|⟨loc,h1,h2⟩
       ·cases h
       ·cases h
       ·subst e;obtain⟨e1,hW,cs,T,h3,h4⟩:=h2;have h5:=Pat.rows hr (hm.mono λq hq=>awK _ hq) hlow.1.2 h3 hx id o hio;exact Jz.mono (s:=s) (ρ:=ρ) (ρ':=ρ') (w:=w) h5 (λq hq=>awK _ hq)
      ·exact Jz.mono (ih hl (hm.mono λq hq=>awE _ hq) hlow.2 id o hio) (λq hq=>awE _ hq)
     ·cases h
    ·cases h
   ·cases h
  ·cases h
theorem Tc {α:Type} : ∀ {l l':List (Nat×α)} {i:Nat} {x:α},look (l++l') i=some x->look l i=some x\/look l' i=some x:=by
 intro l
 induction l with
 |nil=>intro l' i x h;exact .inr h
 |cons q l ih=>
  intro l' i x h;obtain⟨k,v⟩:=q;rw[ayv,aH]at h;rw[aH];split at h
  ·rename_i e;rw[awQ e];exact .inl h
  ·rename_i e;rw[awG e];exact ih h
universe u
theorem kS {α:Type u} : ∀ {l:List (Nat×α)} {i:Nat} {x:α},look l i=some x->(i,x)∈l:=by
 intro l
 induction l with
 |nil=>intro i x h;cases h
 |cons q l ih=>
  intro i x h;obtain⟨k,v⟩:=q;rw[aH]at h;split at h
  ·rename_i e;subst e;cases h;exact ax9 ..
  ·exact ax8 _ (ih h)
theorem a6z: ∀ {l:List (Nat×Pat)} {xs:Xs l} {id:Nat} {o:PO},look (Fy l xs) id=some o->o.isBag=false:=by
 intro l
 induction l with
 |nil=>intro xs id o h;cases h
 |cons q l ih=>
  intro xs id o h;simp only[Fy]at h;rw[aH]at h;split at h
  ·cases h;rfl
  ·exact ih h
def aiK(ρ:Rho)(lo:Nat)(m:List Mv):Rho:=
 ⟨λid=>if id<lo then ρ id else match m.find? λq=>q.new==id with
  |some q=>(q.old.bind ρ.f).map λl=> { l with ty:=q.ty }
  |none=>none,ρ.W,ρ.A,ρ.sub⟩
theorem JA {m:List Mv}(h:(m.map Mv.new).Nodup): ∀ {q q':Mv},q∈m->q'∈m->q.new=q'.new->q=q':=by
 induction m with
 |nil=>intro q q' h1;cases h1
 |cons x m ih=>
  intro q q' h1 h2 e;simp only[axQ,ay0,ayP,not_exists,not_and]at h;rcases axL.1 h1 with e1|h3<;>rcases axL.1 h2 with e2|h4
  ·rw[e1,e2]
  ·subst e1;exact absurd e.symm (h.1 q' h4)
  ·subst e2;exact absurd e (h.1 q h3)
  ·exact ih h.2 h3 h4 e
theorem JB {m:List Mv}(h:(m.filterMap Mv.old).Nodup)(h':(m.map Mv.new).Nodup): ∀ {q q':Mv} {old:Nat},q∈m->q'∈m->q.old=some old->q'.old=some old->q=q':=by
 induction m with
 |nil=>intro q q' _ h1;cases h1
 |cons x m ih=>
  intro q q' old h1 h2 e1 e2;simp only[axQ,ay0]at h';have hsub:(m.filterMap Mv.old).Nodup:=by
   cases hx:x.old with
   |none=>rw[List.filterMap_cons_none hx]at h;exact h
   |some o=>rw[List.filterMap_cons_some hx]at h;exact(ay0.1 h).2
  rcases axL.1 h1 with e3|h5<;>rcases axL.1 h2 with e4|h6
  ·rw[e3,e4]
  ·subst e3;rw[List.filterMap_cons_some e1]at h;exact absurd (List.mem_filterMap.2 ⟨q',h6,e2⟩) (ay0.1 h).1
  ·subst e4;rw[List.filterMap_cons_some e2]at h;exact absurd (List.mem_filterMap.2 ⟨q,h5,e1⟩) (ay0.1 h).1
  ·exact ih hsub h'.2 h5 h6 e1 e2
theorem Shape.fold0(sh:Shape)(hok:sh.ok=true){x:sh.X}(h:sh.rd0 s=some x)(hr:aJ B ρ s a w):
  ∃ρ',aJ B ρ' (sh.mkS s.n x) a w/\kL ρ' sh.nx/\ ∀ρ0 w0,Later ρ0 w0 ρ w->kL ρ0 sh.lo->Later ρ0 w0 ρ' w:=by
 unfold Shape.rd0 at h;split at h
 ·rename_i xe m1 xh m2 he hh;cases hnd:nodupB ((m1++m2).filterMap Mv.old)
  ·rw[hnd]at h;cases h
  ·rw[hnd]at h;cases h;have hnd:=wN hnd;unfold Shape.ok at hok;simp only[awu]at hok;obtain⟨⟨⟨⟨hn1,hn2⟩,hob⟩,hsl⟩,hlx⟩:=hok;have hids:(m1++m2).map Mv.new=sh.ids:=by rw[az0,a5e he,a6y hh];rfl
   have hnn:((m1++m2).map Mv.new).Nodup:=by rw[hids];exact wN hn1
   have hrange: ∀q∈m1++m2,sh.lo<=q.new/\q.new<sh.nx:=by intro q hq;have:=axB.1 hn2 q.new (by rw[<-hids];exact ayP.2 ⟨q,hq,rfl⟩);simp only[awu]at this;exact⟨awN this.1,iQ.1 this.2⟩
   have hlx:=awN hlx;let ρ':=aiK ρ sh.lo (m1++m2);have hM:Moves sh.lo ρ ρ' (m1++m2):=by
    refine⟨λid hid=>awQ hid,rfl,rfl,λq hq=>?_⟩;show(if q.new<sh.lo then _ else _)=_;rw[awG (by have:=(hrange q hq).1;omega)];cases hf:(m1++m2).find? λr=>r.new==q.new with
    |none=>
     have:=List.find?_eq_none.1 hf q hq;simp at this
    |some r=>
     have h1:=List.find?_some hf;have h2:=List.mem_of_find?_eq_some hf;have:=JA hnn h2 hq (by simpa using h1);subst this;rfl
   have hother: ∀id,sh.lo<=id-> ∀loc,ρ' id=some loc-> ∃q∈m1++m2,q.new=id/\ ∃old l0,q.old=some old/\ρ old=some l0/\loc= { l0 with ty:=q.ty } :=by
    intro id hid loc hl;change (if id<sh.lo then _ else _)=_ at hl;rw[awG (by omega)]at hl;cases hf:(m1++m2).find? λr=>r.new==id with
    |none=>rw[hf]at hl;cases hl
    |some r=>
     rw[hf]at hl;simp only[axr,ayh]at hl;obtain⟨l0,⟨old,h1,h2⟩,rfl⟩:=hl;exact⟨r,List.mem_of_find?_eq_some hf,by simpa using List.find?_some hf,old,l0,h1,h2,rfl⟩
   have hM1:=hM.mono (m':=m1) λq hq=>awK _ hq
   have hM2:=hM.mono (m':=m2) λq hq=>awE _ hq
   have hlk: ∀id o,look (Fy sh.ob xh++(om sh.sl xe++om sh.ob xh)) id=some o->
     (id<sh.lo/\(∃t y,s.h id=some (.obj t y))/\o≠ .dead/\ ∃loc,ρ id=some loc/\OR ρ' w loc o/\o.isBag=false)\/Jz sh.lo ρ ρ' w s (m1++m2) id o:=by
    intro id o ho;rcases Tc ho with ho|ho
    ·obtain⟨g1,g2,g3,loc,g4,g5⟩:=a5f hr hh hM2 hob id o ho;exact .inl ⟨g1,g2,g3,loc,g4,g5,a6z ho⟩
    ·rcases Tc ho with ho|ho
     ·exact .inr ((YA hr he hM1 hsl id o (kS ho)).mono λq hq=>awK _ hq)
     ·exact .inr ((a0b hr hh hM2 hob id o (kS ho)).mono λq hq=>awE _ hq)
   have src: ∀id o loc,look (Fy sh.ob xh++(om sh.sl xe++om sh.ob xh)) id=some o->ρ' id=some loc->
     ∃old oo l0,s.h old=some oo/\oo≠ .dead/\ρ old=some l0/\l0.blk=loc.blk/\((old=id/\ ∃t y,oo= .obj t y)\/((∃q∈m1++m2,q.new=id/\q.old=some old)/\oo.held=true)):=by
    intro id o loc ho hl;rcases hlk id o ho with⟨hlt,⟨t,y,hy⟩,_,l0,h1,h2,_⟩|⟨q,hq,rfl,h1,_,h2⟩
    ·have el:l0=loc:=by rw[hM.low id hlt,h1]at hl;exact axm hl
     subst el;exact⟨id,_,l0,hy,(by intro e;cases e),h1,rfl,.inl ⟨rfl,t,y,rfl⟩⟩
    ·have hnew:=hM.new q hq;rw[hl]at hnew;cases hb:q.old.bind ρ.f with
     |none=>rw[hb]at hnew;cases hnew
     |some l0=>
      rw[hb]at hnew;obtain⟨old,h3,h4⟩:=ayh.1 hb;obtain⟨⟨oo,h5,h6,_⟩,_⟩:=h2 old h3;simp only[ay6,awr]at hnew;subst hnew;exact⟨old,_,l0,h5,PO.held_ne h6,h4,rfl,.inr ⟨⟨q,hq,rfl,h3⟩,h6⟩⟩
   have bgs: ∀id o loc,look (Fy sh.ob xh++(om sh.sl xe++om sh.ob xh)) id=some o->o.isBag=true->ρ' id=some loc->
     ∃q∈m1++m2,q.new=id/\ ∃old l0,q.old=some old/\s.h old=some o/\ρ old=some l0/\l0.blk=loc.blk/\ ∀k t l j oid,o= .bag k t l (some (j,oid))->oid<sh.lo:=by
    intro id o loc ho hb hl;rcases hlk id o ho with⟨_,_,_,_,_,_,h0⟩|⟨q,hq,rfl,h1,hlo,h2⟩
    ·rw[h0]at hb;cases hb
    ·have hnew:=hM.new q hq;rw[hl]at hnew;cases hqb:q.old.bind ρ.f with
     |none=>rw[hqb]at hnew;cases hnew
     |some l0=>
      rw[hqb]at hnew;obtain⟨old,h3,h4⟩:=ayh.1 hqb;obtain⟨⟨oo,h5,h6,h7⟩,_⟩:=h2 old h3;simp only[ay6,awr]at hnew;subst hnew;exact⟨q,hq,rfl,old,l0,h3,by rw[h5,h7 hb],h4,rfl,hlo⟩
   obtain⟨F,hF⟩:=hr.hid;have hFq: ∀q∈m1++m2,∀old b,q.old=some old->(∃q'∈m1++m2,q'.new=q.new/\ ∃old',q'.old=some old'/\F old' b)->F old b:=by intro q hq old b ho ⟨q',hq',e,old',ho',hb⟩;have:=JA hnn hq' hq e;subst this;rw[ho]at ho';cases ho';exact hb
   refine⟨ρ',⟨hr.defers,hr.tmps,a2v hr he hM1 hsl,λid o ho=>?_,λid id' o o' loc loc' h1 h2 d1 d2 h3 h4 h5=>?_,λid loc hl=>?_,hr.ownA,hr.base,hr.may,?_⟩,λid hid=>?_,λρ0 w0 L hF=>?_⟩
   ·rcases hlk id o ho with⟨hlt,_,_,loc,h1,h2,_⟩|⟨q,hq,rfl,h1,_,h2⟩
    ·exact .inr ⟨loc,by rw[hM.low id hlt];exact h1,h2⟩
    ·have hnew:=hM.new q hq;cases hb:q.old.bind ρ.f with
     |none=>
      rw[hb]at hnew;exact .inl (.inr ⟨hnew,h1 hb⟩)
     |some loc=>
      rw[hb]at hnew;obtain⟨old,h3,h4⟩:=ayh.1 hb;exact .inr ⟨_,hnew,(h2 old h3).2 loc h4⟩
   ·
    obtain⟨old,oo,l0,s1,s2,s3,s4,s5⟩:=src id o loc h1 h3;obtain⟨old',oo',l0',t1,t2,t3,t4,t5⟩:=src id' o' loc' h2 h4;have e:=hr.inj old old' oo oo' l0 l0' s1 t1 s2 t2 s3 t3 (by rw[s4,t4,h5]);subst e;rw[s1]at t1;cases t1;rcases s5 with⟨rfl,t,y,e1⟩|⟨⟨q,hq,rfl,hqo⟩,e1⟩
    ·rcases t5 with⟨rfl,_⟩|⟨_,e2⟩
     ·rfl
     ·rw[e1]at e2;cases e2
    ·rcases t5 with⟨rfl,t,y,e2⟩|⟨⟨q',hq',rfl,hqo'⟩,_⟩
     ·rw[e2]at e1;cases e1
     ·rw[JB hnd hnn hq hq' hqo hqo']
   ·by_cases hlt:id<sh.lo
    ·rw[hM.low id hlt]at hl;exact hr.own id loc hl
    ·obtain⟨q,_,_,old,l0,_,h2,rfl⟩:=hother id (by omega) loc hl;exact hr.own old l0 h2
   ·refine⟨λid b=> ∃q∈m1++m2,q.new=id/\ ∃old,q.old=some old/\F old b,λid k t l out loc h1 h2=>?_,λid o loc b h1 h2 h3 h4=>?_,λid o loc b id' o' loc' h1 h2 h3 h4 h5 h6 h7=>?_,λid id' o o' loc loc' b h1 h2 h3 h4 h5 h6 h7 h8=>?_⟩
    ·obtain⟨q,hq,rfl,old,l0,g1,g2,g3,g4,g5⟩:=bgs id _ loc h1 rfl h2;rw[<-g4];exact((hF.val old k t l out l0 g2 g3).re (ρ:=ρ) (ρ':=ρ') (show ρ'.A=ρ.A from rfl) (λj oid e=>⟨oid,e,λc hc=>by rw[hM.low oid (g5 k t l j oid (by rw[e]))];exact hc⟩) (λe=>e)).mono λb hb=>⟨q,hq,rfl,old,g1,hb⟩
    ·obtain⟨q,hq,rfl,old,l0,g1,g2,g3,g4,g5⟩:=bgs id _ loc h1 h2 h3;exact hF.own old o l0 b g2 h2 g3 (hFq q hq old b g1 h4)
    ·obtain⟨q,hq,rfl,old,l0,g1,g2,g3,g4,g5⟩:=bgs id _ loc h1 h2 h3;obtain⟨old',oo,l1,s1,s2,s3,s4,_⟩:=src id' o' loc' h5 h7;rw[<-s4];exact hF.dis old o l0 b old' oo l1 g2 h2 g3 (hFq q hq old b g1 h4) s1 s2 s3
    ·obtain⟨q,hq,rfl,old,l0,g1,g2,g3,g4,g5⟩:=bgs id _ loc h1 h2 h3;obtain⟨q',hq',rfl,old',l0',f1,f2,f3,f4,f5⟩:=bgs id' _ loc' h4 h5 h6;have e:=hF.sep old old' o o' l0 l0' b g2 h2 g3 f2 h5 f3 (hFq q hq old b g1 h7) (hFq q' hq' old' b f1 h8);subst e;rw[JB hnd hnn hq hq' g1 f1]
   ·cases hl:ρ' id with
    |none=>rfl
    |some loc=>
     obtain⟨q,hq,rfl,_⟩:=hother id (by omega) loc hl;have:=(hrange q hq).2;omega
   ·refine⟨L.size,λid loc hl=>?_,L.downA,L.downW,L.upA,L.keep⟩;have hlt:id<sh.lo:=by
     rcases ayC id sh.lo with h|h
     ·exact h
     ·rw[hF id h]at hl;cases hl
    rw[hM.low id hlt];exact L.up id loc hl
 ·cases h
theorem Shape.fold(sh:Shape)(hok:sh.ok=true){x:sh.X}(h:sh.rd s=some x)(hr:aJ B ρ s a w):
  ∃ρ',aJ B ρ' (sh.mkS s.n x) a w/\kL ρ' sh.nx/\ ∀ρ0 w0,Later ρ0 w0 ρ w->kL ρ0 sh.lo->Later ρ0 w0 ρ' w:=by
 unfold Shape.rd at h;cases ht:sh.td
 ·rw[ht]at h;exact sh.fold0 hok h hr
 ·rw[ht]at h;obtain⟨h1,_,h3⟩:=hr.tidy;have:=sh.fold0 (s:=s.tidy) hok h h1;rw[h3]at this;exact this
end
section
variable {X Y:Type}
def runN(f:X->Option (X⊕Y)):Nat->X->Option Y
 |0,_=>none
 |n+1,x=>match f x with
  |some (.inl x')=>runN f n x'
  |some (.inr y)=>some y
  |none=>none
theorem a5g {f:X->Option (X⊕Y)} : ∀ {n:Nat} {x:X} {y:Y},runN f n x=some y->runN f (n+1) x=some y:=by
 intro n
 induction n with
 |zero=>intro x y h;cases h
 |succ n ih=>
  intro x y h;rw[runN]at h⊢;split at h
  ·exact ih h
  ·exact h
  ·cases h
theorem a3Z {f:X->Option (X⊕Y)}{n m:Nat}{x:X}{y:Y}(hle:n<=m)(h:runN f n x=some y):runN f m x=some y:=by
 induction hle with
 |refl=>exact h
 |step _ ih=>exact a5g ih
theorem a0c {f:X->Option (X⊕Y)}{n m:Nat}{x:X}{y z:Y}(h:runN f n x=some y)(h':runN f m x=some z):y=z:=by have h1:=a3Z (Nat.le_max_left n m) h;have h2:=a3Z (Nat.le_max_right n m) h';rw[h1]at h2;exact axm h2
open Classical in
def au(f:X->Option (X⊕Y))(x:X):Option Y:=if h: ∃y n,runN f n x=some y then some h.choose else none
theorem Iu {f:X->Option (X⊕Y)}{x:X}{y:Y} :au f x=some y↔ ∃n,runN f n x=some y:=by
 unfold au;constructor
 ·intro h;split at h
  ·rename_i h';cases h;exact h'.choose_spec
  ·cases h
 ·rintro ⟨n,h⟩;have h': ∃y n,runN f n x=some y:=⟨y,n,h⟩;rw[dif_pos h'];obtain⟨m,hm⟩:=h'.choose_spec;rw[a0c hm h]
theorem zn {f:X->Option (X⊕Y)}{x x':X}(h:f x=some (.inl x')):au f x=au f x':=by
 apply Option.ext;intro y;show au f x=some y↔au f x'=some y;rw[Iu,Iu];constructor
 ·rintro ⟨n,hn⟩;cases n with
  |zero=>cases hn
  |succ n=>rw[runN,h]at hn;exact⟨n,hn⟩
 ·rintro ⟨n,hn⟩;exact⟨n+1,by rw[runN,h];exact hn⟩
theorem fZ {f:X->Option (X⊕Y)}{x:X}{y:Y}(h:f x=some (.inr y)):au f x=some y:=
 Iu.2 ⟨1,by rw[runN,h]⟩
theorem Xw {f:X->Option (X⊕Y)}(I:X->Prop)(μ:X->Nat)(Q:Y->Prop)(hstep: ∀x,I x->(∃x',f x=some (.inl x')/\I x'/\μ x'<μ x)\/ ∃y,f x=some (.inr y)/\Q y):
  ∀x,I x-> ∃y,au f x=some y/\Q y:=by
 have key: ∀n x,μ x<=n->I x-> ∃y,au f x=some y/\Q y:=by
  intro n
  induction n with
  |zero=>
   intro x hn hI;rcases hstep x hI with⟨x',h1,h2,h3⟩|⟨y,h1,h2⟩
   ·omega
   ·exact⟨y,fZ h1,h2⟩
  |succ n ih=>
   intro x hn hI;rcases hstep x hI with⟨x',h1,h2,h3⟩|⟨y,h1,h2⟩
   ·rw[zn h1];exact ih x' (by omega) h2
   ·exact⟨y,fZ h1,h2⟩
 exact λx hI=>key (μ x) x (ax2 _) hI
end
abbrev Ex:=Exit×Shape
@[reducible] def Ys:List Ex->Type
 | []=>Empty
 | [q]=>q.2.X
 |q::r::l=>q.2.X⊕Ys (r::l)
section
variable {R:Type}
def adK(n:Nat):(l:List Ex)->Ys l->(Exit->DS->Option R)->Option R
 | [],y,_=>nomatch y
 | [q],x,K=>K q.1 (q.2.mkS n x)
 |q::r::l,y,K=>match y with
  | .inl x=>K q.1 (q.2.mkS n x)
  | .inr y=>adK n (r::l) y K
end
def Xx:Exit->Exit->Bool| .normal,.normal=>true| .ret,.ret=>true| .exit i,.exit j=>Nat.beq i j|_,_=>false
def a2w(e:Exit)(s:DS):(l:List Ex)->Option (Ys l)
 | []=>none
 | [q]=>bif Xx e q.1 then q.2.rd s else none
 |q::r::l=>bif Xx e q.1 then(match q.2.rd s with
   |some x=>some (.inl x)
   |none=>none)
  else match a2w e s (r::l)with
   |some y=>some (.inr y)
   |none=>none
def lH(id:Nat)(sh:Shape)(exs:List Ex)(e:Exit)(s:DS):Option (sh.X⊕Ys exs):=
 match e with
 | .normal=>match sh.rd s with
  |some x=>some (.inl x)
  |none=>none
 | .exit i=>match a2w (bif Nat.beq i id then .normal else .exit i) s exs with
  |some y=>some (.inr y)
  |none=>none
 |e=>match a2w e s exs with
  |some y=>some (.inr y)
  |none=>none
def bF(sh:Shape)(exs:List Ex)(n:Nat)(round:sh.X->Option (sh.X⊕Ys exs)):Lp where
 run s K:=bif Nat.ble s.nx sh.lo&&Nat.beq s.n n then
  match sh.rd s with
  |some x=>match au round x with
   |some y=>adK n exs y K
   |none=>none
  |none=>none
  else none
theorem a0d {e e':Exit}(h:Xx e e'=true):e=e':=by
 unfold Xx at h;split at h
 ·rfl
 ·rfl
 ·rw[ax0 h]
 ·cases h
theorem a5h {e:Exit}{s:DS} : ∀ {l:List Ex} {y:Ys l},a2w e s l=some y-> ∃q z,q∈l/\e=q.1/\q.2.rd s=some z/\ ∀(R:Type) (n:Nat) (K:Exit->DS->Option R),adK n l y K=K e (q.2.mkS n z):=by
 intro l
 induction l with
 |nil=>intro y h;cases h
 |cons q l ih=>
  intro y h;cases l with
  |nil=>
   simp only[a2w]at h;cases hb:Xx e q.1
   ·rw[hb]at h;cases h
   ·rw[hb]at h;simp only[awL]at h;have:=a0d hb;subst this;exact⟨q,y,ax9 .., rfl,h,λR n K=>rfl⟩
  |cons r l=>
   simp only[a2w]at h;cases hb:Xx e q.1
   ·rw[hb]at h;simp only[awW]at h;split at h
    ·rename_i y' hy';cases h;obtain⟨q',z,h1,h2,h3,h4⟩:=ih hy';exact⟨q',z,ax8 _ h1,h2,h3,λR n K=>h4 R n K⟩
    ·cases h
   ·rw[hb]at h;simp only[awL]at h;have:=a0d hb;subst this;split at h
    ·rename_i x hx;cases h;exact⟨q,x,ax9 .., rfl,hx,λR n K=>rfl⟩
    ·cases h
def inB(id:Nat):Exit->Exit| .exit i=>if i=id then .normal else .exit i|e=>e
theorem a6A {id:Nat}{Q:Exit->Act->World->Prop}{e:Exit}{a:Act}{w:World}(h:Q (inB id e) a w):Exit.inBlock id Q e a w:=by
 cases e with
 |exit i=>
  simp only[inB]at h;simp only[Exit.inBlock];split at h
  ·rename_i e;rw[awQ e];exact h
  ·rename_i e;rw[awG e];exact h
 |_=>exact h
theorem aF {P:Program}{C:Cx}(hC:av P C){lps:List (Nat×Lp)}(d:Nat){id:Nat}{body:Code}(hb: ∀q∈blocks body,∀lp,look lps q.1=some lp->aX P q.1 q.2 lp)
  (sh:Shape) (exs:List Ex) (n:Nat) (round:sh.X->Option (sh.X⊕Ys exs)) (hok:(sh.ok&&exs.all λq=>q.2.ok&&Nat.ble sh.lo q.2.lo)=true)
  (hround: ∀x,wJ C lps (fD C d) body (sh.mkS n x) (lH id sh exs)=round x):aX P id (.loop body) (bF sh exs n round):=by
 intro R s K x h B ρ a w hr hf;simp only[awu]at hok;obtain⟨hok,hexs⟩:=hok;simp only[bF]at h;cases hb1:Nat.ble s.nx sh.lo&&Nat.beq s.n n
 ·rw[hb1]at h;cases h
 rw[hb1]at h;simp only[awL]at h;simp only[awu]at hb1;have hlo:=awN hb1.1;have hsn:=ax0 hb1.2;have hF:kL ρ sh.lo:=λid hid=>hf id (by omega)
 split at h
 ·rename_i x0 hx0;split at h
  ·rename_i y hy;obtain⟨N,hN⟩:=Iu.1 hy;obtain⟨ρ1,hr1,hf1,hl1⟩:=sh.fold hok hx0 hr;have hl1:=hl1 ρ w (Later.refl _ _) hF;rw[hsn]at hr1;refine wp_block ?_;intro b k cs;have key: ∀(N:Nat) (x1:sh.X),runN round N x1=some y-> ∀(ρ1:Rho) (a:Act) (w1:World),aJ B ρ1 (sh.mkS n x1) a w1->kL ρ1 sh.nx->Later ρ w ρ1 w1->
     ∃e a' w',Post B ρ w s K x True (inB id e) a' w'/\Arrives P (lone (b.at a (.code body:: .inLoop body::k)) cs w1) b k cs e a' w':=by
    intro N
    induction N with
    |zero=>intro x1 h;cases h
    |succ N ih=>
     intro x1 hrun ρ1 a w1 hr1 hf1 hl1;rw[runN]at hrun;have out: ∀(e e':Exit) (a':Act) (w':World) (s':DS) (ρ':Rho),a2w e' s' exs=some y->aJ B ρ' s' a' w'->s'.n=n->Later ρ w ρ' w'->inB id e=e'->Post B ρ w s K x True (inB id e) a' w':=by intro e e' a' w' s' ρ' hex hr' hn' hl' he;obtain⟨q,z,hq,h1,h2,h3⟩:=a5h hex;have hq':=axB.1 hexs q hq;simp only[awu]at hq';obtain⟨ρ2,h4,h5,h6⟩:=q.2.fold hq'.1 h2 hr';have hlq:=awN hq'.2;rw[h3]at h;rw[hn']at h4;rw[he];exact⟨_,ρ2,h,h4,h5,hsn.symm,λ_=>h6 ρ w hl' (λid hid=>hF id (by omega))⟩
     cases hrd:round x1 with
     |none=>rw[hrd]at hrun;cases hrun
     |some r=>
      rw[hrd]at hrun;rw[<-hround x1]at hrd;obtain⟨e,a',w',⟨s',ρ',h2,h3,h4,h5,h6⟩,harr⟩:=SK hC (Ar hC _) (Dy hC (Ar hC _) d) lps True body hb _ _ _ hrd B ρ1 a w1 hr1 hf1 b (.inLoop body::k) cs;have hl':=hl1.trans (h6 trivial);have h5:s'.n=n:=h5;cases e with
      |normal=>
       simp only[lH]at h2;split at h2
       ·rename_i x2 hx2;cases h2;obtain⟨ρ2,h7,h8,h9⟩:=sh.fold hok hx2 h3;rw[h5]at h7;obtain⟨e2,a2,w2,hp,harr2⟩:=ih x2 hrun ρ2 a' w' h7 h8 (h9 ρ w hl' hF);exact⟨e2,a2,w2,hp,.of_steps (Steps.trans harr (.one step_inLoop)) harr2⟩
       ·cases h2
      |exit i=>
       simp only[lH]at h2;split at h2
       ·rename_i y' hy';cases h2;simp only[awr]at hrun;subst hrun;refine⟨.exit i,a',w',out (.exit i) _ a' w' s' ρ' hy' h3 h5 hl' ?_,.pass (x:=.inLoop body) rfl (λ_ _=>.inl (by simp)) harr⟩;simp only[inB];by_cases e:i=id
        ·subst e;simp
        ·have:Nat.beq i id=false:=by
          cases hbq:Nat.beq i id
          ·rfl
          ·exact absurd (ax0 hbq) e
         rw[this,awG e];rfl
       ·cases h2
      |ret=>
       simp only[lH]at h2;split at h2
       ·rename_i y' hy';cases h2;simp only[awr]at hrun;subst hrun;exact⟨.ret,a',w',out .ret _ a' w' s' ρ' hy' h3 h5 hl' rfl,.pass (x:=.inLoop body) rfl (λ_ _=>.inl (by simp)) harr⟩
       ·cases h2
      |goto l=>
       simp only[lH]at h2;split at h2
       ·rename_i y' hy';cases h2;simp only[awr]at hrun;subst hrun;exact⟨.goto l,a',w',out (.goto l) _ a' w' s' ρ' hy' h3 h5 hl' rfl,.pass (x:=.inLoop body) rfl (λ_ _=>.inl (by simp)) harr⟩
       ·cases h2
      |panic ch=>
       simp only[lH]at h2;split at h2
       ·rename_i y' hy';cases h2;simp only[awr]at hrun;subst hrun;exact⟨.panic ch,a',w',out (.panic ch) _ a' w' s' ρ' hy' h3 h5 hl' rfl,.pass (x:=.inLoop body) rfl (λ_ _=>.inl (by simp)) harr⟩
       ·cases h2
      |outgrown=>
       simp only[lH]at h2;split at h2
       ·rename_i y' hy';cases h2;simp only[awr]at hrun;subst hrun;exact⟨.outgrown,a',w',out .outgrown _ a' w' s' ρ' hy' h3 h5 hl' rfl,.pass (x:=.inLoop body) rfl (λ_ _=>.inl (by simp)) harr⟩
       ·cases h2
   obtain⟨e,a',w',hp,harr⟩:=key N x0 hN ρ1 a w hr1 hf1 hl1;exact⟨e,a',w',a6A hp,.of_steps (.one step_loop) harr⟩
  ·cases h
 ·cases h
open Go.RowKit Go.ChangeShapes
def Good:(t:Ty)->t.den->Prop
 | .int k,x=>k.min<=x/\x<=k.max
 | .bool,_=>True
 | .str,x=>x.size<=9223372036854775807
 | .unit,_=>True
 | .pair a b,x=>Good a x.1/\Good b x.2
 | .arr n t,f=> ∀i,i<n->Good t (f i)
 | .sl t,x=>match x with
  | .nil=>True
  | .fz n f=>n<=9223372036854775807/\ ∀i,i<n->Good t (f i)
  | .ms _ _ _ _=>False
 | .ptr _,_=>False
 | .fn,_=>False
 | .sp _,_=>False
 | .mp,_=>False
 | .st _,_=>False
def Ty.hand:Ty->Bool| .int _| .bool| .str| .unit=>true| .pair a b=>a.hand&&b.hand| .arr _ t=>t.hand| .sl t=>t.hand|_=>false
theorem a4a {t:Ty}(h:t.hand=true):t.un=t:=by cases t<;>first|rfl|cases h
abbrev Rho.nul:Rho:=Rho.of λ_=>False
theorem Qi {w:World}{base n:Nat}{a:Addr}{cs:List Value}(h:w.cells? base a n=some cs):cs.length=n/\ ∀(j:Nat) v,cs[j]?=some v->w.cell? (a.add j)=some v:=by
 unfold World.cells? at h;split at h
 ·have hl:=mapM_some_length h;rw[List.length_range]at hl;refine⟨hl,λj v hj=>?_⟩;have hjn:j<n:=by rw[<-hl];exact(awH.1 hj).1
  have:=mapM_some_get h j j (by rw[ayn hjn]);rw[hj]at this;exact this
 ·cases h
theorem cell?_spot {w:World}{a:Addr}{v:Value}(h:w.cell? a=some v):a.spot=none/\a.block<w.heap.size:=by
 unfold World.cell? at h;split at h
 ·rename_i c T fr hc;refine⟨?_,(ayl.1 hc).1⟩;split at h
  ·cases h
  ·rename_i hs;simpa using hs
 ·cases h
section
variable {P:Program} {ti:List (Nat×TI)} (hti:wL P ti) {w:World}
include hti
theorem zo {T:TypeId}{i:TI}(hi:look ti T=some i):P.cellsOf T=i.ty.size:=by obtain⟨inf,h1,h2,_⟩:=hti.info T i hi;simp[Program.cellsOf,h1,h2]
omit hti in
theorem a0e {cs:List Value} : ∀(fs:List Field) (t:Ty) (o:Nat),Co ti t o fs->t.hand=true->o+t.size<=cs.length->
  (∀f∈fs,∀i,look ti f.type=some i->i.ty.hand=true-> ∃x,Rd Rho.nul w i.ty x ((cs.drop f.offset).take i.ty.size)/\Good i.ty x)-> ∃x,Rd Rho.nul w t x ((cs.drop o).take t.size)/\Good t x:=by
 intro fs
 induction fs with
 |nil=>
  intro t o hc _ _ _;cases t with
  |unit=>exact⟨(),by simp[Rd,Ty.size],trivial⟩
  |_=>exact hc.elim
 |cons f fs ih=>
  intro t o hc hh hl hall;cases fs with
  |nil=>
   have one: ∀ {t:Ty},t.hand=true->(f.offset=o/\f.name≠ "_" /\ ∃i,look ti f.type=some i/\i.ty=t.un/\0<t.size)-> ∃x,Rd Rho.nul w t x ((cs.drop o).take t.size)/\Good t x:=by intro t hh ⟨h1,_,i,h2,h3,_⟩;rw[a4a hh]at h3;subst h1;subst h3;exact hall f (ax9 ..) i h2 hh
   cases t<;>first|exact one hh hc|exact hc.elim
  |cons g l=>
   cases t with
   |pair a b=>
    obtain⟨h1,_,⟨i,h2,h3,_⟩,h4⟩:=hc;simp only[Ty.hand,awu]at hh;rw[a4a hh.1]at h3;subst h1;subst h3;simp only[Ty.size]at hl;obtain⟨x,hx,gx⟩:=hall f (ax9 ..) i h2 hh.1;obtain⟨y,hy,gy⟩:=ih b _ h4 hh.2 (by omega) (λf hf=>hall f (ax8 _ hf));refine⟨(x,y),⟨?_,?_⟩,gx,gy⟩
    ·simp only[Ty.size];rw[ayX,ay5 (by omega)];exact hx
    ·simp only[Ty.size];rw[ayW,ayB,show f.offset+i.ty.size=i.ty.size+f.offset by omega];rw[show i.ty.size+b.size-i.ty.size=b.size by omega,axP];exact hy
   |_=>exact hc.elim
theorem a5i {H:Type}{enc:TypeId×Value->H}{sp:Nat->Bool}{held:Bool} : ∀(fuel:Nat) {T:TypeId} {i:TI} {cs:List Value} {x:DataW H×List MemPlace},look ti T=some i->i.ty.hand=true->
  DataW.trod enc P w 0 sp held fuel T cs=some x-> ∃x,Rd Rho.nul w i.ty x cs/\Good i.ty x:=by
 intro fuel
 induction fuel with
 |zero=>intro T i cs x _ _ h;simp[DataW.trod]at h
 |succ n ih=>
  intro T i cs x hi hh h;have hu:=hti.under T i hi;have hs:=hti.shape T i hi;unfold kM at hs;split at hs
  ·rename_i k hd;rw[hd]at hu;obtain⟨m,rfl,_,hw⟩:=DataW.trod_int hu h;rw[hs];simp only[Lit.wf,awu,awI]at hw;exact⟨m,rfl,hw⟩
  ·rename_i hd;rw[hd]at hu;obtain⟨b,rfl,_⟩:=DataW.trod_bool hu h;rw[hs];exact⟨b,rfl,trivial⟩
  ·rename_i hd;rw[hd]at hu;obtain⟨b,rfl,_,hsz⟩:=DataW.trod_string hu h;rw[hs];exact⟨b,rfl,by simpa [maxLen,Good]using hsz⟩
  ·rename_i fs hd;rw[hd]at hu;obtain⟨xs,m,e,_,hl,hxl,hf⟩:=DataW.trod_struct hu h;cases e;rw[zo hti hi]at hl;obtain⟨y,h1,h2⟩:=a0e (w:=w) (cs:=cs) fs.toList i.ty 0 hs.2 hh (by omega) (λf hfm j hj hhj=>by
    obtain⟨k,hk,hkf⟩:=List.mem_iff_getElem.1 hfm;have hk':fs[k]?=some f:=by rw[<-ayg,awy hk,hkf]
    have h3:=hf k f hk';have hkx:k<xs.length:=by rw[hxl];simpa using hk
    rw[awy hkx,zo hti hj]at h3;exact ih hj hhj h3)
   rw[ayV,axq (by omega)]at h1;exact⟨y,h1,h2⟩
  ·rename_i n' e hd;rw[hd]at hu;obtain⟨i',h1,h2,h3,h4⟩:=hs;obtain⟨xs,m,e',_,hl,hxl,hf⟩:=DataW.trod_array hu h;cases e';rw[zo hti hi]at hl;rw[h2]at hh hl⊢;have key: ∀j,∃y:i'.ty.den,j<n'->Rd Rho.nul w i'.ty y ((cs.drop (j*i'.ty.size)).take i'.ty.size)/\Good i'.ty y:=by
    intro j;by_cases hj:j<n'
    ·have h5:=hf j hj;rw[awy (by omega),zo hti h1]at h5;obtain⟨y,h6⟩:=ih h1 hh h5;exact⟨y,λ_=>h6⟩
    ·exact⟨i'.ty.zero,λh=>absurd h hj⟩
   refine⟨λj=>(key j).choose,⟨hl,λj hj=>((key j).choose_spec hj).1⟩,λj hj=>((key j).choose_spec hj).2⟩
  ·rename_i e hd;rw[hd]at hu;obtain⟨i',h1,h2,h3⟩:=hs;rw[h2]at hh⊢;rcases DataW.trod_slice hu h with⟨rfl,_⟩|⟨a,len,cap,elems,rest,m,e',rfl,_,_,hlc,hcm,hel,hf,_⟩
   ·exact⟨.nil,rfl,trivial⟩
   ·cases e';have key: ∀j,∃y:i'.ty.den,j<len->(∃c,w.cells? 0 (a.add (j*i'.ty.size)) i'.ty.size=some c/\Rd Rho.nul w i'.ty y c)/\Good i'.ty y:=by
     intro j;by_cases hj:j<len
     ·have h5:=hf j hj;rw[awy (by omega),zo hti h1,ayh]at h5;obtain⟨c,h5,h6⟩:=h5;obtain⟨y,h7,h8⟩:=ih h1 hh h6;exact⟨y,λ_=>⟨⟨c,h5,h7⟩,h8⟩⟩
     ·exact⟨i'.ty.zero,λh=>absurd h hj⟩
    refine⟨.fz len λj=>(key j).choose,⟨some a,cap,rfl,hlc,λj hj=>?_⟩,by simp only[maxLen]at hcm;omega,λj hj=>((key j).choose_spec hj).2⟩;obtain⟨⟨c,h5,h6⟩,_⟩:=(key j).choose_spec hj;have ha:a.spot=none/\a.block<w.heap.size:=by
     obtain⟨⟨c0,h7,h8⟩,_⟩:=(key 0).choose_spec (by omega);obtain⟨h9,h10⟩:=Qi h7;rw[ay2]at h10;have:0<c0.length:=by omega
     have h11:=h10 0 _ (awy this);have e1: ∀b:Addr,b.add 0=b:=λb=>by unfold Addr.add;rw[awQ rfl]
     rw[e1,e1]at h11;exact cell?_spot h11
    obtain⟨b,o,sp'⟩:=a;simp only at ha;obtain⟨rfl,hb⟩:=ha;obtain⟨h7,h8⟩:=Qi h5;refine⟨b,o,c,rfl,h6,λh=>h,hb,λk v hk=>?_⟩;have:=h8 k v hk
    rwa [fU,fU]at this
  ·rcases hs with⟨t,hs⟩|⟨_,hs⟩
   ·rw[hs]at hh;cases hh
   ·rw[hs]at hh;cases hh
  ·rw[hs]at hh;cases hh
  ·rw[hs]at hh;cases hh
  ·exact hs.elim
end
def Norm:(t:Ty)->t.den->Prop| .arr _ (.sl _),f=> ∀i,∃n g,f i= .fz n g|_,_=>True
def a6B:(l:List Ty)->Dom l->Prop| [],_=>True|t::l,x=>(Good t (wO t x.1)/\Norm t (wO t x.1))/\a6B l x.2
def a6C(pv:PV)(s:DS):Option Unit:=match pv with| .v ⟨.bool,b⟩=>bif b then some ()else none|_=>none
def handed(ti:List (Nat×TI)):List TypeId->List Ty->Bool
 | [],[]=>true
 |T::l,t::ts=>(match look ti T with
  |some i=>decide (i.ty=t)&&t.hand
  |none=>false)&&handed ti l ts
 |_,_=>false
theorem a2x {P:Program}{ti:List (Nat×TI)}(hti:wL P ti){w:World}{base:Nat}{T:TypeId}{i:TI}{v:Value}(hi:look ti T=some i)(hh:i.ty.hand=true)(h:Value.okWide P w .any base T v){x:i.ty.den}(hx:Rd Rho.nul w i.ty x v.cells.toList):mkV i.ty v.cells.toList=v:=by
 have hu:=hti.under T i hi;have hs:=hti.shape T i hi;unfold kM at hs;unfold Value.okWide at h;rw[hu]at h;have agg:i.ty.agg=true->(∃cs,v= .agg cs)->mkV i.ty v.cells.toList=v:=by rintro ha ⟨cs,rfl⟩;unfold mkV;rw[ha];simp[Value.cells]
 have one:i.ty.agg=false->(∀cs,v≠ .agg cs)->mkV i.ty v.cells.toList=v:=by
  intro ha hv;have:v.cells= #[v]:=by cases v<;>simp_all [Value.cells]
  unfold mkV;rw[ha,this];rfl
 have notAgg: ∀ {cs},Cell.okWide P w .any base T (.agg cs)->(∀fs,i.desc≠ .struct fs)->False:=by
  intro cs h _;unfold Cell.okWide at h;split at h<;>first|(rename_i e;cases e)|skip
  all_goals first|(unfold Cell.ok at h;split at h<;>first|(rename_i e;cases e)|exact h)|(rename_i e1 e2;cases e2)|skip
 split at hs
 ·rename_i k hd;rw[hd]at h;exact one (by rw[hs];rfl) (λcs e=>by subst e;exact notAgg h (by rw[hd];intro fs e;cases e))
 ·rename_i hd;rw[hd]at h;exact one (by rw[hs];rfl) (λcs e=>by subst e;exact notAgg h (by rw[hd];intro fs e;cases e))
 ·rename_i hd;rw[hd]at h;exact one (by rw[hs];rfl) (λcs e=>by subst e;exact notAgg h (by rw[hd];intro fs e;cases e))
 ·rename_i fs hd;rw[hd]at h;obtain⟨cs,rfl,_⟩:=h;exact agg hs.1 ⟨cs,rfl⟩
 ·rename_i n e hd;rw[hd]at h;obtain⟨cs,rfl,_⟩:=h;obtain⟨i',h1,h2,h3⟩:=hs;exact agg (by rw[h2];rfl) ⟨cs,rfl⟩
 ·rename_i e hd;rw[hd]at h;obtain⟨i',h1,h2,h3⟩:=hs;exact one (by rw[h2];rfl) (λcs e=>by subst e;exact notAgg h (by rw[hd];intro fs e;cases e))
 ·rcases hs with⟨t,hs⟩|⟨_,hs⟩
  ·rw[hs]at hh;cases hh
  ·rw[hs]at hh;cases hh
 ·rw[hs]at hh;cases hh
 ·rw[hs]at hh;cases hh
 ·exact hs.elim
theorem a6D {w:World}{ρ:Rho}{n:Nat}{t:Ty}{x:Nat->SlV t.den}{cs:List Value}(h:Rd ρ w (.arr n (.sl t)) x cs)(hg:Good (.arr n (.sl t)) x): ∃y:Nat->SlV t.den,Rd ρ w (.arr n (.sl t)) y cs/\Good (.arr n (.sl t)) y/\Norm (.arr n (.sl t)) y:=by
 let y:Nat->SlV t.den:=λi=>match x i with
  | .nil=>.fz 0 λ_=>t.zero
  | .fz m g=>.fz m g
  | .ms _ _ _ _=>.fz 0 λ_=>t.zero
 have key: ∀i,i<n->(x i= .nil/\y i= .fz 0 λ_=>t.zero)\/y i=x i:=by
  intro i hi;have hgi:=hg i hi;show(_/\(match x i with| .nil=>_| .fz m g=>_| .ms _ _ _ _=>_)=_)\/(match x i with| .nil=>_| .fz m g=>_| .ms _ _ _ _=>_)=_;cases hx:x i with
  |nil=>exact .inl ⟨rfl,rfl⟩
  |fz m g=>exact .inr rfl
  |ms id p lo len=>rw[hx]at hgi;exact hgi.elim
 refine⟨y,⟨h.1,λi hi=>?_⟩,λi hi=>?_,λi=>?_⟩
 ·rcases key i hi with⟨h1,h2⟩|h1
  ·have:=h.2 i hi;rw[h1]at this;rw[h2];simp only[Rd]at this;exact⟨none,0,this,ax2 _,λi hi=>by cases hi⟩
  ·rw[h1];exact h.2 i hi
 ·rcases key i hi with⟨h1,h2⟩|h1
  ·rw[h2];exact⟨by decide,λi hi=>by cases hi⟩
  ·rw[h1];exact hg i hi
 ·show∃n g,(match x i with| .nil=>_| .fz m g=>_| .ms _ _ _ _=>_)=SlV.fz n g;cases x i with
  |nil=>exact⟨_,_,rfl⟩
  |fz m g=>exact⟨_,_,rfl⟩
  |ms id p lo len=>exact⟨_,_,rfl⟩
theorem a6E {w:World}{ρ:Rho}{t:Ty}{x:t.den}{cs:List Value}(h:Rd ρ w t x cs)(hg:Good t x): ∃y:t.arg,Rd ρ w t (wO t y) cs/\Good t (wO t y):=by
 induction t generalizing cs with
 |sl t=>
  cases x with
  |nil=>
   refine⟨(0,λ_=>t.zero),?_,by simp[wO,Good]⟩;simp only[Rd]at h;exact⟨none,0,h,ax2 _,λi hi=>by cases hi⟩
  |fz n f=>exact⟨(n,f),h,hg⟩
  |ms id p lo len=>exact hg.elim
 |ptr t=>exact hg.elim
 |pair a b iha ihb=>
  obtain⟨y,h1,h2⟩:=iha h.1 hg.1;obtain⟨z,h3,h4⟩:=ihb h.2 hg.2;exact⟨(y,z),⟨h1,h3⟩,h2,h4⟩
 |_=>exact⟨x,h,hg⟩
theorem a6F {w:World}{ρ:Rho}{t:Ty}{x:t.den}{cs:List Value}(h:Rd ρ w t x cs)(hg:Good t x): ∃y:t.arg,Rd ρ w t (wO t y) cs/\(Good t (wO t y)/\Norm t (wO t y)):=by
 cases t with
 |arr n u=>
  cases u with
  |sl v=>exact let⟨y,h1,h2,h3⟩:=a6D h hg;⟨y,h1,h2,h3⟩
  |_=>obtain⟨y,h1,h2⟩:=a6E h hg;exact⟨y,h1,h2,trivial⟩
 |_=>obtain⟨y,h1,h2⟩:=a6E h hg;exact⟨y,h1,h2,trivial⟩
theorem a6G {P:Program}{ti:List (Nat×TI)}(hti:wL P ti){w:World}{base:Nat}{H:Type}{enc:TypeId×Value->H}{sp:Nat->Bool}{held:Bool} : ∀ {Ts:List TypeId} {ts:List Ty} {vs:List Value} {ds:List (DataW H)} {ps:List MemPlace},
  handed ti Ts ts=true->DataW.TrodAll enc P w 0 sp held Ts vs ds ps->(∀(j:Nat) t v,Ts[j]?=some t->vs[j]?=some v->Value.okWide P w .any base t v)-> ∃xs,VPs Rho.nul w (nU ts xs) vs/\a6B ts xs:=by
 intro Ts
 induction Ts with
 |nil=>
  intro ts vs ds ps hh h _;cases ts with
  |nil=>cases vs with
   |nil=>exact⟨(),trivial,trivial⟩
   |cons _ _=>cases ds<;>exact h.elim
  |cons _ _=>cases hh
 |cons T Ts ih=>
  intro ts vs ds ps hh h hok;cases ts with
  |nil=>cases hh
  |cons t ts=>
   cases vs with
   |nil=>cases ds<;>exact h.elim
   |cons v vs=>
    cases ds with
    |nil=>exact h.elim
    |cons d ds=>
     obtain⟨p,q,⟨fuel,h1⟩,h2,_⟩:=h;simp only[handed,awu]at hh;obtain⟨h3,h4⟩:=hh;split at h3
     ·rename_i i hi;simp only[awu,awI]at h3;obtain⟨rfl,hh⟩:=h3;obtain⟨xs,h5,h6⟩:=ih h4 h2 (λj t v ht hv=>hok (j+1) t v (by simpa using ht) (by simpa using hv));obtain⟨x,h7,h8⟩:=a5i hti fuel hi hh h1;obtain⟨y,h9,h10⟩:=a6F h7 h8;exact⟨(y,xs),⟨⟨_,h9,(a2x hti hi hh (hok 0 T v rfl rfl) h7).symm⟩,h5⟩,h10,h6⟩
     ·cases h3
def YB(W W':World):Prop:=W.keptBut W' (λ_=>False)/\(∀a,a.block<W.heap.size->W'.frozen? a=W.frozen? a)/\W.heap.size<=W'.heap.size
theorem YB.frame {W W':World}(h:YB W W')(may:MemPlace->Prop):W.keptBut W' may:=World.keptBut_mono (λ_ f=>f.elim) h.1
theorem adL {H:Type}{enc:TypeId×Value->H}{P:Program}{f:Func}{s:ChangeSpec}{apart fresh handsOn again:Bool}{W W':World}{args:Array Value}{v:Value}{ds gs:List (DataW H)}{before pa pv:List MemPlace}
  (hW:DataW.Whole enc P f.params.toList s.vars apart W args.toList ds gs before)
  (hres: ∀(b:Nat) (sp:Nat->Bool) (hd:Bool),DataW.TrodAll enc P W' b sp hd f.resultTypes.toList (v.resultList f.resultTypes.size) (s.fn H (ds++gs)).results [])
  (hargs: ∀sp:Nat->Bool,(∀p∈before,sp p.block=true)->DataW.TrodAll enc P W' 0 sp true f.params.toList args.toList (s.fn H (ds++gs)).args pa)
  (hvars: ∀sp:Nat->Bool,(∀p∈before,sp p.block=true)->DataW.TrodVars enc P W' sp s.vars (s.fn H (ds++gs)).vars pv)
  (hps:before=pa++pv) (hk:W.keptBut W' (·∈before)) (hfz: ∀a,a.block<W.heap.size->W'.frozen? a=W.frozen? a)
  (hok: ∀(j:Nat) (t:TypeId) (r:Value),f.resultTypes[j]?=some t->(v.resultList f.resultTypes.size)[j]?=some r->Value.okWide P W' .any 0 t r):
  s.post enc P f apart fresh handsOn again W args v W':=by
 have hlt: ∀p∈before,p.block<W.heap.size:=λp hp=>hW.lt p hp
 have hdec: ∀p∈before,(λb=>decide (b<W.heap.size)) p.block=true:=λp hp=>awv (hlt p hp)
 have hW':=hW;obtain⟨_,_,_,_,_,hz,hn⟩:=hW';refine⟨ds,gs,before,[],pa,pv,hW,hres _ _ _,hargs _ hdec,hvars _ hdec,World.keptBut_mono (λp hp=>⟨hp,.inr (axo.1 (hps▸hp))⟩) hk,λ_=>⟨hok,_,_,([]++pa)++pv,⟨[]++pa,pv,trodAll_append (hargs _ λ_ _=>rfl) (hres _ _ _),hvars _ λ_ _=>rfl,rfl,λb off hp=>?_,λha=>?_⟩,λp hp _=>by rw[hps];simpa using hp⟩⟩
 ·have hm:MemPlace.cell b off∈before:=by rw[hps];simpa using hp
  rw[hfz _ (hlt _ hm)];exact hz b off hm
 ·have:=hn ha;rw[hps]at this;simpa using this
theorem aiL {P:Program}{C:Cx}(hC:av P C){f:FuncId}{fn:Func}{lps:List (Nat×Lp)}(d:Nat)(hf:P.funcs[f]?=some fn)
  (hlp: ∀c,fn.body=some c-> ∀q∈blocks c,∀lp,look lps q.1=some lp->aX P q.1 q.2 lp) (dom:List Ty) (hdom:handed C.ti fn.params.toList dom=true)
  (hlaw: ∀xs,a6B dom xs->dJ C lps (fD C d) fn (nU dom xs) [] 0 a6C=some ()) {W:World} {base:Nat} {H:Type} {enc:TypeId×Value->H} {args:Array Value} {ds:List (DataW H)} {ps:List MemPlace}
  (hval: ∀(j:Nat) t v,fn.params[j]?=some t->args[j]?=some v->Value.okWide P W .any base t v) (hA:DataW.TrodAll enc P W 0 (λ_=>true) true fn.params.toList args.toList ds ps):
  Calls P f args W λe W'=>e= .returned (.bool true)/\YB W W':=by
 obtain⟨xs,hv,hg⟩:=a6G hC.ti hdom hA (λj t v ht hv=>hval j t v (by rw[<-ayg];exact ht) (by rw[<-ayg];exact hv));let a0:Act:= { tmps:=Array.replicate 0 undef,defers:=[] };have hr0:aJ ⟨W,λ_=>False⟩ Rho.nul { env:=[],hp:=[],nx:=0,n:=0 } a0 W:=
  ⟨rfl,az9 _,(λt pv h=>by cases h),(λid o h=>by cases h),(λid id' o o' loc loc' h=>by cases h),(λid loc h=>by cases h),(λb hb=>hb.elim),⟨rfl,rfl,rfl,λ_ _ _=>rfl,ax2 _⟩,λ_ h=>h.elim,Wi.free λid o h=>by cases h⟩
 have h:=Aq hC (Ar hC _) (Dy hC (Ar hC _) d) lps hf hlp (hlaw xs hg) hr0 (λid _=>rfl) hv;have e:args.toList.toArray=args:=by simp
 rw[e]at h;refine h.mono ?_;rintro e W' ⟨v,rfl,pv,s',ρ',a',hk,hr',_,hv',L⟩;have hkeep: ∀b,b<W.heap.size->W'.heap[b]?=W.heap[b]?:=λb hb=>L.keep b hb (λh=>h)
 refine⟨?_,⟨hr'.base.os,hr'.base.output,λi hi=>?_⟩,λa ha=>hr'.base.froz a ha id,L.size⟩
 ·unfold a6C at hk;split at hk
  ·rename_i b;have:=VR.bool hv';subst this;cases b
   ·cases hk
   ·rfl
  ·cases hk
 ·rw[hkeep i hi];split
  ·rename_i c t fr c' t' fr' h1 h2;rw[h1]at h2;cases h2;exact⟨rfl,rfl,rfl,λ_ _=>rfl⟩
  ·rename_i es clock es' clock' h1 h2;rw[h1]at h2;cases h2;exact .inr ⟨rfl,rfl⟩
  ·rfl
theorem aiF {P:Program}{W W':World}(hg:YB W W'){H:Type}{enc:TypeId×Value->H}(hl:laidOutB P=true): ∀ {ts:List TypeId} {vs:List Value} {ds:List (DataW H)} {ps:List MemPlace},
  (ts.all λt=>P.readableRec t&&decide (t<P.types.size))=true->DataW.TrodAll enc P W 0 (λ_=>true) true ts vs ds ps-> ∀sp:Nat->Bool,(∀p∈ps,sp p.block=true)->DataW.TrodAll enc P W' 0 sp true ts vs ds ps:=by
 have same: ∀p:MemPlace,p.block<W.heap.size->W.sameAt W' p:=by
  intro p hp;have:=hg.1.2.2 p.block hp;cases p with
  |cell b o=>
   simp only[MemPlace.block]at this hp;simp only[World.sameAt,World.cell?];split at this
   ·rename_i c t fr c' t' fr' h1 h2;obtain⟨_,_,h5,h6⟩:=this;simp only[h1,h2];exact h6 o (λh=>h)
   ·rename_i es clock es' clock' h1 h2;simp only[h1,h2]
   ·rw[this]
  |map b=>
   simp only[MemPlace.block]at this hp;simp only[World.sameAt];split at this
   ·rename_i c t fr c' t' fr' h1 h2;obtain⟨rfl,rfl,h5,h6⟩:=this;rw[h1,h2];have:c'=c:=by apply ayt;apply axO;intro j;have:=h6 j (λh=>h);rw[<-ayg,<-ayg]at this;exact this
    rw[this]
   ·rename_i es clock es' clock' h1 h2;rcases this with h|⟨rfl,rfl⟩
    ·exact h.elim
    ·rw[h1,h2]
   ·exact this
 intro ts
 induction ts with
 |nil=>intro vs ds ps _ h sp hs;cases vs<;>cases ds<;>exact h
 |cons t ts ih=>
  intro vs ds ps hall h sp hs;simp only[az1,awu,awI]at hall;cases vs with
  |nil=>cases ds<;>exact h
  |cons v vs=>
   cases ds with
   |nil=>exact h
   |cons d ds=>
    obtain⟨p,q,h1,h2,rfl⟩:=h;have hlt: ∀x∈p,x.block<W.heap.size:=by obtain⟨n,hn⟩:=h1;exact DataW.trod_lt n _ _ _ hn
    exact⟨p,q,WideElems.Trod_stays hl hall.1.1 hall.1.2 h1 (λx hx=>same x (hlt x hx)) (λx hx=>hs x (awK _ hx)),ih hall.2 h2 sp (λx hx=>hs x (awE _ hx)),rfl⟩
structure TI1(P:Program)(ti:List (Nat×TI))(q:Nat×TI):Prop where
 under:P.underlying q.1=some q.2.desc
 info:(P.info? q.1).map (λi=>(i.size,i.bytes))=some (q.2.ty.size,q.2.bytes)
 zero:(P.info? q.1).bind (λi=>i.zero)=some (mkV q.2.ty q.2.ty.zcells)
 shape:kM ti q.2
 head: ∀T0,q.2.ty.head=some T0->T0=q.1
 eq:q.2.ty.agg=true->q.2.ty.flat=true->P.eqGuardType P.depth q.1=false/\P.stoodInHeld q.1=false/\(∀fs,q.2.desc= .struct fs->fs.size≠1)/\q.2.ty.dep<=10000
theorem wL.of {P:Program}{ti:List (Nat×TI)}(h: ∀q∈ti,TI1 P ti q):wL P ti:=by
 have info: ∀T i,look ti T=some i-> ∃inf,P.info? T=some inf/\inf.size=i.ty.size/\inf.bytes=i.bytes/\inf.zero=some (mkV i.ty i.ty.zcells):=by
  intro T i hi;have q:=h (T,i) (kS hi);have h1:=q.info;have h2:=q.zero;cases hp:P.info? T with
  |none=>rw[hp]at h1;cases h1
  |some inf=>
   rw[hp]at h1 h2;simp only[ay6,awr,ayR]at h1;exact⟨inf,rfl,h1.1,h1.2,h2⟩
 refine⟨λT i hi=>(h (T,i) (kS hi)).under,λT i w hi=>?_,λT i w hi=>?_,λT i w hi=>?_,info,λT i hi=>(h (T,i) (kS hi)).shape,λT i T0 hi=>(h (T,i) (kS hi)).head T0,λT i hi=>(h (T,i) (kS hi)).eq⟩
 ·obtain⟨inf,h1,h2,_⟩:=info T i hi;simp[Go.sizeOf,typeInfo,h1,h2]
 ·have hu:=(h (T,i) (kS hi)).under;have hs:=(h (T,i) (kS hi)).shape;simp only at hu hs;unfold kM at hs;simp only[isAgg,awx,awJ hu,aws];split at hs
  ·rename_i k hd;rw[hd,hs];rfl
  ·rename_i hd;rw[hd,hs];rfl
  ·rename_i hd;rw[hd,hs];rfl
  ·rename_i fs hd;rw[hd,hs.1];rfl
  ·rename_i n e hd;obtain⟨i',_,h2,_⟩:=hs;rw[hd,h2];rfl
  ·rename_i e hd;obtain⟨i',_,h2,_⟩:=hs;rw[hd,h2];rfl
  ·rename_i e hd;rcases hs with⟨t,h2⟩|⟨_,h2⟩
   ·rw[hd,h2];rfl
   ·rw[hd,h2];rfl
  ·rename_i hd;rw[hd,hs];rfl
  ·rename_i hd;rw[hd,hs];rfl
  ·exact hs.elim
 ·obtain⟨inf,h1,_,_,h4⟩:=info T i hi;simp[zeroValue,typeInfo,h1,h4]
abbrev NI:Type:=Nat->Int
def veil {α:Type}(x:α):α:=Classical.choose (⟨x,rfl⟩: ∃y:α,y=x)
theorem aj {α:Type}(x:α):veil x=x:=Classical.choose_spec (p:=λy:α=>y=x) ⟨x,rfl⟩
def a6H(P:Program)(c:Code)(lps:List (Nat×Lp)):Prop:= ∀q∈blocks c,∀lp,look lps q.1=some lp->aX P q.1 q.2 lp
theorem ah {P:Program}{c:Code} :a6H P c []:=λq _ lp h=>by cases h
theorem a0f {α:Type} : ∀ {l:List (Nat×α)} {q:Nat×α},nodupB (l.map (·.1))=true->q∈l->look l q.1=some q.2:=by
 intro l
 induction l with
 |nil=>intro q _ h;cases h
 |cons x l ih=>
  intro q hn hq;obtain⟨k,v⟩:=x;have hnd:=wN hn;simp only[axQ,ay0]at hnd;simp only[axQ,nodupB,awu]at hn;rw[aH];rcases axL.1 hq with rfl|hq
  ·rw[awQ rfl]
  ·rw[awG (λe=>hnd.1 (by rw[e];exact ayP.2 ⟨q,hq,rfl⟩))];exact ih hn.2 hq
theorem aR {P:Program}{c:Code}{lps:List (Nat×Lp)}(hn:nodupB ((blocks c).map (·.1))=true)(h: ∀p∈lps,∀body,look (blocks c) p.1=some body->aX P p.1 body p.2):a6H P c lps:=by intro q hq lp hlp;exact h (q.1,lp) (kS hlp) q.2 (a0f hn hq)
def aK(c:Code)(id:Nat):Code:=match look (blocks c) id with|some (.loop b)=>b|_=>.skip
def aI(fn:Func):Code:=fn.body.getD .skip
theorem aC {P:Program}{c body:Code}{id:Nat}{lp:Lp}{lps:List (Nat×Lp)}(h:aX P id (.loop body) lp)(hb:look (blocks c) id=some (.loop body))
  (hr: ∀p∈lps,∀body,look (blocks c) p.1=some body->aX P p.1 body p.2): ∀p∈(id,lp)::lps,∀body,look (blocks c) p.1=some body->aX P p.1 body p.2:=by
 intro p hp b hbb;rcases axL.1 hp with rfl|hp
 ·simp only at hbb⊢;rw[hb]at hbb;cases hbb;exact h
 ·exact hr p hp b hbb
structure dU(P:Program)(f:Nat)(fn:Func)(lps:List (Nat×Lp)):Prop where
 func:P.funcs[f]?=some fn
 enter: ∀args w,(callFunc f args).run P w= .ok (.enter f args) w
 lps:a6H P (aI fn) lps
theorem dU.blocks {P:Program}{f:Nat}{fn:Func}{lps:List (Nat×Lp)}(h:dU P f fn lps): ∀c,fn.body=some c-> ∀q∈blocks c,∀lp,look lps q.1=some lp->aX P q.1 q.2 lp:=by intro c hc;have:=h.lps;unfold aI at this;rw[hc]at this;exact this
theorem av.of {P:Program}{C:Cx}(hm:P.follows .mixedOrders=true)(hti:wL P C.ti)(hcon: ∀q∈C.con,aA P q.1 q.2)(hfns: ∀q∈C.fns,dU P q.1 q.2.1 q.2.2):av P C:=
 ⟨hm,hti,λf c h=>hcon (f,c) (kS h),λf fn lps h=>let q:=hfns (f,fn,lps) (kS h);⟨q.func,q.enter,q.blocks⟩⟩
theorem aB {P:Program}{C:Cx}(hC:av P C){f:FuncId}{fn:Func}{lps:List (Nat×Lp)}(d:Nat)(h:dU P f fn lps)(still:Bool)(dom cod:List Ty)(impl:Dom dom->Option (Cod cod))(hst:still=true->cod.all Ty.flat=true)
  (himpl: ∀xs,dJ C lps (fD C d) fn (nU dom xs) [] 0 (qw cod)=impl xs):aA P f (aO still dom cod impl):=
 aaJ hC d h.func h.enter h.blocks still dom cod impl hst himpl
def m64:Nat:=18446744073709551616
def YC(x y c:Int):Option (Int×Int):=bif Nat.ble c.toNat 1 then some (((x.toNat+y.toNat+c.toNat)%m64:Nat),((x.toNat+y.toNat+c.toNat)/m64:Nat))else none
def YD(x y c:Int):Option (Int×Int):=bif Nat.ble c.toNat 1 then some (((x.toNat+m64-y.toNat-c.toNat)%m64:Nat),((if x.toNat<y.toNat+c.toNat then 1 else 0:Nat):Int))else none
def bG:Int->Int->Int->Option (Int×Int):=veil YC
def EH:Int->Int->Int->Option (Int×Int):=veil YD
theorem a0g(x y c:Int):bG x y c=YC x y c:=by rw[bG,aj]
theorem a0h(x y c:Int):EH x y c=YD x y c:=by rw[EH,aj]
abbrev u64:Ty:=.int .u64
theorem Xy {P:Program}{f:FuncId}{fn:Func}{e:Array Value->Sem Value}(hf:P.funcs[f]?=some fn)(hname:(fn.name== "runtime.NumGoroutine")=false)(hb:fn.body.isNone=true)(hn:Extern.findNext fn=none)
  (he:Extern.find fn=some e) (impl:Int->Int->Int->Option (Int×Int)) (h: ∀x y c a b w,impl x y c=some (a,b)->(e #[.int .u64 x,.int .u64 y,.int .u64 c]).run P w= .ok (.tuple #[.int .u64 a,.int .u64 b]) w):
  aA P f (aO false [u64,u64,u64] [u64,u64] λx=>impl x.1 x.2.1 x.2.2.1) where
 loc args h h' nx r hh hr:=⟨by rw[<-a08 hh];exact hr,rfl⟩
 upd args h nx r hr:=a09 hr
 nat R args h nx K:=a0a
 sound B ρ s a w nx args vargs r hr _ hv hrun:=by
  simp only[aO]at hrun;split at hrun
  ·rename_i args' u0 hfr;split at hrun
   ·rename_i xs hxs;split at hrun
    ·rename_i res hres;rw[Cv]at hrun;cases hrun;obtain⟨ρ1,hr1,L1,hf1,hv1⟩:=uX hr hv hfr;have hargs:=FV (s:= { s with hp:=u0++s.hp }) hr1 (λ_=>False) (λ_ h=>h.elim) (λe b _ h=>h) hv1 (still:=false) (by rw[<-hxs];exact Dz);obtain⟨x,y,c,u⟩:=xs;obtain⟨ra,rb⟩:=res
     match vargs,hargs with
     | [vx,vy,vc],hargs=>
      have e1:=VR.int hargs.1;have e2:=VR.int hargs.2.1;have e3:=VR.int hargs.2.2.1;subst e1;subst e2;subst e3;refine .inl ⟨.tuple #[.int .u64 ra,.int .u64 rb],w,?_,ρ1,hr1,L1,⟨[.int .u64 ra,.int .u64 rb],rfl,VR.mkInt,VR.mkInt,trivial⟩,λid _=>by show ρ1.f id=ρ.f id;rw[hf1]⟩;rw[run_callFunc_extern hf hname hb hn he];have h1:=h x y c ra rb w hres;change ((e #[.int .u64 x,.int .u64 y,.int .u64 c]).run P w).andThen _=_;rw[h1];rfl
     | [_,_],hargs=>exact hargs.2.2.elim
     | [_],hargs=>exact hargs.2.elim
     | [],hargs=>exact hargs.elim
     |_::_::_::_::_,hargs=>exact hargs.2.2.2.elim
    ·cases hrun
   ·cases hrun
  ·cases hrun
theorem Xz {P:Program}(name:String)(x y c:Int)(w:World)(hc:c.toNat<=1):(Extern.MathBitsCarry.three name #[.int .u64 x,.int .u64 y,.int .u64 c]).run P w= .ok (x.toNat,y.toNat,c.toNat) w:=by
 have e:Extern.MathBitsCarry.three name #[.int .u64 x,.int .u64 y,.int .u64 c]=(do
   let c:=(<-asInt (.int .u64 c)).toNat
   if c>1 then unsupported (.noEntry ("extern/math/bits." ++name++ ": a carry that is neither 0 nor 1"))
   pure ((<-asInt (.int .u64 x)).toNat,(<-asInt (.int .u64 y)).toNat,c)):=rfl
 rw[e];simp only[asInt,asIntOf,awx,awM,aws];rw[awG (by omega)];rfl
def sub64Entry:Array Value->Sem Value:=λargs=>do
 let(x,y,b)<-Extern.MathBitsCarry.three "Sub64" args
 pure (Extern.MathBitsCarry.pair ((x+Extern.MathBitsCarry.m64-y-b)%Extern.MathBitsCarry.m64) (if x<y+b then 1 else 0))
theorem a6I {P:Program}{f:FuncId}{fn:Func}(hf:P.funcs[f]?=some fn)(hname:(fn.name== "runtime.NumGoroutine")=false)(hb:fn.body.isNone=true)(hn:Extern.findNext fn=none)
  (he:Extern.find fn=some add64Entry):aA P f (aO false [u64,u64,u64] [u64,u64] λx=>bG x.1 x.2.1 x.2.2.1):=by
 refine Xy hf hname hb hn he bG (λx y c a b w h=>?_);rw[a0g]at h;unfold YC at h;cases hb:Nat.ble c.toNat 1
 ·rw[hb]at h;cases h
 ·rw[hb]at h;cases h;simp only[add64Entry,awx,Xz _ _ _ _ _ (awN hb),aws,awM];rfl
theorem a6J {P:Program}{f:FuncId}{fn:Func}(hf:P.funcs[f]?=some fn)(hname:(fn.name== "runtime.NumGoroutine")=false)(hb:fn.body.isNone=true)(hn:Extern.findNext fn=none)
  (he:Extern.find fn=some sub64Entry):aA P f (aO false [u64,u64,u64] [u64,u64] λx=>EH x.1 x.2.1 x.2.2.1):=by
 refine Xy hf hname hb hn he EH (λx y c a b w h=>?_);rw[a0h]at h;unfold YD at h;cases hb:Nat.ble c.toNat 1
 ·rw[hb]at h;cases h
 ·rw[hb]at h;cases h;simp only[sub64Entry,awx,Xz _ _ _ _ _ (awN hb),aws,awM];rfl
end
end Go.Den
