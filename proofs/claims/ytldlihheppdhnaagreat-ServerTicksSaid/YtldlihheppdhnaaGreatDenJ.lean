/-
 The plain reading of code: rows that are cloned, and grow within.
-/
import Derived.Test.YtldlihheppdhnaaGreatDenI
import Derived.Below
import Derived.Laws.IdiomCopy
import Derived.Laws.Tables
import Derived.Laws.AppendOwn
set_option linter.unusedVariables false
set_option linter.unusedSimpArgs false
namespace Go.Den
theorem aI.adopt {B:Base}{ρ:Rho}{s:DS}{a:Act}{w w1:World}(h:aI B ρ s a w)(nx:Nat)(hnone:ρ nx=none)(o:PO)(ty:Ty)(cap:Option Nat){g:Nat}(hg:w.heap.size<=g)(hg1:g<w1.heap.size)(hb:Go.RowKit.Below w.heap.size w w1)
  (ho: ∀ρ',Later ρ w ρ' w1->ρ'.W g->OR ρ' w1 ⟨g,ty,cap⟩ o) (hnb:o.isBag=false:=by rfl):
  ∃ρ',aI B ρ' { s with hp:=(nx,o)::s.hp } a w1/\Later ρ w ρ' w1/\ρ' nx=some ⟨g,ty,cap⟩/\ ∀id,id≠nx->ρ' id=ρ id:=by
 let ρ':Rho:=⟨λid=>if id=nx then some ⟨g,ty,cap⟩else ρ id,λb=>ρ.W b\/b=g,λb=>ρ.A b\/b=g,λb h=>h.imp_left (ρ.sub b)⟩;have hsz:=hb.size;have hold':=hb.block;have L:Later ρ w ρ' w1:=by
  refine⟨hsz,λid loc hl=>?_,λb hb=>?_,λb hb=>?_,λb _ hb _=>.inl hb,λb hb _=>hold' b hb⟩
  ·show(if id=nx then _ else ρ id)=some loc;rw[axi (λe=>by subst e;rw[hnone]at hl;cases hl)];exact hl
  ·rcases hb with h|h
   ·exact .inl h
   ·exact .inr (by omega)
  ·rcases hb with h|h
   ·exact .inl h
   ·exact .inr (by omega)
 have hnew:ρ' nx=some ⟨g,ty,cap⟩:=axp rfl;have hold: ∀id,id≠nx->ρ' id=ρ id:=λid hne=>axi hne
 have hfz: ∀a,a.block<w.heap.size->w1.frozen? a=w.frozen? a:=by intro a ha;simp only[World.frozen?,hold' _ ha]
 refine⟨ρ',⟨h.defers,h.tmps,λt pv hl=>?_,λid o' hl=>?_,λid id' o1 o2 loc loc' h1 h2 d1 d2 h3 h4 h5=>?_,λid loc hl=>?_,λb hb=>?_,?_,λb hb=>?_,?_⟩,L,hnew,hold⟩
 ·obtain⟨v,h1,h2⟩:=h.env t pv hl;exact⟨v,h1,h2.later L⟩
 ·change look ((nx,o)::s.hp) id=some o' at hl;rw[aG]at hl;split at hl
  ·rename_i e;subst e;simp only[axe]at hl;subst hl;exact .inr ⟨_,hnew,ho _ L (.inr rfl)⟩
  ·rename_i hne;rcases h.obj id o' hl with h1|⟨loc,h1,h2⟩
   ·refine .inl ?_;rw[hold id (Ne.symm hne)];exact h1
   ·exact .inr ⟨loc,L.up _ _ h1,h2.later L (.inr λ_ h=>.inl h) (hold' _ (h.own id loc h1))⟩
 ·change look ((nx,o)::s.hp) id=some o1 at h1;change look ((nx,o)::s.hp) id'=some o2 at h2;rw[aG]at h1 h2;by_cases e1:nx=id
  ·by_cases e2:nx=id'
   ·exact e1.symm.trans e2
   ·rw[axi e2]at h2;subst e1;rw[hnew]at h3;rw[hold id' (Ne.symm e2)]at h4;have:=h.own id' loc' h4;simp only[axe]at h3;subst h3;simp only at h5;omega
  ·rw[axi e1]at h1;rw[hold id (Ne.symm e1)]at h3;by_cases e2:nx=id'
   ·subst e2;rw[hnew]at h4;have:=h.own id loc h3;simp only[axe]at h4;subst h4;simp only at h5;omega
   ·rw[axi e2]at h2;rw[hold id' (Ne.symm e2)]at h4;exact h.inj id id' o1 o2 loc loc' h1 h2 d1 d2 h3 h4 h5
 ·by_cases e:id=nx
  ·subst e;rw[hnew]at hl;simp only[axe]at hl;subst hl;exact hg1
  ·rw[hold id e]at hl;have:=h.own id loc hl;omega
 ·rcases hb with hb|hb
  ·have:=h.ownA b hb;omega
  ·omega
 ·exact⟨hb.os.trans h.base.os,hb.tape.trans h.base.tape,hb.output.trans h.base.output,λa ha hm=>(hfz a (axJ ha h.base.size)).trans (h.base.froz a ha hm),by have:=h.base.size;omega⟩
 ·rcases hb with hb|rfl
  ·exact h.may b hb
  ·exact .inr (by have:=h.base.size;omega)
 ·exact h.hid.imp λF hF=>hF.step L.keeps
   (λid o' loc' h1 h2 h3=>by
    change look ((nx,o)::s.hp) id=some o' at h1;rw[aG]at h1;split at h1
    ·cases h1;rw[hnb]at h2;cases h2
    ·rename_i hne;rw[hold id (Ne.symm hne)]at h3;exact⟨h1,loc',h3,rfl⟩)
   (λid o' loc _ _ h3 _=>hold' _ (h.own id loc h3))
   (λid o' loc b h1 h2 h3 h4=>⟨hold' _ (hF.own id o' loc b h1 h2 h3 h4).2,.inl (hF.own id o' loc b h1 h2 h3 h4).1⟩)
   (λid' o' loc' h1 h2 h3=>by
    change look ((nx,o)::s.hp) id'=some o' at h1;rw[aG]at h1;split at h1
    ·rename_i e;subst e;rw[hnew]at h3;cases h3;exact .inl hg
    ·rename_i hne;rw[hold id' (Ne.symm hne)]at h3;exact .inr ⟨id',o',loc',h1,h2,h3,rfl⟩)
theorem Rd.texts {ρ:Rho}{w:World}{n:Nat}{f:Nat->ByteArray} :Rd ρ w (.arr n .str) f ((List.range n).map λi=>Value.string (f i)):=by
 refine⟨by simp[Ty.size],λi hi=>?_⟩;show _=[Value.string (f i)];simp only[Ty.size,az0];apply ayj;intro j;cases j with
 |zero=>
  rw[axI (by omega),axU,axW,ayP (by omega)];rfl
 |succ j=>rw[ay7 (by simp;omega),ay7 (by simp)]
theorem Rd.textCells {ρ:Rho}{w:World}{n:Nat}{f:Nat->ByteArray}{cs:List Value}(h:Rd ρ w (.arr n .str) f cs):cs=(List.range n).map λi=>Value.string (f i):=by
 have hl:cs.length=n:=by rw[h.1];simp[Ty.size]
 apply ayj;intro j;by_cases hj:j<n
 ·have h2:(cs.drop (j*1)).take 1=[Value.string (f j)]:=h.2 j hj;rw[az0]at h2;have h3:=congrArg (·[0]?) h2;simp only[axI (show 0<1 by decide),axU,ayo]at h3;rw[h3,axW,ayP hj];rfl
 ·rw[ay7 (by omega),ay7 (by simp;omega)]
def IG(x:PV)(e:TypeId)(h:Heap):Option (Nat×(Nat->ByteArray)):=
 match x with
 | .v ⟨.sl .str,.fz n f⟩=>some (n,f)
 |x=>match rowOf x .str e h with
  |some (_,n,f,_)=>some (n,f)
  |none=>none
def CY(e:TypeId):Con where
 fp args _:=(bQ args,[])
 run args h nx K:=match args with
  | [x]=>match IG x e h with
   |some (n,f)=>bif Nat.ble (n*16) 140737488355328 then K (.v ⟨.sl .str,.ms nx [] 0 n⟩) [(nx,.row true e .str n f)] 1 else none
   |none=>none
  |_=>none
theorem a0T {x:PV}{e:TypeId}{h h':Heap}(hh: ∀id∈bQ [x],h id=h' id):IG x e h=IG x e h':=by
 unfold IG;split
 ·rfl
 ·have:rowOf x .str e h=rowOf x .str e h':=by
   unfold rowOf;split
   ·rfl
   ·rename_i id len hne;rw[hh id (by simp[bQ])]
   ·rfl
  rw[this]
theorem Z6 {B:Base}{ρ:Rho}{s:DS}{a:Act}{w:World}(hr:aI B ρ s a w){x:PV}{vx:Value}{e:TypeId}{n:Nat}{f:Nat->ByteArray}(hx:VP ρ w x vx)(h:IG x e s.h=some (n,f)):
  (vx= .slice none 0 0/\n=0)\/(∃ad cap,vx= .slice ad 0 cap/\n=0)\/ ∃b off cap,vx= .slice (some ⟨b,off,none⟩) n cap/\ ∀j,j<n->w.cell? ⟨b,off+j,none⟩=some (.string (f j)):=by
 unfold IG at h;split at h
 ·rename_i n' f';cases h;obtain⟨ad,cap,rfl,hnc,hall⟩:=VR.slFz hx;rcases axZ n with h0|h0
  ·subst h0;exact .inr (.inl ⟨ad,cap,rfl,rfl⟩)
  ·obtain⟨b,o,c0,hab,_,_⟩:=hall 0 h0;subst hab;refine .inr (.inr ⟨b,o,cap,rfl,λj hj=>?_⟩);obtain⟨b',o',c,e1,hc,hfz⟩:=hall j hj;cases e1;simp only[Rd]at hc;subst hc;have:=hfz.2.2 0 (.string (f j)) rfl;simpa [Ty.size]using this
 ·split at h
  ·rename_i sh n' f' u hro;cases h;rcases zQ hr hx hro with⟨rfl,rfl,_⟩|⟨id,loc,cap,k,f0,cs,sp,_,_,hloc,_,rfl,hnc,_,hcs,hblk,_⟩
   ·exact .inl ⟨rfl,rfl⟩
   ·refine .inr (.inr ⟨loc.blk,0,cap,rfl,λj hj=>?_⟩);rw[axA,hblk.cell];have:=hcs.openAt.textCells;subst this;rw[axC (by simp;omega),axW,ayP hj];rfl
  ·cases h
theorem a0U {P:Program}{f:FuncId}{e:TypeId}(hent: ∀args w,(callFunc f args).run P w= .ok (.enter f args) w)
  (Hnil: ∀(n c:Nat) (w:World),Calls P f #[.slice none n c] w λe w'=>e= .returned (.slice none 0 0)/\w'=w)
  (Hzero: ∀(a:Addr) (c:Nat) (w:World),Calls P f #[.slice (some a) 0 c] w λe' w'=> ∃v',e'= .returned v'/\World.ownsRow w' w.heap.size e 1 v' 0 []/\v'≠ .slice none 0 0/\Go.RowKit.Below w.heap.size w w')
  (Hfull: ∀(b off n c:Nat) (zs:List ByteArray) (w:World),n<=zs.length->n*16<=140737488355328->(∀j,j<zs.length->w.cell? ⟨b,off+j,none⟩=some (.string (zs.getD j ByteArray.empty)))->
   Calls P f #[.slice (some ⟨b,off,none⟩) n c] w λe' w'=> ∃v',e'= .returned v'/\World.ownsRow w' w.heap.size e 1 v' n ((zs.take n).map Value.string)/\v'≠ .slice none 0 0/\Go.RowKit.Below w.heap.size w w'):
  aA P f (CY e) where
 loc args h h' nx r hh hr:=by
  refine⟨?_,rfl⟩;unfold CY at hr hh⊢;simp only at hr hh⊢;split at hr
  ·rename_i x;rw[<-a0T hh];exact hr
  ·cases hr
 upd args h nx r hr:=by
  unfold CY at hr;simp only at hr;split at hr
  ·split at hr
   ·generalize Nat.ble _ _=b at hr;cases b
    ·cases hr
    ·cases hr;intro x hx;simp at hx;subst hx;exact .inr ⟨axr _,azO _⟩
   ·cases hr
  ·cases hr
 nat R args h nx K:=by
  unfold CY;simp only;split
  ·split
   ·generalize Nat.ble _ _=b;cases b<;>rfl
   ·rfl
  ·rfl
 sound B ρ s a w nx args vargs r hr hnx hv h:=by
  unfold CY at h;simp only at h;split at h
  ·rename_i x;split at h
   ·rename_i n f hx;cases hb:Nat.ble (n*16) 140737488355328
    ·rw[hb]at h;cases h
    ·rw[hb]at h;cases h;have hb:=axx hb;have hnone:ρ nx=none:=hnx nx (axr _) (azO _)
     match vargs,hv with
     | [v],⟨hv,_⟩=>
      refine .inr ⟨hent _ _,?_⟩;have made: ∀ {v':Value} {w':World},World.ownsRow w' w.heap.size e 1 v' n ((List.range n).map λi=>Value.string (f i))->v'≠ .slice none 0 0->Go.RowKit.Below w.heap.size w w'->
        ∃ρ',YR B ρ s a w nx (.v ⟨.sl .str,.ms nx [] 0 n⟩) [(nx,.row true e .str n f)] 1 v' ρ' w':=by
       intro v' w' ho hne hbl;obtain⟨_,⟨h1,_⟩|⟨g,cap,cur,rfl,hg,hblk,hnc,hcm,hcs,htk⟩⟩:=ho
       ·exact absurd h1 hne
       ·have hlt:g<w'.heap.size:=(ayY.1 hblk).1;rw[az0]at htk hcs;have hcat:((List.range n).map λi=>Value.string (f i))++cur.toList.drop n=cur.toList:=by rw[<-htk];exact ayx n cur.toList
        obtain⟨ρ',r1,r2,r3,r4⟩:=hr.adopt nx hnone (.row true e .str n f) (.arr n .str) (some cap) hg hlt hbl (λρ' L hW=>
         ⟨rfl,hW,_,cur.toList.drop n,Rd.texts,jw.of (by rw[hcat];exact hblk),cap,rfl,by rw[hcat];simp[Ty.size];exact hcs,hnc,hcm⟩)
        exact⟨ρ',r1,r2,⟨[_],.inr ⟨_,n,cap,0,r3,Ty.okP_nil _,Ty.at_nil _,by omega,rfl,λ_=>by rw[Ty.off_nil];simp,hnc,λc hc _ _=>⟨by cases hc;rfl,rfl⟩⟩,rfl⟩,λid hid=>r4 id (by omega)⟩
      rcases Z6 hr hv hx with⟨rfl,rfl⟩|⟨ad,cap,rfl,rfl⟩|⟨b,off,cap,rfl,hcell⟩
      ·refine(Hnil 0 0 w).mono ?_;rintro e' w' ⟨rfl,rfl⟩;exact⟨_,rfl,ρ,⟨hr.idleRow hnone _ _ _ _,Later.refl _ _,⟨[_],.inl ⟨rfl,rfl⟩,rfl⟩,λ_ _=>rfl⟩⟩
      ·cases ad with
       |none=>
        refine(Hnil 0 cap w).mono ?_;rintro e' w' ⟨rfl,rfl⟩;exact⟨_,rfl,ρ,⟨hr.idleRow hnone _ _ _ _,Later.refl _ _,⟨[_],.inl ⟨rfl,rfl⟩,rfl⟩,λ_ _=>rfl⟩⟩
       |some ad=>
        refine(Hzero ad cap w).mono ?_;rintro e' w' ⟨v',rfl,h1,h2,h3⟩;exact⟨_,rfl,made h1 h2 h3⟩
      ·have H:=Hfull b off n cap ((List.range n).map f) w (by simp) hb (by intro j hj;simp at hj;rw[hcell j hj,axm,axW,ayP hj];rfl);refine H.mono ?_;rintro e' w' ⟨v',rfl,h1,h2,h3⟩;rw[ayg (by simp),List.map_map]at h1;exact⟨_,rfl,made h1 h2 h3⟩
   ·cases h
  ·cases h
theorem p9(b:Nat)(e:TypeId)(fr:Nat×Nat): ∀(vs:List Value) (o:Nat) (w:World) (cur:Array Value),w.heap[b]?=some (.cells cur e fr)->
  ∃cur',(w.setCells b o vs).heap[b]?=some (.cells cur' e fr)/\cur'.size=cur.size/\(∀k,cur'[k]?=if o<=k/\k<o+vs.length/\k<cur.size then vs[k-o]? else cur[k]?)/\
   (w.setCells b o vs).heap.size=w.heap.size/\(∀b',b'≠b->(w.setCells b o vs).heap[b']?=w.heap[b']?)/\(w.setCells b o vs).os=w.os/\(w.setCells b o vs).tape=w.tape/\(w.setCells b o vs).output=w.output
 | [],o,w,cur,h=>⟨cur,h,rfl,λk=>by simp;omega,rfl,λ_ _=>rfl,rfl,rfl,rfl⟩
 |v::r,o,w,cur,h=>by
  have h1:(w.setCell ⟨b,o,none⟩ v).heap[b]?=some (.cells (cur.setIfInBounds o v) e fr):=by rw[setCell_eq_setRow w b o cur e fr v h];exact setRow_heap w b cur _ e fr h
  obtain⟨cur',g1,g2,g3,g4,g5,g6,g7,g8⟩:=p9 b e fr r (o+1) (w.setCell ⟨b,o,none⟩ v) (cur.setIfInBounds o v) h1;have hs:(w.setCell ⟨b,o,none⟩ v).heap.size=w.heap.size/\(∀b',b'≠b->(w.setCell ⟨b,o,none⟩ v).heap[b']?=w.heap[b']?):=by rw[setCell_eq_setRow w b o cur e fr v h];exact⟨by simp[World.setRow],λb' hb=>setRow_other w b b' _ hb⟩
  refine⟨cur',g1,by rw[g2];simp,λk=>?_,g4.trans hs.1,λb' hb=>(g5 b' hb).trans (hs.2 b' hb),g6,g7,g8⟩;rw[g3 k];simp only[Array.size_setIfInBounds,ayb];by_cases hk:o+1<=k/\k<o+1+r.length/\k<cur.size
  ·rw[axp hk,axp (by omega),show k-o=(k-(o+1))+1 by omega,ayv]
  ·rw[axi hk];by_cases hk2:k=o
   ·subst hk2;by_cases hk3:k<cur.size
    ·rw[axp (by omega),ayu,az8];simp[hk3]
    ·rw[axi (by omega),az8];simp[hk3]
   ·rw[axi (by omega),az8,axi (Ne.symm hk2)]
def AL(f:Nat->ByteArray)(i:Nat)(x:ByteArray):Nat->ByteArray:=λj=>bif Nat.blt j i then f j else bif Nat.beq j i then x else f (j-1)
def KY(e:TypeId):Con where
 fp args _:=(bQ args,bQ args)
 run args h nx K:=match args with
  | [x,.v ⟨.int .i64,i⟩,.v ⟨.sl .str,.ms id2 [] 0 1⟩]=>match rowOf x .str e h,rowOf (.v ⟨.sl .str,.ms id2 [] 0 1⟩) .str e h with
   |some (_,n,f,u),some (_,_,g,_)=>
    bif u.all (λq=>!Nat.beq q.1 id2)&&(decide (0<=i)&&decide (i<=(n:Int))&&Nat.ble ((n+1)*16) 140737488355328)then
     K (.v ⟨.sl .str,.ms nx [] 0 (n+1)⟩) ((nx,.row true e .str (n+1) (AL f i.toNat (g 0)))::u) 1 else none
   |_,_=>none
  |_=>none
theorem a7M {u:Ty}{id len:Nat}{t:Ty}{e:TypeId}{h:Heap}{sh:Bool}{n:Nat}{f:Nat->t.den}{up:Upd}(hh:rowOf (.v ⟨.sl u,.ms id [] 0 len⟩) t e h=some (sh,n,f,up)):up=[(id,.dead)]/\n=len:=by
 unfold rowOf at hh;simp only at hh;split at hh
 ·split at hh
  ·generalize Nat.beq _ _=b at hh;cases b
   ·cases hh
   ·cases hh;exact⟨rfl,rfl⟩
  ·cases hh
 ·cases hh
theorem a5P {x:PV}{t:Ty}{e:TypeId}{h:Heap}{sh:Bool}{n:Nat}{f:Nat->t.den}{up:Upd}(hh:rowOf x t e h=some (sh,n,f,up)): ∀q∈up,q.1∈bQ [x]:=by
 unfold rowOf at hh;split at hh
 ·cases hh;intro q hq;cases hq
 ·split at hh
  ·split at hh
   ·generalize Nat.beq _ _=b at hh;cases b
    ·cases hh
    ·cases hh;intro q hq;simp at hq;subst hq;simp[bQ]
   ·cases hh
  ·cases hh
 ·cases hh
theorem TJ {x:PV}{t:Ty}{e:TypeId}{h h':Heap}(hh: ∀id∈bQ [x],h id=h' id):rowOf x t e h=rowOf x t e h':=by
 unfold rowOf;split
 ·rfl
 ·rw[hh _ (by simp[bQ])]
 ·rfl
theorem MI {f:Nat->ByteArray}{n i:Nat}{y:ByteArray}(hi:i<=n)(j:Nat)(hj:j<n+1):
  ((List.range (n+1)).map λj=>Value.string (AL f i y j))[j]?=if j<i then((List.range n).map λj=>Value.string (f j))[j]? else if j=i then some (.string y)else((List.range n).map λj=>Value.string (f j))[j-1]?:=by
 rw[axW,ayP hj];simp only[ayn,AL];by_cases h1:j<i
 ·rw[axp h1,show Nat.blt j i=true from axu h1,axy,axW,ayP (by omega)];rfl
 ·have hb:Nat.blt j i=false:=by
   cases hb:Nat.blt j i
   ·rfl
   ·exact absurd (axx hb) h1
  rw[axi h1,hb,axL];by_cases h2:j=i
  ·subst h2;rw[axp rfl,show Nat.beq j j=true from Nat.beq_refl j,axy]
  ·have hb2:Nat.beq j i=false:=by
    cases hb2:Nat.beq j i
    ·rfl
    ·exact absurd (axO hb2) h2
   rw[axi h2,hb2,axL,axW,ayP (by omega)];rfl
theorem a5Q {P:Program}{f:FuncId}{e:TypeId}(hent: ∀args w,(callFunc f args).run P w= .ok (.enter f args) w)
  (Hshift: ∀(b n c i vb vc:Nat) (cs:List Value) (y:Value) (w:World) (tA tB:TypeId) (kA kB:Nat),i<n->n+1<=c->c<=9223372036854775807->vb≠b->cs.length=n->
   (∀(j:Nat) v,cs[j]?=some v->w.cell? ⟨b,j,none⟩=some v)->(∀j,j<n+1->(w.cell? ⟨b,j,none⟩).isSome=true)->(∀j,j<n+1->w.frozen? ⟨b,j,none⟩=false)->
   w.cell? ⟨vb,0,none⟩=some y->(∀v∈cs,v.oneCell'=true)->y.oneCell'=true->w.shape? vb=some (tA,kA)->w.shape? b=some (tB,kB)->kB≠0->w.frozen? ⟨vb,0,none⟩=false->w.frozen? ⟨vb,kA,none⟩=false->
   Calls P f #[.slice (some ⟨b,0,none⟩) n c,.int .i64 i,.slice (some ⟨vb,0,none⟩) 1 vc] w λe' w'=>e'= .returned (.slice (some ⟨b,0,none⟩) (n+1) c)/\w'=(w.drew.setCells b (i+1) (cs.drop i)).setCells b i [y])
  (Hroom: ∀(b n c vb vc:Nat) (y:Value) (w:World),n+1<=c->c<=9223372036854775807->(w.cell? ⟨b,n,none⟩).isSome=true->w.frozen? ⟨b,n,none⟩=false->w.cell? ⟨vb,0,none⟩=some y->y.oneCell'=true->
   Calls P f #[.slice (some ⟨b,0,none⟩) n c,.int .i64 n,.slice (some ⟨vb,0,none⟩) 1 vc] w λe' w'=>e'= .returned (.slice (some ⟨b,0,none⟩) (n+1) c)/\w'=w.setCells b n [y])
  (Hend: ∀(base:Option Addr) (n c vb vc:Nat) (cs:List Value) (y:Value) (w:World),n<=c->c<n+1->(n+1)*16<=140737488355328->cs.length=n->(base=none->n=0)->(∀a,base=some a-> ∀(j:Nat) v,cs[j]?=some v->w.cell? (a.add j)=some v)->w.cell? ⟨vb,0,none⟩=some y->y.oneCell'=true->
   Calls P f #[.slice base n c,.int .i64 n,.slice (some ⟨vb,0,none⟩) 1 vc] w λe' w'=>e'= .returned (.slice (some ⟨w.heap.size,0,none⟩) (n+1) (grownCap w (n+1) c e))/\
    w'=w.drew.alloc (.cells ((cs++[y]).toArray++Builtin.zeroCells (Value.string ⟨#[]⟩).cells (grownCap w (n+1) c e-(n+1))) e))
  (Hgrow: ∀(b n c i vb vc:Nat) (cs:List Value) (y:Value) (w:World),i<n->n<=c->c<n+1->(n+1)*16<=140737488355328->cs.length=n->(∀(j:Nat) v,cs[j]?=some v->w.cell? ⟨b,j,none⟩=some v)->w.cell? ⟨vb,0,none⟩=some y->(∀v∈cs,v.oneCell'=true)->y.oneCell'=true->
   Calls P f #[.slice (some ⟨b,0,none⟩) n c,.int .i64 i,.slice (some ⟨vb,0,none⟩) 1 vc] w λe' w'=>e'= .returned (.slice (some ⟨w.heap.size,0,none⟩) (n+1) (grownCap w (n+1) c e))/\
    w'=(((w.alloc (.cells ((cs.take i).toArray++Builtin.zeroCells (Value.string ⟨#[]⟩).cells (n+1-i)++Builtin.zeroCells (Value.string ⟨#[]⟩).cells (grownCap w (n+1) c e-(n+1))) e)).drew.setCells w.heap.size i [y]).drew).setCells w.heap.size (i+1) (cs.drop i)):
  aA P f (KY e) where
 loc args h h' nx r hh hr:=by
  refine⟨?_,rfl⟩;unfold KY at hr hh⊢;simp only at hr hh⊢;split at hr
  ·rename_i x i id2;have l1:rowOf x .str e h=rowOf x .str e h':=TJ λid hid=>hh id (by rw[fP];exact axt _ hid)
   have l2:rowOf (.v ⟨.sl .str,.ms id2 [] 0 1⟩) .str e h=rowOf (.v ⟨.sl .str,.ms id2 [] 0 1⟩) .str e h':=TJ λid hid=>hh id (by rw[fP,fP (.v ⟨.int .i64,i⟩)];exact axl _ (axl _ hid))
   rw[<-l1,<-l2];exact hr
  ·cases hr
 upd args h nx r hr:=by
  unfold KY at hr⊢;simp only at hr⊢;split at hr
  ·rename_i x i id2;split at hr
   ·rename_i _ n f u _ _ g _ hx _;generalize (_&&_)=b at hr;cases b
    ·cases hr
    ·cases hr;intro q hq;simp only[ayw]at hq;rcases hq with rfl|hq
     ·exact .inr ⟨axr _,azO _⟩
     ·exact .inl (by rw[fP];exact axt _ (a5P hx q hq))
   ·cases hr
  ·cases hr
 nat R args h nx K:=by
  unfold KY;simp only;split
  ·split
   ·generalize (_&&_)=b;cases b<;>rfl
   ·rfl
  ·rfl
 sound B ρ s a w nx args vargs r hr hnx hv h:=by
  unfold KY at h;simp only at h;split at h
  ·rename_i x i id2;split at h
   ·rename_i sh n f u sh2 n2 g u2 hx hy;cases hb:u.all (λq=>!Nat.beq q.1 id2)&&(decide (0<=i)&&decide (i<=(n:Int))&&Nat.ble ((n+1)*16) 140737488355328)
    ·rw[hb]at h;cases h
    ·rw[hb]at h;cases h;simp only[axh,axK]at hb;obtain⟨hdiff,⟨hi0,hin⟩,hb16⟩:=hb;have hb16:=axx hb16;obtain⟨I,rfl⟩: ∃I:Nat,i=(I:Int):=⟨Int.toNat i,(azv hi0).symm⟩;have hIn:I<=n:=Int.ofNat_le.1 hin;rw[axE];have hnone:ρ nx=none:=hnx nx (axr _) (azO _);obtain⟨rfl,rfl⟩:=a7M hy
     match vargs,hv with
     | [vx,vi,vy],⟨hvx,hvi,hvy,_⟩=>
      have e1:=VR.int hvi;subst e1;rcases zQ hr hvy hy with⟨_,h0,_⟩|⟨id2',loc2,cap2,k2,f02,cs2,sp2,hu2,ho2,hloc2,_,rfl,_,_,hcs2,hblk2,hlen2⟩
      ·cases h0
      cases hu2;obtain⟨fr2,hb2,hfr2⟩:=hblk2;have hfr2':fr2=(0,0):=by
       rcases hfr2 with h|⟨_,h⟩
       ·exact h
       ·cases h
      subst hfr2';have hc2:=hcs2.openAt.textCells;subst hc2;have hy0:w.cell? ⟨loc2.blk,0,none⟩=some (.string (g 0)):=by simp only[World.cell?,hb2];rfl
      refine .inr ⟨hent _ _,?_⟩;have val: ∀(ρ':Rho) (w':World) (blk cap:Nat),ρ' nx=some ⟨blk,.arr (n+1) .str,some cap⟩->n+1<=cap->VP ρ' w' (.v ⟨.sl .str,.ms nx [] 0 (n+1)⟩) (.slice (some ⟨blk,0,none⟩) (n+1) cap):=by intro ρ' w' blk cap h hc;exact⟨[_],.inr ⟨_,n+1,cap,0,h,Ty.okP_nil _,Ty.at_nil _,by omega,rfl,λ_=>by rw[Ty.off_nil];simp,hc,λc hc _ _=>⟨by cases hc;rfl,rfl⟩⟩,rfl⟩
      have split0: ∀(cur:Array Value),n+1<=cur.size->(∀j,j<n+1->cur[j]?=((List.range (n+1)).map λj=>Value.string (AL f I (g 0) j))[j]?)->((List.range (n+1)).map λj=>Value.string (AL f I (g 0) j))++cur.toList.drop (n+1)=cur.toList:=by
       intro cur hs hk;have:cur.toList.take (n+1)=(List.range (n+1)).map λj=>Value.string (AL f I (g 0) j):=by
        apply ayj;intro j;by_cases hj:j<n+1
        ·rw[axI hj,<-hk j hj,ayX]
        ·rw[ay7 (by simp;omega),ay7 (by simp;omega)]
       rw[<-this];exact ayx ..
      have fresh: ∀(s1:DS) (w':World) (cur:Array Value) (cap:Nat),aI B ρ s1 a w->Go.RowKit.Below w.heap.size w w'->w'.heap[w.heap.size]?=some (.cells cur e (0,0))->cur.size=cap->n+1<=cap->cap<=9223372036854775807->
        (∀j,j<n+1->cur[j]?=((List.range (n+1)).map λj=>Value.string (AL f I (g 0) j))[j]?)->
        ∃ρ',aI B ρ' { s1 with hp:=(nx,.row true e .str (n+1) (AL f I (g 0)))::s1.hp } a w'/\Later ρ w ρ' w'/\ρ' nx=some ⟨w.heap.size,.arr (n+1) .str,some cap⟩/\ ∀id,id≠nx->ρ' id=ρ id:=by
       intro s1 w' cur cap hr1 hbl hh hsz hc hcm hk;have hsp:=split0 cur (by omega) hk;exact hr1.adopt nx hnone _ (.arr (n+1) .str) (some cap) (axr _) ((ayY.1 hh).1) hbl (λρ' L hW=>
        ⟨rfl,hW,_,cur.toList.drop (n+1),Rd.texts,jw.of (by rw[hsp];exact hh),cap,rfl,by rw[hsp];simp[Ty.size];exact hsz,hc,hcm⟩)
      have done: ∀ {s1:DS} {u':Upd} {w':World} {cap:Nat},s1= { s with hp:=u'++s.hp } ->n+1<=cap->(∃ρ',aI B ρ' { s1 with hp:=(nx,.row true e .str (n+1) (AL f I (g 0)))::s1.hp } a w'/\Later ρ w ρ' w'/\ρ' nx=some ⟨w.heap.size,.arr (n+1) .str,some cap⟩/\ ∀id,id≠nx->ρ' id=ρ id)->
        ∃ρ',YR B ρ s a w nx (.v ⟨.sl .str,.ms nx [] 0 (n+1)⟩) ((nx,.row true e .str (n+1) (AL f I (g 0)))::u') 1 (.slice (some ⟨w.heap.size,0,none⟩) (n+1) cap) ρ' w':=by
       rintro s1 u' w' cap rfl hc ⟨ρ',r1,r2,r3,r4⟩;exact⟨ρ',r1,r2,val ρ' w' _ _ r3 hc,λid hid=>r4 id (by omega)⟩
      have hmax:maxLen=9223372036854775807:=rfl;have gc: ∀old,n+1<=grownCap w (n+1) old e/\grownCap w (n+1) old e<=9223372036854775807:=λold=>⟨grownCap_ge w (n+1) old e,grownCap_le_maxLen w (n+1) old e (by rw[hmax];omega)⟩
      have endNew: ∀(cs:List Value) (old:Nat),cs=((List.range n).map λi=>Value.string (f i))->I=n->
        Go.RowKit.Below w.heap.size w (w.drew.alloc (.cells ((cs++[Value.string (g 0)]).toArray++Builtin.zeroCells (Value.string ⟨#[]⟩).cells (grownCap w (n+1) old e-(n+1))) e))/\
        (w.drew.alloc (.cells ((cs++[Value.string (g 0)]).toArray++Builtin.zeroCells (Value.string ⟨#[]⟩).cells (grownCap w (n+1) old e-(n+1))) e)).heap[w.heap.size]?=some (.cells ((cs++[Value.string (g 0)]).toArray++Builtin.zeroCells (Value.string ⟨#[]⟩).cells (grownCap w (n+1) old e-(n+1))) e (0,0))/\
        ((cs++[Value.string (g 0)]).toArray++Builtin.zeroCells (Value.string ⟨#[]⟩).cells (grownCap w (n+1) old e-(n+1))).size=grownCap w (n+1) old e/\
        ∀j,j<n+1->((cs++[Value.string (g 0)]).toArray++Builtin.zeroCells (Value.string ⟨#[]⟩).cells (grownCap w (n+1) old e-(n+1)))[j]?=((List.range (n+1)).map λj=>Value.string (AL f I (g 0) j))[j]?:=by
       intro cs old hcs hI;have hl:cs.length=n:=by rw[hcs];simp
       refine⟨⟨rfl,rfl,rfl,?_,λk hk=>?_⟩,?_,?_,λj hj=>?_⟩
       ·simp only[World.alloc,Array.size_push];show w.heap.size<=w.heap.size+1;omega
       ·show(w.heap.push _)[k]?=_;rw[ayr,axi (by omega)]
       ·show(w.heap.push _)[w.heap.size]?=_;rw[ayr,axp rfl]
       ·have:=(gc old).1;simp[Builtin.zeroCells,Value.cells,hl]at*;omega
       ·rw[MI (by omega) j hj,azx (by simp;omega),aye,<-hcs];by_cases hj2:j<I
        ·rw[axp hj2,axC (by omega)]
        ·rw[axi hj2,axp (by omega),ay5 (by omega),show j-cs.length=0 by omega];rfl
      rcases zQ hr hvx hx with⟨rfl,rfl,id,hu⟩|⟨id,loc,cap,k,f0,cs,sp,rfl,hsid,hloc,hlcap,rfl,hnc,hcm,hcs,hblk,hlen⟩
      ·
       have hI:I=0:=Nat.le_zero.1 hIn;subst hI;have hr1:aI B ρ { s with hp:=u++s.hp } a w:=by
        rcases hu with rfl|rfl
        ·exact hr
        ·exact hr.kill id
       refine(Hend none 0 0 loc2.blk cap2 [] (.string (g 0)) w (axr _) (by decide) hb16 rfl (λ_=>rfl) (λa h=>by cases h) hy0 rfl).mono ?_;rintro e' w' ⟨rfl,rfl⟩;obtain⟨n1,n2,n3,n4⟩:=endNew [] 0 rfl rfl;exact⟨_,rfl,done rfl (gc 0).1 (fresh _ _ _ _ hr1 n1 n2 n3 (gc 0).1 (gc 0).2 n4)⟩
      ·have hc1:=hcs.openAt.textCells;subst hc1;have hlen':sp.length+n=cap:=by have:=hlen;simp[Ty.size]at this;omega
       have hcell: ∀(j:Nat) v,((List.range n).map λi=>Value.string (f i))[j]?=some v->w.cell? ⟨loc.blk,j,none⟩=some v:=by intro j v hj;rw[hblk.cell,axC (axo.1 hj).1];exact hj
       have h1c: ∀v∈((List.range n).map λi=>Value.string (f i)),v.oneCell'=true:=by intro v hv;rw[azA]at hv;obtain⟨_,_,rfl⟩:=hv;rfl
       have hne:id≠id2:=by intro h;subst h;simp at hdiff
       have hbne:loc2.blk≠loc.blk:=λh=>hne (hr.inj id id2 _ _ loc loc2 hsid ho2 (by intro e;cases e) (by intro e;cases e) hloc hloc2 h.symm)
       have hkill:aI B ρ { s with hp:=[(id,.dead)]++s.hp } a w:=hr.kill id;by_cases hroom:n+1<=cap
       ·
        obtain⟨fr,hbk,hfr⟩:=hblk;have hfr':fr=(0,0):=by
         rcases hfr with h|⟨_,h⟩
         ·exact h
         ·cases h
        subst hfr';have key: ∀(w':World) (cur:Array Value),w'.heap.size=w.heap.size->(∀b,b≠loc.blk->w'.heap[b]?=w.heap[b]?)->w'.os=w.os->w'.tape=w.tape->w'.output=w.output->
          w'.heap[loc.blk]?=some (.cells cur e (0,0))->cur.size=cap->(∀j,j<n+1->cur[j]?=((List.range (n+1)).map λj=>Value.string (AL f I (g 0) j))[j]?)->
          ∃ρ',YR B ρ s a w nx (.v ⟨.sl .str,.ms nx [] 0 (n+1)⟩) [(nx,.row true e .str (n+1) (AL f I (g 0))),(id,.dead)] 1 (.slice (some ⟨loc.blk,0,none⟩) (n+1) cap) ρ' w':=by
         intro w' cur e1 e2 e3 e4 e5 e6 e7 hk;have hsp:=split0 cur (by omega) hk;obtain⟨ρ',h4,h5,h6,h7⟩:=hr.renew hsid (by intro e;cases e) (by intro e;cases e) hloc hnone (.arr (n+1) .str) (o':=.row true e .str (n+1) (AL f I (g 0))) w' e1 e2 e3 e4 e5 (sI hbk e6) (λρ' L hW=>
          ⟨rfl,hW,_,cur.toList.drop (n+1),Rd.texts,jw.of (by rw[hsp];exact e6),cap,hlcap,by rw[hsp];simp[Ty.size];exact e7,hroom,hcm⟩)
         rw[hlcap]at h6;exact⟨ρ',h4,h5,val ρ' _ _ _ h6 hroom,λid hid=>h7 id (by omega)⟩
        have hsize:(((List.range n).map λi=>Value.string (f i))++sp).toArray.size=cap:=by simp;omega
        have hsa:w.shape? loc2.blk=some (e,(((List.range 1).map λi=>Value.string (g i))++sp2).toArray.size):=by simp only[World.shape?,hb2]
        have hsb:w.shape? loc.blk=some (e,(((List.range n).map λi=>Value.string (f i))++sp).toArray.size):=by simp only[World.shape?,hbk]
        by_cases hI:I<n
        ·refine(Hshift loc.blk n cap I loc2.blk cap2 ((List.range n).map λi=>Value.string (f i)) (.string (g 0)) w _ _ _ _ hI hroom hcm hbne (by simp) hcell (λj hj=>?_) (λj hj=>xI hbk _ rfl) hy0 h1c rfl hsa hsb (by rw[hsize];omega) (xI hb2 _ rfl) (xI hb2 _ rfl)).mono ?_
         ·simp only[World.cell?,hbk];simp;omega
         ·rintro e' w' ⟨rfl,rfl⟩;obtain⟨c1,a1,a2,a3,a4,a5,a6,a7,a8⟩:=p9 loc.blk e (0,0) (((List.range n).map λi=>Value.string (f i)).drop I) (I+1) w.drew _ hbk;obtain⟨c2,b1,b2,b3,b4,b5,b6,b7,b8⟩:=p9 loc.blk e (0,0) [Value.string (g 0)] I _ c1 a1;refine⟨_,rfl,key _ c2 (b4.trans a4) (λb hb=>(b5 b hb).trans (a5 b hb)) (b6.trans a6) (b7.trans a7) (b8.trans a8) b1 (by rw[b2,a2,hsize]) λj hj=>?_⟩;rw[b3 j,MI (by omega) j hj];simp only[ayb,List.length_nil];by_cases h1:j<I
          ·rw[axi (by omega),axp h1,a3 j,axi (by omega),aye,axC (by simp;omega)]
          ·by_cases h2:j=I
           ·subst h2;rw[axp (by rw[a2,hsize];omega),axi h1,axp rfl,ayu];rfl
           ·rw[axi (by omega),axi h1,axi h2,a3 j,axp (by rw[hsize,ayy];simp;omega),axU]
            congr 1;omega
        ·have hIn2:I=n:=by omega
         subst hIn2;refine(Hroom loc.blk I cap loc2.blk cap2 (.string (g 0)) w hroom hcm ?_ (xI hbk _ rfl) hy0 rfl).mono ?_
         ·simp only[World.cell?,hbk];simp;omega
         ·rintro e' w' ⟨rfl,rfl⟩;obtain⟨c2,b1,b2,b3,b4,b5,b6,b7,b8⟩:=p9 loc.blk e (0,0) [Value.string (g 0)] I w _ hbk;refine⟨_,rfl,key _ c2 b4 b5 b6 b7 b8 b1 (by rw[b2,hsize]) λj hj=>?_⟩;rw[b3 j,MI (by omega) j hj];simp only[ayb,List.length_nil];by_cases h1:j<I
          ·rw[axi (by omega),axp h1,aye,axC (by simp;omega)]
          ·rw[axp (by rw[hsize];omega),axi h1,axp (by omega),show j-I=0 by omega];rfl
       ·
        by_cases hI:I<n
        ·refine(Hgrow loc.blk n cap I loc2.blk cap2 ((List.range n).map λi=>Value.string (f i)) (.string (g 0)) w hI hnc (by omega) hb16 (by simp) hcell hy0 h1c rfl).mono ?_;rintro e' w' ⟨rfl,rfl⟩;have h0: ∀(X:Array Value),(w.alloc (.cells X e)).drew.heap[w.heap.size]?=some (.cells X e (0,0)):=λX=>by show(w.heap.push _)[w.heap.size]?=_;rw[ayr,axp rfl]
         obtain⟨c1,a1,a2,a3,a4,a5,a6,a7,a8⟩:=p9 w.heap.size e (0,0) [Value.string (g 0)] I _ _ (h0 ((((List.range n).map λi=>Value.string (f i)).take I).toArray++Builtin.zeroCells (Value.string ⟨#[]⟩).cells (n+1-I)++Builtin.zeroCells (Value.string ⟨#[]⟩).cells (grownCap w (n+1) cap e-(n+1))));obtain⟨c2,b1,b2,b3,b4,b5,b6,b7,b8⟩:=p9 w.heap.size e (0,0) (((List.range n).map λi=>Value.string (f i)).drop I) (I+1) (((w.alloc (.cells ((((List.range n).map λi=>Value.string (f i)).take I).toArray++Builtin.zeroCells (Value.string ⟨#[]⟩).cells (n+1-I)++Builtin.zeroCells (Value.string ⟨#[]⟩).cells (grownCap w (n+1) cap e-(n+1))) e)).drew.setCells w.heap.size I [Value.string (g 0)]).drew) c1 a1;have hX:((((List.range n).map λi=>Value.string (f i)).take I).toArray++Builtin.zeroCells (Value.string ⟨#[]⟩).cells (n+1-I)++Builtin.zeroCells (Value.string ⟨#[]⟩).cells (grownCap w (n+1) cap e-(n+1))).size=grownCap w (n+1) cap e:=by have:=(gc cap).1;simp[Builtin.zeroCells,Value.cells];omega
         have hold: ∀k,k<w.heap.size->(w.alloc (.cells ((((List.range n).map λi=>Value.string (f i)).take I).toArray++Builtin.zeroCells (Value.string ⟨#[]⟩).cells (n+1-I)++Builtin.zeroCells (Value.string ⟨#[]⟩).cells (grownCap w (n+1) cap e-(n+1))) e)).drew.heap[k]?=w.heap[k]?:=λk hk=>by show(w.heap.push _)[k]?=_;rw[ayr,axi (by omega)]
         refine⟨_,rfl,done rfl (gc cap).1 (fresh _ _ c2 _ hkill ⟨b6.trans a6,b7.trans a7,b8.trans a8,by rw[b4];show w.heap.size<=(World.setCells _ _ _ _).heap.size;rw[a4];show w.heap.size<=(w.heap.push _).size;simp,λk hk=>((b5 k (by omega)).trans (a5 k (by omega))).trans (hold k hk)⟩ b1 (by rw[b2,a2,hX]) (gc cap).1 (gc cap).2 λj hj=>?_)⟩;have hge:=(gc cap).1;rw[b3 j,MI (by omega) j hj];by_cases h1:j<I
         ·rw[axi (by omega),axp h1,a3 j,axi (by omega),azx (by simp[Builtin.zeroCells,Value.cells];omega),azx (by simp;omega),aye,axI h1]
         ·by_cases h2:j=I
          ·subst h2;rw[axi (by omega),axi h1,axp rfl,a3 j,axp (by rw[hX];simp;omega),ayu];rfl
          ·rw[axp (by rw[a2,hX,ayy];simp;omega),axi h1,axi h2,axU]
           congr 1;omega
        ·have hIn2:I=n:=by omega
         subst hIn2;refine(Hend (some ⟨loc.blk,0,none⟩) I cap loc2.blk cap2 ((List.range I).map λi=>Value.string (f i)) (.string (g 0)) w hnc (by omega) hb16 (by simp) (λh=>by cases h) (λa ha j v hj=>by cases ha;rw[fA,axA];exact hcell j v hj) hy0 rfl).mono ?_;rintro e' w' ⟨rfl,rfl⟩;obtain⟨n1,n2,n3,n4⟩:=endNew _ cap rfl rfl;exact⟨_,rfl,done rfl (gc cap).1 (fresh _ _ _ _ hkill n1 n2 n3 (gc cap).1 (gc cap).2 n4)⟩
   ·cases h
  ·cases h
def a5R(g:FuncId)(dom cod:List Ty)(f:Dom dom->Option (Cod cod)):Con where
 fp args _:=(bQ args,[])
 run args h nx K:=match args with
  | [x,y,.v ⟨.fn,.mk g' []⟩]=>bif Nat.beq g' g then(aQ true dom cod f).run [x,y] h nx K else none
  |_=>none
theorem VPs.snoc {ρ:Rho}{w:World}{p:PV}{v:Value}(hp:VP ρ w p v): ∀ {l:List PV} {vs:List Value},VPs ρ w l vs->VPs ρ w (l++[p]) (vs++[v])
 | [],[],_=>⟨hp,trivial⟩
 | [],_::_,h=>h.elim
 |_::_,[],h=>h.elim
 |_::_,_::_,h=>⟨h.1,VPs.snoc hp h.2⟩
theorem ab1 {P:Program}{C:Cx}(hC:ay P C){f:FuncId}{fn:Func}{lps:List (Nat×Lp)}(d:Nat)(hfn:eD P f fn lps)(g:FuncId)(dom cod:List Ty)(impl:Dom dom->Option (Cod cod))(hst:cod.all Ty.flat=true)
  (himpl: ∀xs,cu C lps (dX C d) fn (jv dom xs++[.v ⟨.fn,.mk g []⟩]) [] 0 (kD cod)=impl xs):aA P f (a5R g dom cod impl) where
 loc args h h' nx r hh hr:=by
  refine⟨?_,rfl⟩;simp only[a5R]at hh hr⊢;split at hr
  ·rename_i x y g';generalize Nat.beq g' g=b at hr⊢;cases b
   ·cases hr
   ·simp only[axy]at hr⊢;rw[<-Mx (h:=h) (h':=h')]
    ·exact hr
    ·intro id hid;refine hh id ?_;have:bQ [x,y,.v ⟨.fn,.mk g' []⟩]=bQ [x,y]:=by rw[fP x,fP y,fP x [y]];simp[bQ]
     rw[this];exact hid
  ·cases hr
 upd args h nx r hr:=by
  simp only[a5R]at hr;split at hr
  ·generalize Nat.beq _ g=b at hr;cases b
   ·cases hr
   ·simp only[axy]at hr;intro x hx;rcases MB hr x hx with h1|h1
    ·cases h1
    ·exact .inr h1
  ·cases hr
 nat R args h nx K:=by
  simp only[a5R];split
  ·generalize Nat.beq _ g=b;cases b
   ·rfl
   ·simp only[axy];exact MC
  ·rfl
 sound B ρ s a w nx args vargs r hr hnx hv h:=by
  simp only[a5R]at h;split at h
  ·rename_i x y g';cases hg:Nat.beq g' g
   ·rw[hg]at h;cases h
   ·rw[hg,axy]at h;have:=axO hg;subst this;simp only[aQ,axy]at h;split at h
    ·rename_i xs hxs;split at h
     ·rename_i res hres;rw[vM]at h;cases h
      match vargs,hv with
      | [vx,vy,vf],⟨hvx,hvy,hvf,_⟩=>
       have hargs:=tZ hr (λ_=>False) (λ_ h=>h.elim) (λ_ _ _ h=>h) (ps:=[x,y]) (vs:=[vx,vy]) ⟨hvx,hvy,trivial⟩ hxs;have hfun:VP (Rho.of λ_=>False) w (.v ⟨.fn,.mk g' []⟩) vf:=by obtain⟨cs,⟨vs,rfl,h2,_⟩,rfl⟩:=hvf;exact⟨_,⟨vs,rfl,h2,λj c v hc=>by simp at hc⟩,rfl⟩
       have hargs2:=hargs.snoc hfun;rw[<-himpl]at hres;let a0:Act:= { tmps:=Array.replicate 0 undef,defers:=[] };have hr0:aI ⟨w,λ_=>False⟩ (Rho.of λ_=>False) { env:=[],hp:=[],nx:=0,n:=0 } a0 w:=
        ⟨rfl,ays _,(λt pv h=>by cases h),(λid o h=>by cases h),(λid id' o o' loc loc' h=>by cases h),(λid loc h=>by cases h),(λb hb=>hb.elim),⟨rfl,rfl,rfl,λ_ _ _=>rfl,axr _⟩,λ_ h=>h.elim,SQ.free λid o h=>by cases h⟩
       refine .inr ⟨hfn.enter _ _,?_⟩;refine(xM hC (wW hC _) (zR hC (wW hC _) d) lps hfn.func hfn.blocks hres hr0 (λid _=>rfl) hargs2).mono ?_;rintro e w' ⟨v,rfl,pv,s',ρ',a',hk,hr',_,hv',L⟩;have hkeep: ∀b,b<w.heap.size->w'.heap[b]?=w.heap[b]?:=λb hb=>L.keep b hb (λh=>h)
       have hsame:=hr.same L.size hkeep hr'.base.os hr'.base.tape hr'.base.output (λa ha=>hr'.base.froz a ha id);have h3:=KV hr' (λ_=>False) (λ_ h=>h.elim) (λ_ _ h=>h) hv' hk;exact⟨v,rfl,ρ,hsame.1,hsame.2,OG hst h3,λid _=>rfl⟩
     ·cases h
    ·cases h
  ·cases h
end Go.Den
