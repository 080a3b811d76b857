/-
 The plain reading of code: rows that are cloned, and grow within.
-/
import Derived.Test.YtlohbhpbkieoeaaGreatDenI
import Derived.Below
import Derived.Laws.IdiomCopy
import Derived.Laws.Tables
import Derived.Laws.AppendOwn
set_option linter.unusedVariables false
set_option linter.unusedSimpArgs false
namespace Go.Den
theorem aJ.adopt {B:Base}{ρ:Rho}{s:DS}{a:Act}{w w1:World}(h:aJ B ρ s a w)(nx:Nat)(hnone:ρ nx=none)(o:PO)(ty:Ty)(cap:Option Nat){g:Nat}(hg:w.heap.size<=g)(hg1:g<w1.heap.size)(hb:Go.RowKit.Below w.heap.size w w1)
  (ho: ∀ρ',Later ρ w ρ' w1->ρ'.W g->OR ρ' w1 ⟨g,ty,cap⟩ o) (hnb:o.isBag=false:=by rfl):
  ∃ρ',aJ B ρ' { s with hp:=(nx,o)::s.hp } a w1/\Later ρ w ρ' w1/\ρ' nx=some ⟨g,ty,cap⟩/\ ∀id,id≠nx->ρ' id=ρ id:=by
 let ρ':Rho:=⟨λid=>if id=nx then some ⟨g,ty,cap⟩else ρ id,λb=>ρ.W b\/b=g,λb=>ρ.A b\/b=g,λb h=>h.imp_left (ρ.sub b)⟩;have hsz:=hb.size;have hold':=hb.block;have L:Later ρ w ρ' w1:=by
  refine⟨hsz,λid loc hl=>?_,λb hb=>?_,λb hb=>?_,λb _ hb _=>.inl hb,λb hb _=>hold' b hb⟩
  ·show(if id=nx then _ else ρ id)=some loc;rw[awG (λe=>by subst e;rw[hnone]at hl;cases hl)];exact hl
  ·rcases hb with h|h
   ·exact .inl h
   ·exact .inr (by omega)
  ·rcases hb with h|h
   ·exact .inl h
   ·exact .inr (by omega)
 have hnew:ρ' nx=some ⟨g,ty,cap⟩:=awQ rfl;have hold: ∀id,id≠nx->ρ' id=ρ id:=λid hne=>awG hne
 have hfz: ∀a,a.block<w.heap.size->w1.frozen? a=w.frozen? a:=by intro a ha;simp only[World.frozen?,hold' _ ha]
 refine⟨ρ',⟨h.defers,h.tmps,λt pv hl=>?_,λid o' hl=>?_,λid id' o1 o2 loc loc' h1 h2 d1 d2 h3 h4 h5=>?_,λid loc hl=>?_,λb hb=>?_,?_,λb hb=>?_,?_⟩,L,hnew,hold⟩
 ·obtain⟨v,h1,h2⟩:=h.env t pv hl;exact⟨v,h1,h2.later L⟩
 ·change look ((nx,o)::s.hp) id=some o' at hl;rw[aH]at hl;split at hl
  ·rename_i e;subst e;simp only[awr]at hl;subst hl;exact .inr ⟨_,hnew,ho _ L (.inr rfl)⟩
  ·rename_i hne;rcases h.obj id o' hl with h1|⟨loc,h1,h2⟩
   ·refine .inl ?_;rw[hold id (Ne.symm hne)];exact h1
   ·exact .inr ⟨loc,L.up _ _ h1,h2.later L (.inr λ_ h=>.inl h) (hold' _ (h.own id loc h1))⟩
 ·change look ((nx,o)::s.hp) id=some o1 at h1;change look ((nx,o)::s.hp) id'=some o2 at h2;rw[aH]at h1 h2;by_cases e1:nx=id
  ·by_cases e2:nx=id'
   ·exact e1.symm.trans e2
   ·rw[awG e2]at h2;subst e1;rw[hnew]at h3;rw[hold id' (Ne.symm e2)]at h4;have:=h.own id' loc' h4;simp only[awr]at h3;subst h3;simp only at h5;omega
  ·rw[awG e1]at h1;rw[hold id (Ne.symm e1)]at h3;by_cases e2:nx=id'
   ·subst e2;rw[hnew]at h4;have:=h.own id loc h3;simp only[awr]at h4;subst h4;simp only at h5;omega
   ·rw[awG e2]at h2;rw[hold id' (Ne.symm e2)]at h4;exact h.inj id id' o1 o2 loc loc' h1 h2 d1 d2 h3 h4 h5
 ·by_cases e:id=nx
  ·subst e;rw[hnew]at hl;simp only[awr]at hl;subst hl;exact hg1
  ·rw[hold id e]at hl;have:=h.own id loc hl;omega
 ·rcases hb with hb|hb
  ·have:=h.ownA b hb;omega
  ·omega
 ·exact⟨hb.os.trans h.base.os,hb.tape.trans h.base.tape,hb.output.trans h.base.output,λa ha hm=>(hfz a (awU ha h.base.size)).trans (h.base.froz a ha hm),by have:=h.base.size;omega⟩
 ·rcases hb with hb|rfl
  ·exact h.may b hb
  ·exact .inr (by have:=h.base.size;omega)
 ·exact h.hid.imp λF hF=>hF.step L.keeps
   (λid o' loc' h1 h2 h3=>by
    change look ((nx,o)::s.hp) id=some o' at h1;rw[aH]at h1;split at h1
    ·cases h1;rw[hnb]at h2;cases h2
    ·rename_i hne;rw[hold id (Ne.symm hne)]at h3;exact⟨h1,loc',h3,rfl⟩)
   (λid o' loc _ _ h3 _=>hold' _ (h.own id loc h3))
   (λid o' loc b h1 h2 h3 h4=>⟨hold' _ (hF.own id o' loc b h1 h2 h3 h4).2,.inl (hF.own id o' loc b h1 h2 h3 h4).1⟩)
   (λid' o' loc' h1 h2 h3=>by
    change look ((nx,o)::s.hp) id'=some o' at h1;rw[aH]at h1;split at h1
    ·rename_i e;subst e;rw[hnew]at h3;cases h3;exact .inl hg
    ·rename_i hne;rw[hold id' (Ne.symm hne)]at h3;exact .inr ⟨id',o',loc',h1,h2,h3,rfl⟩)
theorem Rd.texts {ρ:Rho}{w:World}{n:Nat}{f:Nat->ByteArray} :Rd ρ w (.arr n .str) f ((List.range n).map λi=>Value.string (f i)):=by
 refine⟨by simp[Ty.size],λi hi=>?_⟩;show _=[Value.string (f i)];simp only[Ty.size,aye];apply axO;intro j;cases j with
 |zero=>
  rw[awX (by omega),axa,axk,ayn (by omega)];rfl
 |succ j=>rw[axv (by simp;omega),axv (by simp)]
theorem Rd.textCells {ρ:Rho}{w:World}{n:Nat}{f:Nat->ByteArray}{cs:List Value}(h:Rd ρ w (.arr n .str) f cs):cs=(List.range n).map λi=>Value.string (f i):=by
 have hl:cs.length=n:=by rw[h.1];simp[Ty.size]
 apply axO;intro j;by_cases hj:j<n
 ·have h2:(cs.drop (j*1)).take 1=[Value.string (f j)]:=h.2 j hj;rw[aye]at h2;have h3:=congrArg (·[0]?) h2;simp only[awX (show 0<1 by decide),axa,axE]at h3;rw[h3,axk,ayn hj];rfl
 ·rw[axv (by omega),axv (by simp;omega)]
def Iz(x:PV)(e:TypeId)(h:Heap):Option (Nat×(Nat->ByteArray)):=
 match x with
 | .v ⟨.sl .str,.fz n f⟩=>some (n,f)
 |x=>match rowOf x .str e h with
  |some (_,n,f,_)=>some (n,f)
  |none=>none
def CB(e:TypeId):Con where
 fp args _:=(cK args,[])
 run args h nx K:=match args with
  | [x]=>match Iz x e h with
   |some (n,f)=>bif Nat.ble (n*16) 140737488355328 then K (.v ⟨.sl .str,.ms nx [] 0 n⟩) [(nx,.row true e .str n f)] 1 else none
   |none=>none
  |_=>none
theorem a0o {x:PV}{e:TypeId}{h h':Heap}(hh: ∀id∈cK [x],h id=h' id):Iz x e h=Iz x e h':=by
 unfold Iz;split
 ·rfl
 ·have:rowOf x .str e h=rowOf x .str e h':=by
   unfold rowOf;split
   ·rfl
   ·rename_i id len hne;rw[hh id (by simp[cK])]
   ·rfl
  rw[this]
theorem YF {B:Base}{ρ:Rho}{s:DS}{a:Act}{w:World}(hr:aJ B ρ s a w){x:PV}{vx:Value}{e:TypeId}{n:Nat}{f:Nat->ByteArray}(hx:VP ρ w x vx)(h:Iz x e s.h=some (n,f)):
  (vx= .slice none 0 0/\n=0)\/(∃ad cap,vx= .slice ad 0 cap/\n=0)\/ ∃b off cap,vx= .slice (some ⟨b,off,none⟩) n cap/\ ∀j,j<n->w.cell? ⟨b,off+j,none⟩=some (.string (f j)):=by
 unfold Iz at h;split at h
 ·rename_i n' f';cases h;obtain⟨ad,cap,rfl,hnc,hall⟩:=VR.slFz hx;rcases axd n with h0|h0
  ·subst h0;exact .inr (.inl ⟨ad,cap,rfl,rfl⟩)
  ·obtain⟨b,o,c0,hab,_,_⟩:=hall 0 h0;subst hab;refine .inr (.inr ⟨b,o,cap,rfl,λj hj=>?_⟩);obtain⟨b',o',c,e1,hc,hfz⟩:=hall j hj;cases e1;simp only[Rd]at hc;subst hc;have:=hfz.2.2 0 (.string (f j)) rfl;simpa [Ty.size]using this
 ·split at h
  ·rename_i sh n' f' u hro;cases h;rcases KV hr hx hro with⟨rfl,rfl,_⟩|⟨id,loc,cap,k,f0,cs,sp,_,_,hloc,_,rfl,hnc,_,hcs,hblk,_⟩
   ·exact .inl ⟨rfl,rfl⟩
   ·refine .inr (.inr ⟨loc.blk,0,cap,rfl,λj hj=>?_⟩);rw[awR,hblk.cell];have:=hcs.openAt.textCells;subst this;rw[awY (by simp;omega),axk,ayn hj];rfl
  ·cases h
theorem a0p {P:Program}{f:FuncId}{e:TypeId}(hent: ∀args w,(callFunc f args).run P w= .ok (.enter f args) w)
  (Hnil: ∀(n c:Nat) (w:World),Calls P f #[.slice none n c] w λe w'=>e= .returned (.slice none 0 0)/\w'=w)
  (Hzero: ∀(a:Addr) (c:Nat) (w:World),Calls P f #[.slice (some a) 0 c] w λe' w'=> ∃v',e'= .returned v'/\World.ownsRow w' w.heap.size e 1 v' 0 []/\v'≠ .slice none 0 0/\Go.RowKit.Below w.heap.size w w')
  (Hfull: ∀(b off n c:Nat) (zs:List ByteArray) (w:World),n<=zs.length->n*16<=140737488355328->(∀j,j<zs.length->w.cell? ⟨b,off+j,none⟩=some (.string (zs.getD j ByteArray.empty)))->
   Calls P f #[.slice (some ⟨b,off,none⟩) n c] w λe' w'=> ∃v',e'= .returned v'/\World.ownsRow w' w.heap.size e 1 v' n ((zs.take n).map Value.string)/\v'≠ .slice none 0 0/\Go.RowKit.Below w.heap.size w w'):
  aA P f (CB e) where
 loc args h h' nx r hh hr:=by
  refine⟨?_,rfl⟩;unfold CB at hr hh⊢;simp only at hr hh⊢;split at hr
  ·rename_i x;rw[<-a0o hh];exact hr
  ·cases hr
 upd args h nx r hr:=by
  unfold CB at hr;simp only at hr;split at hr
  ·split at hr
   ·generalize Nat.ble _ _=b at hr;cases b
    ·cases hr
    ·cases hr;intro x hx;simp at hx;subst hx;exact .inr ⟨ax2 _,az6 _⟩
   ·cases hr
  ·cases hr
 nat R args h nx K:=by
  unfold CB;simp only;split
  ·split
   ·generalize Nat.ble _ _=b;cases b<;>rfl
   ·rfl
  ·rfl
 sound B ρ s a w nx args vargs r hr hnx hv h:=by
  unfold CB at h;simp only at h;split at h
  ·rename_i x;split at h
   ·rename_i n f hx;cases hb:Nat.ble (n*16) 140737488355328
    ·rw[hb]at h;cases h
    ·rw[hb]at h;cases h;have hb:=awN hb;have hnone:ρ nx=none:=hnx nx (ax2 _) (az6 _)
     match vargs,hv with
     | [v],⟨hv,_⟩=>
      refine .inr ⟨hent _ _,?_⟩;have made: ∀ {v':Value} {w':World},World.ownsRow w' w.heap.size e 1 v' n ((List.range n).map λi=>Value.string (f i))->v'≠ .slice none 0 0->Go.RowKit.Below w.heap.size w w'->
        ∃ρ',a6m B ρ s a w nx (.v ⟨.sl .str,.ms nx [] 0 n⟩) [(nx,.row true e .str n f)] 1 v' ρ' w':=by
       intro v' w' ho hne hbl;obtain⟨_,⟨h1,_⟩|⟨g,cap,cur,rfl,hg,hblk,hnc,hcm,hcs,htk⟩⟩:=ho
       ·exact absurd h1 hne
       ·have hlt:g<w'.heap.size:=(ayl.1 hblk).1;rw[aye]at htk hcs;have hcat:((List.range n).map λi=>Value.string (f i))++cur.toList.drop n=cur.toList:=by rw[<-htk];exact axT n cur.toList
        obtain⟨ρ',r1,r2,r3,r4⟩:=hr.adopt nx hnone (.row true e .str n f) (.arr n .str) (some cap) hg hlt hbl (λρ' L hW=>
         ⟨rfl,hW,_,cur.toList.drop n,Rd.texts,kK.of (by rw[hcat];exact hblk),cap,rfl,by rw[hcat];simp[Ty.size];exact hcs,hnc,hcm⟩)
        exact⟨ρ',r1,r2,⟨[_],.inr ⟨_,n,cap,0,r3,Ty.okP_nil _,Ty.at_nil _,by omega,rfl,λ_=>by rw[Ty.off_nil];simp,hnc,λc hc _ _=>⟨by cases hc;rfl,rfl⟩⟩,rfl⟩,λid hid=>r4 id (by omega)⟩
      rcases YF hr hv hx with⟨rfl,rfl⟩|⟨ad,cap,rfl,rfl⟩|⟨b,off,cap,rfl,hcell⟩
      ·refine(Hnil 0 0 w).mono ?_;rintro e' w' ⟨rfl,rfl⟩;exact⟨_,rfl,ρ,⟨hr.idleRow hnone _ _ _ _,Later.refl _ _,⟨[_],.inl ⟨rfl,rfl⟩,rfl⟩,λ_ _=>rfl⟩⟩
      ·cases ad with
       |none=>
        refine(Hnil 0 cap w).mono ?_;rintro e' w' ⟨rfl,rfl⟩;exact⟨_,rfl,ρ,⟨hr.idleRow hnone _ _ _ _,Later.refl _ _,⟨[_],.inl ⟨rfl,rfl⟩,rfl⟩,λ_ _=>rfl⟩⟩
       |some ad=>
        refine(Hzero ad cap w).mono ?_;rintro e' w' ⟨v',rfl,h1,h2,h3⟩;exact⟨_,rfl,made h1 h2 h3⟩
      ·have H:=Hfull b off n cap ((List.range n).map f) w (by simp) hb (by intro j hj;simp at hj;rw[hcell j hj,awC,axk,ayn hj];rfl);refine H.mono ?_;rintro e' w' ⟨v',rfl,h1,h2,h3⟩;rw[axq (by simp),List.map_map]at h1;exact⟨_,rfl,made h1 h2 h3⟩
   ·cases h
  ·cases h
def aiM(f:Nat->ByteArray)(i:Nat)(x:ByteArray):Nat->ByteArray:=λj=>bif Nat.blt j i then f j else bif Nat.beq j i then x else f (j-1)
end Go.Den
