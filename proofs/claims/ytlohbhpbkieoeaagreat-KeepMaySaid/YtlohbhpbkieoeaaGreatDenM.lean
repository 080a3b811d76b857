/-
 The plain reading of code: a slice that stands still ahead of a loop.
-/
import Derived.Test.YtlohbhpbkieoeaaGreatDenL
import Derived.Test.YtlohbhpbkieoeaaGreatDenH
import Derived.Test.YtlohbhpbkieoeaaGreatDenI
set_option linter.unusedVariables false
set_option linter.unusedSimpArgs false
namespace Go.Den
def lrB:Path->Bool| []=>true| .L::q=>lrB q| .R::q=>lrB q|_=>false
theorem a6R: ∀ {q:Path} {t u:Ty},lrB q=true->t.at q=some u->t.okP q
 | [],t,u,_,_=>Ty.okP_nil t
 | .L::q,t,u,h,h2=>by cases t<;>simp only[Ty.at,reduceCtorEq]at h2;exact a6R (q:=q) h h2
 | .R::q,t,u,h,h2=>by cases t<;>simp only[Ty.at,reduceCtorEq]at h2;exact a6R (q:=q) h h2
 | .X _::_,_,_,h,_=>by cases h
 | .S _ _::_,_,_,h,_=>by cases h
theorem a0q {cs:List Value}{o n:Nat}(h:o+n<=cs.length):splice cs o ((cs.drop o).take n)=cs:=by
 have hl:((cs.drop o).take n).length=n:=by simp;omega
 apply axO;intro j;rw[iJ (by omega),hl];by_cases hj:o<=j/\j<o+n
 ·rw[awQ hj,awX (by omega),axa];congr 1;omega
 ·rw[awG hj]
theorem a6S {P:Program}{f:FuncId}{c:Con}(h: ∀(R:Type) (args:List PV) (hp:Heap) (nx:Nat) (K:K3 R),c.run args hp nx K=none):aA P f c where
 loc args h0 h' nx r hh hr:=by rw[h]at hr;cases hr
 upd args h0 nx r hr:=by rw[h]at hr;cases hr
 nat R args h0 nx K:=by rw[h,h];rfl
 sound B ρ s a w nx args vargs r hr hnx hv hc:=by rw[h]at hc;cases hc
open Go.RowKit
abbrev asn(TB:TypeId)(U:Ty):Ty:=.pair (a6Q TB) U
def XA(TB:TypeId)(U:Ty):Con where
 fp args _:=(cK args,cK args)
 run args h nx K:=match args with
  | [.v ⟨.ptr _,.rf id p⟩]=>match h id with
   |some (.obj t _)=>if(t=a6Q TB/\p=[])\/(t=asn TB U/\p=[.L])then K (.tup []) [] 0 else none
   |_=>none
  |_=>none
theorem a6T {P:Program}{f:FuncId}{TB:TypeId}{U:Ty}(hent: ∀args w,(callFunc f args).run P w= .ok (.enter f args) w)
  (Hused: ∀(b:Nat) (w:World),w.cell? ⟨b,0,none⟩=some (.pointer (some ⟨b,0,none⟩))->Calls P f #[.pointer (some ⟨b,0,none⟩)] w λe w'=>e= .returned (.tuple #[])/\w'=w)
  (Hfresh: ∀(b:Nat) (w:World) (T:TypeId) (n:Nat),w.cell? ⟨b,0,none⟩=some (.pointer none)->w.shape? b=some (T,n)->w.frozen? ⟨b,0,none⟩=false->(T=TB/\n=2)\/(T=ZF/\n=2+U.size)->Calls P f #[.pointer (some ⟨b,0,none⟩)] w λe w'=>e= .returned (.tuple #[])/\w'=w.setCell ⟨b,0,none⟩ (.pointer (some ⟨b,0,none⟩))):
  aA P f (XA TB U) where
 loc args h h' nx r hh hr:=by
  refine⟨?_,rfl⟩;unfold XA at hr hh⊢;simp only at hr hh⊢;split at hr
  ·rename_i t id p;rw[<-hh id (by simp[cK])];exact hr
  ·cases hr
 upd args h nx r hr:=by
  unfold XA at hr;simp only at hr;split at hr
  ·split at hr
   ·split at hr
    ·cases hr;intro x hx;cases hx
    ·cases hr
   ·cases hr
  ·cases hr
 nat R args h nx K:=by
  unfold XA;simp only;split
  ·split
   ·split<;>rfl
   ·rfl
  ·rfl
 sound B ρ s a w nx args vargs r hr hnx hv h:=by
  unfold XA at h;simp only at h;split at h
  ·rename_i u id p;split at h
   ·rename_i t x ho;split at h
    ·rename_i ht;cases h
     match vargs,hv with
     | [v],⟨hv,_⟩=>
      obtain⟨loc,hloc,hok,hat,_,rfl⟩:=VR.ptrRf hv;obtain⟨e1,hW,cs,T,hc,hb,hhd⟩:=hr.live ho (by intro e;cases e) hloc;have hoff:loc.ty.off p=0:=by
       rw[e1];rcases ht with⟨rfl,rfl⟩|⟨rfl,rfl⟩
       ·exact Ty.off_nil _
       ·show(a6Q TB).off []=0;exact Ty.off_nil _
      rw[hoff];obtain⟨hcell,hsh,hset0,hhd'⟩:(∀v,cs[0]?=some v->v= .pointer none\/v= .pointer (some ⟨loc.blk,0,none⟩))/\((T=TB/\cs.length=2)\/(T=ZF/\cs.length=2+U.size))/\
        (∃c0 rest,cs=c0::rest/\ ∀ {ρ':Rho} {w':World} (q:Option Addr),Later ρ w ρ' w'->Rd ρ' w' t x (.pointer q::rest))/\ ∀T0,t.head=some T0->T=T0:=by
       have hl:=hc.length;rcases ht with⟨rfl,rfl⟩|⟨rfl,rfl⟩
       ·obtain⟨hT,hcell⟩:=hhd TB rfl;refine⟨hcell,.inl ⟨hT,hl⟩,?_,λT0 h=>(hhd T0 h).1⟩
        match cs,hl,hc with
        | [c0,c1],_,hc=>exact⟨c0,[c1],rfl,λq L=>⟨⟨_,rfl,rfl⟩,(show Rd ρ w (.sl (.int .u8)) x.2 [c1]from hc.2).later L⟩⟩
       ·obtain⟨hT,hcell⟩:=hhd ZF rfl;refine⟨hcell,.inr ⟨hT,hl⟩,?_,λT0 h=>(hhd T0 h).1⟩;have hl:cs.length=2+U.size:=hl
        match cs,hl,hc with
        |c0::c1::rest,_,hc=>
         refine⟨c0,c1::rest,rfl,λq L=>⟨⟨⟨_,rfl,rfl⟩,?_⟩,?_⟩⟩
         ·exact(show Rd ρ w (.sl (.int .u8)) x.1.2 [c1]from hc.1.2).later L
         ·exact(show Rd ρ w U x.2 rest from hc.2).later L
        | [c0],hl,_=>simp at hl;omega
        | [],hl,_=>simp at hl;omega
      obtain⟨c0,rest,rfl,hnew⟩:=hset0;have h0:w.cell? ⟨loc.blk,0,none⟩=some c0:=by simp[World.cell?,hb]
      refine .inr ⟨hent _ _,?_⟩;rcases hcell c0 rfl with rfl|rfl
      ·refine(Hfresh loc.blk w T (Value.pointer none::rest).length h0 (by simp[World.shape?,hb]) (ZJ hb _ rfl) hsh).mono ?_;rintro e w' ⟨rfl,rfl⟩;refine⟨_,rfl,ρ,?_⟩;have hset:(w.setCell ⟨loc.blk,0,none⟩ (.pointer (some ⟨loc.blk,0,none⟩))).heap[loc.blk]?=some (.cells (.pointer (some ⟨loc.blk,0,none⟩)::rest).toArray T (0,0)):=by simp[World.setCell,ayH,hb]
       obtain⟨h3,h4⟩:=hr.store ho (by intro e;cases e) (by intro e;cases e) hloc (w.setCell ⟨loc.blk,0,none⟩ (.pointer (some ⟨loc.blk,0,none⟩))) (by simp[World.setCell]) (λb hb=>by simp[World.setCell,ayH,Ne.symm hb]) rfl rfl rfl (wK hb hset) (o':=.obj t x)
        (λL=>⟨e1,hW,(.pointer (some ⟨loc.blk,0,none⟩))::rest,T,hnew _ L,hset,λT0 h=>⟨hhd' T0 h,λv hv=>by cases hv;exact .inr rfl⟩⟩)
       refine⟨h3.alike ⟨λ_=>rfl,λi=>?_,rfl,rfl⟩,h4,⟨[],rfl,trivial⟩,λ_ _=>rfl⟩;show look ((id,PO.obj t x)::s.hp) i=look s.hp i;rw[aH];split
       ·rename_i e;subst e;exact ho.symm
       ·rfl
      ·refine(Hused loc.blk w h0).mono ?_;rintro e w' ⟨rfl,rfl⟩;exact⟨_,rfl,ρ,⟨hr,Later.refl _ _,⟨[],rfl,trivial⟩,λ_ _=>rfl⟩⟩
    ·cases h
   ·cases h
  ·cases h
theorem a5r {P:Program}{f:FuncId}{still:Bool}{dom cod:List Ty}{g:Dom dom->Option (Cod cod)}(hg: ∀x,g x=none):aA P f (aO still dom cod g):=
 a6S λR args hp nx K=>by
  simp only[aO];split
  ·split
   ·rw[hg]
   ·rfl
  ·rfl
def fzO(s:DS)(ob:Nat)(q:Path):DS:=
 match s.h ob with
 |some (.obj t x)=>match t.get x q with
  |some ⟨.sl u,.ms id [] 0 n⟩=>match nJ s.h u id [] 0 n with
   |some y=>match t.set x q (.sl u) y with
    |some z=>bif lrB q then { s with hp:=(ob,.obj t z)::(id,.dead)::s.hp } else s
    |none=>s
   |none=>s
  |_=>s
 |_=>s
def fzV(s:DS)(ob:Nat)(q:Path)(pv:PV):PV:=
 match s.h ob with
 |some (.obj t x)=>match t.get x q with
  |some ⟨.sl u,.ms id [] 0 n⟩=>match nJ s.h u id [] 0 n with
   |some y=>match t.set x q (.sl u) y with
    |some z=>bif lrB q then match pv with
      | .v ⟨.sl u',.ms id' [] 0 n'⟩=>if u'=u/\id'=id then match nJ s.h u' id' [] 0 n' with
        |some y'=>.v ⟨.sl u',y'⟩
        |none=>pv
       else pv
      |_=>pv
     else pv
    |none=>pv
   |none=>pv
  |_=>pv
 |_=>pv
theorem aaM {B:Base}{ρ:Rho}{s:DS}{a:Act}{w:World}(hr:aJ B ρ s a w)(ob:Nat)(q:Path):(fzO s ob q).nx=s.nx/\(fzO s ob q).n=s.n/\ ∃ρ1,aJ B ρ1 (fzO s ob q) a w/\Later ρ w ρ1 w/\ρ1.f=ρ.f/\ ∀pv v,VP ρ w pv v->VP ρ1 w (fzV s ob q pv) v:=by
 have no:s.nx=s.nx/\s.n=s.n/\ ∃ρ1,aJ B ρ1 s a w/\Later ρ w ρ1 w/\ρ1.f=ρ.f/\ ∀pv v,VP ρ w pv v->VP ρ1 w pv v:=⟨rfl,rfl,ρ,hr,Later.refl _ _,rfl,λ_ _ h=>h⟩;unfold fzO fzV;split
 ·rename_i t y0 ho;split
  ·rename_i u rid n hg;split
   ·rename_i y hy;split
    ·rename_i z hz;cases hlr:lrB q
     ·exact no
     simp only[awL];obtain⟨o,k,g,hro,hrg,hrb,_⟩:=yF hy;have hne:ob≠rid:=by
      intro e;subst e;rw[ho]at hro;cases hro;simp only[ZG,PO.get,Ty.get_nil,awr,Sigma.mk.injEq,ayA]at hrg hrb;obtain⟨e,_⟩:=hrg;subst e;cases q with
      |nil=>rw[Ty.get_nil]at hg;cases hg
      |cons st q=>
       have hat:=Ty.at_of_get hg;have hfl: ∀ {q:Path} {t v:Ty},t.flat=true->t.at q=some v->v.flat=true:=by
        intro q
        induction q with
        |nil=>intro t v h1 h2;rw[Ty.at_nil]at h2;cases h2;exact h1
        |cons st q ih=>
         intro t v h1 h2;cases t<;>cases st<;>simp only[Ty.at,reduceCtorEq]at h2
         ·simp only[Ty.flat,awu]at h1;exact ih h1.1 h2
         ·simp only[Ty.flat,awu]at h1;exact ih h1.2 h2
         ·rename_i t0 _;exact ih (t:=t0) h1 h2
         ·rename_i t0 _ m0;exact ih (t:=.arr m0 t0) (by exact h1) h2
       have:=hfl (t:=.arr k u) hrb hat;cases this
     obtain⟨loc,hloc,hor⟩: ∃loc,ρ ob=some loc/\OR ρ w loc (.obj t y0):=by
      rcases hr.obj _ _ ho with(h|⟨_,_,_,_,_,h⟩)|h
      ·cases h
      ·cases h
      ·exact h
     obtain⟨e1,hW,cs,T,hcs,hb,hh⟩:=hor;subst e1;obtain⟨ρ1,g1,g2,g3,g4,g5⟩: ∃ρ1,aJ B ρ1 { s with hp:=(rid,.dead)::s.hp } a w/\Later ρ w ρ1 w/\ρ1.f=ρ.f/\(∀b,ρ1.A b->ρ.A b)/\ ∀l0,ρ rid=some l0-> ¬ρ1.A l0.blk:=by
      cases hl:ρ rid with
      |none=>exact⟨ρ,hr.kill rid,Later.refl _ _,rfl,λ_ h=>h,λl0 h=>by cases h⟩
      |some l0=>
       obtain⟨ρ1,h1,h2,h3,h4,h5⟩:=hr.freeze hro (PO.ne_dead hrg) hl;exact⟨ρ1,h1,h2,h3,h4,λl1 h=>by cases h;exact h5⟩
     have ho1:look ({ s with hp:=(rid,.dead)::s.hp } :DS).hp ob=some (.obj loc.ty y0):=by show look ((rid,PO.dead)::s.hp) ob=_;rw[aH,awG (λe=>hne e.symm)];exact ho
     have hl1:ρ1 ob=some loc:=by rw[g3];exact hloc
     have hor1:=g1.live ho1 (by intro e;cases e) hl1;have hp:loc.ty.okP q:=a6R hlr (Ty.at_of_get hg);have hst:=g1.store ho1 (o':=.obj loc.ty z) (by intro e;cases e) (by intro e;cases e) hl1 w rfl (λ_ _=>rfl) rfl rfl rfl (λ_ _=>rfl) (λ_=>by
      obtain⟨e2,hW1,cs1,T1,hcs1,hb1,hh1⟩:=hor1;refine⟨rfl,hW1,cs1,T1,?_,hb1,hh1⟩;have hsub:=hcs1.get hp hg;have hle:=Ty.off_le hp (Ty.at_of_get hg);simp only[Ty.size]at hsub hle;have hcl:=hcs1.length;have hsub0:Rd ρ w (.sl u) (.ms rid [] 0 n) ((cs1.drop (loc.ty.off q)).take 1):=by
       have hcse:cs1=cs:=by rw[hb]at hb1;cases hb1;rfl
       subst hcse;exact hcs.get hp hg
      have h6:=sU hr ρ1.A g4 g5 hsub0 hy;have h7:=Rd.openIn (ρ:=ρ1) h6;have h8:=hcs1.set hp hz h7;rw[a0q (by omega)]at h8;exact h8)
     obtain⟨hr2,hL⟩:=hst;refine⟨trivial,trivial,ρ1,hr2,g2,g3,λpv v hv=>?_⟩;split
     ·rename_i u' id' n';split
      ·rename_i e;obtain⟨rfl,rfl⟩:=e;split
       ·rename_i y' hy';obtain⟨cs',h3,h4⟩:=hv;exact⟨cs',Rd.openIn (ρ:=ρ1) (sU hr ρ1.A g4 g5 h3 hy'),h4⟩
       ·exact hv.later g2
      ·exact hv.later g2
     ·exact hv.later g2
    ·exact no
   ·exact no
  ·exact no
 ·exact no
theorem adN {B:Base}{ρ:Rho}{s:DS}{a:Act}{w:World}(hr:aJ B ρ s a w)(ob:Nat)(q:Path):(fzO s ob q).nx=s.nx/\(fzO s ob q).n=s.n/\ ∃ρ1,aJ B ρ1 (fzO s ob q) a w/\Later ρ w ρ1 w/\ρ1.f=ρ.f:=
 let⟨h1,h2,ρ1,h3,h4,h5,_⟩:=aaM hr ob q
 ⟨h1,h2,ρ1,h3,h4,h5⟩
noncomputable def lpB(f:DS->DS)(lp:Lp):Lp where
 run s K:=lp.run s λe s'=>K e (f s')
theorem adO {P:Program}{id:Nat}{body:Code}{lp:Lp}{f:DS->DS}(hf: ∀ {B:Base} {ρ:Rho} {s:DS} {a:Act} {w:World},aJ B ρ s a w->(f s).nx=s.nx/\(f s).n=s.n/\ ∃ρ1,aJ B ρ1 (f s) a w/\Later ρ w ρ1 w/\ρ1.f=ρ.f)
  (ha:aX P id body lp):aX P id body (lpB f lp):=by
 intro R s K x h B ρ a w hr hfr;refine wp_mono (ha R s _ x h B ρ a w hr hfr) ?_;rintro e a' w' ⟨s',ρ',p1,p2,p3,p4,p5⟩;obtain⟨q1,q2,ρ1,q3,q4,q5⟩:=hf p2;exact⟨f s',ρ1,p1,q3,λid hid=>by rw[q5];exact p3 id (by rw[<-q1];exact hid),q2.trans p4,λhl=>(p5 hl).trans q4⟩
noncomputable def aiN(ob:Nat)(q:Path)(lp:Lp):Lp:=lpB (λs=>fzO s ob q) lp
theorem aaN {P:Program}{id:Nat}{body:Code}{lp:Lp}(ob:Nat)(q:Path)(ha:aX P id body lp):aX P id body (aiN ob q lp):=adO (λhr=>adN hr ob q) ha
abbrev tG:Ty:=.pair (.pair (.int .i64) (.int .i64)) (.pair .str (.pair (.sl (.sl (.arr 4 (.int .u64)))) (.pair (.sl (.arr 4 (.int .u64))) (.int .i64))))
abbrev tV:Ty:=.pair (.int .i64) (.pair (.pair (.int .i64) (.int .i64)) .str)
abbrev tT:Ty:=.pair tG (.pair tG (.pair tG (.pair (.int .i64) (.int .i64))))
abbrev tR:Ty:=.pair .str (.pair tG (.pair (.sl tV) (.pair (.sl tV) (.sl tT))))
abbrev tM:Ty:=.pair (.int .i64) (.pair (.int .i64) (.pair (.int .i64) (.pair (.sl (.int .i64)) (.sl tR))))
end Go.Den
namespace Go.Pl
open Go Go.Den
abbrev GI:Type:=(Int×Int)×(ByteArray×((SlV (SlV (Nat->Int)))×((SlV (Nat->Int))×Int)))
abbrev VO:Type:=Int×((Int×Int)×ByteArray)
abbrev TO:Type:=GI×(GI×(GI×(Int×Int)))
abbrev RE:Type:=ByteArray×(GI×((SlV VO)×((SlV VO)×(SlV TO))))
abbrev GA:Type:=(Int×Int)×(ByteArray×((Nat×(Nat->(SlV (Nat->Int))))×((Nat×(Nat->(Nat->Int)))×Int)))
abbrev RA:Type:=ByteArray×(GA×((Nat×(Nat->VO))×((Nat×(Nat->VO))×(Nat×(Nat->TO)))))
abbrev IM:Type:=Int×(Int×(Int×((Nat×(Nat->Int))×(Nat×(Nat->RE)))))
abbrev zG:GI:=((0,0),(ByteArray.empty,(.nil,(.nil,0))))
abbrev zV:VO:=(0,((0,0),ByteArray.empty))
abbrev zT:TO:=(zG,(zG,(zG,(0,0))))
abbrev zR:RE:=(ByteArray.empty,(zG,(.nil,(.nil,.nil))))
abbrev zI:IM:=(0,(0,(0,((0,(λ_=>0)),(0,(λ_=>zR))))))
end Go.Pl
namespace Go.Den
abbrev tVA:Ty:=.pair (.pair (.int .i64) (.int .i64)) (.pair .str (.pair (.st (.sl (.arr 4 (.int .u64)))) (.st (.arr 4 (.int .u64)))))
abbrev tPR:Ty:=.pair tVA (.int .i64)
abbrev tCL:Ty:=.pair (.arr 2 tPR) (.pair tPR (.pair (.int .i64) (.int .i64)))
abbrev tVT:Ty:=.pair (.int .i64) (.arr 7 (.arr 4 (.arr 2 (.pair (.pair (.int .i64) (.int .i64)) .str))))
abbrev tRC:Ty:=.pair tVA (.pair .str (.pair (.ptr tVT) (.pair (.ptr tVT) (.arr 4 tCL))))
abbrev tMS:Ty:=.pair (.int .i64) (.pair (.int .i64) (.pair .str (.pair (.pair (.int .i64) (.int .i64)) (.pair .str (.pair (.sl (.sl (.arr 4 (.int .u64)))) (.sl (.arr 4 (.int .u64))))))))
abbrev tOU:Ty:=.pair (.int .i64) tMS
abbrev tMN:Ty:=.ptr (.pair (.arr 4 (.int .u64)) (.pair (.int .u64) (.pair (.arr 4 (.int .u64)) (.arr 4 (.int .u64)))))
abbrev tGR:Ty:=.pair (.pair tMN tMN) (.arr 4 (.int .u64))
abbrev tSP:Ty:=.pair (.int .i64) (.pair (.int .i64) (.pair (.sl .str) .mp))
abbrev tSV:Ty:=.pair (.ptr tGR) (.pair (.int .i64) (.pair (.int .i64) (.pair (.int .i64) (.pair (.int .i64) (.pair (.ptr tSP) (.pair .mp (.sl tOU)))))))
end Go.Den
namespace Go.Pl
open Go Go.Den
abbrev VA:Type:=(Int×Int)×(ByteArray×((Nat×(Nat->(SlV (Nat->Int))))×(Nat×(Nat->(Nat->Int)))))
abbrev PR:Type:=VA×Int
abbrev CL:Type:=(Nat->PR)×(PR×(Int×Int))
abbrev VT:Type:=Int×(Nat->(Nat->(Nat->((Int×Int)×ByteArray))))
abbrev RC:Type:=VA×(ByteArray×(Unit×(Unit×(Nat->CL))))
abbrev RD:Type:=VA×(ByteArray×((dh VT)×((dh VT)×(Nat->CL))))
abbrev MS:Type:=Int×(Int×(ByteArray×((Int×Int)×(ByteArray×((SlV (SlV (Nat->Int)))×(SlV (Nat->Int)))))))
abbrev OU:Type:=Int×MS
abbrev MN:Type:=dh ((Nat->Int)×(Int×((Nat->Int)×(Nat->Int))))
abbrev GR:Type:=(MN×MN)×(Nat->Int)
abbrev SP:Type:=Int×(Int×((Nat×(Nat->ByteArray))×(List (Int×Int))))
abbrev BG:Type:=List (ByteArray×(RD×(VT×(VT×Unit))))
abbrev SO:Type:=GR×(Int×(Int×(Int×(Int×(Unit×((BG×Nat)×(Nat×(Nat->OU))))))))
abbrev SN:Type:=GR×(Int×(Int×(Int×(Int×(Unit×(BG×(Nat×(Nat->OU))))))))
abbrev SR:Type:=SO×(RC×(VT×(VT×(SP×Unit))))
abbrev SS:Type:=SN×(SP×Unit)
abbrev zSN:Nat->SlV (Nat->Int):=λ_=>.nil
abbrev zNN:Nat->Nat->Int:=λ_ _=>0
abbrev zVA:VA:=((0,0),(ByteArray.empty,((0,zSN),(0,zNN))))
abbrev zPR:PR:=(zVA,0)
abbrev zPS:Nat->PR:=λ_=>zPR
abbrev zCL:CL:=(zPS,(zPR,(0,0)))
abbrev zCS:Nat->CL:=λ_=>zCL
abbrev zOU:OU:=(0,(0,(0,(ByteArray.empty,((0,0),(ByteArray.empty,(.nil,.nil)))))))
abbrev zNO:Nat×(Nat->OU):=(0,λ_=>zOU)
end Go.Pl
namespace Go.Den
open Go
def Pat.plain:Pat->Bool| .v t=>t.nr| .c ⟨.ptr _,.rf _ _⟩=>true| .p a b=>a.plain&&b.plain|_=>false
theorem YG {τ:Nat->Nat} : ∀ {t:Ty} {x:t.den},t.nr=true->ren τ t x=x:=by
 intro t
 induction t with
 |pair a b iha ihb=>intro x h;simp only[ren];rw[show(a.nr&&b.nr)=true from h];rfl
 |arr n t ih=>intro x h;simp only[ren];rw[show t.nr=true from h];rfl
 |int _=>intro x _;rfl
 |bool=>intro x _;rfl
 |str=>intro x _;rfl
 |unit=>intro x _;rfl
 |st _ _=>intro x _;rfl
 |sl _ _=>intro x h;cases h
 |ptr _ _=>intro x h;cases h
 |fn=>intro x h;cases h
 |sp _=>intro x h;cases h
 |mp=>intro x h;cases h
theorem a6U {h:Heap} : ∀ {p:Pat} {y:p.ty.den} {X:p.X},p.plain=true->p.rd h y=some X->p.mk X=y:=by
 intro p
 induction p with
 |v t=>
  intro y X _ hr;simp only[Pat.rd]at hr;cases hb:(t.flat||dG t y)
  ·rw[hb]at hr;cases hr
  ·rw[hb]at hr;cases hr;rfl
 |c x=>
  intro y X _ hr;simp only[Pat.rd]at hr;cases hb:w9 x.1 x.2 y
  ·rw[hb]at hr;cases hr
  ·exact(Ta hb).symm
 |p a b iha ihb=>
  intro y X hp hr;simp only[Pat.plain,awu]at hp;simp only[Pat.rd]at hr;cases ha:a.rd h y.1 with
  |none=>rw[ha]at hr;cases hr
  |some u=>
   cases hb:b.rd h y.2 with
   |none=>rw[ha,hb]at hr;cases hr
   |some v=>
    rw[ha,hb]at hr;cases hr;exact Prod.ext (iha hp.1 ha) (ihb hp.2 hb)
 |_=>intro y X hp;cases hp
theorem a5s {h:Heap}{l:List Nat}(hnd:l.Nodup){K nx:Nat}(hK:l.length<=K): ∀ {p:Pat} {v:p.ty.den} {X:p.X},p.plain=true->p.low l.length=true->p.rd h (ren (toC K l 0) p.ty v)=some X->
  ren (ofC l.length nx l) p.ty (ren (toC K l 0) p.ty v)=v:=by
 intro p
 induction p with
 |v t=>intro v X hp _ _;rw[YG hp,YG hp]
 |c x=>
  obtain⟨t,x⟩:=x;intro v X hp hl hr;cases t with
  |ptr t=>
   cases x with
   |rf i q=>
    have hi:i<l.length:=by simpa [Pat.low,T9,Nat.blt_eq]using hl
    cases v with
    |nil=>simp[Pat.rd,ren,w9]at hr
    |fz y=>simp[Pat.rd,ren,w9]at hr
    |rf id q'=>
     have hid:i=toC K l 0 id:=by
      simp only[Pat.rd,ren,w9]at hr;cases hb:decide (i=toC K l 0 id)with
      |true=>exact az4 hb
      |false=>rw[hb]at hr;cases hr
     have hm:id∈l:=ax7 λhn=>by rw[Iy hn]at hid;omega
     obtain⟨j,hj⟩:=axY hm;have e:=Av (K:=K) (k:=0) hnd j id hj;have hj':i=j:=by omega
     simp only[ren];rw[<-hid];unfold ofC;rw[show Nat.blt i l.length=true from iQ.2 hi,awL,awC,hj',hj];rfl
   |nil=>cases hp
   |fz _=>cases hp
  |_=>cases hp
 |p a b iha ihb=>
  intro v X hp hl hr;simp only[Pat.plain,awu]at hp;simp only[Pat.low,awu]at hl;cases hb:(a.ty.nr&&b.ty.nr)with
  |true=>rw[YG (t:=.pair a.ty b.ty) hb,YG (t:=.pair a.ty b.ty) hb]
  |false=>
   have e: ∀τ (z:(Ty.pair a.ty b.ty).den),ren τ (.pair a.ty b.ty) z=(ren τ a.ty z.1,ren τ b.ty z.2):=λτ z=>by simp only[ren];rw[hb];rfl
   simp only[Pat.rd]at hr;rw[e]at hr;show ren _ (.pair a.ty b.ty) (ren _ (.pair a.ty b.ty) v)=v;rw[e,e];cases ha:a.rd h (ren (toC K l 0) a.ty v.1)with
   |none=>rw[ha]at hr;cases hr
   |some u=>
    cases hb2:b.rd h (ren (toC K l 0) b.ty v.2)with
    |none=>rw[ha,hb2]at hr;cases hr
    |some z=>exact Prod.ext (iha hp.1 hl.1 ha) (ihb hp.2 hl.2 hb2)
 |_=>intro v X hp;cases hp
def wh(m:Nat)(ish:Shape)(args:List PV)(h:Heap):Option Nat:=
 match WA ish args h with
 |some p=>match p.u with
  | []=>p.l[m]?
  |_=>none
 |none=>none
def MH(k:Nat)(u:Upd):Upd:=u.filter λq=>!Nat.beq q.1 k
def Tk(m:Nat)(ish:Shape)(c:Con):Con where
 fp args h:=match wh m ish args h with
  |some k=>((c.fp args h).1,(c.fp args h).2.filter λi=>!Nat.beq i k)
  |none=>([],[])
 run args h nx K:=match wh m ish args h with
  |some k=>c.run args h nx λpv u n=>K pv (MH k u) n
  |none=>none
theorem a5t {k:Nat} : ∀ {u:Upd} {i:Nat},look (MH k u) i=if i=k then none else look u i:=by
 intro u
 induction u with
 |nil=>intro i;simp[MH,look]
 |cons q u ih=>
  intro i;have ih':=ih (i:=i);unfold MH at ih'⊢;rw[List.filter_cons];by_cases hk:q.1=k
  ·have e:Nat.beq q.1 k=true:=by rw[hk];exact Nat.beq_refl k
   rw[e,axc,awG (by decide),ih'];by_cases hi:i=k
   ·rw[awQ hi,awQ hi]
   ·rw[awG hi,awG hi];simp only[look];have:Nat.beq q.1 i=false:=by
     cases hb:Nat.beq q.1 i with
     |false=>rfl
     |true=>exact absurd ((ax0 hb).symm.trans hk) hi
    rw[this];rfl
  ·have e:Nat.beq q.1 k=false:=by
    cases hb:Nat.beq q.1 k with
    |false=>rfl
    |true=>exact absurd (ax0 hb) hk
   rw[e,axz,awQ rfl];simp only[look];cases hb:Nat.beq q.1 i with
   |true=>
    have hi: ¬i=k:=λh=>hk ((ax0 hb).trans h)
    rw[awG hi];rfl
   |false=>
    simp only[awW];exact ih'
theorem aJ.ext {B:Base}{ρ:Rho}{s:DS}{a:Act}{w:World}{hp:List (Nat×PO)}(e: ∀i,look hp i=look s.hp i)(h:aJ B ρ s a w):aJ B ρ { s with hp:=hp } a w where
 defers:=h.defers
 tmps:=h.tmps
 env:=h.env
 obj id o ho:=h.obj id o ((e id).symm.trans ho)
 inj id id' o o' loc loc' h1 h2:=h.inj id id' o o' loc loc' ((e id).symm.trans h1) ((e id').symm.trans h2)
 own:=h.own
 ownA:=h.ownA
 base:=h.base
 may:=h.may
 hid:=by
  obtain⟨F,hF⟩:=h.hid;exact⟨F,⟨λid k t l out loc h1=>hF.val id k t l out loc ((e id).symm.trans h1),λid o loc b h1=>hF.own id o loc b ((e id).symm.trans h1),
   λid o loc b id' o' loc' h1 h2 h3 h4 h5=>hF.dis id o loc b id' o' loc' ((e id).symm.trans h1) h2 h3 h4 ((e id').symm.trans h5),
   λid id' o o' loc loc' b h1 h2 h3 h4=>hF.sep id id' o o' loc loc' b ((e id).symm.trans h1) h2 h3 ((e id').symm.trans h4)⟩⟩
theorem a2D {s:DS}{m:Nat} : ∀ {l:List (Nat×Pat)} {xs:Xs l} {mm:List Mv},Rl s l=some (xs,mm)-> ∀ {p:Pat},look l m=some p-> ∃y X,s.h m=some (.obj p.ty y)/\p.rd s.h y=some X/\look (Fy l xs) m=some (.obj p.ty (p.mk X)):=by
 intro l
 induction l with
 |nil=>intro xs mm _ p hp;cases hp
 |cons q l ih=>
  intro xs mm h p hp;simp only[Rl]at h;cases hs:s.h q.1 with
  |none=>rw[hs]at h;cases h
  |some o=>
   rw[hs]at h;cases o with
   |obj t y=>
    simp only at h;by_cases e:t=q.2.ty
    ·subst e;rw[dif_pos rfl]at h;simp only at h;cases hr:q.2.rd s.h y with
     |none=>rw[hr]at h;cases h
     |some X=>
      rw[hr]at h;simp only at h;cases hl:Rl s l with
      |none=>rw[hl]at h;cases h
      |some z=>
       obtain⟨ys,m2⟩:=z;rw[hl]at h;cases h;simp only[look]at hp⊢;cases hb:Nat.beq q.1 m with
       |true=>
        rw[hb]at hp;cases hp;have e1:=ax0 hb;subst e1;refine⟨y,X,hs,hr,?_⟩;simp only[Fy,look,hb,awL]
       |false=>
        rw[hb]at hp;obtain⟨y',X',a1,a2,a3⟩:=ih hl hp;refine⟨y',X',a1,a2,?_⟩;simp only[Fy,look,hb,awW];exact a3
    ·rw[dif_neg e]at h;cases h
   |_=>cases h
def a6V(m:Nat)(ish osh:Shape)(x:ish.X)(y:osh.X):Prop:=look (Fy osh.ob y.2) m=look (Fy ish.ob x.2) m
theorem a2E {τ:Nat->Nat} : ∀ {l:List (Nat×PO)} {i:Nat} {o:PO},look l i=some o-> ∃o',look (FW τ l) (τ i)=some o':=by
 intro l
 induction l with
 |nil=>intro i o h;cases h
 |cons q l ih=>
  intro i o h;show∃o',look ((τ q.1,xX τ q.2)::FW τ l) (τ i)=some o';simp only[look]at h⊢;cases hb:Nat.beq (τ q.1) (τ i)with
  |true=>exact⟨_,rfl⟩
  |false=>
   cases hc:Nat.beq q.1 i with
   |true=>rw[ax0 hc,Nat.beq_refl]at hb;cases hb
   |false=>rw[hc]at h;exact ih h
theorem aaO(h:Heap):hpU [] h=h:=by funext i;rfl
theorem a5u {m:Nat}{ish osh:Shape}{f:ish.X->Option (YsS [osh])}(hf: ∀x y,f x=some y->a6V m ish osh x y){p:Pat}(hm:look ish.ob m=some p)(hpl:p.plain=true)(hlo:m<ish.lo)(hlow:p.low ish.lo=true)(htd:ish.td=false)(hnx:ish.lo<=ish.nx)
  {args:List PV} {h:Heap} {nx:Nat} {r:Ans} {id:Nat} (hk:wh m ish args h=some id) (hr:(nV ish [osh] f).run args h nx pk=some r): ∃o,look r.2.1 id=some o/\h id=some o:=by
 unfold wh at hk;cases hp:WA ish args h with
 |none=>rw[hp]at hk;cases hk
 |some P=>
  rw[hp]at hk;simp only at hk;obtain⟨l,rr,p1,p2,p3,p4,hnd,p6,p7⟩:=OM hp;have hlen:P.l.length=ish.lo:=by rw[p3];exact DF p2
  have hu:P.u=[]:=by
   cases hq:P.u with
   |nil=>rfl
   |cons _ _=>rw[hq]at hk;cases hk
  rw[hu]at hk;simp only at hk;simp only[nV,hp]at hr;cases hall:P.l.all λx=>Nat.blt x nx with
  |false=>rw[hall]at hr;cases hr
  |true=>
   rw[hall,awL]at hr;rw[axB]at hall;rw[hu,aaO]at hr;cases hx:ish.rd (BD ish.nx P.l P.r P.args h)with
   |none=>rw[hx]at hr;cases hr
   |some x=>
    rw[hx]at hr;simp only at hr;cases hy:f x with
    |none=>rw[hy]at hr;cases hr
    |some y=>
     rw[hy]at hr;simp only[a2y,pk]at hr;cases hr;have hkeep:=hf x y hy;unfold Shape.rd at hx;rw[htd,awW]at hx;unfold Shape.rd0 at hx;cases he:MF (BD ish.nx P.l P.r P.args h) ish.sl with
     |none=>rw[he]at hx;cases hx
     |some z1=>
      cases hh:Rl (BD ish.nx P.l P.r P.args h) ish.ob with
      |none=>rw[he,hh]at hx;cases hx
      |some z2=>
       obtain⟨xe,m1⟩:=z1;obtain⟨xh,m2⟩:=z2;rw[he,hh]at hx;simp only at hx;cases hnn:nodupB ((m1++m2).filterMap Mv.old)with
       |false=>rw[hnn]at hx;cases hx
       |true=>
        rw[hnn]at hx;cases hx;obtain⟨yv,X,a1,a2,a3⟩:=a2D hh hm;obtain⟨xid,hxm,o0,ho0,hmx,ho⟩:=jY a1;have hin:xid∈P.l:=ax7 λhn=>by rw[Iy hn]at hmx;omega
        obtain⟨j,hj⟩:=axY hin;have e:=Av (K:=ish.nx) (k:=0) hnd j xid hj;have hjm:j=m:=by omega
        rw[hjm,hk]at hj;cases hj;cases o0 with
        |obj t v=>
         simp only[xX,PO.obj.injEq]at ho;obtain⟨rfl,ho⟩:=ho;have ho:=eq_of_heq ho;subst ho;have hB:=a5s hnd (K:=ish.nx) (nx:=nx) (by omega) hpl (by rw[hlen];exact hlow) a2;rw[hlen]at hB;have hM:=a6U hpl a2;rw[hM]at a3;have hs:look (Jk osh y) m=some (.obj p.ty (ren (toC ish.nx P.l 0) p.ty v)):=by unfold Jk;rw[bV,show look (Fy osh.ob y.2) m=_ from hkeep.trans a3]
         have hσ:ofC ish.lo nx P.l m=id:=by unfold ofC;rw[show Nat.blt m ish.lo=true from iQ.2 hlo,awL,awC,hk];rfl
         obtain⟨o',ho'⟩:=a2E (τ:=ofC ish.lo nx P.l) hs;rw[hσ]at ho';obtain⟨i,o1,hi1,hi2,hi3⟩:=Tf ho';have him:i=m:=by
          by_cases hilo:i<ish.lo
          ·unfold ofC at hi2;rw[show Nat.blt i ish.lo=true from iQ.2 hilo,awL]at hi2;have hil:i<P.l.length:=by omega
           have hml:m<P.l.length:=by omega
           have e1:P.l[i]?=some id:=by rw[awy hil,hi2,awC,awy hil];rfl
           have t1:=Av (K:=ish.nx) (k:=0) hnd i id e1;have t2:=Av (K:=ish.nx) (k:=0) hnd m id hk;omega
          ·exfalso;unfold ofC at hi2;have hb:Nat.blt i ish.lo=false:=by
            cases hb:Nat.blt i ish.lo with
            |false=>rfl
            |true=>exact absurd (iQ.1 hb) hilo
           rw[hb,awW]at hi2;have:=iQ.1 (hall id hin);omega
         subst him;rw[hs]at hi1;cases hi1;refine⟨.obj p.ty v,?_,ho0⟩;rw[bV,ho',hi3];simp only[xX,hB]
        |_=>simp[xX]at ho
theorem YH {P:Program}{f:FuncId}{vs:List Value}{w:World}{R R':Value->World->Prop}(h:Iq P f vs w R)(g: ∀v w',R v w'->R' v w'):Iq P f vs w R':=by
 rcases h with⟨v,w',h1,h2⟩|⟨h1,h2⟩
 ·exact .inl ⟨v,w',h1,g v w' h2⟩
 ·exact .inr ⟨h1,h2.mono λe w' ⟨v,e1,e2⟩=>⟨v,e1,g v w' e2⟩⟩
theorem a4d {P:Program}{fid:FuncId}{m:Nat}{ish osh:Shape}{f:ish.X->Option (YsS [osh])}(hc:aA P fid (nV ish [osh] f))(hf: ∀x y,f x=some y->a6V m ish osh x y){p:Pat}(hm:look ish.ob m=some p)(hpl:p.plain=true)(hlo:m<ish.lo)(hlow:p.low ish.lo=true)(htd:ish.td=false)(hnx:ish.lo<=ish.nx):
  aA P fid (Tk m ish (nV ish [osh] f)) where
 loc args h h' nx r hh hr:=by
  simp only[Tk]at hh hr⊢;cases hk:wh m ish args h with
  |none=>rw[hk]at hr;cases hr
  |some k=>
   rw[hk]at hr hh;simp only at hr hh;have hk':wh m ish args h'=some k:=by
    unfold wh at hk⊢;cases hp:WA ish args h with
    |none=>rw[hp]at hk;cases hk
    |some P=>
     have hh':=hh;simp only[nV,hp]at hh';rw[a0n hp hh'];rw[hp]at hk;exact hk
   rw[hk'];simp only;have e1:=hc.nat Ans args h nx (λpv u n=>pk pv (MH k u) n);have e2:=hc.nat Ans args h' nx (λpv u n=>pk pv (MH k u) n);rw[e1]at hr;rw[e2];cases h0:(nV ish [osh] f).run args h nx pk with
   |none=>rw[h0]at hr;cases hr
   |some r0=>
    rw[h0]at hr;obtain⟨q1,q2⟩:=hc.loc args h h' nx r0 hh h0;rw[q1,q2];exact⟨hr,rfl⟩
 upd args h nx r hr:=by
  simp only[Tk]at hr⊢;cases hk:wh m ish args h with
  |none=>rw[hk]at hr;cases hr
  |some k=>
   rw[hk]at hr;simp only at hr⊢;rw[hc.nat]at hr;cases h0:(nV ish [osh] f).run args h nx pk with
   |none=>rw[h0]at hr;cases hr
   |some r0=>
    rw[h0]at hr;cases hr;intro x hx;simp only[MH,List.mem_filter]at hx;rcases hc.upd args h nx r0 h0 x hx.1 with h1|h1
    ·exact .inl (List.mem_filter.2 ⟨h1,hx.2⟩)
    ·exact .inr h1
 nat R args h nx K:=by
  simp only[Tk];cases hk:wh m ish args h with
  |none=>rfl
  |some k=>
   simp only;have e1:=hc.nat R args h nx (λpv u n=>K pv (MH k u) n);have e2:=hc.nat Ans args h nx (λpv u n=>pk pv (MH k u) n);rw[e1,e2];cases(nV ish [osh] f).run args h nx pk<;>rfl
 sound B ρ s a w nx args vargs r hR hfr hv hr:=by
  simp only[Tk]at hr;cases hk:wh m ish args s.h with
  |none=>rw[hk]at hr;cases hr
  |some k=>
   rw[hk]at hr;simp only at hr;rw[hc.nat]at hr;cases h0:(nV ish [osh] f).run args s.h nx pk with
   |none=>rw[h0]at hr;cases hr
   |some r0=>
    rw[h0]at hr;cases hr;obtain⟨o,s1,s2⟩:=a5u hf hm hpl hlo hlow htd hnx hk h0;refine YH (hc.sound B ρ s a w nx args vargs r0 hR hfr hv h0) ?_;rintro v w' ⟨ρ',hA⟩;refine⟨ρ',⟨aJ.ext (s:= { s with hp:=r0.2.1++s.hp }) (λi=>?_) hA.rel,hA.later,hA.val,hA.same⟩⟩;simp only;rw[bV,bV,a5t];by_cases hi:i=k
    ·subst hi;rw[awQ rfl,s1];exact s2
    ·rw[awG hi]
open Classical in
noncomputable def OP {α:Type}(r:Option α)(p:α->Prop):Option α:=match r with|some y=>if p y then some y else none|none=>none
theorem Aw {α:Type}{r:Option α}{p:α->Prop}{y:α}(h:OP r p=some y):r=some y/\p y:=by
 unfold OP at h;cases r with
 |none=>cases h
 |some z=>
  simp only at h;split at h
  ·cases h;exact⟨rfl,by assumption⟩
  ·cases h
theorem XB {α:Type}{r:Option α}{p:α->Prop}{y:α}(h:r=some y)(hp:p y):OP r p=some y:=by subst h;unfold OP;simp only;rw[awQ hp]
def XC(pf:Path)(h:Heap)(sid bid vid rid:Nat):List Nat×Bool:=
 match h rid with
 |some o=>match o.get pf with
  |some ⟨.ptr _,.rf c _⟩=>([sid,bid,rid],Nat.beq c vid)
  |_=>([sid,bid,rid],false)
 |none=>([sid,bid,rid],false)
def Ql(pf:Path)(h:Heap)(sid vid bid:Nat):List Nat×Bool:=match h bid with|some (.bag _ _ _ (some out))=>XC pf h sid bid vid out.2|_=>([sid,bid],false)
def Tm(pm pf:Path)(h:Heap)(sid vid:Nat):List Nat×Bool:=
 match h sid with
 |some o=>match o.get pm with
  |some ⟨.mp,some bid⟩=>Ql pf h sid vid bid
  |_=>([sid],false)
 |none=>([sid],false)
def Rm(pm pf:Path)(args:List PV)(h:Heap):List Nat×Bool:=
 match args[(0:Nat)]? with
 |some (.v ⟨.ptr _,.rf sid _⟩)=>match args[(1:Nat)]? with
  |some (.v ⟨.ptr _,.rf vid _⟩)=>Tm pm pf h sid vid
  |_=>([],false)
 |_=>([],false)
theorem XD(pf:Path)(h:Heap)(sid bid vid rid:Nat):(XC pf h sid bid vid rid).1=[sid,bid,rid]:=by
 unfold XC;split
 ·split<;>rfl
 ·rfl
theorem a5v {pf:Path}{h h':Heap}{sid bid vid rid:Nat}(e:h rid=h' rid):XC pf h' sid bid vid rid=XC pf h sid bid vid rid:=by unfold XC;rw[e]
theorem XE(pf:Path)(h:Heap)(sid vid bid:Nat):sid∈(Ql pf h sid vid bid).1/\bid∈(Ql pf h sid vid bid).1:=by
 unfold Ql;split
 ·rw[XD];simp
 ·simp
theorem a5w {pf:Path}{h h':Heap}{sid vid bid:Nat}(hh: ∀id∈(Ql pf h sid vid bid).1,h id=h' id):Ql pf h' sid vid bid=Ql pf h sid vid bid:=by
 have e:=hh bid (XE pf h sid vid bid).2;unfold Ql at hh⊢;rw[<-e];split
 ·rename_i out hb;rw[hb]at hh;simp only at hh;rw[XD]at hh;exact a5v (hh out.2 (by simp))
 ·rfl
theorem a5x(pm pf:Path)(h:Heap)(sid vid:Nat):sid∈(Tm pm pf h sid vid).1:=by
 unfold Tm;split
 ·split
  ·exact(XE pf h sid vid _).1
  ·simp
 ·simp
theorem a5y {pm pf:Path}{h h':Heap}{sid vid:Nat}(hh: ∀id∈(Tm pm pf h sid vid).1,h id=h' id):Tm pm pf h' sid vid=Tm pm pf h sid vid:=by
 have e:=hh sid (a5x pm pf h sid vid);unfold Tm at hh⊢;rw[<-e];split
 ·rename_i o ho;split
  ·rename_i bid hb;rw[ho]at hh;simp only[hb]at hh;exact a5w hh
  ·rfl
 ·rfl
theorem a6W {pm pf:Path}{args:List PV}{h h':Heap}(hh: ∀id∈(Rm pm pf args h).1,h id=h' id):Rm pm pf args h'=Rm pm pf args h:=by
 unfold Rm at hh⊢;split
 ·rename_i t sid p e1;rw[e1]at hh;simp only at hh;split
  ·rename_i t2 vid p2 e2;rw[e2]at hh;exact a5y hh
  ·rfl
 ·rfl
def a2F(pm pf:Path)(a b:Con):Con where
 fp args h:=((Rm pm pf args h).1++(bif (Rm pm pf args h).2 then a.fp args h else b.fp args h).1,(bif (Rm pm pf args h).2 then a.fp args h else b.fp args h).2)
 run args h nx K:=bif (Rm pm pf args h).2 then a.run args h nx K else b.run args h nx K
theorem a4e {P:Program}{f:FuncId}{pm pf:Path}{a b:Con}(ha:aA P f a)(hb:aA P f b):aA P f (a2F pm pf a b) where
 loc args h h' nx r hh hr:=by
  have e:=a6W (pm:=pm) (pf:=pf) (args:=args) (h:=h) (h':=h') λid hid=>hh id (awK _ hid)
  simp only[a2F]at hh hr⊢;rw[e];cases hs:(Rm pm pf args h).2 with
  |true=>
   rw[hs]at hh hr;obtain⟨q1,q2⟩:=ha.loc args h h' nx r (λid hid=>hh id (awE _ hid)) hr;simp only[awL];exact⟨q1,by rw[q2]⟩
  |false=>
   rw[hs]at hh hr;obtain⟨q1,q2⟩:=hb.loc args h h' nx r (λid hid=>hh id (awE _ hid)) hr;simp only[awW];exact⟨q1,by rw[q2]⟩
 upd args h nx r:=by
  simp only[a2F];cases(Rm pm pf args h).2
  ·exact hb.upd args h nx r
  ·exact ha.upd args h nx r
 nat R args h nx K:=by
  simp only[a2F];cases(Rm pm pf args h).2
  ·exact hb.nat R args h nx K
  ·exact ha.nat R args h nx K
 sound B ρ s a0 w nx args vargs r:=by
  simp only[a2F];cases(Rm pm pf args s.h).2
  ·exact hb.sound B ρ s a0 w nx args vargs r
  ·exact ha.sound B ρ s a0 w nx args vargs r
end Go.Den
