/-
 The plain reading of code: a slice that stands still ahead of a loop.
-/
import Derived.Test.YtldlihheppdhnaaGreatDenL
import Derived.Test.YtldlihheppdhnaaGreatDenH
import Derived.Test.YtldlihheppdhnaaGreatDenI
set_option linter.unusedVariables false
set_option linter.unusedSimpArgs false
namespace Go.Den
def lrB:Path->Bool| []=>true| .L::q=>lrB q| .R::q=>lrB q|_=>false
theorem a7N: ∀ {q:Path} {t u:Ty},lrB q=true->t.at q=some u->t.okP q
 | [],t,u,_,_=>Ty.okP_nil t
 | .L::q,t,u,h,h2=>by cases t<;>simp only[Ty.at,reduceCtorEq]at h2;exact a7N (q:=q) h h2
 | .R::q,t,u,h,h2=>by cases t<;>simp only[Ty.at,reduceCtorEq]at h2;exact a7N (q:=q) h h2
 | .X _::_,_,_,h,_=>by cases h
 | .S _ _::_,_,_,h,_=>by cases h
theorem Qs {cs:List Value}{o n:Nat}(h:o+n<=cs.length):splice cs o ((cs.drop o).take n)=cs:=by
 have hl:((cs.drop o).take n).length=n:=by simp;omega
 apply ayj;intro j;rw[iK (by omega),hl];by_cases hj:o<=j/\j<o+n
 ·rw[axp hj,axI (by omega),axU];congr 1;omega
 ·rw[axi hj]
theorem a7O {P:Program}{f:FuncId}{c:Con}(h: ∀(R:Type) (args:List PV) (hp:Heap) (nx:Nat) (K:K3 R),c.run args hp nx K=none):aA P f c where
 loc args h0 h' nx r hh hr:=by rw[h]at hr;cases hr
 upd args h0 nx r hr:=by rw[h]at hr;cases hr
 nat R args h0 nx K:=by rw[h,h];rfl
 sound B ρ s a w nx args vargs r hr hnx hv hc:=by rw[h]at hc;cases hc
theorem a5T {P:Program}{f:FuncId}{ish:Shape}{outs:List Shape}{g:ish.X->Option (YsS outs)}(hg: ∀x,g x=none):aA P f (lJ ish outs g):=
 a7O λR args hp nx K=>by
  simp only[lJ];split
  ·rename_i p _;cases p.l.all λx=>Nat.blt x nx
   ·rfl
   ·simp only[axy];split
    ·rw[hg]
    ·rfl
  ·rfl
open Go.RowKit
def fzO(s:DS)(ob:Nat)(q:Path):DS:=
 match s.h ob with
 |some (.obj t x)=>match t.get x q with
  |some ⟨.sl u,.ms id [] 0 n⟩=>match lH s.h u id [] 0 n with
   |some y=>match t.set x q (.sl u) y with
    |some z=>bif lrB q then { s with hp:=(ob,.obj t z)::(id,.dead)::s.hp } else s
    |none=>s
   |none=>s
  |_=>s
 |_=>s
def fzV(s:DS)(ob:Nat)(q:Path)(pv:PV):PV:=
 match s.h ob with
 |some (.obj t x)=>match t.get x q with
  |some ⟨.sl u,.ms id [] 0 n⟩=>match lH s.h u id [] 0 n with
   |some y=>match t.set x q (.sl u) y with
    |some z=>bif lrB q then match pv with
      | .v ⟨.sl u',.ms id' [] 0 n'⟩=>if u'=u/\id'=id then match lH s.h u' id' [] 0 n' with
        |some y'=>.v ⟨.sl u',y'⟩
        |none=>pv
       else pv
      |_=>pv
     else pv
    |none=>pv
   |none=>pv
  |_=>pv
 |_=>pv
theorem ab2 {B:Base}{ρ:Rho}{s:DS}{a:Act}{w:World}(hr:aI B ρ s a w)(ob:Nat)(q:Path):(fzO s ob q).nx=s.nx/\(fzO s ob q).n=s.n/\ ∃ρ1,aI B ρ1 (fzO s ob q) a w/\Later ρ w ρ1 w/\ρ1.f=ρ.f/\ ∀pv v,VP ρ w pv v->VP ρ1 w (fzV s ob q pv) v:=by
 have no:s.nx=s.nx/\s.n=s.n/\ ∃ρ1,aI B ρ1 s a w/\Later ρ w ρ1 w/\ρ1.f=ρ.f/\ ∀pv v,VP ρ w pv v->VP ρ1 w pv v:=⟨rfl,rfl,ρ,hr,Later.refl _ _,rfl,λ_ _ h=>h⟩;unfold fzO fzV;split
 ·rename_i t y0 ho;split
  ·rename_i u rid n hg;split
   ·rename_i y hy;split
    ·rename_i z hz;cases hlr:lrB q
     ·exact no
     simp only[axy];obtain⟨o,k,g,hro,hrg,hrb,_⟩:=tY hy;have hne:ob≠rid:=by
      intro e;subst e;rw[ho]at hro;cases hro;simp only[XC,PO.get,Ty.get_nil,axe,Sigma.mk.injEq,azh]at hrg hrb;obtain⟨e,_⟩:=hrg;subst e;cases q with
      |nil=>rw[Ty.get_nil]at hg;cases hg
      |cons st q=>
       have hat:=Ty.at_of_get hg;have hfl: ∀ {q:Path} {t v:Ty},t.flat=true->t.at q=some v->v.flat=true:=by
        intro q
        induction q with
        |nil=>intro t v h1 h2;rw[Ty.at_nil]at h2;cases h2;exact h1
        |cons st q ih=>
         intro t v h1 h2;cases t<;>cases st<;>simp only[Ty.at,reduceCtorEq]at h2
         ·simp only[Ty.flat,axh]at h1;exact ih h1.1 h2
         ·simp only[Ty.flat,axh]at h1;exact ih h1.2 h2
         ·rename_i t0 _;exact ih (t:=t0) h1 h2
         ·rename_i t0 _ m0;exact ih (t:=.arr m0 t0) (by exact h1) h2
       have:=hfl (t:=.arr k u) hrb hat;cases this
     obtain⟨loc,hloc,hor⟩: ∃loc,ρ ob=some loc/\OR ρ w loc (.obj t y0):=by
      rcases hr.obj _ _ ho with(h|⟨_,_,_,_,_,h⟩)|h
      ·cases h
      ·cases h
      ·exact h
     obtain⟨e1,hW,cs,T,hcs,hb,hh⟩:=hor;subst e1;obtain⟨ρ1,g1,g2,g3,g4,g5⟩: ∃ρ1,aI B ρ1 { s with hp:=(rid,.dead)::s.hp } a w/\Later ρ w ρ1 w/\ρ1.f=ρ.f/\(∀b,ρ1.A b->ρ.A b)/\ ∀l0,ρ rid=some l0-> ¬ρ1.A l0.blk:=by
      cases hl:ρ rid with
      |none=>exact⟨ρ,hr.kill rid,Later.refl _ _,rfl,λ_ h=>h,λl0 h=>by cases h⟩
      |some l0=>
       obtain⟨ρ1,h1,h2,h3,h4,h5⟩:=hr.freeze hro (PO.ne_dead hrg) hl;exact⟨ρ1,h1,h2,h3,h4,λl1 h=>by cases h;exact h5⟩
     have ho1:look ({ s with hp:=(rid,.dead)::s.hp } :DS).hp ob=some (.obj loc.ty y0):=by show look ((rid,PO.dead)::s.hp) ob=_;rw[aG,axi (λe=>hne e.symm)];exact ho
     have hl1:ρ1 ob=some loc:=by rw[g3];exact hloc
     have hor1:=g1.live ho1 (by intro e;cases e) hl1;have hp:loc.ty.okP q:=a7N hlr (Ty.at_of_get hg);have hst:=g1.store ho1 (o':=.obj loc.ty z) (by intro e;cases e) (by intro e;cases e) hl1 w rfl (λ_ _=>rfl) rfl rfl rfl (λ_ _=>rfl) (λ_=>by
      obtain⟨e2,hW1,cs1,T1,hcs1,hb1,hh1⟩:=hor1;refine⟨rfl,hW1,cs1,T1,?_,hb1,hh1⟩;have hsub:=hcs1.get hp hg;have hle:=Ty.off_le hp (Ty.at_of_get hg);simp only[Ty.size]at hsub hle;have hcl:=hcs1.length;have hsub0:Rd ρ w (.sl u) (.ms rid [] 0 n) ((cs1.drop (loc.ty.off q)).take 1):=by
       have hcse:cs1=cs:=by rw[hb]at hb1;cases hb1;rfl
       subst hcse;exact hcs.get hp hg
      have h6:=p8 hr ρ1.A g4 g5 hsub0 hy;have h7:=Rd.openIn (ρ:=ρ1) h6;have h8:=hcs1.set hp hz h7;rw[Qs (by omega)]at h8;exact h8)
     obtain⟨hr2,hL⟩:=hst;refine⟨trivial,trivial,ρ1,hr2,g2,g3,λpv v hv=>?_⟩;split
     ·rename_i u' id' n';split
      ·rename_i e;obtain⟨rfl,rfl⟩:=e;split
       ·rename_i y' hy';obtain⟨cs',h3,h4⟩:=hv;exact⟨cs',Rd.openIn (ρ:=ρ1) (p8 hr ρ1.A g4 g5 h3 hy'),h4⟩
       ·exact hv.later g2
      ·exact hv.later g2
     ·exact hv.later g2
    ·exact no
   ·exact no
  ·exact no
 ·exact no
def ab3(ob:Nat)(q:Path):Pre:=⟨λpv s=>(fzV s ob q pv,fzO s ob q),λhr hv=>let⟨_,_,ρ1,h3,h4,_,h6⟩:=ab2 hr ob q;⟨ρ1,h3,h6 _ _ hv,h4⟩⟩
abbrev tG:Ty:=.pair (.pair (.int .i64) (.int .i64)) (.pair .str (.pair (.sl (.sl (.arr 4 (.int .u64)))) (.pair (.sl (.arr 4 (.int .u64))) (.int .i64))))
abbrev tV:Ty:=.pair (.int .i64) (.pair (.pair (.int .i64) (.int .i64)) .str)
end Go.Den
namespace Go.Pl
open Go Go.Den
abbrev GI:Type:=(Int×Int)×(ByteArray×((SlV (SlV (Nat->Int)))×((SlV (Nat->Int))×Int)))
abbrev VO:Type:=Int×((Int×Int)×ByteArray)
abbrev TO:Type:=GI×(GI×(GI×(Int×Int)))
abbrev RE:Type:=ByteArray×(GI×((SlV VO)×((SlV VO)×(SlV TO))))
abbrev GA:Type:=(Int×Int)×(ByteArray×((Nat×(Nat->(SlV (Nat->Int))))×((Nat×(Nat->(Nat->Int)))×Int)))
abbrev IM:Type:=Int×(Int×(Int×((Nat×(Nat->Int))×(Nat×(Nat->RE)))))
abbrev zG:GI:=((0,0),(ByteArray.empty,(.nil,(.nil,0))))
abbrev zV:VO:=(0,((0,0),ByteArray.empty))
abbrev zT:TO:=(zG,(zG,(zG,(0,0))))
end Go.Pl
namespace Go.Den
def C9(i j:Nat)(q:Path)(args:List PV)(h:Heap):Bool:=
 match args[i]? with
 |some (.v ⟨.ptr _,.rf a _⟩)=>match args[j]?,h a with
  |some (.v ⟨.ptr _,.rf b _⟩),some o=>match o.get q with
   |some ⟨.ptr _,.rf c _⟩=>Nat.beq c b
   |_=>false
  |_,_=>false
 |_=>false
theorem a3e: ∀ {args:List PV} {i:Nat} {t:Ty} {a:Nat} {p:Path},args[i]?=some (.v ⟨.ptr t,.rf a p⟩)->a∈bQ args:=by
 intro args
 induction args with
 |nil=>intro i t a p h;simp at h
 |cons x l ih=>
  intro i t a p h;cases i with
  |zero=>
   simp only[axR,axe]at h;subst h;exact axT ..
  |succ i=>
   have:=ih (i:=i) (by simpa using h);unfold bQ;split
   ·rename_i h1;cases h1
   ·rename_i h1;cases h1;exact axl _ this
   ·rename_i h1;cases h1;exact axP _ this
   ·rename_i h1;cases h1;exact axP _ this
   ·rename_i h1;cases h1;exact this
theorem a3f {i j:Nat}{q:Path}{args:List PV}{h h':Heap}(hh: ∀id∈bQ args,h id=h' id):C9 i j q args h'=C9 i j q args h:=by
 unfold C9;split
 ·rename_i a _ he;rw[hh a (a3e he)]
 ·rfl
def a5U(i j:Nat)(q:Path)(a b:Con):Con where
 fp args h:=(bQ args++(bif C9 i j q args h then a.fp args h else b.fp args h).1,(bif C9 i j q args h then a.fp args h else b.fp args h).2)
 run args h nx K:=bif C9 i j q args h then a.run args h nx K else b.run args h nx K
theorem ab4 {P:Program}{f:FuncId}{i j:Nat}{q:Path}{a b:Con}(ha:aA P f a)(hb:aA P f b):aA P f (a5U i j q a b) where
 loc args h h' nx r:=by
  intro hh;have e:=a3f (i:=i) (j:=j) (q:=q) (args:=args) (h:=h) (h':=h') λid hid=>hh id (axt _ hid)
  simp only[a5U]at hh⊢;rw[e];revert hh e;cases C9 i j q args h
  ·intro hh _ hr;obtain⟨h1,h2⟩:=hb.loc args h h' nx r (λid hid=>hh id (axl _ hid)) hr;exact⟨h1,by simp only[axL];rw[h2]⟩
  ·intro hh _ hr;obtain⟨h1,h2⟩:=ha.loc args h h' nx r (λid hid=>hh id (axl _ hid)) hr;exact⟨h1,by simp only[axy];rw[h2]⟩
 upd args h nx r:=by
  simp only[a5U];cases C9 i j q args h
  ·exact hb.upd args h nx r
  ·exact ha.upd args h nx r
 nat R args h nx K:=by
  simp only[a5U];cases C9 i j q args h
  ·exact hb.nat R args h nx K
  ·exact ha.nat R args h nx K
 sound B ρ s a0 w nx args vargs r:=by
  simp only[a5U];cases C9 i j q args s.h
  ·exact hb.sound B ρ s a0 w nx args vargs r
  ·exact ha.sound B ρ s a0 w nx args vargs r
abbrev tVA:Ty:=.pair (.pair (.int .i64) (.int .i64)) (.pair .str (.pair (.st (.sl (.arr 4 (.int .u64)))) (.st (.arr 4 (.int .u64)))))
abbrev tPR:Ty:=.pair tVA (.int .i64)
abbrev tCL:Ty:=.pair (.arr 2 tPR) (.pair tPR (.pair (.int .i64) (.int .i64)))
abbrev tVT:Ty:=.pair (.int .i64) (.arr 7 (.arr 4 (.arr 2 (.pair (.pair (.int .i64) (.int .i64)) .str))))
abbrev tRC:Ty:=.pair tVA (.pair .str (.pair (.ptr tVT) (.pair (.ptr tVT) (.arr 4 tCL))))
abbrev tMS:Ty:=.pair (.int .i64) (.pair (.int .i64) (.pair .str (.pair (.pair (.int .i64) (.int .i64)) (.pair .str (.pair (.sl (.sl (.arr 4 (.int .u64)))) (.sl (.arr 4 (.int .u64))))))))
abbrev tOU:Ty:=.pair (.int .i64) tMS
abbrev tMN:Ty:=.ptr (.pair (.arr 4 (.int .u64)) (.pair (.int .u64) (.pair (.arr 4 (.int .u64)) (.arr 4 (.int .u64)))))
abbrev tGR:Ty:=.pair (.pair tMN tMN) (.arr 4 (.int .u64))
abbrev tSP:Ty:=.pair (.int .i64) (.pair (.int .i64) (.pair (.sl .str) .mp))
abbrev tSV:Ty:=.pair (.ptr tGR) (.pair (.int .i64) (.pair (.int .i64) (.pair (.int .i64) (.pair (.int .i64) (.pair (.ptr tSP) (.pair .mp (.sl tOU)))))))
end Go.Den
namespace Go.Pl
open Go Go.Den
abbrev VA:Type:=(Int×Int)×(ByteArray×((Nat×(Nat->(SlV (Nat->Int))))×(Nat×(Nat->(Nat->Int)))))
abbrev PR:Type:=VA×Int
abbrev CL:Type:=(Nat->PR)×(PR×(Int×Int))
abbrev VT:Type:=Int×(Nat->(Nat->(Nat->((Int×Int)×ByteArray))))
abbrev RC:Type:=VA×(ByteArray×(Unit×(Unit×(Nat->CL))))
abbrev RD:Type:=VA×(ByteArray×((aR VT)×((aR VT)×(Nat->CL))))
abbrev MS:Type:=Int×(Int×(ByteArray×((Int×Int)×(ByteArray×((SlV (SlV (Nat->Int)))×(SlV (Nat->Int)))))))
abbrev OU:Type:=Int×MS
abbrev MN:Type:=aR ((Nat->Int)×(Int×((Nat->Int)×(Nat->Int))))
abbrev GR:Type:=(MN×MN)×(Nat->Int)
abbrev SP:Type:=Int×(Int×((Nat×(Nat->ByteArray))×(List (Int×Int))))
abbrev BG:Type:=List (ByteArray×(RD×(VT×(VT×Unit))))
abbrev SO:Type:=GR×(Int×(Int×(Int×(Int×(Unit×((BG×Nat)×(Nat×(Nat->OU))))))))
abbrev SN:Type:=GR×(Int×(Int×(Int×(Int×(Unit×(BG×(Nat×(Nat->OU))))))))
abbrev SR:Type:=SO×(RC×(VT×(VT×(SP×Unit))))
abbrev SS:Type:=SN×(SP×Unit)
abbrev CR:Type:=RC×(VT×(VT×Unit))
abbrev zSN:Nat->SlV (Nat->Int):=λ_=>.nil
abbrev zNN:Nat->Nat->Int:=λ_ _=>0
abbrev zVA:VA:=((0,0),(ByteArray.empty,((0,zSN),(0,zNN))))
abbrev zPR:PR:=(zVA,0)
abbrev zPS:Nat->PR:=λ_=>zPR
abbrev zCL:CL:=(zPS,(zPR,(0,0)))
abbrev zCS:Nat->CL:=λ_=>zCL
abbrev zOU:OU:=(0,(0,(0,(ByteArray.empty,((0,0),(ByteArray.empty,(.nil,.nil)))))))
abbrev zNO:Nat×(Nat->OU):=(0,λ_=>zOU)
end Go.Pl
namespace Go.Den
def Ty.okB:Ty->Path->Bool|_,[]=>true| .pair a _,.L::p=>a.okB p| .pair _ b,.R::p=>b.okB p| .arr n t,.X i::p=>Nat.blt i n&&t.okB p|_,_=>false
termination_by structural _ p=>p
theorem Ty.okB_ok: ∀ {p:Path} {t:Ty},t.okB p=true->t.okP p:=by
 intro p
 induction p with
 |nil=>intro t _;cases t<;>trivial
 |cons st p ih=>
  intro t h;cases t<;>cases st<;>simp only[Ty.okB,axh,reduceCtorEq,axX]at h
  ·exact ih h
  ·exact ih h
  ·exact⟨lI.1 h.1,ih h.2⟩
def fzR(s:DS)(id:Nat)(q:Path):DS:=
 match s.h id with
 |some (.row false e t n f)=>match(Ty.arr n t).get f q with
  |some ⟨.sl u,.ms rid [] 0 m⟩=>match lH s.h u rid [] 0 m with
   |some y=>match(Ty.arr n t).set f q (.sl u) y with
    |some z=>bif (Ty.arr n t).okB q then { s with hp:=(id,.row false e t n z)::(rid,.dead)::s.hp } else s
    |none=>s
   |none=>s
  |_=>s
 |_=>s
def a7P(s:DS)(id:Nat):DS:=match s.h id with|some (.row false e t n f)=>bif dL (.arr n t) f then { s with hp:=(id,.row true e t n f)::s.hp } else s|_=>s
theorem adS {B:Base}{ρ:Rho}{s:DS}{a:Act}{w:World}(hr:aI B ρ s a w)(id:Nat)(q:Path): ∃ρ1,aI B ρ1 (fzR s id q) a w/\Later ρ w ρ1 w:=by
 have no: ∃ρ1,aI B ρ1 s a w/\Later ρ w ρ1 w:=⟨ρ,hr,Later.refl _ _⟩;unfold fzR;split
 ·rename_i e0 t k0 y0 ho;split
  ·rename_i u rid n hg;split
   ·rename_i y hy;split
    ·rename_i z hz;cases hlr:(Ty.arr k0 t).okB q
     ·exact no
     simp only[axy];obtain⟨o,k,g,hro,hrg,hrb,_⟩:=tY hy;have hne:id≠rid:=by
      intro e;subst e;rw[ho]at hro;cases hro;simp only[XC,PO.get,Ty.get_nil,axe,Sigma.mk.injEq,azh]at hrg hrb;obtain⟨e,_⟩:=hrg;cases e;have hat:=Ty.at_of_get hg;have hfl: ∀ {q:Path} {t v:Ty},t.flat=true->t.at q=some v->v.flat=true:=by
       intro q
       induction q with
       |nil=>intro t v h1 h2;rw[Ty.at_nil]at h2;cases h2;exact h1
       |cons st q ih=>
        intro t v h1 h2;cases t<;>cases st<;>simp only[Ty.at,reduceCtorEq]at h2
        ·simp only[Ty.flat,axh]at h1;exact ih h1.1 h2
        ·simp only[Ty.flat,axh]at h1;exact ih h1.2 h2
        ·rename_i t0 _;exact ih (t:=t0) h1 h2
        ·rename_i t0 _ m0;exact ih (t:=.arr m0 t0) (by exact h1) h2
      have:=hfl (t:=.arr k0 t) (by simpa [Ty.flat]using hrb) hat;cases this
     rcases hr.obj _ _ ho with(h|⟨h0,sh1,e1,t1,f1,h⟩)|⟨loc,hloc,hor⟩
     ·cases h
     ·cases h;have hp:=Ty.okB_ok hlr;cases q with
      |nil=>rw[Ty.get_nil]at hg;cases hg
      |cons st q=>cases st<;>first|exact absurd hp.1 (axS _)|exact hp.elim|(simp[Ty.okB]at hlr)
     obtain⟨e1,hW,cs,sp,hcs,hb,hh⟩:=hor;obtain⟨ρ1,g1,g2,g3,g4,g5⟩: ∃ρ1,aI B ρ1 { s with hp:=(rid,.dead)::s.hp } a w/\Later ρ w ρ1 w/\ρ1.f=ρ.f/\(∀b,ρ1.A b->ρ.A b)/\ ∀l0,ρ rid=some l0-> ¬ρ1.A l0.blk:=by
      cases hl:ρ rid with
      |none=>exact⟨ρ,hr.kill rid,Later.refl _ _,rfl,λ_ h=>h,λl0 h=>by cases h⟩
      |some l0=>
       obtain⟨ρ1,h1,h2,h3,h4,h5⟩:=hr.freeze hro (PO.ne_dead hrg) hl;exact⟨ρ1,h1,h2,h3,h4,λl1 h=>by cases h;exact h5⟩
     have ho1:look ({ s with hp:=(rid,.dead)::s.hp } :DS).hp id=some (.row false e0 t k0 y0):=by show look ((rid,PO.dead)::s.hp) id=_;rw[aG,axi (λe=>hne e.symm)];exact ho
     have hl1:ρ1 id=some loc:=by rw[g3];exact hloc
     have hor1:=g1.live ho1 (by intro e;cases e) hl1;have hp:(Ty.arr k0 t).okP q:=Ty.okB_ok hlr;have hst:=g1.store ho1 (o':=.row false e0 t k0 z) (by intro e;cases e) (by intro e;cases e) hl1 w rfl (λ_ _=>rfl) rfl rfl rfl (λ_ _=>rfl) (λ_=>by
      obtain⟨e2,hW1,cs1,sp1,hcs1,hb1,hh1⟩:=hor1;have hcs1:Rd ρ1 w (.arr k0 t) y0 cs1:=hcs1;have hcs:Rd ρ w (.arr k0 t) y0 cs:=hcs;have hcse:cs1=cs:=by obtain⟨fr,hb,_⟩:=hb;obtain⟨fr1,hb1,_⟩:=hb1;rw[hb]at hb1;simp only[axe,Obj.cells.injEq]at hb1;have:=congrArg Array.toList hb1.1;simp only at this;have hl:=hcs.length;have hl1:=hcs1.length;have h2:=congrArg (List.take cs.length) this;rw[List.take_left' rfl,List.take_left' (by rw[hl1,hl])]at h2;exact h2.symm
      subst hcse;refine⟨e2,hW1,cs1,sp1,?_,hb1,hh1⟩;have hsub:=hcs1.get hp hg;have hle:=Ty.off_le hp (Ty.at_of_get hg);simp only[Ty.size]at hsub hle;have hcl:=hcs1.length;have hsub0:Rd ρ w (.sl u) (.ms rid [] 0 n) ((cs1.drop ((Ty.arr k0 t).off q)).take 1):=hcs.get hp hg;have h6:=p8 hr ρ1.A g4 g5 hsub0 hy;have h7:=Rd.openIn (ρ:=ρ1) h6;have h8:=hcs1.set hp hz h7;simp only[Ty.size]at hcl;rw[Qs (by omega)]at h8;exact h8)
     obtain⟨hr2,hL⟩:=hst;exact⟨ρ1,hr2,g2⟩
    ·exact no
   ·exact no
  ·exact no
 ·exact no
theorem a7Q {B:Base}{ρ:Rho}{s:DS}{a:Act}{w:World}(hr:aI B ρ s a w)(id:Nat): ∃ρ1,aI B ρ1 (a7P s id) a w/\Later ρ w ρ1 w:=by
 have no: ∃ρ1,aI B ρ1 s a w/\Later ρ w ρ1 w:=⟨ρ,hr,Later.refl _ _⟩;unfold a7P;split
 ·rename_i e0 t k0 y0 ho;cases hb:dL (.arr k0 t) y0
  ·exact no
  simp only[axy];rcases hr.obj _ _ ho with(h|⟨h0,sh1,e1,t1,f1,h⟩)|⟨loc,hloc,hor⟩
  ·cases h
  ·cases h;exact⟨ρ,hr.idleRow h0 true e0 t y0,Later.refl _ _⟩
  ·obtain⟨hr2,hL⟩:=hr.store ho (o':=.row true e0 t k0 y0) (by intro e;cases e) (by intro e;cases e) hloc w rfl (λ_ _=>rfl) rfl rfl rfl (λ_ _=>rfl) (λ_=>by obtain⟨e1,hW,cs,sp,hcs,hb1,hh⟩:=hor;exact⟨e1,hW,cs,sp,Rd.atOf (ρ:=ρ) (sh:=true) hcs (by rw[hb];simp),hb1,hh⟩);exact⟨ρ,hr2,Later.refl _ _⟩
 ·exact no
def Z7(pv:PV)(j:Nat):Option Nat:=
 match pv with
 | .tup l=>match l[j]? with
  |some ⟨.sl _,.ms id [] 0 _⟩=>some id
  |_=>none
 |_=>none
def Pre.comp(a b:Pre):Pre:=⟨λpv s=>b.go (a.go pv s).1 (a.go pv s).2,λhr hv=>
 let⟨_,h1,h2,h3⟩:=a.ok hr hv;let⟨ρ2,h4,h5,h6⟩:=b.ok h1 h2
 ⟨ρ2,h4,h5,h3.trans h6⟩⟩
def asD(j:Nat)(q:Path):Pre:=⟨λpv s=>(pv,match Z7 pv j with|some id=>fzR s id q|none=>s),by
 intro B ρ s a w pv v hr hv;cases h:Z7 pv j with
 |none=>exact⟨ρ,hr,hv,Later.refl _ _⟩
 |some id=>obtain⟨ρ1,h1,h2⟩:=adS hr id q;exact⟨ρ1,h1,hv.later h2,h2⟩⟩
def asE(j:Nat):Pre:=⟨λpv s=>(pv,match Z7 pv j with|some id=>a7P s id|none=>s),by
 intro B ρ s a w pv v hr hv;cases h:Z7 pv j with
 |none=>exact⟨ρ,hr,hv,Later.refl _ _⟩
 |some id=>obtain⟨ρ1,h1,h2⟩:=a7Q hr id;exact⟨ρ1,h1,hv.later h2,h2⟩⟩
def a5V(j:Nat)(q:Path):Nat->Pre|0=>asE j|n+1=>(asD j (.X n::q)).comp (a5V j q n)
theorem a4K {α:Type}{c:Bool}{a b:Option α}{y:α}(h:(bif c then a else b)=some y):(c=true/\a=some y)\/b=some y:=by
 cases c
 ·exact .inr h
 ·exact .inl ⟨rfl,h⟩
theorem case2 {t k:Int}{n m:Nat}(h:(t==k&&Nat.beq n m)=true):t=k/\n=m:=by simp only[axh,azV]at h;exact⟨h.1,axO h.2⟩
end Go.Den
