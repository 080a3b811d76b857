/-
 The plain reading of code: a slice that stands still ahead of a loop.
-/
import Derived.Test.YtidodcilgldjoaaGreatDenL
import Derived.Test.YtidodcilgldjoaaGreatDenH
import Derived.Test.YtidodcilgldjoaaGreatDenI
set_option linter.unusedVariables false
set_option linter.unusedSimpArgs false
namespace Go.Den
def lrB:Path→Bool
 | []=>true
 | .L::q=>lrB q
 | .R::q=>lrB q
 |_=>false
theorem a4c: ∀ {q:Path} {t u:Ty},lrB q=true→t.at q=some u→t.okP q
 | [],t,u,_,_=>Ty.okP_nil t
 | .L::q,t,u,h,h2=>by
  cases t<;>simp only[Ty.at,reduceCtorEq]at h2
  exact a4c (q:=q) h h2
 | .R::q,t,u,h,h2=>by
  cases t<;>simp only[Ty.at,reduceCtorEq]at h2
  exact a4c (q:=q) h h2
 | .X _::_,_,_,h,_=>by cases h
 | .S _ _::_,_,_,h,_=>by cases h
theorem WV {cs:List Value} {o n:Nat}(h:o+n≤cs.length):splice cs o ((cs.drop o).take n)=cs:=by
 have hl:((cs.drop o).take n).length=n:=by simp; omega
 apply List.ext_getElem?
 intro j
 rw[iR (by omega),hl]
 by_cases hj:o≤j∧j<o+n
 ·rw[if_pos hj,List.getElem?_take_of_lt (by omega),List.getElem?_drop]; congr 1; omega
 ·rw[if_neg hj]
end Go.Den
namespace Go.Den
end Go.Den
namespace Go.Den
open Go.RowKit
abbrev anF(TB:TypeId)(U:Ty):Ty:=.pair (a4b TB) U
def U3(TB:TypeId)(U:Ty):Con where
 fp args _:=(dL args,dL args)
 run args h nx K:=match args with
  | [.v ⟨.ptr _,.rf id p⟩]=>match h id with
   |some (.obj t _)=>if(t=a4b TB∧p=[])∨(t=anF TB U∧p=[.L])then K (.tup []) [] 0 else none
   |_=>none
  |_=>none
theorem a4d {P:Program} {f:FuncId} {TB:TypeId} {U:Ty}(hent: ∀args w,(callFunc f args).run P w= .ok (.enter f args) w)
  (Hused: ∀(b:Nat) (w:World),w.cell? ⟨b,0,none⟩=some (.pointer (some ⟨b,0,none⟩))→Calls P f #[.pointer (some ⟨b,0,none⟩)] w fun e w'=>e= .returned (.tuple #[])∧w'=w)
  (Hfresh: ∀(b:Nat) (w:World) (T:TypeId) (n:Nat),w.cell? ⟨b,0,none⟩=some (.pointer none)→w.shape? b=some (T,n)→w.frozen? ⟨b,0,none⟩=false→(T=TB∧n=2)∨(T=VK∧n=2+U.size)→Calls P f #[.pointer (some ⟨b,0,none⟩)] w fun e w'=>e= .returned (.tuple #[])∧w'=w.setCell ⟨b,0,none⟩ (.pointer (some ⟨b,0,none⟩))):
  aD P f (U3 TB U) where
 loc args h h' nx r hh hr:=by
  refine⟨?_,rfl⟩
  unfold U3 at hr hh⊢
  simp only at hr hh⊢
  split at hr
  ·rename_i t id p
   rw[←hh id (by simp[dL])]; exact hr
  ·cases hr
 upd args h nx r hr:=by
  unfold U3 at hr
  simp only at hr
  split at hr
  ·split at hr
   ·split at hr
    ·cases hr; intro x hx; cases hx
    ·cases hr
   ·cases hr
  ·cases hr
 nat R args h nx K:=by
  unfold U3
  simp only
  split
  ·split
   ·split<;>rfl
   ·rfl
  ·rfl
 sound B ρ s a w nx args vargs r hr hnx hv h:=by
  unfold U3 at h
  simp only at h
  split at h
  ·rename_i u id p
   split at h
   ·rename_i t x ho
    split at h
    ·rename_i ht
     cases h
     match vargs,hv with
     | [v],⟨hv,_⟩=>
      obtain⟨loc,hloc,hok,hat,_,rfl⟩:=VR.ptrRf hv
      obtain⟨e1,hW,cs,T,hc,hb,hhd⟩:=hr.live ho (by intro e; cases e) hloc
      have hoff:loc.ty.off p=0:=by
       rw[e1]
       rcases ht with⟨rfl,rfl⟩|⟨rfl,rfl⟩
       ·exact Ty.off_nil _
       ·show(a4b TB).off []=0
        exact Ty.off_nil _
      rw[hoff]
      obtain⟨hcell,hsh,hset0,hhd'⟩:(∀v,cs[0]?=some v→v= .pointer none∨v= .pointer (some ⟨loc.blk,0,none⟩))∧((T=TB∧cs.length=2)∨(T=VK∧cs.length=2+U.size))∧
        (∃c0 rest,cs=c0::rest∧ ∀ {ρ':Rho} {w':World} (q:Option Addr),Later ρ w ρ' w'→Rd ρ' w' t x (.pointer q::rest))∧ ∀T0,t.head=some T0→T=T0:=by
       have hl:=hc.length
       rcases ht with⟨rfl,rfl⟩|⟨rfl,rfl⟩
       ·obtain⟨hT,hcell⟩:=hhd TB rfl
        refine⟨hcell,.inl ⟨hT,hl⟩,?_,fun T0 h=>(hhd T0 h).1⟩
        match cs,hl,hc with
        | [c0,c1],_,hc=>exact⟨c0,[c1],rfl,fun q L=>⟨⟨_,rfl,rfl⟩,(show Rd ρ w (.sl (.int .u8)) x.2 [c1]from hc.2).later L⟩⟩
       ·obtain⟨hT,hcell⟩:=hhd VK rfl
        refine⟨hcell,.inr ⟨hT,hl⟩,?_,fun T0 h=>(hhd T0 h).1⟩
        have hl:cs.length=2+U.size:=hl
        match cs,hl,hc with
        |c0::c1::rest,_,hc=>
         refine⟨c0,c1::rest,rfl,fun q L=>⟨⟨⟨_,rfl,rfl⟩,?_⟩,?_⟩⟩
         ·exact(show Rd ρ w (.sl (.int .u8)) x.1.2 [c1]from hc.1.2).later L
         ·exact(show Rd ρ w U x.2 rest from hc.2).later L
        | [c0],hl,_=>simp at hl; omega
        | [],hl,_=>simp at hl; omega
      obtain⟨c0,rest,rfl,hnew⟩:=hset0
      have h0:w.cell? ⟨loc.blk,0,none⟩=some c0:=by simp[World.cell?,hb]
      refine .inr ⟨hent _ _,?_⟩
      rcases hcell c0 rfl with rfl|rfl
      ·refine(Hfresh loc.blk w T (Value.pointer none::rest).length h0 (by simp[World.shape?,hb]) (VT hb _ rfl) hsh).mono ?_
       rintro e w' ⟨rfl,rfl⟩
       refine⟨_,rfl,ρ,?_⟩
       have hset:(w.setCell ⟨loc.blk,0,none⟩ (.pointer (some ⟨loc.blk,0,none⟩))).heap[loc.blk]?=some (.cells (.pointer (some ⟨loc.blk,0,none⟩)::rest).toArray T (0,0)):=by
        simp[World.setCell,Array.getElem?_modify,hb]
       obtain⟨h3,h4⟩:=hr.store ho (by intro e; cases e) (by intro e; cases e) hloc (w.setCell ⟨loc.blk,0,none⟩ (.pointer (some ⟨loc.blk,0,none⟩))) (by simp[World.setCell]) (fun b hb=>by simp[World.setCell,Array.getElem?_modify,Ne.symm hb]) rfl rfl rfl (wu hb hset) (o':=.obj t x)
        (fun L=>⟨e1,hW,(.pointer (some ⟨loc.blk,0,none⟩))::rest,T,hnew _ L,hset,fun T0 h=>⟨hhd' T0 h,fun v hv=>by cases hv; exact .inr rfl⟩⟩)
       refine⟨h3.alike ⟨fun _=>rfl,fun i=>?_,rfl,rfl⟩,h4,⟨[],rfl,trivial⟩,fun _ _=>rfl⟩
       show look ((id,PO.obj t x)::s.hp) i=look s.hp i
       rw[aV]
       split
       ·rename_i e; subst e; exact ho.symm
       ·rfl
      ·refine(Hused loc.blk w h0).mono ?_
       rintro e w' ⟨rfl,rfl⟩
       exact⟨_,rfl,ρ,⟨hr,Later.refl _ _,⟨[],rfl,trivial⟩,fun _ _=>rfl⟩⟩
    ·cases h
   ·cases h
  ·cases h
end Go.Den
namespace Go.Den
def fzO(s:DS)(ob:Nat)(q:Path):DS:=
 match s.h ob with
 |some (.obj t x)=>match t.get x q with
  |some ⟨.sl u,.ms id [] 0 n⟩=>match pW s.h u id [] 0 n with
   |some y=>match t.set x q (.sl u) y with
    |some z=>bif lrB q then { s with hp:=(ob,.obj t z)::(id,.dead)::s.hp } else s
    |none=>s
   |none=>s
  |_=>s
 |_=>s
theorem acW {B:Base} {ρ:Rho} {s:DS} {a:Act} {w:World}(hr:aP B ρ s a w)(ob:Nat)(q:Path):(fzO s ob q).nx=s.nx∧(fzO s ob q).n=s.n∧ ∃ρ1,aP B ρ1 (fzO s ob q) a w∧Later ρ w ρ1 w∧ρ1.f=ρ.f:=by
 have no:s.nx=s.nx∧s.n=s.n∧ ∃ρ1,aP B ρ1 s a w∧Later ρ w ρ1 w∧ρ1.f=ρ.f:=⟨rfl,rfl,ρ,hr,Later.refl _ _,rfl⟩
 unfold fzO
 split
 ·rename_i t y0 ho
  split
  ·rename_i u rid n hg
   split
   ·rename_i y hy
    split
    ·rename_i z hz
     cases hlr:lrB q
     ·exact no
     simp only[cond_true]
     obtain⟨o,k,g,hro,hrg,hrb,_⟩:=sQ hy
     have hne:ob≠rid:=by
      intro e
      subst e
      rw[ho]at hro
      cases hro
      simp only[VL,PO.get,Ty.get_nil,Option.some.injEq,Sigma.mk.injEq,Bool.or_false]at hrg hrb
      obtain⟨e,_⟩:=hrg
      subst e
      cases q with
      |nil=>rw[Ty.get_nil]at hg; cases hg
      |cons st q=>
       have hat:=Ty.at_of_get hg
       have hfl: ∀ {q:Path} {t v:Ty},t.flat=true→t.at q=some v→v.flat=true:=by
        intro q
        induction q with
        |nil=>intro t v h1 h2; rw[Ty.at_nil]at h2; cases h2; exact h1
        |cons st q ih=>
         intro t v h1 h2
         cases t<;>cases st<;>simp only[Ty.at,reduceCtorEq]at h2
         ·simp only[Ty.flat,Bool.and_eq_true]at h1; exact ih h1.1 h2
         ·simp only[Ty.flat,Bool.and_eq_true]at h1; exact ih h1.2 h2
         ·rename_i t0 _; exact ih (t:=t0) h1 h2
         ·rename_i t0 _ m0; exact ih (t:=.arr m0 t0) (by exact h1) h2
       have:=hfl (t:=.arr k u) hrb hat
       cases this
     obtain⟨loc,hloc,hor⟩: ∃loc,ρ ob=some loc∧OR ρ w loc (.obj t y0):=by
      rcases hr.obj _ _ ho with(h|⟨_,_,_,_,_,h⟩)|h
      ·cases h
      ·cases h
      ·exact h
     obtain⟨e1,hW,cs,T,hcs,hb,hh⟩:=hor
     subst e1
     obtain⟨ρ1,g1,g2,g3,g4,g5⟩: ∃ρ1,aP B ρ1 { s with hp:=(rid,.dead)::s.hp } a w∧Later ρ w ρ1 w∧ρ1.f=ρ.f∧(∀b,ρ1.A b→ρ.A b)∧ ∀l0,ρ rid=some l0→ ¬ρ1.A l0.blk:=by
      cases hl:ρ rid with
      |none=>exact⟨ρ,hr.kill rid,Later.refl _ _,rfl,fun _ h=>h,fun l0 h=>by cases h⟩
      |some l0=>
       obtain⟨ρ1,h1,h2,h3,h4,h5⟩:=hr.freeze hro (PO.ne_dead hrg) hl
       exact⟨ρ1,h1,h2,h3,h4,fun l1 h=>by cases h; exact h5⟩
     have ho1:look ({ s with hp:=(rid,.dead)::s.hp } :DS).hp ob=some (.obj loc.ty y0):=by
      show look ((rid,PO.dead)::s.hp) ob=_
      rw[aV,if_neg (fun e=>hne e.symm)]; exact ho
     have hl1:ρ1 ob=some loc:=by rw[g3]; exact hloc
     have hor1:=g1.live ho1 (by intro e; cases e) hl1
     have hp:loc.ty.okP q:=a4c hlr (Ty.at_of_get hg)
     have hst:=g1.store ho1 (o':=.obj loc.ty z) (by intro e; cases e) (by intro e; cases e) hl1 w rfl (fun _ _=>rfl) rfl rfl rfl (fun _ _=>rfl) (fun _=>by
      obtain⟨e2,hW1,cs1,T1,hcs1,hb1,hh1⟩:=hor1
      refine⟨rfl,hW1,cs1,T1,?_,hb1,hh1⟩
      have hsub:=hcs1.get hp hg
      have hle:=Ty.off_le hp (Ty.at_of_get hg)
      simp only[Ty.size]at hsub hle
      have hcl:=hcs1.length
      have hsub0:Rd ρ w (.sl u) (.ms rid [] 0 n) ((cs1.drop (loc.ty.off q)).take 1):=by
       have hcse:cs1=cs:=by
        rw[hb]at hb1; cases hb1; rfl
       subst hcse
       exact hcs.get hp hg
      have h6:=sS hr ρ1.A g4 g5 hsub0 hy
      have h7:=Rd.openIn (ρ:=ρ1) h6
      have h8:=hcs1.set hp hz h7
      rw[WV (by omega)]at h8
      exact h8)
     obtain⟨hr2,hL⟩:=hst
     exact⟨trivial,trivial,ρ1,hr2,g2,g3⟩
    ·exact no
   ·exact no
  ·exact no
 ·exact no
def fzS(s:DS)(t:Nat):DS:=
 match look s.env t with
 |some (.v ⟨.sl u,.ms id [] 0 n⟩)=>match pW s.h u id [] 0 n with
  |some y=> { s with env:=(t,.v ⟨.sl u,y⟩)::s.env,hp:=(id,.dead)::s.hp }
  |none=>s
 |_=>s
theorem acX {B:Base} {ρ:Rho} {s:DS} {a:Act} {w:World}(hr:aP B ρ s a w)(t:Nat):(fzS s t).nx=s.nx∧(fzS s t).n=s.n∧ ∃ρ1,aP B ρ1 (fzS s t) a w∧Later ρ w ρ1 w∧ρ1.f=ρ.f:=by
 have no:s.nx=s.nx∧s.n=s.n∧ ∃ρ1,aP B ρ1 s a w∧Later ρ w ρ1 w∧ρ1.f=ρ.f:=⟨rfl,rfl,ρ,hr,Later.refl _ _,rfl⟩
 unfold fzS
 split
 ·rename_i u rid n he
  split
  ·rename_i y hy
   obtain⟨o,k,g,hro,hrg,hrb,_⟩:=sQ hy
   obtain⟨ρ1,g1,g2,g3,g4,g5⟩: ∃ρ1,aP B ρ1 { s with hp:=(rid,.dead)::s.hp } a w∧Later ρ w ρ1 w∧ρ1.f=ρ.f∧(∀b,ρ1.A b→ρ.A b)∧ ∀l0,ρ rid=some l0→ ¬ρ1.A l0.blk:=by
    cases hl:ρ rid with
    |none=>exact⟨ρ,hr.kill rid,Later.refl _ _,rfl,fun _ h=>h,fun l0 h=>by cases h⟩
    |some l0=>
     obtain⟨ρ1,h1,h2,h3,h4,h5⟩:=hr.freeze hro (PO.ne_dead hrg) hl
     exact⟨ρ1,h1,h2,h3,h4,fun l1 h=>by cases h; exact h5⟩
   refine⟨rfl,rfl,ρ1,⟨g1.defers,g1.tmps,fun t' pv hl=>?_,g1.obj,g1.inj,g1.own,g1.ownA,g1.base,g1.may⟩,g2,g3⟩
   rw[aV]at hl
   split at hl
   ·rename_i e
    subst e
    cases hl
    obtain⟨v,h1,h2⟩:=hr.env _ _ he
    obtain⟨cs,h3,h4⟩:=h2
    exact⟨v,h1,cs,Rd.openIn (ρ:=ρ1) (sS hr ρ1.A g4 g5 h3 hy),h4⟩
   ·exact g1.env t' pv hl
  ·exact no
 ·exact no
noncomputable def lpB(f:DS→DS)(lp:Lp):Lp where
 run s K:=lp.run s fun e s'=>K e (f s')
theorem a4e {P:Program} {id:Nat} {body:Code} {lp:Lp} {f:DS→DS}(hf: ∀ {B:Base} {ρ:Rho} {s:DS} {a:Act} {w:World},aP B ρ s a w→(f s).nx=s.nx∧(f s).n=s.n∧ ∃ρ1,aP B ρ1 (f s) a w∧Later ρ w ρ1 w∧ρ1.f=ρ.f)
  (ha:bF P id body lp):bF P id body (lpB f lp):=by
 intro R s K x h B ρ a w hr hfr
 refine wp_mono (ha R s _ x h B ρ a w hr hfr) ?_
 rintro e a' w' ⟨s',ρ',p1,p2,p3,p4,p5⟩
 obtain⟨q1,q2,ρ1,q3,q4,q5⟩:=hf p2
 exact⟨f s',ρ1,p1,q3,fun id hid=>by rw[q5]; exact p3 id (by rw[←q1]; exact hid),q2.trans p4,fun hl=>(p5 hl).trans q4⟩
noncomputable def WX(ob:Nat)(q:Path)(lp:Lp):Lp:=lpB (fun s=>fzO s ob q) lp
theorem Ky {P:Program} {id:Nat} {body:Code} {lp:Lp}(ob:Nat)(q:Path)(ha:bF P id body lp):bF P id body (WX ob q lp):=a4e (fun hr=>acW hr ob q) ha
noncomputable def ZX(t:Nat)(lp:Lp):Lp:=lpB (fun s=>fzS s t) lp
theorem Pm {P:Program} {id:Nat} {body:Code} {lp:Lp}(t:Nat)(ha:bF P id body lp):bF P id body (ZX t lp):=a4e (fun hr=>acX hr t) ha
end Go.Den
namespace Go.Den
abbrev tG:Ty:=.pair (.pair (.int .i64) (.int .i64)) (.pair .str (.pair (.sl (.sl (.arr 4 (.int .u64)))) (.pair (.sl (.arr 4 (.int .u64))) (.int .i64))))
abbrev tV:Ty:=.pair (.int .i64) (.pair (.pair (.int .i64) (.int .i64)) .str)
abbrev tT:Ty:=.pair tG (.pair tG (.pair tG (.pair (.int .i64) (.int .i64))))
abbrev tR:Ty:=.pair .str (.pair tG (.pair (.sl tV) (.pair (.sl tV) (.sl tT))))
abbrev tM:Ty:=.pair (.int .i64) (.pair (.int .i64) (.pair (.int .i64) (.pair (.sl (.int .i64)) (.sl tR))))
end Go.Den
namespace Go.Pl
open Go Go.Den
abbrev GI:Type:=(Int×Int)×(ByteArray×((SlV (SlV (Nat→Int)))×((SlV (Nat→Int))×Int)))
abbrev VO:Type:=Int×((Int×Int)×ByteArray)
abbrev TO:Type:=GI×(GI×(GI×(Int×Int)))
abbrev RE:Type:=ByteArray×(GI×((SlV VO)×((SlV VO)×(SlV TO))))
abbrev GA:Type:=(Int×Int)×(ByteArray×((Nat×(Nat→(SlV (Nat→Int))))×((Nat×(Nat→(Nat→Int)))×Int)))
abbrev RA:Type:=ByteArray×(GA×((Nat×(Nat→VO))×((Nat×(Nat→VO))×(Nat×(Nat→TO)))))
abbrev IM:Type:=Int×(Int×(Int×((Nat×(Nat→Int))×(Nat×(Nat→RE)))))
abbrev WR:Type:=(Unit×(Nat×(Nat→Int)))×Bool
abbrev zG:GI:=((0,0),(ByteArray.empty,(.nil,(.nil,0))))
abbrev zV:VO:=(0,((0,0),ByteArray.empty))
abbrev zT:TO:=(zG,(zG,(zG,(0,0))))
abbrev zR:RE:=(ByteArray.empty,(zG,(.nil,(.nil,.nil))))
abbrev zI:IM:=(0,(0,(0,((0,(fun _=>0)),(0,(fun _=>zR))))))
end Go.Pl
