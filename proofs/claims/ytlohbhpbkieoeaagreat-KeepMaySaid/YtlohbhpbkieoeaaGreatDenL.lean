/-
 The plain reading of code: what only reads.
-/
import Derived.Test.YtlohbhpbkieoeaaGreatDenK
set_option linter.unusedVariables false
set_option linter.unusedSimpArgs false
namespace Go.Den
def iR(n m e:Int):Int:=if e<1\/IntKind.i64.wrap (n+m)<e then 0 else if e<=n then IntKind.i64.wrap (IntKind.i64.wrap (m*n)*4)else 4
abbrev two(rest:Ty):Ty:=.pair (.int .i64) (.pair (.int .i64) rest)
def OO(rest:Ty)(q:Int->Int->Int->Int):Con where
 fp args _:=(cK args,[])
 run args h nx K:=match args with
  | [.v ⟨.ptr _,.rf id []⟩,.v ⟨.int .i64,e⟩]=>match h id with
   |some (.obj t x)=>if ht:t=two rest then K (.v ⟨.int .i64,q (ht▸x:(two rest).den).1 (ht▸x:(two rest).den).2.1 e⟩) [] 0 else none
   |_=>none
  | [.v ⟨.ptr _,.nil⟩,.v ⟨.int .i64,_⟩]=>K (.v ⟨.int .i64,(0:Int)⟩) [] 0
  | [.v ⟨.ptr t,.fz x⟩,.v ⟨.int .i64,e⟩]=>if ht:t=two rest then K (.v ⟨.int .i64,q (ht▸x:(two rest).den).1 (ht▸x:(two rest).den).2.1 e⟩) [] 0 else none
  |_=>none
theorem a5q {P:Program}{f:FuncId}{rest:Ty}{q:Int->Int->Int->Int}(hent: ∀args w,(callFunc f args).run P w= .ok (.enter f args) w)
  (H: ∀(b o:Nat) (n m e:Int) (w:World),w.cell? ⟨b,o,none⟩=some (.int .i64 n)->w.cell? ⟨b,o+1,none⟩=some (.int .i64 m)->
   Calls P f #[.pointer (some ⟨b,o,none⟩),.int .i64 e] w λr w'=>r= .returned (.int .i64 (q n m e))/\w'.heap=w.heap/\w'.os=w.os/\w'.tape=w.tape/\w'.output=w.output)
  (H0: ∀(e:Int) (w:World),Calls P f #[.pointer none,.int .i64 e] w λr w'=>r= .returned (.int .i64 0)/\w'.heap=w.heap/\w'.os=w.os/\w'.tape=w.tape/\w'.output=w.output):aA P f (OO rest q) where
 loc args h h' nx r hh hr:=by
  refine⟨?_,rfl⟩;unfold OO at hr hh⊢;simp only at hr hh⊢;split at hr
  ·rename_i t id e;rw[<-hh id (by simp[cK])];exact hr
  ·exact hr
  ·exact hr
  ·cases hr
 upd args h nx r hr:=by
  unfold OO at hr;simp only at hr;split at hr
  ·split at hr
   ·split at hr
    ·cases hr;intro x hx;cases hx
    ·cases hr
   ·cases hr
  ·cases hr;intro x hx;cases hx
  ·split at hr
   ·cases hr;intro x hx;cases hx
   ·cases hr
  ·cases hr
 nat R args h nx K:=by
  unfold OO;simp only;split
  ·split
   ·split<;>rfl
   ·rfl
  ·rfl
  ·split<;>rfl
  ·rfl
 sound B ρ s a w nx args vargs r hr hnx hv h:=by
  have same: ∀ {w':World},w'.heap=w.heap->w'.os=w.os->w'.tape=w.tape->w'.output=w.output->aJ B ρ s a w'/\Later ρ w ρ w':=λh1 h2 h3 h4=>
   hr.same (by rw[h1];exact ax2 _) (λb _=>by rw[h1]) h2 h3 h4 (λa _=>by simp only[World.frozen?,h1])
  unfold OO at h;simp only at h;split at h
  ·rename_i u id e;split at h
   ·rename_i t x ho;split at h
    ·rename_i ht;subst ht;cases h
     match vargs,hv with
     | [v,ve],⟨hv,hve,_⟩=>
      have e1:=VR.int hve;subst e1;obtain⟨loc,hloc,hok,hat,_,rfl⟩:=VR.ptrRf hv;obtain⟨e1,hW,cs,T,hc,hb,_⟩:=hr.live ho (by intro e;cases e) hloc;rw[Ty.off_nil];have hl:=hc.length;have c0:cs.take 1=[.int .i64 x.1]:=hc.1;have c1:(cs.drop 1).take 1=[.int .i64 x.2.1]:=hc.2.1;have k0:w.cell? ⟨loc.blk,0,none⟩=some (.int .i64 x.1):=by have h:=congrArg (·[0]?) c0;simp only[awX (show 0<1 by decide)]at h;simp only[World.cell?,hb,axR,h];rfl
      have k1:w.cell? ⟨loc.blk,1,none⟩=some (.int .i64 x.2.1):=by have h:=congrArg (·[0]?) c1;simp only[awX (show 0<1 by decide),axa,axE]at h;simp only[World.cell?,hb,axR,h];rfl
      refine .inr ⟨hent _ _,(H loc.blk 0 _ _ _ w k0 k1).mono ?_⟩;rintro e' w' ⟨rfl,h1,h2,h3,h4⟩;obtain⟨s1,s2⟩:=same h1 h2 h3 h4;exact⟨_,rfl,ρ,s1,s2,VR.mkInt,λ_ _=>rfl⟩
    ·cases h
   ·cases h
  ·cases h
   match vargs,hv with
   | [v,ve],⟨hv,hve,_⟩=>
    have e1:=VR.int hve;subst e1;obtain⟨cs,h1,rfl⟩:=hv;simp only[Rd]at h1;subst h1;refine .inr ⟨hent _ _,(H0 _ w).mono ?_⟩;rintro e' w' ⟨rfl,h1,h2,h3,h4⟩;obtain⟨s1,s2⟩:=same h1 h2 h3 h4;exact⟨_,rfl,ρ,s1,s2,VR.mkInt,λ_ _=>rfl⟩
  ·rename_i u x e;split at h
   ·rename_i ht;subst ht;cases h
    match vargs,hv with
    | [v,ve],⟨hv,hve,_⟩=>
     have e1:=VR.int hve;subst e1;obtain⟨cs,h1,rfl⟩:=hv;obtain⟨b,o,c,rfl,hc,hfz⟩:=h1;have c0:c.take 1=[.int .i64 x.1]:=hc.1;have c1:(c.drop 1).take 1=[.int .i64 x.2.1]:=hc.2.1;have k0:w.cell? ⟨b,o,none⟩=some (.int .i64 x.1):=by have h:=congrArg (·[0]?) c0;simp only[awX (show 0<1 by decide)]at h;exact hfz.2.2 0 _ h
     have k1:w.cell? ⟨b,o+1,none⟩=some (.int .i64 x.2.1):=by have h:=congrArg (·[0]?) c1;simp only[awX (show 0<1 by decide),axa,axE]at h;exact hfz.2.2 1 _ h
     refine .inr ⟨hent _ _,(H b o _ _ _ w k0 k1).mono ?_⟩;rintro e' w' ⟨rfl,h1,h2,h3,h4⟩;obtain⟨s1,s2⟩:=same h1 h2 h3 h4;exact⟨_,rfl,ρ,s1,s2,VR.mkInt,λ_ _=>rfl⟩
   ·cases h
  ·cases h
end Go.Den
