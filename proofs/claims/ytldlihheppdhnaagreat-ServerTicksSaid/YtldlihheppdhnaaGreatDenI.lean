/-
 The plain reading of code: texts joined and repeated, builders.
-/
import Derived.Test.YtldlihheppdhnaaGreatDenG
import Derived.Lib.Join
import Derived.Lib.Repeat
import Derived.Lib.Builder
set_option linter.unusedVariables false
set_option linter.unusedSimpArgs false
namespace Go.Den
open Go.RowKit
abbrev a7K(TB:TypeId):Ty:=.pair (.sp TB) (.sl (.int .u8))
def XT(TB:TypeId):Con where
 fp args _:=(bQ args,bQ args)
 run args h nx K:=match args with
  | [.v ⟨.ptr _,.rf id []⟩]=>match h id with
   |some (.obj t _)=>if t=a7K TB then K (.tup []) [] 0 else none
   |_=>none
  |_=>none
theorem a7L {P:Program}{f:FuncId}{TB:TypeId}(hent: ∀args w,(callFunc f args).run P w= .ok (.enter f args) w)
  (Hused: ∀(b:Nat) (w:World),w.cell? ⟨b,0,none⟩=some (.pointer (some ⟨b,0,none⟩))->Calls P f #[.pointer (some ⟨b,0,none⟩)] w λe w'=>e= .returned (.tuple #[])/\w'=w)
  (Hfresh: ∀(b:Nat) (w:World),w.cell? ⟨b,0,none⟩=some (.pointer none)->w.shape? b=some (TB,2)->w.frozen? ⟨b,0,none⟩=false->Calls P f #[.pointer (some ⟨b,0,none⟩)] w λe w'=>e= .returned (.tuple #[])/\w'=w.setCell ⟨b,0,none⟩ (.pointer (some ⟨b,0,none⟩))):
  aA P f (XT TB) where
 loc args h h' nx r hh hr:=by
  refine⟨?_,rfl⟩;unfold XT at hr hh⊢;simp only at hr hh⊢;split at hr
  ·rename_i t id;rw[<-hh id (by simp[bQ])];exact hr
  ·cases hr
 upd args h nx r hr:=by
  unfold XT at hr;simp only at hr;split at hr
  ·split at hr
   ·split at hr
    ·cases hr;intro x hx;cases hx
    ·cases hr
   ·cases hr
  ·cases hr
 nat R args h nx K:=by
  unfold XT;simp only;split
  ·split
   ·split<;>rfl
   ·rfl
  ·rfl
 sound B ρ s a w nx args vargs r hr hnx hv h:=by
  unfold XT at h;simp only at h;split at h
  ·rename_i u id;split at h
   ·rename_i t x ho;split at h
    ·rename_i ht;subst ht;cases h
     match vargs,hv with
     | [v],⟨hv,_⟩=>
      obtain⟨loc,hloc,hok,hat,_,rfl⟩:=VR.ptrRf hv;obtain⟨e1,hW,cs,T,hc,hb,hhd⟩:=hr.live ho (by intro e;cases e) hloc;rw[Ty.off_nil];obtain⟨hT,hcell⟩:=hhd TB rfl;replace hat:True:=trivial;subst hT;have hl:=hc.length
      match cs,hl with
      | [c0,c1],_=>
       have h0:w.cell? ⟨loc.blk,0,none⟩=some c0:=by simp[World.cell?,hb]
       refine .inr ⟨hent _ _,?_⟩;rcases hcell c0 rfl with rfl|rfl
       ·refine(Hfresh loc.blk w h0 (by simp[World.shape?,hb]) (xI hb _ rfl)).mono ?_;rintro e w' ⟨rfl,rfl⟩;refine⟨_,rfl,ρ,?_⟩;have hset:(w.setCell ⟨loc.blk,0,none⟩ (.pointer (some ⟨loc.blk,0,none⟩))).heap[loc.blk]?=some (.cells #[.pointer (some ⟨loc.blk,0,none⟩),c1] T (0,0)):=by simp[World.setCell,azz,hb]
        obtain⟨h3,h4⟩:=hr.store ho (by intro e;cases e) (by intro e;cases e) hloc (w.setCell ⟨loc.blk,0,none⟩ (.pointer (some ⟨loc.blk,0,none⟩))) (by simp[World.setCell]) (λb hb=>by simp[World.setCell,azz,Ne.symm hb]) rfl rfl rfl (sI hb hset) (o':=.obj (a7K T) x)
         (λL=>⟨e1,hW,[.pointer (some ⟨loc.blk,0,none⟩),c1],T,⟨⟨_,rfl,rfl⟩,(show Rd ρ w (.sl (.int .u8)) x.2 [c1]from hc.2).later L⟩,hset,λT0 h=>⟨(hhd T0 h).1,λv hv=>by cases hv;exact .inr rfl⟩⟩)
        refine⟨h3.alike ⟨λ_=>rfl,λi=>?_,rfl,rfl⟩,h4,⟨[],rfl,trivial⟩,λ_ _=>rfl⟩;show look ((id,PO.obj (a7K T) x)::s.hp) i=look s.hp i;rw[aG];split
        ·rename_i e;subst e;exact ho.symm
        ·rfl
       ·refine(Hused loc.blk w h0).mono ?_;rintro e w' ⟨rfl,rfl⟩;exact⟨_,rfl,ρ,⟨hr,Later.refl _ _,⟨[],rfl,trivial⟩,λ_ _=>rfl⟩⟩
    ·cases h
   ·cases h
  ·cases h
end Go.Den
