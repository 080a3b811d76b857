/-
 What the statements of a layer share.
-/
import Derived.Test.YtlohbhpbkieoeaaGreatDenI
import Derived.Test.YtlohbhpbkieoeaaGreatPlA
import Derived.Test.YtlohbhpbkieoeaaGreatPlB
import Derived.Test.YtlohbhpbkieoeaaGreatEqA
import Derived.Test.YtlohbhpbkieoeaaGreatLib
import Derived.Test.YtlohbhpbkieoeaaGreatDenF
import Derived.Test.YtlohbhpbkieoeaaGreatEqB
import Derived.Test.YtlohbhpbkieoeaaGreatMF
import Derived.Test.YtlohbhpbkieoeaaGreatMD
import Derived.Test.YtlohbhpbkieoeaaGreatMH
set_option linter.unusedVariables false
set_option linter.unusedSimpArgs false
set_option maxRecDepth 100000
set_option maxHeartbeats 0
namespace Go.Pl
end Go.Pl
open Go Go.Den Go.Pl
namespace Go.Pl
open Go.IntKind (i64 u64 u32 u8)
noncomputable def M6:Option (Bool):=match(wz (ByteArray.mk #[1,2,1,5,0,0,0,0,0,0,0,0,0,0,0,0]))with|none=>none|some r=>(bif (decide ((((16+(ByteArray.size r)):Nat):Int)>IntKind.i64.max))then(none)else(bif (decide (((((ByteArray.size ((ByteArray.mk #[1,2,1,5,0,0,0,0,0,0,0,0,0,0,0,0])++r))+1):Nat):Int)>IntKind.i64.max))then(none)else(match(IX (((ByteArray.mk #[1,2,1,5,0,0,0,0,0,0,0,0,0,0,0,0])++r)++(ByteArray.mk #[120])))with|none=>none|some r1=>(match CQ with|none=>none|some r2=>(match(pR ((r2.1.1,r2.1.2),r2.2))with|none=>none|some r3=>(match r3.1 with|none=>(none)|some p=>(match(oV p 1 2 1 5 (upd (upd (upd (upd (upd (λ_=>0) 0 0) 1 0) 2 0) 3 0) 4 0) 0 (λ_=>(ByteArray.empty,(((0,0),(ByteArray.empty,(.nil,(.nil,0)))),(.nil,(.nil,.nil))))))with|none=>none|some y=>(match y with| .inl y1=>(let r4:=y1.1.2.1;match(jQ (1,(2,(1,((5,(upd (upd (upd (upd (upd (λ_=>0) 0 0) 1 0) 2 0) 3 0) 4 0)),(0,(λ_=>(ByteArray.empty,(((0,0),(ByteArray.empty,(.nil,(.nil,0)))),(.nil,(.nil,.nil)))))))))) (1,(2,(1,((5,(λj=>(glue 4 (glue 3 (glue 2 (glue 1 (glue 0 (λ_=>0) (upd (λ_=>0) 0 0)) (upd (λ_=>0) 0 0)) (upd (λ_=>0) 0 0)) (upd (λ_=>0) 0 0)) (upd (λ_=>0) 0 0)) (0+j))),(0,(λ_=>(ByteArray.empty,(((0,0),(ByteArray.empty,(.nil,(.nil,0)))),(.nil,(.nil,.nil)))))))))))with|none=>none|some r5=>(bif r5 then(match(yR (ByteArray.mk #[1,2,1,5,0,0,0,0,0,0,0,0,0,0,0,0]))with|none=>none|some r6=>(bif (decide ((((16+(ByteArray.size r6)):Nat):Int)>IntKind.i64.max))then(none)else(bif (sEq ((ByteArray.mk #[1,2,1,5,0,0,0,0,0,0,0,0,0,0,0,0])++r) ((ByteArray.mk #[1,2,1,5,0,0,0,0,0,0,0,0,0,0,0,0])++r6))then(bif (r1.2==4)then(bif (r3.2==0)then(bif (r4==0)then(match(iO none)with|none=>none|some r7=>(match(jQ (r7.1,(r7.2.1,(r7.2.2.1,((r7.2.2.2.1.1,r7.2.2.2.1.2),(r7.2.2.2.2.1,r7.2.2.2.2.2))))) (1,(2,(1,((5,(upd (upd (upd (upd (upd (λ_=>0) 0 0) 1 0) 2 0) 3 0) 4 0)),(0,(λ_=>(ByteArray.empty,(((0,0),(ByteArray.empty,(.nil,(.nil,0)))),(.nil,(.nil,.nil)))))))))))with|none=>none|some r8=>(some r8)))else(some false))else(some false))else(some false))else(some false))))else(some false)))| .inr y1=>(let r9:=y1.1.2.1;let o:=y1.2.1.1;let o1:=y1.2.1.2.1;let o2:=y1.2.1.2.2.1;let o3:=y1.2.1.2.2.2.1;let o4:=y1.2.1.2.2.2.2.1;let o5:=y1.2.1.2.2.2.2.2.2.1;let no:=y1.2.1.2.2.2.2.2.2.2.1;let o6:=y1.2.1.2.2.2.2.2.2.2.2;let o7:=y1.2.2.1.1;let o8:=y1.2.2.1.2.1;let no1:=y1.2.2.1.2.2.1.1;let o9:=y1.2.2.1.2.2.1.2;let o10:=y1.2.2.1.2.2.2;match(jQ (1,(2,(1,((5,(upd (upd (upd (upd (upd (λ_=>0) 0 0) 1 0) 2 0) 3 0) 4 0)),(0,(λ_=>(ByteArray.empty,(((0,0),(ByteArray.empty,(.nil,(.nil,0)))),(.nil,(.nil,.nil)))))))))) (1,(2,(1,((5,(λj=>(glue 4 (glue 3 (glue 2 (glue 1 (glue 0 (λ_=>0) (upd (λ_=>0) 0 0)) (upd (λ_=>0) 0 0)) (upd (λ_=>0) 0 0)) (upd (λ_=>0) 0 0)) (upd (λ_=>0) 0 0)) (0+j))),(0,(λ_=>(ByteArray.empty,(((0,0),(ByteArray.empty,(.nil,(.nil,0)))),(.nil,(.nil,.nil)))))))))))with|none=>none|some r10=>(bif r10 then(match(yR (ByteArray.mk #[1,2,1,5,0,0,0,0,0,0,0,0,0,0,0,0]))with|none=>none|some r11=>(bif (decide ((((16+(ByteArray.size r11)):Nat):Int)>IntKind.i64.max))then(none)else(bif (sEq ((ByteArray.mk #[1,2,1,5,0,0,0,0,0,0,0,0,0,0,0,0])++r) ((ByteArray.mk #[1,2,1,5,0,0,0,0,0,0,0,0,0,0,0,0])++r11))then(bif (r1.2==4)then(bif (r3.2==0)then(bif (r9==0)then(match(bQ ((o,(o1,(o2,(o3,(o4,((),(o5,(no,o6)))))))),((o7,(o8,((no1,o9),o10))),())))with|none=>none|some y2=>(let r12:=y2.1.1.1;let r13:=y2.1.1.2.1;let r14:=y2.1.1.2.2.1;let nr:=y2.1.1.2.2.2.1.1;let r15:=y2.1.1.2.2.2.1.2;let nr1:=y2.1.1.2.2.2.2.1;let r16:=y2.1.1.2.2.2.2.2;match(jQ (r12,(r13,(r14,((nr,(λj=>r15 (0+j))),(nr1,(λj=>r16 (0+j))))))) (1,(2,(1,((5,(upd (upd (upd (upd (upd (λ_=>0) 0 0) 1 0) 2 0) 3 0) 4 0)),(0,(λ_=>(ByteArray.empty,(((0,0),(ByteArray.empty,(.nil,(.nil,0)))),(.nil,(.nil,.nil)))))))))))with|none=>none|some r17=>(some r17)))else(some false))else(some false))else(some false))else(some false))))else(some false)))))))))))
noncomputable def jH:=veil M6
theorem Ov:jH=M6:=aj _
end Go.Pl
namespace Go.Proofs.YtlohbhpbkieoeaaGreat
noncomputable section
abbrev dI:Shape:= { sl:=[(0,(.c ⟨(.ptr (.pair (.sp 131) (.sl (.int .u8)))),(.rf 0 [.L])⟩)),(pv 1 (.int .u8))],ob:=[(0,(.p (.p (.v (.sp 131)) (.w 5 (.int .u8) 1)) (.v .bool)))],lo:=1,nx:=2 }
abbrev lq:List Shape:=[{ sl:=[(pv 0 (.sp 0))],ob:=[(0,(.p (.p (.v (.sp 131)) (.w 5 (.int .u8) 4)) (.v .bool)))],lo:=4,nx:=5 }]
def gY:Cx:= { ti:=ti,con:=[(128,Gt)],fns:=[],un:=6,frz:=[22] }
theorem uH:av Tryz.prog gY:=av.of mixed aD (fc ⟨JV,fz⟩) fz
def lu:Con:=nV dI lq λx=>dJ gY [] (fD gY 8) Tryz.f89 ((nC dI.sl x.1).map .v) (Jk dI x) dI.nx (JC 1 lq)
theorem uI:aA Tryz.prog 89 lu:=jB uH 8 ⟨Tryz.func89,Tryz.call89,ah⟩ 1 _ _ _ (by decide) (λ_=>rfl)
abbrev jc:Shape:= { sl:=[(pc 0 (.pair .str .bool) 0),(1,(.v .bool))],ob:=[(pv 0 (.pair .str .bool))],lo:=1,nx:=1 }
abbrev uJ:List Shape:=[{ sl:=[(0,(.v .bool))],ob:=[(pv 0 (.pair .str .bool))],lo:=1,nx:=1 }]
def mq:Cx:= { ti:=ti,con:=[],fns:=[],un:=6,frz:=[22] }
theorem Ck:av Tryz.prog mq:=av.of mixed aD fz fz
def mD:Con:=nV jc uJ λx=>dJ mq [] (fD mq 8) Tryz.f54 ((nC jc.sl x.1).map .v) (Jk jc x) jc.nx (JC 1 uJ)
theorem qV:aA Tryz.prog 54 mD:=jB Ck 8 ⟨Tryz.func54,Tryz.call54,ah⟩ 1 _ _ _ (by decide) (λ_=>rfl)
abbrev jV:Shape:= { sl:=[(pc 0 (.pair .str .bool) 0),(pv 1 tI)],ob:=[(pv 0 (.pair .str .bool))],lo:=1,nx:=1 }
abbrev xA:List Shape:=[{ sl:=[(pv 0 tI)],ob:=[(pv 0 (.pair .str .bool))],lo:=2,nx:=2 }]
def pF:Cx:= { ti:=ti,con:=[(54,mD)],fns:=[(93,Tryz.f93,[])],un:=6,frz:=[22] }
theorem EA:av Tryz.prog pF:=av.of mixed aD (fc ⟨qV,fz⟩) (fc ⟨⟨Tryz.func93,Tryz.call93,ah⟩,fz⟩)
def xB:Con:=nV jV xA λx=>dJ pF [] (fD pF 8) Tryz.f49 ((nC jV.sl x.1).map .v) (Jk jV x) jV.nx (JC 1 xA)
theorem EB:aA Tryz.prog 49 xB:=jB EA 8 ⟨Tryz.func49,Tryz.call49,ah⟩ 1 _ _ _ (by decide) (λ_=>rfl)
def R8:Con:=aO true [] [.bool] λx=>jH
def a1X:Cx:= { ti:=ti,con:=[(89,lu),(49,xB),(54,mD),(55,ab0),(17,aob),(18,af7),(6,aeU),(8,ahY),(11,agR),(19,agr),(12,Cy 0 ai9 aia)],fns:=[(14,Tryz.f14,[]),(46,Tryz.f46,[]),(48,Tryz.f48,[]),(15,Tryz.f15,[]),(50,Tryz.f50,[]),(51,Tryz.f51,[]),(16,Tryz.f16,[])],un:=6,frz:=[22] }
theorem Xi:av Tryz.prog a1X:=av.of mixed aD (fc ⟨uI,fc ⟨EB,fc ⟨qV,fc ⟨a3b,fc ⟨agf,fc ⟨a7x,fc ⟨a7w,fc ⟨a9k,fc ⟨a8n,fc ⟨a7Z,fc ⟨wQ a9E a9F,fz⟩⟩⟩⟩⟩⟩⟩⟩⟩⟩⟩) (fc ⟨⟨Tryz.func14,Tryz.call14,ah⟩,fc ⟨⟨Tryz.func46,Tryz.call46,ah⟩,fc ⟨⟨Tryz.func48,Tryz.call48,ah⟩,fc ⟨⟨Tryz.func15,Tryz.call15,ah⟩,fc ⟨⟨Tryz.func50,Tryz.call50,ah⟩,fc ⟨⟨Tryz.func51,Tryz.call51,ah⟩,fc ⟨⟨Tryz.func16,Tryz.call16,ah⟩,fz⟩⟩⟩⟩⟩⟩⟩)
theorem Xj:aA Tryz.prog 5 R8:=aB Xi 8 ⟨Tryz.func5,Tryz.call5,ah⟩ _ _ _ _ (by decide) (λx=>by rw[Ov];kernel_rfl)
end
end Go.Proofs.YtlohbhpbkieoeaaGreat
namespace Go.Pl
open Go Go.Den Go.Num
def s38:ByteArray:=ByteArray.mk #[1,2,1,5,0,0,0,0,0,0,0,0,0,0,0,0]
def d38:ByteArray:=ByteArray.mk #[139,194,125,75,209,181,99,149,211,121,197,44,186,182,12,234,34,239,55,50,139,16,18,16,118,0,32,247,136,116,166,41]
def z38:ByteArray:=ByteArray.mk #[1,2,1,5,0,0,0,0,0,0,0,0,0,0,0,0,139,194,125,75,209,181,99,149,211,121,197,44,186,182,12,234,34,239,55,50,139,16,18,16,118,0,32,247,136,116,166,41,120]
def e38:ByteArray:=ByteArray.mk #[1,2,1,5,0,0,0,0,0,0,0,0,0,0,0,0,139]
def f38:ByteArray:=ByteArray.mk #[58,20,245,101,198,27,42,192,103,125,213,224,236,98,88,168,229,132,12,246,133,160,60,58,253,157,219,217,234,150,154,148]
def t38:ByteArray:=ByteArray.mk #[194,125,75,209,181,99,149,211,121,197,44,186,182,12,234,34,239,55,50,139,16,18,16,118,0,32,247,136,116,166,41,120]
theorem a4M:Ju (bl s38)=d38:=Cg (by decide+kernel)
theorem abB:Ju (bl e38)=f38:=Cg (by decide+kernel)
theorem aiE:(s38++d38)++ByteArray.mk #[120]=z38:=Cg (by decide+kernel)
theorem asj:z38.extract 0 17=e38:=Cg (by decide+kernel)
theorem asl:z38.extract 17 49=t38:=Cg (by decide+kernel)
theorem abC:wz (ByteArray.mk #[1,2,1,5,0,0,0,0,0,0,0,0,0,0,0,0])=some d38:=by show wz s38=_;rw[Eu (by decide),a4M]
theorem abD:yR (ByteArray.mk #[1,2,1,5,0,0,0,0,0,0,0,0,0,0,0,0])=some d38:=by show yR s38=_;rw[Og (by decide),a4M]
theorem aay: ∃y,IX ((ByteArray.mk #[1,2,1,5,0,0,0,0,0,0,0,0,0,0,0,0]++d38)++ByteArray.mk #[120])=some (y,4):=by
 have hz:(ByteArray.mk #[1,2,1,5,0,0,0,0,0,0,0,0,0,0,0,0]++d38)++ByteArray.mk #[120]=z38:=aiE;rw[hz,Nq];unfold Lx;have e1:IntKind.i64.wrap (((49:Nat):Int)-32)=17:=by decide
 have e2:((17:Int)).toNat=17:=rfl;have e3:z38.size=49:=rfl;have e4:wz e38=some f38:=by rw[Eu (by decide),abB]
 have e5:sEq f38 t38=false:=by
  cases h:sEq f38 t38 with
  |false=>rfl
  |true=>exact absurd (Et.1 h) (by decide+kernel)
 have d1:decide ((17:Int)<0)=false:=rfl;have d2:(decide ((0:Int)<=17)&&decide ((17:Int)<=((49:Nat):Int)))=true:=by decide
 simp only[e3,e1,d1,aM,d2,aN,e2,asj,e4,asl,e5,axz];exact⟨_,rfl⟩
theorem Ya {x:IM} :(x.1,(x.2.1,(x.2.2.1,((x.2.2.2.1.1,(λj=>x.2.2.2.1.2 (0+j))),(x.2.2.2.2.1,(λj=>x.2.2.2.2.2 (0+j)))))))=x:=by simp only[awR]
def Yb:Nat->Int:=upd (upd (upd (upd (upd (λ_=>0) 0 0) 1 0) 2 0) 3 0) 4 0
theorem W9(j:Nat):Yb j=0:=by simp only[Yb,upd,ite_self]
def x38:IM:=(1,(2,(1,((5,Yb),(0,(λ_=>zR))))))
def X38:VL:=⟨1,2,1,[0,0,0,0,0],[]⟩
theorem aaz:a5Y x38 X38:=⟨rfl,rfl,rfl,⟨rfl,λj hj=>by
  have hj:j<5:=hj;rw[show x38.2.2.2.1.2 j=Yb j from rfl,W9]
  match j,hj with
  |0,_=>rfl
  |1,_=>rfl
  |2,_=>rfl
  |3,_=>rfl
  |4,_=>rfl,by decide⟩,⟨rfl,λj hj=>absurd hj (awO _),by decide⟩⟩
theorem abE(P Q G:Nat):a6b P Q G x38 X38:=by
 refine⟨⟨by decide,by decide,by decide⟩,⟨by decide,by decide,λj hj=>?_,λj hj=>absurd hj (awO _),?_⟩,λj hj=>absurd hj (awO _)⟩
 ·rw[show x38.2.2.2.1.2 j=Yb j from rfl,W9];exact⟨Int.le_refl 0,(VB (a:=4) (b:=1) (by decide) _).1⟩
 ·show Ae Yb 5=0;simp only[Ae,W9];rfl
theorem ZC:jH=some true:=by
 obtain⟨g,hg⟩:=Vn;obtain⟨y,hy⟩:=aay;rw[Ov];unfold M6;have d1:decide ((((16+d38.size):Nat):Int)>IntKind.i64.max)=false:=by decide
 have d2:decide (((((ByteArray.size ((ByteArray.mk #[1,2,1,5,0,0,0,0,0,0,0,0,0,0,0,0])++d38))+1):Nat):Int)>IntKind.i64.max)=false:=by decide
 have d3:((4:Int)==4)=true:=rfl;have d4:((0:Int)==0)=true:=rfl;have hX: ∀j,j<x38.2.2.2.2.1->ReB (x38.2.2.2.2.2 j) (X38.recs.getD j r0):=λj hj=>absurd hj (awO _)
 rcases a4L (x:=x38) (X:=X38) hg.group (by decide) (by decide) hX with⟨n,_⟩|⟨m,keys,u,k1,k2,k3⟩
 ·exact absurd (abE _ _ _) n
 obtain⟨z,z1,z2⟩:=VZ (g:=g) aaz (by decide) (by decide) hX m k1 k2 (λi=>zNO.2 i);have hs:=Il z1 aaz (λj hj=>absurd hj (awO _));rw[awv rfl]at hs;have k3':oV g 1 2 1 5 (upd (upd (upd (upd (upd (λ_=>0) 0 0) 1 0) 2 0) 3 0) 4 0) 0 (λ_=>(ByteArray.empty,(((0,0),(ByteArray.empty,(.nil,(.nil,0)))),(.nil,(.nil,.nil)))))=_:=k3;simp only[abC,d1,aM,d2,hy,KG,hg.made,k3',xU,abD,Vr,aN,d3,d4];rw[Vq _ _ _ 5 _ _ _ _ (by decide) (λk hk=>by
  match k,hk with
  |0,_=>rfl
  |1,_=>rfl
  |2,_=>rfl
  |3,_=>rfl
  |4,_=>rfl)]
 simp only[aN];have z2':bQ _=some ((z,()),_):=z2;simp only[z2'];have hs':jQ (z.1,(z.2.1,(z.2.2.1,((z.2.2.2.1.1,(λj=>z.2.2.2.1.2 (0+j))),(z.2.2.2.2.1,(λj=>z.2.2.2.2.2 (0+j))))))) (1,(2,(1,((5,(upd (upd (upd (upd (upd (λ_=>0) 0 0) 1 0) 2 0) 3 0) 4 0)),(0,(λ_=>(ByteArray.empty,(((0,0),(ByteArray.empty,(.nil,(.nil,0)))),(.nil,(.nil,.nil))))))))))=some true:=by rw[Ya];exact hs
 simp only[hs']
end Go.Pl
