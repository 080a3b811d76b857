/-
 One statement, plainly.
-/
import Derived.Test.YtlohbhpbkieoeaaGreatDenM
import Derived.Test.YtlohbhpbkieoeaaGreatDenI
import Derived.Test.YtlohbhpbkieoeaaGreatPlA
import Derived.Test.YtlohbhpbkieoeaaGreatL38
import Derived.Test.YtlohbhpbkieoeaaGreatPlB
import Derived.Test.YtlohbhpbkieoeaaGreatEqA
import Derived.Test.YtlohbhpbkieoeaaGreatDenF
import Derived.Test.YtlohbhpbkieoeaaGreatEqB
set_option linter.unusedVariables false
set_option linter.unusedSimpArgs false
set_option maxRecDepth 100000
set_option maxHeartbeats 0
namespace Go.Pl
end Go.Pl
open Go Go.Den Go.Pl
namespace Go.Pl
open Go.IntKind (i64 u64 u32 u8)
noncomputable def EC(which:Int)(x:IM):Option (Unit):=match(RZ (x.1,(x.2.1,(x.2.2.1,((x.2.2.2.1.1,x.2.2.2.1.2),(x.2.2.2.2.1,x.2.2.2.2.2))))))with|none=>none|some r=>(bif (!r)then(match jH with|none=>none|some r1=>(bif r1 then(some ())else(none)))else(match(CR which)with|none=>none|some r2=>(match(pR ((r2.1.1,r2.1.2),r2.2))with|none=>none|some r3=>(match r3.1 with|none=>(none)|some p=>(match(oV p x.1 x.2.1 x.2.2.1 x.2.2.2.1.1 x.2.2.2.1.2 x.2.2.2.2.1 x.2.2.2.2.2)with|none=>none|some y=>(match y with| .inl y1=>(let r4:=y1.1.2.1;match(CR which)with|none=>none|some r5=>(match(Ub ((r5.1.1,r5.1.2),r5.2))with|none=>none|some r6=>(match(J7 r6 (x.1,(x.2.1,(x.2.2.1,((x.2.2.2.1.1,x.2.2.2.1.2),(x.2.2.2.2.1,x.2.2.2.2.2))))))with|none=>none|some r7=>(bif (r3.2 !=0)then(none)else(bif (!((r4==0)==r7))then(none)else(bif (!(false==r7))then(none)else(bif (r4 !=0)then(bif (r4 !=1)then(none)else(bif (!r7)then(match jH with|none=>none|some r8=>(bif r8 then(some ())else(none)))else(match(iO none)with|none=>none|some r9=>(match(jQ (r9.1,(r9.2.1,(r9.2.2.1,((r9.2.2.2.1.1,r9.2.2.2.1.2),(r9.2.2.2.2.1,r9.2.2.2.2.2))))) (x.1,(x.2.1,(x.2.2.1,((x.2.2.2.1.1,x.2.2.2.1.2),(x.2.2.2.2.1,x.2.2.2.2.2))))))with|none=>none|some r10=>(bif r10 then(match jH with|none=>none|some r11=>(bif r11 then(some ())else(none)))else(none))))))else(bif (!r7)then(match jH with|none=>none|some r12=>(bif r12 then(some ())else(none)))else(match(iO none)with|none=>none|some r13=>(match(jQ (r13.1,(r13.2.1,(r13.2.2.1,((r13.2.2.2.1.1,r13.2.2.2.1.2),(r13.2.2.2.2.1,r13.2.2.2.2.2))))) (x.1,(x.2.1,(x.2.2.1,((x.2.2.2.1.1,x.2.2.2.1.2),(x.2.2.2.2.1,x.2.2.2.2.2))))))with|none=>none|some r14=>(bif r14 then(match jH with|none=>none|some r15=>(bif r15 then(some ())else(none)))else(none))))))))))))| .inr y1=>(let r16:=y1.1.2.1;let o:=y1.2.1.1;let o1:=y1.2.1.2.1;let o2:=y1.2.1.2.2.1;let o3:=y1.2.1.2.2.2.1;let o4:=y1.2.1.2.2.2.2.1;let o5:=y1.2.1.2.2.2.2.2.2.1;let no:=y1.2.1.2.2.2.2.2.2.2.1;let o6:=y1.2.1.2.2.2.2.2.2.2.2;let o7:=y1.2.2.1.1;let o8:=y1.2.2.1.2.1;let no1:=y1.2.2.1.2.2.1.1;let o9:=y1.2.2.1.2.2.1.2;let o10:=y1.2.2.1.2.2.2;match(CR which)with|none=>none|some r17=>(match(Ub ((r17.1.1,r17.1.2),r17.2))with|none=>none|some r18=>(match(J7 r18 (x.1,(x.2.1,(x.2.2.1,((x.2.2.2.1.1,x.2.2.2.1.2),(x.2.2.2.2.1,x.2.2.2.2.2))))))with|none=>none|some r19=>(bif (r3.2 !=0)then(none)else(bif (!((r16==0)==r19))then(none)else(bif (!(true==r19))then(none)else(bif (r16 !=0)then(bif (r16 !=1)then(none)else(bif (!r19)then(match jH with|none=>none|some r20=>(bif r20 then(some ())else(none)))else(match(bQ ((o,(o1,(o2,(o3,(o4,((),(o5,(no,o6)))))))),((o7,(o8,((no1,o9),o10))),())))with|none=>none|some y2=>(let r21:=y2.1.1.1;let r22:=y2.1.1.2.1;let r23:=y2.1.1.2.2.1;let nr:=y2.1.1.2.2.2.1.1;let r24:=y2.1.1.2.2.2.1.2;let nr1:=y2.1.1.2.2.2.2.1;let r25:=y2.1.1.2.2.2.2.2;match(jQ (r21,(r22,(r23,((nr,(λj=>r24 (0+j))),(nr1,(λj=>r25 (0+j))))))) (x.1,(x.2.1,(x.2.2.1,((x.2.2.2.1.1,x.2.2.2.1.2),(x.2.2.2.2.1,x.2.2.2.2.2))))))with|none=>none|some r26=>(bif r26 then(match jH with|none=>none|some r27=>(bif r27 then(some ())else(none)))else(none))))))else(bif (!r19)then(match jH with|none=>none|some r28=>(bif r28 then(some ())else(none)))else(match(bQ ((o,(o1,(o2,(o3,(o4,((),(o5,(no,o6)))))))),((o7,(o8,((no1,o9),o10))),())))with|none=>none|some y3=>(let r29:=y3.1.1.1;let r30:=y3.1.1.2.1;let r31:=y3.1.1.2.2.1;let nr2:=y3.1.1.2.2.2.1.1;let r32:=y3.1.1.2.2.2.1.2;let nr3:=y3.1.1.2.2.2.2.1;let r33:=y3.1.1.2.2.2.2.2;match(jQ (r29,(r30,(r31,((nr2,(λj=>r32 (0+j))),(nr3,(λj=>r33 (0+j))))))) (x.1,(x.2.1,(x.2.2.1,((x.2.2.2.1.1,x.2.2.2.1.2),(x.2.2.2.2.1,x.2.2.2.2.2))))))with|none=>none|some r34=>(bif r34 then(match jH with|none=>none|some r35=>(bif r35 then(some ())else(none)))else(none))))))))))))))))))
end Go.Pl
namespace Go.Proofs.YtlohbhpbkieoeaaGreat
noncomputable def Cm:Cx:=cx [(4,apS),(5,R8),(7,alV),(6,aeU),(8,ahY),(10,ank),(9,aqx),(12,Cy 0 ai9 aia),(11,agR)] []
theorem a6e:av Tryz.prog Cm:=av.of mixed aD (fc ⟨agM,fc ⟨Xj,fc ⟨afc,fc ⟨a7w,fc ⟨a9k,fc ⟨afB,fc ⟨ah0,fc ⟨wQ a9E a9F,fc ⟨a8n,fz⟩⟩⟩⟩⟩⟩⟩⟩⟩) fz
theorem aaA:dU Tryz.prog 3 Tryz.f3 []:=⟨Tryz.func3,Tryz.call3,ah⟩
theorem aaB(which:Int)(x:(Int×(Int×(Int×((Nat×NI)×(Nat×(Nat->(ByteArray×(Z0o×((SlV (Int×((Int×Int)×ByteArray)))×((SlV (Int×((Int×Int)×ByteArray)))×(SlV (Z0o×(Z0o×(Z0o×(Int×Int)))))))))))))))):dJ Cm [] (fD Cm 8) Tryz.f3 (nU [tI,tM] (which,x,())) [] 0 a6C=EC which x:=by kernel_rfl
end Go.Proofs.YtlohbhpbkieoeaaGreat
namespace Go.Pl
open Go Go.Den Go.Num
def awp:Ty:=.pair (.int .i64) (.pair (.int .i64) (.pair (.int .i64) (.pair (.sl (.int .i64)) (.sl a1y))))
open Classical in
theorem a6d {which:Int}{x:IM}(_:Go.Den.Good (.int .i64) which)(h:Go.Den.Good awp (x.1,(x.2.1,(x.2.2.1,(.fz x.2.2.2.1.1 x.2.2.2.1.2,.fz x.2.2.2.2.1 x.2.2.2.2.2))))):EC which x=some ():=by
 obtain⟨_,_,_,h4,h5⟩:=h;have n4:x.2.2.2.1.1<9223372036854775808:=by have:=h4.1;omega
 have n5:x.2.2.2.2.1<9223372036854775808:=by have:=h5.1;omega
 have gr: ∀i,i<x.2.2.2.2.1->Go.Den.Good a1y (x.2.2.2.2.2 i):=h5.2;obtain⟨hx,_⟩:=aix n4 n5 gr;obtain⟨b,hb,hf⟩:=Zo x.1 x.2.1 x.2.2.1 x.2.2.2.1.1 x.2.2.2.1.2 x.2.2.2.2.1 x.2.2.2.2.2 n5 (λk hk=>a9Y (gr k hk));unfold EC;simp only[hb];cases b with
 |false=>simp only[axz,aN,ZC]
 |true=>
 obtain⟨f1,f2,f3⟩:=hf rfl;have hX:=imB gr f3;obtain⟨k,l,ga,g,P,Q,G,hp,hg,p62,q31⟩:=X9 which;have hG:=hg.group;have hO:=a1u hg.k2 (by have:=hg.k8;omega) hg.p hg.q hg.gen (by omega) (by omega) (by have:=hG.gP;omega);have hM:=ZB (P:=P) (Q:=Q) (G:=G) (X:=imS x) hG.pp.1 p62 (by omega) hG.gP f2 f1 hX;have hM':J7 ((P:Int),(Q:Int),(G:Int)) (x.1,(x.2.1,(x.2.2.1,((x.2.2.2.1.1,x.2.2.2.1.2),(x.2.2.2.2.1,x.2.2.2.2.2)))))=_:=hM;have hm:=hg.made;simp only[axc,aM,hp,hm,hO,hM'];rcases a4L (x:=x) (X:=imS x) hG f2 f1 hX with⟨n,e⟩|⟨m,keys,u,k1,k2,k3⟩
 ·rw[ak n];simp only[e,Fh,axG,aM,aN,ZC];rfl
 ·obtain⟨z,z1,z2⟩:=VZ (g:=g) hx f2 f1 hX m k1 k2 (λi=>zNO.2 i);have hs:=Il z1 hx (lI gr);rw[awv rfl]at hs;rw[aG m];have z2':bQ _=some ((z,()),_):=z2;have hs':jQ (z.1,(z.2.1,(z.2.2.1,((z.2.2.2.1.1,(λj=>z.2.2.2.1.2 (0+j))),(z.2.2.2.2.1,(λj=>z.2.2.2.2.2 (0+j))))))) (x.1,(x.2.1,(x.2.2.1,((x.2.2.2.1.1,x.2.2.2.1.2),(x.2.2.2.2.1,x.2.2.2.2.2)))))=some true:=by rw[Ya];exact hs
  simp only[k3,xU,axG,beq_self_eq_true,axc,aM,z2',hs',aN,ZC]
end Go.Pl
