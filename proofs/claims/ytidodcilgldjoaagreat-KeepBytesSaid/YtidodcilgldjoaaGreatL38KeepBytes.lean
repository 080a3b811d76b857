/-
 One statement, plainly.
-/
import Derived.Test.YtidodcilgldjoaaGreatDenM
import Derived.Test.YtidodcilgldjoaaGreatDenI
import Derived.Test.YtidodcilgldjoaaGreatPkeep
import Derived.Test.YtidodcilgldjoaaGreatL38
import Derived.Test.YtidodcilgldjoaaGreatPr05
import Derived.Test.YtidodcilgldjoaaGreatPr38
import Derived.Test.YtidodcilgldjoaaGreatEqA
import Derived.Test.YtidodcilgldjoaaGreatEkeep
import Derived.Test.YtidodcilgldjoaaGreatEr05
import Derived.Test.YtidodcilgldjoaaGreatEr38
import Derived.Test.YtidodcilgldjoaaGreatMR
set_option linter.unusedVariables false
set_option linter.unusedSimpArgs false
set_option maxRecDepth 100000
set_option maxHeartbeats 0
namespace Go.Pl
end Go.Pl
open Go Go.Den Go.Pl
namespace Go.Pl
open Go.IntKind (i64 u64 u32 u8)
noncomputable def Ag(x:IM)(s:ByteArray):Option (Unit):=
 match(PE (x.1,(x.2.1,(x.2.2.1,((x.2.2.2.1.1,x.2.2.2.1.2),(x.2.2.2.2.1,x.2.2.2.2.2))))))with
 |none=>none
 |some r=>(
 bif (!r)then(
 match jB with
 |none=>none
 |some r1=>(
 bif r1 then(
 some ())
 else(
 none)))
 else(
 bif (decide ((((ByteArray.size s):Nat):Int)>2048))then(
 match jB with
 |none=>none
 |some r2=>(
 bif r2 then(
 some ())
 else(
 none)))
 else(
 match(oZ (x.1,(x.2.1,(x.2.2.1,((x.2.2.2.1.1,x.2.2.2.1.2),(x.2.2.2.2.1,x.2.2.2.2.2))))))with
 |none=>none
 |some r3=>(
 match(LG (x.1,(x.2.1,(x.2.2.1,((x.2.2.2.1.1,x.2.2.2.1.2),(x.2.2.2.2.1,x.2.2.2.2.2))))))with
 |none=>none
 |some r4=>(
 match(qc s)with
 |none=>none
 |some r5=>(
 match(Gw s)with
 |none=>none
 |some r6=>(
 match(CK (x.1,(x.2.1,(x.2.2.1,((x.2.2.2.1.1,x.2.2.2.1.2),(x.2.2.2.2.1,x.2.2.2.2.2))))))with
 |none=>none
 |some r7=>(
 match(nT s)with
 |none=>none
 |some r8=>(
 match(LM s)with
 |none=>none
 |some r9=>(
 bif (!(sEq r3.1 r4.1))then(
 none)
 else(
 bif (r3.2 !=r4.2)then(
 none)
 else(
 match(bV (r5.1.1,(r5.1.2.1,(r5.1.2.2.1,((r5.1.2.2.2.1.1,r5.1.2.2.2.1.2),(r5.1.2.2.2.2.1,r5.1.2.2.2.2.2))))) (r6.1.1,(r6.1.2.1,(r6.1.2.2.1,((r6.1.2.2.2.1.1,r6.1.2.2.2.1.2),(r6.1.2.2.2.2.1,r6.1.2.2.2.2.2))))))with
 |none=>none
 |some r10=>(
 bif (!r10)then(
 none)
 else(
 bif (r5.2 !=r6.2)then(
 none)
 else(
 bif (r7.2 !=r3.2)then(
 none)
 else(
 bif (r3.2==0)then(
 match(tY r3.1)with
 |none=>none
 |some r11=>(
 bif (decide (((((ByteArray.size r3.1)+(ByteArray.size r11)):Nat):Int)>IntKind.i64.max))then(
 none)
 else(
 bif (!(sEq r7.1 (r3.1++r11)))then(
 none)
 else(
 match(bV (r8.1.1,(r8.1.2.1,(r8.1.2.2.1,((r8.1.2.2.2.1.1,r8.1.2.2.2.1.2),(r8.1.2.2.2.2.1,r8.1.2.2.2.2.2))))) (r9.1.1,(r9.1.2.1,(r9.1.2.2.1,((r9.1.2.2.2.1.1,r9.1.2.2.2.1.2),(r9.1.2.2.2.2.1,r9.1.2.2.2.2.2))))))with
 |none=>none
 |some r12=>(
 bif (!r12)then(
 none)
 else(
 bif (r8.2 !=r9.2)then(
 none)
 else(
 bif (r5.2==0)then(
 match(oZ (r5.1.1,(r5.1.2.1,(r5.1.2.2.1,((r5.1.2.2.2.1.1,r5.1.2.2.2.1.2),(r5.1.2.2.2.2.1,r5.1.2.2.2.2.2))))))with
 |none=>none
 |some r13=>(
 bif (!(sEq r13.1 s))then(
 none)
 else(
 bif (r13.2 !=0)then(
 none)
 else(
 match(qc r3.1)with
 |none=>none
 |some r14=>(
 match(nT r7.1)with
 |none=>none
 |some r15=>(
 bif (r3.2 !=0)then(
 match jB with
 |none=>none
 |some r16=>(
 bif r16 then(
 some ())
 else(
 none)))
 else(
 bif (r14.2==0)then(
 bif (r15.2==0)then(
 match(bV (r14.1.1,(r14.1.2.1,(r14.1.2.2.1,((r14.1.2.2.2.1.1,r14.1.2.2.2.1.2),(r14.1.2.2.2.2.1,r14.1.2.2.2.2.2))))) (x.1,(x.2.1,(x.2.2.1,((x.2.2.2.1.1,x.2.2.2.1.2),(x.2.2.2.2.1,x.2.2.2.2.2))))))with
 |none=>none
 |some r17=>(
 bif r17 then(
 match(bV (r15.1.1,(r15.1.2.1,(r15.1.2.2.1,((r15.1.2.2.2.1.1,r15.1.2.2.2.1.2),(r15.1.2.2.2.2.1,r15.1.2.2.2.2.2))))) (x.1,(x.2.1,(x.2.2.1,((x.2.2.2.1.1,x.2.2.2.1.2),(x.2.2.2.2.1,x.2.2.2.2.2))))))with
 |none=>none
 |some r18=>(
 bif r18 then(
 match jB with
 |none=>none
 |some r19=>(
 bif r19 then(
 some ())
 else(
 none)))
 else(
 none)))
 else(
 none)))
 else(
 none))
 else(
 none))))))))
 else(
 match(qc r3.1)with
 |none=>none
 |some r20=>(
 match(nT r7.1)with
 |none=>none
 |some r21=>(
 bif (r3.2 !=0)then(
 match jB with
 |none=>none
 |some r22=>(
 bif r22 then(
 some ())
 else(
 none)))
 else(
 bif (r20.2==0)then(
 bif (r21.2==0)then(
 match(bV (r20.1.1,(r20.1.2.1,(r20.1.2.2.1,((r20.1.2.2.2.1.1,r20.1.2.2.2.1.2),(r20.1.2.2.2.2.1,r20.1.2.2.2.2.2))))) (x.1,(x.2.1,(x.2.2.1,((x.2.2.2.1.1,x.2.2.2.1.2),(x.2.2.2.2.1,x.2.2.2.2.2))))))with
 |none=>none
 |some r23=>(
 bif r23 then(
 match(bV (r21.1.1,(r21.1.2.1,(r21.1.2.2.1,((r21.1.2.2.2.1.1,r21.1.2.2.2.1.2),(r21.1.2.2.2.2.1,r21.1.2.2.2.2.2))))) (x.1,(x.2.1,(x.2.2.1,((x.2.2.2.1.1,x.2.2.2.1.2),(x.2.2.2.2.1,x.2.2.2.2.2))))))with
 |none=>none
 |some r24=>(
 bif r24 then(
 match jB with
 |none=>none
 |some r25=>(
 bif r25 then(
 some ())
 else(
 none)))
 else(
 none)))
 else(
 none)))
 else(
 none))
 else(
 none))))))))))))
 else(
 match(bV (r8.1.1,(r8.1.2.1,(r8.1.2.2.1,((r8.1.2.2.2.1.1,r8.1.2.2.2.1.2),(r8.1.2.2.2.2.1,r8.1.2.2.2.2.2))))) (r9.1.1,(r9.1.2.1,(r9.1.2.2.1,((r9.1.2.2.2.1.1,r9.1.2.2.2.1.2),(r9.1.2.2.2.2.1,r9.1.2.2.2.2.2))))))with
 |none=>none
 |some r26=>(
 bif (!r26)then(
 none)
 else(
 bif (r8.2 !=r9.2)then(
 none)
 else(
 bif (r5.2==0)then(
 match(oZ (r5.1.1,(r5.1.2.1,(r5.1.2.2.1,((r5.1.2.2.2.1.1,r5.1.2.2.2.1.2),(r5.1.2.2.2.2.1,r5.1.2.2.2.2.2))))))with
 |none=>none
 |some r27=>(
 bif (!(sEq r27.1 s))then(
 none)
 else(
 bif (r27.2 !=0)then(
 none)
 else(
 match(qc r3.1)with
 |none=>none
 |some r28=>(
 match(nT r7.1)with
 |none=>none
 |some r29=>(
 bif (r3.2 !=0)then(
 match jB with
 |none=>none
 |some r30=>(
 bif r30 then(
 some ())
 else(
 none)))
 else(
 bif (r28.2==0)then(
 bif (r29.2==0)then(
 match(bV (r28.1.1,(r28.1.2.1,(r28.1.2.2.1,((r28.1.2.2.2.1.1,r28.1.2.2.2.1.2),(r28.1.2.2.2.2.1,r28.1.2.2.2.2.2))))) (x.1,(x.2.1,(x.2.2.1,((x.2.2.2.1.1,x.2.2.2.1.2),(x.2.2.2.2.1,x.2.2.2.2.2))))))with
 |none=>none
 |some r31=>(
 bif r31 then(
 match(bV (r29.1.1,(r29.1.2.1,(r29.1.2.2.1,((r29.1.2.2.2.1.1,r29.1.2.2.2.1.2),(r29.1.2.2.2.2.1,r29.1.2.2.2.2.2))))) (x.1,(x.2.1,(x.2.2.1,((x.2.2.2.1.1,x.2.2.2.1.2),(x.2.2.2.2.1,x.2.2.2.2.2))))))with
 |none=>none
 |some r32=>(
 bif r32 then(
 match jB with
 |none=>none
 |some r33=>(
 bif r33 then(
 some ())
 else(
 none)))
 else(
 none)))
 else(
 none)))
 else(
 none))
 else(
 none))))))))
 else(
 match(qc r3.1)with
 |none=>none
 |some r34=>(
 match(nT r7.1)with
 |none=>none
 |some r35=>(
 bif (r3.2 !=0)then(
 match jB with
 |none=>none
 |some r36=>(
 bif r36 then(
 some ())
 else(
 none)))
 else(
 bif (r34.2==0)then(
 bif (r35.2==0)then(
 match(bV (r34.1.1,(r34.1.2.1,(r34.1.2.2.1,((r34.1.2.2.2.1.1,r34.1.2.2.2.1.2),(r34.1.2.2.2.2.1,r34.1.2.2.2.2.2))))) (x.1,(x.2.1,(x.2.2.1,((x.2.2.2.1.1,x.2.2.2.1.2),(x.2.2.2.2.1,x.2.2.2.2.2))))))with
 |none=>none
 |some r37=>(
 bif r37 then(
 match(bV (r35.1.1,(r35.1.2.1,(r35.1.2.2.1,((r35.1.2.2.2.1.1,r35.1.2.2.2.1.2),(r35.1.2.2.2.2.1,r35.1.2.2.2.2.2))))) (x.1,(x.2.1,(x.2.2.1,((x.2.2.2.1.1,x.2.2.2.1.2),(x.2.2.2.2.1,x.2.2.2.2.2))))))with
 |none=>none
 |some r38=>(
 bif r38 then(
 match jB with
 |none=>none
 |some r39=>(
 bif r39 then(
 some ())
 else(
 none)))
 else(
 none)))
 else(
 none)))
 else(
 none))
 else(
 none)))))))))))))))))))))))))
end Go.Pl
namespace Go.Proofs.YtidodcilgldjoaaGreat
noncomputable def x_l38_KeepBytes:Cx:= { ti:=ti,con:=[(6,amj),(7,OI),(8,ag3),(9,amS),(10,afJ),(11,agW),(12,alq),(13,afM),(14,anj),(15,agA),(16,aaf)],fns:=[],un:=6 }
theorem xok_l38_KeepBytes:ay Tryz.prog x_l38_KeepBytes:=ay.of mixed aK (fc ⟨agu,fc ⟨TL,fc ⟨a7r,fc ⟨agJ,fc ⟨a6U,fc ⟨a95,fc ⟨ag6,fc ⟨a6V,fc ⟨agZ,fc ⟨a8r,fc ⟨a0x,fz⟩⟩⟩⟩⟩⟩⟩⟩⟩⟩⟩) fz
theorem fn_l38_KeepBytes:aY Tryz.prog 3 Tryz.f3 []:=⟨Tryz.func3,Tryz.call3,ah⟩
theorem e_l38_KeepBytes(x:(Int×(Int×(Int×((Nat×NI)×(Nat×(Nat→(ByteArray×(((Int×Int)×(ByteArray×((SlV (SlV NI))×((SlV NI)×Int))))×((SlV (Int×((Int×Int)×ByteArray)))×((SlV (Int×((Int×Int)×ByteArray)))×(SlV (((Int×Int)×(ByteArray×((SlV (SlV NI))×((SlV NI)×Int))))×(((Int×Int)×(ByteArray×((SlV (SlV NI))×((SlV NI)×Int))))×(((Int×Int)×(ByteArray×((SlV (SlV NI))×((SlV NI)×Int))))×(Int×Int))))))))))))))))(s:ByteArray):bodyK x_l38_KeepBytes [] (denF x_l38_KeepBytes 8) Tryz.f3 (domV [tM,.str] (x,s,())) [] 0 kTrue=Ag x s:=by kernel_rfl
end Go.Proofs.YtidodcilgldjoaaGreat
namespace Go.Pl
open Go Go.Den Go.Num
def aqa:Ty:=.pair (.int .i64) (.pair (.int .i64) (.pair (.int .i64) (.pair (.sl (.int .i64)) (.sl a13))))
theorem l38_KeepBytes_true {x:IM} {s:ByteArray}(h:Go.Den.Good aqa (x.1,(x.2.1,(x.2.2.1,(.fz x.2.2.2.1.1 x.2.2.2.1.2,.fz x.2.2.2.2.1 x.2.2.2.2.2))))):Ag x s=some ():=by
 obtain⟨_,_,_,h4,h5⟩:=h
 have n4:x.2.2.2.1.1<9223372036854775808:=by have:=h4.1; omega
 have n5:x.2.2.2.2.1<9223372036854775808:=by have:=h5.1; omega
 have gr: ∀i,i<x.2.2.2.2.1→Go.Den.Good a13 (x.2.2.2.2.2 i):=h5.2
 obtain⟨hx,hw⟩:=ahr n4 n5 gr
 obtain⟨b,hb,hf⟩:=VI x.1 x.2.1 x.2.2.1 x.2.2.2.1.1 x.2.2.2.1.2 x.2.2.2.2.1 x.2.2.2.2.2 n5 (fun k hk=>a9V (gr k hk))
 unfold Ag
 simp only[hb]
 cases b with
 |false=>simp only[Bool.not_false,aJ,Q5]
 |true=>
 obtain⟨f1,f2,f3⟩:=hf rfl
 have hlen:=aaJ gr f1 f2 f3
 generalize imS x=X at hx hw hlen
 by_cases c:s.size>2048
 ·rw[Bool.not_true,aG,bB (by omega)]
  simp only[aJ,Q5]
 have hs:s.size<2^40:=by omega
 have hl:(Nu X).1.length<2^35:=by rw[PW]; simp only; omega
 have p1:oZ (x.1,(x.2.1,(x.2.2.1,((x.2.2.2.1.1,x.2.2.2.1.2),(x.2.2.2.2.1,x.2.2.2.2.2)))))=some (TD X):=BS hx hl
 have p2:LG (x.1,(x.2.1,(x.2.2.1,((x.2.2.2.1.1,x.2.2.2.1.2),(x.2.2.2.2.1,x.2.2.2.2.2)))))=some (TD X):=VA hx hl
 have p3:CK (x.1,(x.2.1,(x.2.2.1,((x.2.2.2.1.1,x.2.2.2.1.2),(x.2.2.2.2.1,x.2.2.2.2.2)))))=_:=Sn hx hl
 obtain⟨y,g,t1,t2⟩:=uI hs
 obtain⟨z,k,u1,u2⟩:=Jv hs
 obtain⟨v,m,v1,v2⟩:=Ad hs
 obtain⟨w,n,w1,w2⟩:=TG hs
 have s1:bV y z=some true∧g=k:=Rd.same (o:=Da (bl s)) t2 u2 a1I
 have s2:bV v w=some true∧m=n:=Rd.same (o:=Mk (bl s)) v2 w2 aaK
 obtain⟨s1,rfl⟩:=s1
 obtain⟨s2,rfl⟩:=s2
 have s1':bV (y.1,(y.2.1,(y.2.2.1,((y.2.2.2.1.1,y.2.2.2.1.2),(y.2.2.2.2.1,y.2.2.2.2.2))))) (z.1,(z.2.1,(z.2.2.1,((z.2.2.2.1.1,z.2.2.2.1.2),(z.2.2.2.2.1,z.2.2.2.2.2)))))=some true:=s1
 have s2':bV (v.1,(v.2.1,(v.2.2.1,((v.2.2.2.1.1,v.2.2.2.1.2),(v.2.2.2.2.1,v.2.2.2.2.2))))) (w.1,(w.2.1,(w.2.2.1,((w.2.2.2.1.1,w.2.2.2.1.2),(w.2.2.2.2.1,w.2.2.2.2.2)))))=some true:=s2
 have c':decide (((s.size:Nat):Int)>2048)=false:=aM (by omega)
 have back:g=0→oZ (y.1,(y.2.1,(y.2.2.1,((y.2.2.2.1.1,y.2.2.2.1.2),(y.2.2.2.2.1,y.2.2.2.2.2)))))=some (s,0):=fun hg=>by
  cases ht:Da (bl s)with
  |none=>rw[ht]at t2; exact absurd (t2.1.symm.trans hg) (by decide)
  |some Y=>
   rw[ht]at t2
   obtain⟨e1,e2⟩:=Sj ht
   have q:oZ y=some (TD Y):=BS t2.2 (by
    rw[PW]; simp only
    rw[e1]; have:s.size=(bl s).length:=rfl
    omega)
   rw[VF,e2,if_pos rfl,e1]at q
   exact q
 have g4:Da (bl s)=none→g=4:=fun h=>by rw[h]at t2; exact t2.1
 have gg:g=0∨g=4:=by
  cases ht:Da (bl s)with
  |none=>rw[ht]at t2; exact .inr t2.1
  |some Y=>rw[ht]at t2; exact .inl t2.1
 rw[VF]at p1 p2
 cases hok:uH X with
 |false=>
  rw[hok]at p1 p2 p3
  obtain⟨a1,a2,a3,_⟩:=uI (s:=ByteArray.mk #[]) (by decide)
  obtain⟨b1,b2,b3,_⟩:=Ad (s:=ByteArray.mk #[]) (by decide)
  have d1:((1:Int)==0)=false:=rfl
  have d2:((1:Int) !=0)=true:=rfl
  simp only[Bool.not_true,aG,c',p1,p2,p3,Bool.false_eq_true,if_false,t1,u1,v1,w1,CY,bne_self_eq_false,s1',d1,s2',a3,b3,d2,aJ,Q5]
  rcases gg with rfl|rfl
  ·simp only[back rfl,beq_self_eq_true,aJ,CY,Bool.not_true,aG,bne_self_eq_false]
  ·rfl
 |true=>
  rw[hok]at p1 p2 p3
  have hb:bl (⟨(nH X).toArray⟩:ByteArray)=nH X:=RZ _
  have hz:(⟨(nH X).toArray⟩:ByteArray).size=(nH X).length:=rfl
  have hd:(yV (nH X)).size=32:=by rw[fT]; exact VG _
  have hsum:=Eo (s:=⟨(nH X).toArray⟩) (by rw[hz]; omega)
  rw[hb]at hsum
  obtain⟨a1,a2,a3,a4⟩:=uI (s:=⟨(nH X).toArray⟩) (by rw[hz]; omega)
  rw[hb,Um hok hw]at a4
  have hbs:bl ((⟨(nH X).toArray⟩:ByteArray)++yV (nH X))=nH X++bl (yV (nH X)):=by rw[Ih,hb]
  obtain⟨b1,b2,b3,b4⟩:=Ad (s:=(⟨(nH X).toArray⟩:ByteArray)++yV (nH X)) (by
   rw[fT,hbs,List.length_append,VG]; omega)
  rw[hbs,Zm hok hw]at b4
  obtain⟨rfl,a5⟩:=a4
  obtain⟨rfl,b5⟩:=b4
  have e1:bV (a1.1,(a1.2.1,(a1.2.2.1,((a1.2.2.2.1.1,a1.2.2.2.1.2),(a1.2.2.2.2.1,a1.2.2.2.2.2))))) (x.1,(x.2.1,(x.2.2.1,((x.2.2.2.1.1,x.2.2.2.1.2),(x.2.2.2.2.1,x.2.2.2.2.2)))))=some true:=Io a5 hx hok
  have e2:bV (b1.1,(b1.2.1,(b1.2.2.1,((b1.2.2.2.1.1,b1.2.2.2.1.2),(b1.2.2.2.2.1,b1.2.2.2.2.2))))) (x.1,(x.2.1,(x.2.2.1,((x.2.2.2.1.1,x.2.2.2.1.2),(x.2.2.2.2.1,x.2.2.2.2.2)))))=some true:=Io b5 hx hok
  have d:decide (((((⟨(nH X).toArray⟩:ByteArray).size+(yV (nH X)).size:Nat)):Int)>IntKind.i64.max)=false:=aM (by
   have:IntKind.i64.max=9223372036854775807:=rfl
   rw[hz,hd]; omega)
  simp only[Bool.not_true,aG,c',p1,p2,p3,if_true,t1,u1,v1,w1,CY,bne_self_eq_false,s1',beq_self_eq_true,aJ,hsum,d,s2',a3,b3,e1,e2,Q5]
  rcases gg with rfl|rfl
  ·simp only[back rfl,beq_self_eq_true,aJ,CY,Bool.not_true,aG,bne_self_eq_false]
  ·rfl
end Go.Pl
