/-
 One statement, plainly.
-/
import Derived.Test.YtldlihheppdhnaaGreatDenM
import Derived.Test.YtldlihheppdhnaaGreatDenI
import Derived.Test.YtldlihheppdhnaaGreatL23
import Derived.Test.YtldlihheppdhnaaGreatPlB
import Derived.Test.YtldlihheppdhnaaGreatEqA
import Derived.Test.YtldlihheppdhnaaGreatDenF
import Derived.Test.YtldlihheppdhnaaGreatEqB
set_option linter.unusedVariables false
set_option linter.unusedSimpArgs false
set_option maxRecDepth 100000
set_option maxHeartbeats 0
namespace Go.Pl
end Go.Pl
open Go Go.Den Go.Pl
namespace Go.Pl
open Go.IntKind (i64 u64 u32 u8)
abbrev dP(nl:Nat)(l:Nat→(Int×Z0i))(r:Z0p)(i:Int)(o:Z0x):=(((nl,l),((),((),(r,((),((),((),(i,())))))))),o)
abbrev yw:Type:=((Z0k×(Z0b×(Z00×(Z0b×(Z00×Unit)))))⊕Z0t)
abbrev je(o:(Z0b×(Z00×(Z0b×(Z00×Unit))))):yw:=(.inl (((),((),())),o))
abbrev yx:Type:=(((Nat×(Nat→(Int×Z0i)))×(Unit×(Unit×(Z0p×Z0D))))×Z0x)
noncomputable def bY:yx→Option (yx⊕yw):=fun x=>
 let nl:=x.1.1.1
 let l:=x.1.1.2
 let r:=x.1.2.2.2.1
 let i:=x.1.2.2.2.2.2.2.2.1
 bif (decide (i<((nl:Nat):Int)))then(
 bif (i==(i64.wrap (Int.tdiv ((nl:Nat):Int) 2)))then(
 match(aN x.2.1.1 x.2.2.2.2.2.2.2.1.1 x.2.2.2.2.2.2.2.1.2.1 x.2.2.2.2.2.2.2.1.2.2.1 x.2.2.2.2.2.2.2.1.2.2.2.1 x.2.2.2.2.2.2.2.1.2.2.2.2.1 x.2.2.2.2.2.2.2.1.2.2.2.2.2.1.1 x.2.2.2.2.2.2.2.1.2.2.2.2.2.1.2 x.2.2.2.2.2.2.2.1.2.2.2.2.2.2.1 x.2.2.2.2.2.2.2.1.2.2.2.2.2.2.2 (x.2.2.2.1,(x.2.2.1,())))with
 |none=>none
 |some y=>(
 let nr:=y.1.1.1
 let r1:=y.1.1.2
 let t:=(decide (((nr:Nat):Int)>0))
 bif t then(
 some (.inr (.inr ((false,()),()))))
 else(
 bif (inb i nl)then(
 match(dR x.2.2.2.2.1 r.2.1 r.2.2.1 (l (Int.toNat i)))with
 |none=>none
 |some r2=>(
 bif (inb i nl)then(
 match(aN (l (Int.toNat i)).1 r2.1 r2.2.1 r2.2.2.1 r2.2.2.2.1 r2.2.2.2.2.1 r2.2.2.2.2.2.1.1 r2.2.2.2.2.2.1.2 r2.2.2.2.2.2.2.1 r2.2.2.2.2.2.2.2 (y.2.1,(y.2.2.1,())))with
 |none=>none
 |some y1=>(
 bif (inb i nl)then(
 match(aN (l (Int.toNat i)).1 r2.1 r2.2.1 r2.2.2.1 r2.2.2.2.1 r2.2.2.2.2.1 r2.2.2.2.2.2.1.1 r2.2.2.2.2.2.1.2 r2.2.2.2.2.2.2.1 r2.2.2.2.2.2.2.2 (x.2.2.2.2.2.2.1,(x.2.2.2.2.2.1,())))with
 |none=>none
 |some y2=>(
 match(lq y1.1.1.1 y1.1.1.2 y2.1.1.1 y2.1.1.2)with
 |none=>none
 |some r5=>(
 bif (!r5)then(
 some (.inr (.inr ((false,()),()))))
 else(
 some (.inl (((nl,l),((),((),(r,((),((),((),((i64.wrap (i+1)),())))))))),(x.2.1,(y1.2.2.1,(y1.2.1,(x.2.2.2.2.1,(y2.2.2.1,(y2.2.1,x.2.2.2.2.2.2.2))))))))))))
 else(
 none)))
 else(
 none)))
 else(
 none))))
 else(
 bif (inb i nl)then(
 match(dR x.2.2.2.2.1 r.2.1 r.2.2.1 (l (Int.toNat i)))with
 |none=>none
 |some r6=>(
 bif (inb i nl)then(
 match(aN (l (Int.toNat i)).1 r6.1 r6.2.1 r6.2.2.1 r6.2.2.2.1 r6.2.2.2.2.1 r6.2.2.2.2.2.1.1 r6.2.2.2.2.2.1.2 r6.2.2.2.2.2.2.1 r6.2.2.2.2.2.2.2 (x.2.2.2.1,(x.2.2.1,())))with
 |none=>none
 |some y3=>(
 bif (inb i nl)then(
 match(aN (l (Int.toNat i)).1 r6.1 r6.2.1 r6.2.2.1 r6.2.2.2.1 r6.2.2.2.2.1 r6.2.2.2.2.2.1.1 r6.2.2.2.2.2.1.2 r6.2.2.2.2.2.2.1 r6.2.2.2.2.2.2.2 (x.2.2.2.2.2.2.1,(x.2.2.2.2.2.1,())))with
 |none=>none
 |some y4=>(
 match(lq y3.1.1.1 y3.1.1.2 y4.1.1.1 y4.1.1.2)with
 |none=>none
 |some r9=>(
 bif (!r9)then(
 some (.inr (.inr ((false,()),()))))
 else(
 some (.inl (((nl,l),((),((),(r,((),((),((),((i64.wrap (i+1)),())))))))),(x.2.1,(y3.2.2.1,(y3.2.1,(x.2.2.2.2.1,(y4.2.2.1,(y4.2.1,x.2.2.2.2.2.2.2))))))))))))
 else(
 none)))
 else(
 none)))
 else(
 none)))
 else(
 some (.inr (.inl (((),((),())),(x.2.2.1,(x.2.2.2.1,(x.2.2.2.2.2.1,(x.2.2.2.2.2.2.1,()))))))))
noncomputable def oO(which:Int)(nl:Nat)(l:Nat→(Int×Z0i))(bad:(Int×Z0i)):Option (Unit):=
 match(oN which)with
 |none=>none
 |some y=>(
 let r:=y.1.2.1
 let r1:=y.1.2.2.1
 let r2:=y.1.2.2.2.1
 match(oN which)with
 |none=>none
 |some y1=>(
 let r3:=y1.1.2.1
 let r4:=y1.1.2.2.1
 let r5:=y1.1.2.2.2.1
 let k:Z0t→Option (Unit):=fun x=>(
 let t:=x.1.1
 bif t then(
 bif r2 then(
 bif r5 then(
 match rY with
 |none=>none
 |some r6=>(
 bif r6 then(
 some ())
 else(
 none)))
 else(
 none))
 else(
 none))
 else(
 match(dR r1 r.2.1 r.2.2.1 bad)with
 |none=>none
 |some r7=>(
 let k4:Z0t→Option (Unit):=fun x4=>(
 let wrong:=x4.1.1
 bif (!wrong)then(
 let t4:=(!(sEq r7.2.2.1 (ByteArray.mk #[])))
 bif t4 then(
 match rY with
 |none=>none
 |some r8=>(
 bif r8 then(
 some ())
 else(
 none)))
 else(
 match(aB bY (((nl,l),((),((),(r,((),((),((),(0,())))))))),(bad,(y.2.1,(y.2.2.1,(r1,(y1.2.1,(y1.2.2.1,((r7.1,(r7.2.1,(r7.2.2.1,(r7.2.2.2.1,(r7.2.2.2.2.1,((r7.2.2.2.2.2.1.1,r7.2.2.2.2.2.1.2),(r7.2.2.2.2.2.2.1,r7.2.2.2.2.2.2.2))))))),())))))))))with
 |none=>none
 |some y2=>(
 match y2 with
 | .inl y3=>(
 match(bT ((y3.2.2.1.1,(y3.2.2.1.2.1,(y3.2.2.1.2.2.1,(y3.2.2.1.2.2.2.1,(y3.2.2.1.2.2.2.2.1,((),(y3.2.2.1.2.2.2.2.2.2.1,(y3.2.2.1.2.2.2.2.2.2.2.1,y3.2.2.1.2.2.2.2.2.2.2.2)))))))),((y3.2.1.1,(y3.2.1.2.1,((y3.2.1.2.2.1.1,y3.2.1.2.2.1.2),y3.2.1.2.2.2))),())))with
 |none=>none
 |some y4=>(
 match(bT ((y3.2.2.2.2.1.1,(y3.2.2.2.2.1.2.1,(y3.2.2.2.2.1.2.2.1,(y3.2.2.2.2.1.2.2.2.1,(y3.2.2.2.2.1.2.2.2.2.1,((),(y3.2.2.2.2.1.2.2.2.2.2.2.1,(y3.2.2.2.2.1.2.2.2.2.2.2.2.1,y3.2.2.2.2.1.2.2.2.2.2.2.2.2)))))))),((y3.2.2.2.1.1,(y3.2.2.2.1.2.1,((y3.2.2.2.1.2.2.1.1,y3.2.2.2.1.2.2.1.2),y3.2.2.2.1.2.2.2))),())))with
 |none=>none
 |some y5=>(
 match(lq y4.1.1.1 y4.1.1.2 y5.1.1.1 y5.1.1.2)with
 |none=>none
 |some r11=>(
 bif r11 then(
 match(bS y4.2)with
 |none=>none
 |some y6=>(
 match(bS y5.2)with
 |none=>none
 |some y7=>(
 match(wW y6.1.1.1 y6.1.1.2 y7.1.1.1 y7.1.1.2)with
 |none=>none
 |some r14=>(
 bif r14 then(
 match rY with
 |none=>none
 |some r15=>(
 bif r15 then(
 some ())
 else(
 none)))
 else(
 none)))))
 else(
 none)))))
 | .inr y3=>(
 bif y3.1.1 then(
 some ())
 else(
 none)))))
 else(
 match(aB bY (((nl,l),((),((),(r,((),((),((),(0,())))))))),(bad,(y.2.1,(y.2.2.1,(r1,(y1.2.1,(y1.2.2.1,((r7.1,(r7.2.1,(r7.2.2.1,(r7.2.2.2.1,(r7.2.2.2.2.1,((r7.2.2.2.2.2.1.1,r7.2.2.2.2.2.1.2),(r7.2.2.2.2.2.2.1,r7.2.2.2.2.2.2.2))))))),())))))))))with
 |none=>none
 |some y8=>(
 match y8 with
 | .inl y9=>(
 match(bT ((y9.2.2.1.1,(y9.2.2.1.2.1,(y9.2.2.1.2.2.1,(y9.2.2.1.2.2.2.1,(y9.2.2.1.2.2.2.2.1,((),(y9.2.2.1.2.2.2.2.2.2.1,(y9.2.2.1.2.2.2.2.2.2.2.1,y9.2.2.1.2.2.2.2.2.2.2.2)))))))),((y9.2.1.1,(y9.2.1.2.1,((y9.2.1.2.2.1.1,y9.2.1.2.2.1.2),y9.2.1.2.2.2))),())))with
 |none=>none
 |some y10=>(
 match(bT ((y9.2.2.2.2.1.1,(y9.2.2.2.2.1.2.1,(y9.2.2.2.2.1.2.2.1,(y9.2.2.2.2.1.2.2.2.1,(y9.2.2.2.2.1.2.2.2.2.1,((),(y9.2.2.2.2.1.2.2.2.2.2.2.1,(y9.2.2.2.2.1.2.2.2.2.2.2.2.1,y9.2.2.2.2.1.2.2.2.2.2.2.2.2)))))))),((y9.2.2.2.1.1,(y9.2.2.2.1.2.1,((y9.2.2.2.1.2.2.1.1,y9.2.2.2.1.2.2.1.2),y9.2.2.2.1.2.2.2))),())))with
 |none=>none
 |some y11=>(
 match(lq y10.1.1.1 y10.1.1.2 y11.1.1.1 y11.1.1.2)with
 |none=>none
 |some r18=>(
 bif r18 then(
 match(bS y10.2)with
 |none=>none
 |some y12=>(
 match(bS y11.2)with
 |none=>none
 |some y13=>(
 match(wW y12.1.1.1 y12.1.1.2 y13.1.1.1 y13.1.1.2)with
 |none=>none
 |some r21=>(
 bif r21 then(
 match rY with
 |none=>none
 |some r22=>(
 bif r22 then(
 some ())
 else(
 none)))
 else(
 none)))))
 else(
 none)))))
 | .inr y9=>(
 bif y9.1.1 then(
 some ())
 else(
 none)))))
 let k2:Z0t→Option (Unit):=fun x2=>(
 let t2:=x2.1.1
 bif t2 then(
 bif (decide (bad.1<1))then(
 k4 ((true,()),()))
 else(
 bif (decide (bad.1>r.2.2.2.1))then(
 k4 ((true,()),()))
 else(
 k4 (((bad.1==r.2.2.1),()),()))))
 else(
 bif (bad.2.1==4)then(
 bif (bad.1 !=(i64.wrap (r.2.2.2.1+bad.2.2.2.2.1.2)))then(
 k4 ((true,()),()))
 else(
 k4 ((((ak .and .i64 bad.2.2.2.2.2.2 1)==1),()),())))
 else(
 bif (bad.2.1==8)then(
 bif (decide (bad.1≤r.2.2.2.1))then(
 k4 ((true,()),()))
 else(
 bif (decide (bad.1>(i64.wrap (r.2.2.2.1+r.2.2.2.2.1))))then(
 k4 ((true,()),()))
 else(
 k4 ((((ak .and .i64 bad.2.2.2.2.2.2 1)==1),()),()))))
 else(
 bif (bad.2.1==1)then(
 let t3:=(bad.2.1==1)
 bif t3 then(
 bif (decide (bad.1≤r.2.2.2.1))then(
 k4 ((true,()),()))
 else(
 k4 (((decide (bad.1>(i64.wrap (r.2.2.2.1+r.2.2.2.2.1)))),()),())))
 else(
 k4 ((true,()),())))
 else(
 let t3:=(bad.2.1==2)
 bif t3 then(
 bif (decide (bad.1≤r.2.2.2.1))then(
 k4 ((true,()),()))
 else(
 k4 (((decide (bad.1>(i64.wrap (r.2.2.2.1+r.2.2.2.2.1)))),()),())))
 else(
 k4 ((true,()),())))))))
 bif (bad.2.1==5)then(
 k2 (((bad.2.1==5),()),()))
 else(
 k2 (((bad.2.1==6),()),())))))
 bif (!r2)then(
 k ((true,()),()))
 else(
 bif (!r5)then(
 k ((true,()),()))
 else(
 k (((decide (((nl:Nat):Int)>20)),()),())))))
end Go.Pl
namespace Go.Proofs.YtldlihheppdhnaaGreat
noncomputable section
abbrev Ji:Shape:= { sl:=[(1,(.sz (.pair tI (.pair tI (.pair tI (.pair tI (.pair (.pair tI tI) (.pair tI tI)))))))),(5,(.c ⟨(.ptr (.pair tI (.pair tI (.pair tI (.pair tI (.pair (.pair tI tI) (.pair tI tI))))))),(.rf 0 [])⟩)),(7,(.c ⟨(.ptr tSV),(.rf 8 [])⟩)),(8,(.pz (.pair (.pair tI (.pair tI tI)) (.pair tI (.pair tI (.pair tI (.pair tI (.pair (.pair tI (.pair tI (.pair (.sl .str) (.sl tI)))) (.pair (.sl (.pair .str (.pair tG (.pair (.sl tV) (.pair (.sl tV) (.arr 4 (.pair (.arr 2 tG) (.pair tG (.pair tI tI))))))))) (.sl tOU)))))))))),(pc 9 (.pair tI (.pair tI tI)) 16),(11,(.c ⟨(.ptr tSV),(.rf 24 [])⟩)),(15,(.c ⟨(.ptr tMS),(.rf 33 [])⟩)),(pv 17 tI)],ob:=[(0,(.v (.pair tI (.pair tI (.pair tI (.pair tI (.pair (.pair tI tI) (.pair tI tI)))))))),(4,(.p (.v tI) (.p (.v tI) (.p (.w 9 .str 34) (.m tI tI 35))))),(8,(.p (.pz tGR) (.p (.v tI) (.p (.v tI) (.p (.v tI) (.p (.v tI) (.p (.c ⟨(.ptr tSP),(.rf 4 [])⟩) (.p (.bg .str tRC 36 none) (.sz tOU))))))))),(pv 16 (.pair tI (.pair tI tI))),(20,(.p (.v tI) (.p (.v tI) (.p (.w 9 .str 37) (.m tI tI 38))))),(24,(.p (.pz tGR) (.p (.v tI) (.p (.v tI) (.p (.v tI) (.p (.v tI) (.p (.c ⟨(.ptr tSP),(.rf 20 [])⟩) (.p (.bg .str tRC 39 none) (.sz tOU))))))))),(33,ZZ2)],lo:=34,nx:=40 }
abbrev Jj:List Ex:=[(.normal, { sl:=[(7,(.c ⟨(.ptr tSV),(.rf 8 [])⟩)),(11,(.c ⟨(.ptr tSV),(.rf 24 [])⟩))],ob:=[(4,(.p (.v tI) (.p (.v tI) (.p (.w 9 .str 40) (.m tI tI 41))))),(8,(.p (.pz tGR) (.p (.v tI) (.p (.v tI) (.p (.v tI) (.p (.v tI) (.p (.c ⟨(.ptr tSP),(.rf 4 [])⟩) (.p (.bg .str tRC 42 none) (.sz tOU))))))))),(20,(.p (.v tI) (.p (.v tI) (.p (.w 9 .str 43) (.m tI tI 44))))),(24,(.p (.pz tGR) (.p (.v tI) (.p (.v tI) (.p (.v tI) (.p (.v tI) (.p (.c ⟨(.ptr tSP),(.rf 20 [])⟩) (.p (.bg .str tRC 45 none) (.sz tOU)))))))))],lo:=40,nx:=46 }),(.ret, { sl:=[(6,(.v .bool))],ob:=[],lo:=407,nx:=407 })]
def Jk:Code:=aY (aV Tryz.f5) 1
def pU:Lp:=dA Ji Jj 235 bY
def um:Cx:=cx [(7,Ad),(8,QV),(12,Ce),(13,kP 0 ai3 ai6),(9,apG),(10,kP 0 arD arG),(18,kP 0 aif aij),(17,ag0)] []
theorem Jl:au Tryz.prog um:=au.of mixed aA (fc ⟨Dl,fc ⟨Xb,fc ⟨Fe,fc ⟨dV a9n a9o,fc ⟨ag5,fc ⟨dV aip ais,fc ⟨dV a9p a9q,fc ⟨a8p,fz⟩⟩⟩⟩⟩⟩⟩⟩) fz
theorem Jm:bU Tryz.prog 1 (.loop Jk) pU:=aK Jl 8 (ah) _ _ _ _ (by decide) fun _=>by kernel_rfl
theorem a3U:dZ Tryz.prog 5 Tryz.f5 [(1,pU)]:=⟨Tryz.func5,Tryz.call5,bA (by kernel_rfl) (aJ Jm (by kernel_rfl) fz)⟩
theorem a4L(which)(nl)(l)(bad):bV um [(1,pU)] (dU um 8) Tryz.f5 (jf [tI,(.sl (.pair tI (.pair tI (.pair tI (.pair tI (.pair (.pair tI tI) (.pair tI tI))))))),(.pair tI (.pair tI (.pair tI (.pair tI (.pair (.pair tI tI) (.pair tI tI))))))] (which,(nl,l),bad,())) [] 0 a6R=oO which nl l bad:=by kernel_rfl
end
end Go.Proofs.YtldlihheppdhnaaGreat
namespace Go.Pl
open Go Go.Den Go.Num
theorem a3V:(match rY with|none=>none|some r6=>(bif r6 then(some ())else none):Option Unit)=some ():=by rw[Ae]; rfl
abbrev spS(h:Hd)(s:Sv):SP:=h.sp s.n s.ks s.u
abbrev snS(h:Hd)(s:Sv):SN:=h.sn (rZ h.N s.l) s.o
theorem a3W {h:Hd}(hh:h.Ok3) {nl:Nat}(hn:nl≤20) {l:Nat→NZ}(hl: ∀i,i<nl→ -9223372036854775808≤(l i).1∧(l i).1<9223372036854775808) {bad:NZ} {m:Int×(Int×(ByteArray×VA))}
  (hb: ∀(s:Sv) (j:Nat),Good h s j→j<1000→aN bad.1 m.1 m.2.1 m.2.2.1 m.2.2.2.1 m.2.2.2.2.1 m.2.2.2.2.2.1.1 m.2.2.2.2.2.1.2 m.2.2.2.2.2.2.1 m.2.2.2.2.2.2.2 (h.mk' s)=some ((zNO,()),h.mk' s)):
  ∃s,Good h s nl∧aB bY (dP nl l (VK h) 0 (bad,(spS h zS,(snS h zS,(((h.P:Int),((h.Q:Int),(h.G:Int))),(spS h zS,(snS h zS,(m,()))))))))=some (je (spS h s,(snS h s,(spS h s,(snS h s,()))))):=by
 obtain⟨s,h1,h2⟩:=aO (R:=bY) (S:=Sv)
  (fun i s=>dP nl l (VK h) (i:Int) (bad,(spS h s,(snS h s,(((h.P:Int),((h.Q:Int),(h.G:Int))),(spS h s,(snS h s,(m,()))))))))
  (fun s=>je (spS h s,(snS h s,(spS h s,(snS h s,()))))) (fun i s=>Good h s i) nl
  (fun i hi s g=>by
   obtain⟨op,st,dg,nm,mm,ny,y,out,s',q1,q2,q3,q4,q5⟩:=aby hh (hl i hi) g (by omega)
   have hsame:=Y7 q4 q5
   have hB:=hb s i g (by omega)
   have q2':aN (l i).1 (l i).2.1 op (Dm (l i).2.2.2.1) st dg nm mm ny y (snS h s,(spS h s,()))=some ((out,()),(snS h s',(spS h s',()))):=q2
   have hB':aN bad.1 m.1 m.2.1 m.2.2.1 m.2.2.2.1 m.2.2.2.2.1 m.2.2.2.2.2.1.1 m.2.2.2.2.2.1.2 m.2.2.2.2.2.2.1 m.2.2.2.2.2.2.2 (snS h s,(spS h s,()))=some ((zNO,()),(snS h s,(spS h s,()))):=hB
   have z0:decide ((((zNO:iF).1:Nat):Int)>0)=false:=bG (by show¬((0:Nat):Int)>0; omega)
   refine⟨s',?_,q3⟩
   cases hc:((i:Int)==((nl/2:Nat):Int))
   ·simp(disch:=omega) only[bY,dP,WW,CC,axd,hc,q1,q2',hsame]
   ·simp(disch:=omega) only[bY,dP,WW,CC,axd,hc,hB',z0,q1,q2',hsame])
  (fun s _=>by simp(disch:=omega) only[bY,dP,WW,CC]) zS (ZP h)
 exact⟨s,h2,h1⟩
theorem VN {x:Int}(h:Go.Den.Good (.int .i64) x): -9223372036854775808≤x∧x<9223372036854775808:=by
 have h1:IntKind.min .i64≤x:=h.1
 have h2:x≤IntKind.max .i64:=h.2
 have e1:IntKind.min .i64= -9223372036854775808:=rfl
 have e2:IntKind.max .i64=9223372036854775807:=rfl
 omega
theorem aiQ {x:Int}(h:Dm x=ByteArray.mk #[]): ¬(1≤(Dm x).size∧(Dm x).size≤8):=by rw[h]; decide
theorem a1T {which:Int} {nl:Nat} {l:Nat→NZ} {bad:NZ}(hw:Go.Den.Good (.int .i64) which)(hl:Go.Den.Good (.sl as6) (.fz nl l))(hb:Go.Den.Good as6 bad):oO which nl l bad=some ():=by
 obtain⟨h,hh,_,hW⟩:=VL which
 have hT:=hh.T
 have hN:=hh.N
 have hI:=hh.I
 have hbf: -9223372036854775808≤bad.1∧bad.1<9223372036854775808:=VN hb.1
 have hbc: -9223372036854775808≤bad.2.2.2.2.1.2∧bad.2.2.2.2.1.2<9223372036854775808:=VN hb.2.2.2.2.1.2
 obtain⟨r',hr⟩: ∃r',oO which nl l bad=r':=⟨_,rfl⟩
 rw[hr]
 unfold oO at hr
 simp-zeta-letToHave only[hW]at hr
 extract_lets-underBinder r r1 r2 k at hr
 replace hr:k ((decide ((nl:Int)>20),()),())=r':=hr
 by_cases hn:(nl:Int)>20
 ·rw[dM hn]at hr
  rw[←hr]
  exact a3V
 rw[bG hn]at hr
 obtain⟨op,st,dg,nm,m,ny,y,M,L,q1,q2,q3,q4⟩:=yX (P:=h.P) (Q:=h.Q) (G:=h.G) hh.p1 hh.p62 hh.q512 hh.q31 (t:=h.T) (I:=h.I) (by omega) (by omega) bad
 have hin:=RY hh q2 q3 q4
 have q1':dR r1 r.2.1 r.2.2.1 bad=some (Dj bad.2.1 op (Dm bad.2.2.2.1) st dg nm m ny y):=q1
 unfold k at hr
 simp-zeta-letToHave only[bF,q1']at hr
 extract_lets-underBinder t0 k4 k2 at hr
 have hl': ∀i,i<nl→ -9223372036854775808≤(l i).1∧(l i).1<9223372036854775808:=fun i hi=>VN (hl.2 i hi).1
 have rest:(¬I7 h bad.1 bad.2.1 op (Dm bad.2.2.2.1) st dg M L)→ ∃s,Good h s nl∧aB bY (dP nl l (VK h) 0 (bad,(spS h zS,(snS h zS,(((h.P:Int),((h.Q:Int),(h.G:Int))),(spS h zS,(snS h zS,(Dj bad.2.1 op (Dm bad.2.2.2.1) st dg nm m ny y,()))))))))=some (je (spS h s,(snS h s,(spS h s,(snS h s,()))))):=fun hno=>by
  refine a3W hh (by omega) hl' fun s j g hj=>?_
  have hS:=Dn hh.toOk hbf (k:=bad.2.1) (op:=op) (key:=Dm bad.2.2.2.1) (st:=st) (dg:=dg) hin g hj
  rw[awU fun hc=>hno hc.1]at hS
  exact hS
 have k4t:(¬I7 h bad.1 bad.2.1 op (Dm bad.2.2.2.1) st dg M L)→k4 ((true,()),())=some ():=fun hno=>by
  obtain⟨s,g,hL⟩:=rest hno
  obtain⟨out,t1,t2,t3,_⟩:=aam hh g (by omega)
  have hsame:=Y7 t2 t3
  have hk:=aan (h:=h) (s:= { s with o:=out }) (by have:=g.few; show s.n<1000; omega)
  have hks:wW s.n (fun j=>s.ks (0+j)) s.n (fun j=>s.ks (0+j))=some true:=Y0 (by have:=g.few; omega) fun i hi=>rfl
  simp only[dP,je,spS,snS,Hd.sn,Hd.sp,zS,rZ,az8]at hL
  have t1':bT ((h.g,((h.T:Int),((h.I:Int),((h.N:Int),(3,((),(List.map (ZL h.N) s.l,(s.o.1,s.o.2)))))))),(((h.N:Int),(3,((s.n,s.ks),s.u))),()))=some ((out,()),h.mk' { s with o:=out }):=t1
  simp only[k4,r,r1,ay1,bF,hL,t1',hsame,bB,hk,hks,Ae]
 have hk4: ∀b:Bool,(b=true→ ¬I7 h bad.1 bad.2.1 op (Dm bad.2.2.2.1) st dg M L)→k4 ((b,()),())=some ():=fun b hbb=>by
  cases b with
  |true=>exact k4t (hbb rfl)
  |false=>
   cases hc:sEq (Dm bad.2.2.2.1) (ByteArray.mk #[])with
   |false=>
    simp only[k4,r,r1,ayA,bB,hc,Ae]
   |true=>
    have hno: ¬I7 h bad.1 bad.2.1 op (Dm bad.2.2.2.1) st dg M L:=fun hm=>aiQ ((u7 _ _).1 hc) hm.1.1
    have e:k4 ((false,()),())=k4 ((true,()),()):=by
     simp only[k4,r,r1,ayA,ay1,bB,bF,hc]
    rw[e]; exact k4t hno
 clear_value k4
 have ns: ¬dz h bad.1 bad.2.1 st→ ¬I7 h bad.1 bad.2.1 op (Dm bad.2.2.2.1) st dg M L:=fun hs hm=>hs hm.2.1
 have bf: ∀ {x y:Int},x≠y→(x==y)=false:=iA
 have wN:IntKind.i64.wrap ((h.N:Int)+3)=(h.N:Int)+3:=wrap_i64 (by omega)
 have k4T: ¬dz h bad.1 bad.2.1 st→k4 ((true,()),())=some ():=fun hs=>hk4 true fun _=>ns hs
 have no12: ∀ {b:Bool},(b=true→bad.1≤h.N∨bad.1>h.N+3)→bad.2.1=1∨bad.2.1=2→k4 ((b,()),())=some ():=fun hb' hk=>hk4 _ fun e=>ns fun hs=>by
  have:=hb' e
  unfold dz at hs; omega
 by_cases c5:bad.2.1=5∨bad.2.1=6
 ·have e:k2 ((true,()),())=r':=by
   rcases c5 with c|c<;>rw[c]at hr<;>exact hr
  rw[←e]
  simp only[k2,r,bB]
  by_cases h1:bad.1<1
  ·rw[dM h1,bB]; exact k4T fun hs=>by unfold dz at hs; omega
  rw[bG h1,bF]
  by_cases h2:bad.1>(h.N:Int)
  ·rw[dM h2,bB]; exact k4T fun hs=>by unfold dz at hs; omega
  rw[bG h2,bF]
  exact hk4 _ fun hq=>ns fun hs=>by
   have:=eq_of_beq hq
   unfold dz at hs; omega
 ·have e:k2 ((false,()),())=r':=by
   rw[bf (fun hh=>c5 (.inl hh)),bf (fun hh=>c5 (.inr hh))]at hr; exact hr
  rw[←e]
  by_cases c4:bad.2.1=4
  ·simp only[k2,r,bF,c4,axY,bB]
   obtain⟨_,e2,_,_,_⟩:=q4.shares (.inl c4)
   by_cases h1:bad.1=IntKind.i64.wrap ((h.N:Int)+bad.2.2.2.2.1.2)
   ·rw[←h1,ayl,bF]
    exact hk4 _ fun hq=>aap hh q4 (.inl c4) (ad4.1 hq) _
   ·rw[bne_iff_ne.2 h1,bB]
    refine k4T fun hs=>h1 ?_
    rw[e2]at hs
    unfold dz at hs
    rw[wrap_i64 (by omega)]
    omega
  by_cases c8:bad.2.1=8
  ·simp only[k2,r,bF,bf c4,c8,axY,bB,show((8:Int)==4)=false from rfl]
   by_cases h1:bad.1≤(h.N:Int)
   ·rw[dM h1,bB]; exact k4T fun hs=>by unfold dz at hs; omega
   rw[bG h1,bF,wN]
   by_cases h2:bad.1>(h.N:Int)+3
   ·rw[dM h2,bB]; exact k4T fun hs=>by unfold dz at hs; omega
   rw[bG h2,bF]
   exact hk4 _ fun hq=>aap hh q4 (.inr c8) (ad4.1 hq) _
  by_cases c1:bad.2.1=1
  ·simp only[k2,r,bF,c1,axY,bB,show((1:Int)==4)=false from rfl,show((1:Int)==8)=false from rfl]
   by_cases h1:bad.1≤(h.N:Int)
   ·rw[dM h1,bB]; exact k4T fun hs=>by unfold dz at hs; omega
   rw[bG h1,bF,wN]
   exact no12 (fun hq=>.inr (of_decide_eq_true hq)) (.inl c1)
  by_cases c2:bad.2.1=2
  ·simp only[k2,r,bF,c2,axY,bB,show((2:Int)==4)=false from rfl,show((2:Int)==8)=false from rfl,show((2:Int)==1)=false from rfl]
   by_cases h1:bad.1≤(h.N:Int)
   ·rw[dM h1,bB]; exact k4T fun hs=>by unfold dz at hs; omega
   rw[bG h1,bF,wN]
   exact no12 (fun hq=>.inr (of_decide_eq_true hq)) (.inr c2)
  ·simp only[k2,r,bF,bf c4,bf c8,bf c1,bf c2]
   exact k4T fun hs=>by unfold dz at hs; omega
end Go.Pl
