/-
 What the statements of a layer share.
-/
import Derived.Test.YtldlihheppdhnaaGreatDenM
import Derived.Test.YtldlihheppdhnaaGreatDenI
import Derived.Test.YtldlihheppdhnaaGreatPlA
import Derived.Test.YtldlihheppdhnaaGreatPlB
import Derived.Test.YtldlihheppdhnaaGreatEqA
import Derived.Test.YtldlihheppdhnaaGreatDenF
import Derived.Test.YtldlihheppdhnaaGreatEqB
import Derived.Test.YtldlihheppdhnaaGreatMH
import Derived.Test.YtldlihheppdhnaaGreatMF
import Derived.Test.YtldlihheppdhnaaGreatMD
set_option linter.unusedVariables false
set_option linter.unusedSimpArgs false
set_option maxRecDepth 100000
set_option maxHeartbeats 0
namespace Go.Pl
end Go.Pl
open Go Go.Den Go.Pl
namespace Go.Pl
noncomputable section
open Go.IntKind (i64 u64 u32 u8)
def Cc(which:Int):Option (((Unit×(Z0B×(Z0j×Z0c)))×(SP×(SN×Unit)))):=
 match(MQ which)with
 |none=>none
 |some r=>(
 match(rO ((r.1.1,r.1.2),r.2))with
 |none=>none
 |some r1=>(
 match r1.1 with
 |none=>(
 let t:=(i64.wrap ((i64.wrap (3*(i64.wrap (1+(ak .and .i64 (bH .i64 which 1) 1)))))+1))
 bif (decide (t=0))then(
 none)
 else(
 match(tO none (i64.wrap (1+(ak .and .i64 (bH .i64 which 1) 1))) (i64.wrap (1+(Int.tmod (ak .and .i64 (bH .i64 which 2) 255) t))) 3)with
 |none=>none
 |some y=>(
 match y with
 | .inl y1=>(
 let r2:=y1.1.2.1
 match(KT ((r.1.1,r.1.2),r.2))with
 |none=>none
 |some r4=>(
 match(Eb r4 (i64.wrap (1+(ak .and .i64 (bH .i64 which 1) 1))) (i64.wrap (1+(Int.tmod (ak .and .i64 (bH .i64 which 2) 255) t))) 3)with
 |none=>none
 |some r5=>(
 match r5 with
 |none=>(
 bif (r1.2==0)then(
 bif (r2==0)then(
 none)
 else(
 none))
 else(
 none))
 |some p1=>(
 bif (r1.2==0)then(
 bif (r2==0)then(
 none)
 else(
 none))
 else(
 none)))))
 | .inr y1=>(
 let r3:=y1.1.2.1
 let o:=y1.2.1.1
 let o1:=y1.2.1.2.1
 let no:=y1.2.1.2.2.1.1
 let o2:=y1.2.1.2.2.1.2
 let o3:=y1.2.1.2.2.2
 let o4:=y1.2.2.1.1
 let o5:=y1.2.2.1.2.1
 let o6:=y1.2.2.1.2.2.1
 let o7:=y1.2.2.1.2.2.2.1
 let o8:=y1.2.2.1.2.2.2.2.1
 let o9:=y1.2.2.1.2.2.2.2.2.2.1
 let no1:=y1.2.2.1.2.2.2.2.2.2.2.1
 let o10:=y1.2.2.1.2.2.2.2.2.2.2.2
 match(KT ((r.1.1,r.1.2),r.2))with
 |none=>none
 |some r6=>(
 match(Eb r6 (i64.wrap (1+(ak .and .i64 (bH .i64 which 1) 1))) (i64.wrap (1+(Int.tmod (ak .and .i64 (bH .i64 which 2) 255) t))) 3)with
 |none=>none
 |some r7=>(
 match r7 with
 |none=>(
 bif (r1.2==0)then(
 bif (r3==0)then(
 none)
 else(
 none))
 else(
 none))
 |some p2=>(
 bif (r1.2==0)then(
 bif (r3==0)then(
 some (((),(p2,(r6,(true,())))),((o,(o1,((no,o2),o3))),((o4,(o5,(o6,(o7,(o8,((),(o9,(no1,o10)))))))),()))))
 else(
 some (((),(p2,(r6,(false,())))),((o,(o1,((no,o2),o3))),((o4,(o5,(o6,(o7,(o8,((),(o9,(no1,o10)))))))),())))))
 else(
 some (((),(p2,(r6,(false,())))),((o,(o1,((no,o2),o3))),((o4,(o5,(o6,(o7,(o8,((),(o9,(no1,o10)))))))),())))))))))))
 |some p=>(
 let t1:=(i64.wrap ((i64.wrap (3*(i64.wrap (1+(ak .and .i64 (bH .i64 which 1) 1)))))+1))
 bif (decide (t1=0))then(
 none)
 else(
 match(tO (some p) (i64.wrap (1+(ak .and .i64 (bH .i64 which 1) 1))) (i64.wrap (1+(Int.tmod (ak .and .i64 (bH .i64 which 2) 255) t1))) 3)with
 |none=>none
 |some y2=>(
 match y2 with
 | .inl y3=>(
 let r8:=y3.1.2.1
 match(KT ((r.1.1,r.1.2),r.2))with
 |none=>none
 |some r10=>(
 match(Eb r10 (i64.wrap (1+(ak .and .i64 (bH .i64 which 1) 1))) (i64.wrap (1+(Int.tmod (ak .and .i64 (bH .i64 which 2) 255) t1))) 3)with
 |none=>none
 |some r11=>(
 match r11 with
 |none=>(
 bif (r1.2==0)then(
 bif (r8==0)then(
 none)
 else(
 none))
 else(
 none))
 |some p3=>(
 bif (r1.2==0)then(
 bif (r8==0)then(
 none)
 else(
 none))
 else(
 none)))))
 | .inr y3=>(
 let r9:=y3.1.2.1
 let o11:=y3.2.1.1
 let o12:=y3.2.1.2.1
 let no2:=y3.2.1.2.2.1.1
 let o13:=y3.2.1.2.2.1.2
 let o14:=y3.2.1.2.2.2
 let o15:=y3.2.2.1.1
 let o16:=y3.2.2.1.2.1
 let o17:=y3.2.2.1.2.2.1
 let o18:=y3.2.2.1.2.2.2.1
 let o19:=y3.2.2.1.2.2.2.2.1
 let o20:=y3.2.2.1.2.2.2.2.2.2.1
 let no3:=y3.2.2.1.2.2.2.2.2.2.2.1
 let o21:=y3.2.2.1.2.2.2.2.2.2.2.2
 match(KT ((r.1.1,r.1.2),r.2))with
 |none=>none
 |some r12=>(
 match(Eb r12 (i64.wrap (1+(ak .and .i64 (bH .i64 which 1) 1))) (i64.wrap (1+(Int.tmod (ak .and .i64 (bH .i64 which 2) 255) t1))) 3)with
 |none=>none
 |some r13=>(
 match r13 with
 |none=>(
 bif (r1.2==0)then(
 bif (r9==0)then(
 none)
 else(
 none))
 else(
 none))
 |some p4=>(
 bif (r1.2==0)then(
 bif (r9==0)then(
 some (((),(p4,(r12,(true,())))),((o11,(o12,((no2,o13),o14))),((o15,(o16,(o17,(o18,(o19,((),(o20,(no3,o21)))))))),()))))
 else(
 some (((),(p4,(r12,(false,())))),((o11,(o12,((no2,o13),o14))),((o15,(o16,(o17,(o18,(o19,((),(o20,(no3,o21)))))))),())))))
 else(
 some (((),(p4,(r12,(false,())))),((o11,(o12,((no2,o13),o14))),((o15,(o16,(o17,(o18,(o19,((),(o20,(no3,o21)))))))),())))))))))))))
def oN:=veil Cc
theorem Fb:oN=Cc:=aj _
def Lv(g:Z0j)(t:Int)(value:Int):Option (Z09×(Nat×(Nat→Z0N))):=
 match(aU (i64.wrap (100+(ak .and .i64 value 3))))with
 |none=>none
 |some r=>(
 match(aU (i64.wrap (7+(ak .and .i64 value 3))))with
 |none=>none
 |some r1=>(
 match(aU (i64.wrap (9+(ak .and .i64 value 3))))with
 |none=>none
 |some r2=>(
 let k:((Z0d×(Z0d×Unit))×Unit)→Option (Z09×(Nat×(Nat→Z0N))):=fun x=>(
 let nnumbers:=x.1.1.1
 let numbers:=x.1.1.2
 let nrandom:=x.1.2.1.1
 let random:=x.1.2.1.2
 bif ((decide (0≤(i64.wrap (t*((nnumbers:Nat):Int)))))&&(decide ((i64.wrap (t*((nnumbers:Nat):Int)))≤((nrandom:Nat):Int))))then(
 match(E9 g t nnumbers (fun j=>numbers (0+j)) ((Int.toNat (i64.wrap (t*((nnumbers:Nat):Int))))-0) (fun j=>random (0+j)))with
 |none=>none
 |some y=>(
 let nr:=y.1.1.1
 let r6:=y.1.1.2
 let nr1:=y.1.2.1.1
 let r7:=y.1.2.1.2
 let r8:=y.1.2.2.1
 some ((nr,r6),(nr1,r7))))
 else(
 none))
 bif ((ak .and .i64 value 3)==3)then(
 match(aU 5)with
 |none=>none
 |some r3=>(
 match(aU 1)with
 |none=>none
 |some r4=>(
 match(aU 2)with
 |none=>none
 |some r5=>(
 k (((2,(glue 1 (upd zNN 0 r) (fun j=>(upd zNN 0 r3) (0+j)))),((4,(glue 2 (upd (upd zNN 0 r1) 1 r2) (fun j=>(upd (upd zNN 0 r4) 1 r5) (0+j)))),())),())))))
 else(
 k (((1,(upd zNN 0 r)),((2,(upd (upd zNN 0 r1) 1 r2)),())),())))))
def za:=veil Lv
theorem NW:za=Lv:=aj _
def Ev(g:Z0j)(t:Int)(number:Int)(a:(Int×Z0i)):Option (Z0f):=
 bif (inb (ak .and .i64 a.2.2.2.1 3) 4)then(
 let t1:=((upd (upd (upd (upd (fun _=>ByteArray.empty) 0 (ByteArray.mk #[107])) 1 (ByteArray.mk #[97])) 2 (ByteArray.mk #[107,107])) 3 (ByteArray.mk #[])) (0+(Int.toNat (ak .and .i64 a.2.2.2.1 3))))
 match(za g t a.2.2.2.2.2.1)with
 |none=>none
 |some r=>(
 let k:Z0t→Option (Z0f):=fun x=>(
 let t2:=x.1.1
 bif t2 then(
 some (a.2.1,(a.2.2.1,(t1,((0,0),(ByteArray.empty,((0,(fun _=>.nil)),(0,zNN))))))))
 else(
 let k1:Z0t→Option (Z0f):=fun x1=>(
 let t3:=x1.1.1
 bif t3 then(
 bif (decide (((r.2.1:Nat):Int)=0))then(
 none)
 else(
 bif (inb (Int.tmod (i64.wrap ((i64.wrap (number-1))+(ak .and .i64 a.2.2.2.2.2.2 1))) ((r.2.1:Nat):Int)) r.2.1)then(
 bif (SlV.isMs (r.2.2 (Int.toNat (Int.tmod (i64.wrap ((i64.wrap (number-1))+(ak .and .i64 a.2.2.2.2.2.2 1))) ((r.2.1:Nat):Int)))).2)then(
 none)
 else(
 some (a.2.1,(a.2.2.1,(t1,(a.2.2.2.2.1,(ByteArray.empty,((r.1.1,r.1.2),((SlV.len (r.2.2 (Int.toNat (Int.tmod (i64.wrap ((i64.wrap (number-1))+(ak .and .i64 a.2.2.2.2.2.2 1))) ((r.2.1:Nat):Int)))).2),(SlV.fn ((fun _=>0):NI) (r.2.2 (Int.toNat (Int.tmod (i64.wrap ((i64.wrap (number-1))+(ak .and .i64 a.2.2.2.2.2.2 1))) ((r.2.1:Nat):Int)))).2))))))))))
 else(
 none)))
 else(
 bif (a.2.1==5)then(
 let t4:=(a.2.1==5)
 bif t4 then(
 match(qO r.1.1 r.1.2)with
 |none=>none
 |some r1=>(
 some (a.2.1,(0,(t1,(a.2.2.2.2.1,(r1,((0,(fun _=>.nil)),(0,zNN)))))))))
 else(
 some (a.2.1,(a.2.2.1,(t1,(a.2.2.2.2.1,(ByteArray.empty,((0,(fun _=>.nil)),(0,zNN)))))))))
 else(
 let t4:=(a.2.1==6)
 bif t4 then(
 match(qO r.1.1 r.1.2)with
 |none=>none
 |some r1=>(
 some (a.2.1,(0,(t1,(a.2.2.2.2.1,(r1,((0,(fun _=>.nil)),(0,zNN)))))))))
 else(
 some (a.2.1,(a.2.2.1,(t1,(a.2.2.2.2.1,(ByteArray.empty,((0,(fun _=>.nil)),(0,zNN)))))))))))
 bif (a.2.1==4)then(
 k1 (((a.2.1==4),()),()))
 else(
 k1 (((a.2.1==8),()),()))))
 bif (a.2.1==1)then(
 k (((a.2.1==1),()),()))
 else(
 k (((a.2.1==2),()),()))))
 else(
 none)
def dR:=veil Ev
theorem I8:dR=Ev:=aj _
def Lx:Option (Bool):=
 match(oN 0)with
 |none=>none
 |some y=>(
 let r:=y.1.2.1
 let r1:=y.1.2.2.1
 let r2:=y.1.2.2.2.1
 bif (!r2)then(
 some false)
 else(
 match(za r1 1 0)with
 |none=>none
 |some r3=>(
 match(dR r1 1 1 (0,(4,(1,(0,((1,1),(0,0)))))))with
 |none=>none
 |some r4=>(
 match(aN 5 r4.1 r4.2.1 r4.2.2.1 r4.2.2.2.1 r4.2.2.2.2.1 r4.2.2.2.2.2.1.1 r4.2.2.2.2.2.1.2 r4.2.2.2.2.2.2.1 r4.2.2.2.2.2.2.2 (y.2.2.1,(y.2.1,())))with
 |none=>none
 |some y1=>(
 let nr:=y1.1.1.1
 let r5:=y1.1.1.2
 bif (((nr:Nat):Int) !=3)then(
 some false)
 else(
 bif (inb 0 nr)then(
 bif ((r5 0).2.1 !=5)then(
 some false)
 else(
 bif (inb 0 nr)then(
 let t:=((r5 0).1 !=2)
 bif t then(
 some false)
 else(
 match(dR r1 1 1 (0,(6,(0,(0,((1,1),(0,0)))))))with
 |none=>none
 |some r6=>(
 match(aN 2 r6.1 r6.2.1 r6.2.2.1 r6.2.2.2.1 r6.2.2.2.2.1 r6.2.2.2.2.2.1.1 r6.2.2.2.2.2.1.2 r6.2.2.2.2.2.2.1 r6.2.2.2.2.2.2.2 y1.2)with
 |none=>none
 |some y2=>(
 match(dR r1 1 1 (0,(6,(0,(0,((1,1),(0,0)))))))with
 |none=>none
 |some r8=>(
 match(aN 3 r8.1 r8.2.1 r8.2.2.1 r8.2.2.2.1 r8.2.2.2.2.1 r8.2.2.2.2.2.1.1 r8.2.2.2.2.2.1.2 r8.2.2.2.2.2.2.1 r8.2.2.2.2.2.2.2 y2.2)with
 |none=>none
 |some y3=>(
 match(gZ (ByteArray.mk #[107]) y3.2)with
 |none=>none
 |some y4=>(
 bif (r.2.2.1==1)then(
 bif (((y3.1.1.1:Nat):Int)==4)then(
 bif (inb 3 y3.1.1.1)then(
 bif ((y3.1.1.2 3).2.1==7)then(
 bif (inb 3 y3.1.1.1)then(
 bif ((y3.1.1.2 3).1==5)then(
 bif (eqF (.pair (.int .i64) (.int .i64)) y4.1.1 (1,1))then(
 match(qO r3.1.1 r3.1.2)with
 |none=>none
 |some r13=>(
 bif (sEq y4.1.2.1 r13)then(
 bif y4.1.2.2.1 then(
 match(bS y4.2)with
 |none=>none
 |some y5=>(
 match(wW y5.1.1.1 y5.1.1.2 1 (fun j=>(upd (fun _=>ByteArray.empty) 0 (ByteArray.mk #[107])) (0+j)))with
 |none=>none
 |some r15=>(
 some r15)))
 else(
 some false))
 else(
 some false)))
 else(
 some false))
 else(
 some false))
 else(
 none))
 else(
 some false))
 else(
 none))
 else(
 some false))
 else(
 some false))))))))
 else(
 none)))
 else(
 none)))))))
def rY:=veil Lx
theorem NY:rY=Lx:=aj _
end
end Go.Pl
namespace Go.Proofs.YtldlihheppdhnaaGreat
noncomputable section
abbrev VB:Shape:= { sl:=[(pv 0 tI)],ob:=[],lo:=0,nx:=0 }
abbrev VD:List Shape:=[{ sl:=[(0,(.c ⟨(.ptr tSV),(.rf 7 [])⟩)),(1,(.pz (.pair (.pair tI (.pair tI tI)) (.pair tI (.pair tI (.pair tI (.pair tI (.pair (.pair tI (.pair tI (.pair (.sl .str) (.sl tI)))) (.pair (.sl (.pair .str (.pair tG (.pair (.sl tV) (.pair (.sl tV) (.arr 4 (.pair (.arr 2 tG) (.pair tG (.pair tI tI))))))))) (.sl tOU)))))))))),(pv 2 (.pair tI (.pair tI tI))),(3,(.v .bool))],ob:=[(3,(.p (.v tI) (.p (.v tI) (.p (.w 9 .str 12) (.m tI tI 13))))),(7,(.p (.pz tGR) (.p (.v tI) (.p (.v tI) (.p (.v tI) (.p (.v tI) (.p (.c ⟨(.ptr tSP),(.rf 3 [])⟩) (.p (.bg .str tRC 14 none) (.sz tOU)))))))))],lo:=12,nx:=15 }]
def Ad:Con:=kU VB VD fun x=>oN x.1.1
def VE:Cx:=cx [(25,an3),(22,amk),(24,ard),(26,anc),(27,apC)] []
theorem Px:au Tryz.prog VE:=au.of mixed aA (fc ⟨aeT,fc ⟨aew,fc ⟨ahv,fc ⟨af3,fc ⟨ag4,fz⟩⟩⟩⟩⟩) fz
theorem Dl:av Tryz.prog 7 Ad:=dO Px 8 ⟨Tryz.func7,Tryz.call7,ah⟩ 4 _ _ _ (by decide) (fun x=>by rw[Fb]; kernel_rfl)
def I9:Con:=aP false [(.pair tI (.pair tI tI)),tI,tI] [(.sl (.sl tN)),(.sl (.pair tI (.sl tN)))] fun x=>za x.1 x.2.1 x.2.2.1
def a1O:Cx:=cx [(71,a5x),(72,ap9)] []
theorem X8:au Tryz.prog a1O:=au.of mixed aA (fc ⟨Uf,fc ⟨afT,fz⟩⟩) fz
theorem Kk:av Tryz.prog 28 I9:=ay X8 8 ⟨Tryz.func28,Tryz.call28,ah⟩ _ _ _ _ (by decide) (fun x=>by rw[NW]; kernel_rfl)
def Ce:Con:=aP false [(.pair tI (.pair tI tI)),tI,tI,(.pair tI (.pair tI (.pair tI (.pair tI (.pair (.pair tI tI) (.pair tI tI))))))] [tMS] fun x=>dR x.1 x.2.1 x.2.2.1 x.2.2.2.1
def X9:Cx:=cx [(28,I9),(29,afX)] []
theorem Rx:au Tryz.prog X9:=au.of mixed aA (fc ⟨Kk,fc ⟨a8m,fz⟩⟩) fz
theorem Fe:av Tryz.prog 12 Ce:=ay Rx 8 ⟨Tryz.func12,Tryz.call12,ah⟩ _ _ _ _ (by decide) (fun x=>by rw[I8]; kernel_rfl)
def QV:Con:=aP true [] [.bool] fun x=>rY
def a1P:Cx:=cx [(7,Ad),(28,I9),(12,Ce),(13,kP 0 ai3 ai6),(15,kP 0 arx arz),(29,afX),(18,kP 0 aif aij),(17,ag0)] []
theorem Xa:au Tryz.prog a1P:=au.of mixed aA (fc ⟨Dl,fc ⟨Kk,fc ⟨Fe,fc ⟨dV a9n a9o,fc ⟨dV aia aie,fc ⟨a8m,fc ⟨dV a9p a9q,fc ⟨a8p,fz⟩⟩⟩⟩⟩⟩⟩⟩) fz
theorem Xb:av Tryz.prog 8 QV:=ay Xa 8 ⟨Tryz.func8,Tryz.call8,ah⟩ _ _ _ _ (by decide) (fun x=>by rw[NY]; kernel_rfl)
end
end Go.Proofs.YtldlihheppdhnaaGreat
namespace Go.Pl
open Go Go.Den Go.Num
theorem VF: ∀ {R:List Nat},(∀n∈R,n<2^256)→(X4 R).length≤33*R.length
 | [],_=>ax5 _
 |a::R,h=>by
  have:=VF (R:=R) fun n hn=>h n (axr _ hn)
  have h1:=Vp (h a axw)
  simp only[X4,azk,axa,a1C,axN,IX]at this⊢
  omega
theorem VG: ∀ {M:List Z0H},(∀R∈M,R.length≤7∧ ∀n∈R,n<2^256)→(M.flatMap X4).length≤231*M.length
 | [],_=>ax5 _
 |R::M,h=>by
  have:=VG (M:=M) fun n hn=>h n (axr _ hn)
  have h0:=h R axw
  have h1:=VF h0.2
  simp only[azk,axa,axN]
  omega
theorem a3P {M:List Z0H}(h: ∀R∈M,R.length≤7∧ ∀n∈R,n<2^256):(iH M).length≤231*M.length+2:=by
 have:=VG h
 unfold iH
 split
 ·simp only[axN]; omega
 ·exact ay5 _
theorem Fg {n:Nat} {m:Nat→SlV (Nat→Int)} {M:List Z0H}(hm:jg n m M)(hn:n<9223372036854775808)(hb:(iH M).length<2^40):qO n m=some (yV (iH M)):=by
 rw[JV]; unfold GY
 have hs:N9 ⟨(iH M).toArray⟩=some (yV (bl ⟨(iH M).toArray⟩)):=Zy (by simpa [ByteArray.size]using hb)
 simp only[Vt hm hn,hs]
def aNv(v k:Nat):Nat:=if v=3 then(if k=0 then 103 else 5)else 100+v
def bNv(v j:Nat):Nat:=if v=3 then(if j=0 then 10 else if j=1 then 12 else if j=2 then 1 else 2)else if j=0 then 7+v else 9+v
def nnN(v:Nat):Nat:=if v=3 then 2 else 1
theorem VH(v:Nat):nnN v=1∨nnN v=2:=by unfold nnN; split<;>simp
def vN(value:Int):Nat:=(value%4).toNat
theorem aa9(value:Int):vN value<4:=by unfold vN; omega
theorem acY(value:Int):ak .and .i64 value 3=(vN value:Int):=by
 have:=IJ (x:=value) (k:=2) (by decide)
 rw[show((2^2-1:Nat):Int)=3 from rfl]at this
 rw[this]; unfold vN
 rw[az9 (Int.emod_nonneg _ (by decide))]
 rfl
section
variable {P Q G:Nat}
theorem VI(hP:1<P)(p62:P<4611686018427387904)(hQ:512≤Q)(q31:Q<2147483648) {t:Nat}(ht:t=1∨t=2)(value:Int):
  ∃m l,za ((P:Int),(Q:Int),(G:Int)) (t:Int) value=some ((nnN (vN value),m),(3*t+1,l))∧aa2 P Q G (aNv (vN value)) (bNv (vN value)) t (nnN (vN value)) m l:=by
 obtain⟨r,hr⟩: ∃r,za ((P:Int),(Q:Int),(G:Int)) (t:Int) value=r:=⟨_,rfl⟩
 rw[hr]
 rw[NW]at hr; unfold Lv at hr
 have hv:=aa9 value
 rw[acY]at hr
 generalize vN value=v at*
 have w1:IntKind.i64.wrap (100+(v:Int))=((100+v:Nat):Int):=wrap_i64 (by omega)
 have w2:IntKind.i64.wrap (7+(v:Int))=((7+v:Nat):Int):=wrap_i64 (by omega)
 have w3:IntKind.i64.wrap (9+(v:Int))=((9+v:Nat):Int):=wrap_i64 (by omega)
 have i1:=wK (n:=100+v) (by omega)
 have i2:=wK (n:=7+v) (by omega)
 have i3:=wK (n:=9+v) (by omega)
 have j1:=Cb (n:=100+v) (by omega)
 have j2:=Cb (n:=7+v) (by omega)
 have j3:=Cb (n:=9+v) (by omega)
 simp-zeta-letToHave only[w1,w2,w3,i1,i2,i3]at hr
 extract_lets-underBinder k at hr
 have hk: ∀(nn nr:Nat) (x y:Nat→(Nat→Int)),nn=nnN v→t*nn≤nr→nr<10→(∀k,k<nn→IsN (x k) (aNv v k))→(∀j,j<t*nn→IsN (y j) (bNv v j))→
   ∃m l,k (((nn,x),((nr,y),())),())=some ((nnN v,m),(3*t+1,l))∧aa2 P Q G (aNv v) (bNv v) t (nnN v) m l:=by
  intro nn nr x y hnn h1 h1' hx hy
  subst hnn
  obtain⟨m,l,d1,d2⟩:=a6f (P:=P) (Q:=Q) (G:=G) hP p62 (by omega) q31 ht (VH v) (x:=fun j=>x (0+j)) (y:=fun j=>y (0+j)) (a:=aNv v) (b:=bNv v)
   (fun k hk=>by simp only[axc]; exact hx k hk) (fun j hj=>by simp only[axc]; exact hy j hj)
   (fun k _=>by unfold aNv;(repeat' split)<;>omega) (fun j _=>by unfold bNv;(repeat' split)<;>omega)
  refine⟨m,l,?_,d2⟩
  unfold k
  have e1:IntKind.i64.wrap ((t:Int)*((nnN v:Nat):Int))=((t*nnN v:Nat):Int):=by
   rw[show(t:Int)*((nnN v:Nat):Int)=((t*nnN v:Nat):Int)from rfl,wrap_i64 (by omega)]
  simp(disch:=omega) only[e1,WW,Bool.and_self,Nat.sub_zero,d1]
 clear_value k
 by_cases h3:v=3
 ·subst h3
  have i5:=wK (n:=5) (by decide)
  have i6:=wK (n:=1) (by decide)
  have i7:=wK (n:=2) (by decide)
  have i5':aU 5=some (Jg 5):=i5
  have i6':aU 1=some (Jg 1):=i6
  have i7':aU 2=some (Jg 2):=i7
  simp only[show((((3:Nat):Int))==3)=true from rfl,bB,i5',i6',i7']at hr
  rw[←hr]
  refine hk 2 4 _ _ rfl (by rcases ht with rfl|rfl<;>decide) (by decide) (fun k hk=>?_) (fun j hj=>?_)
  ·rcases(by omega:k=0∨k=1)with rfl|rfl
   ·exact j1
   ·exact Cb (n:=5) (by decide)
  ·rcases(by rcases ht with rfl|rfl<;>omega:j=0∨j=1∨j=2∨j=3)with rfl|rfl|rfl|rfl
   ·exact j2
   ·exact j3
   ·exact Cb (n:=1) (by decide)
   ·exact Cb (n:=2) (by decide)
 ·have e:nnN v=1:=awU h3
  have e3:((v:Int)==3)=false:=iA (by omega)
  simp only[e3,bF]at hr
  rw[←hr]
  refine hk 1 2 _ _ e.symm (by rcases ht with rfl|rfl<;>decide) (by decide) (fun k hk=>?_) (fun j hj=>?_)
  ·obtain rfl:k=0:=by omega
   exact j1.of_eq (by unfold aNv; rw[awU h3])
  ·rcases(by rcases ht with rfl|rfl<;>omega:j=0∨j=1)with rfl|rfl
   ·exact j2.of_eq (by unfold bNv; rw[awU h3]; rfl)
   ·exact j3.of_eq (by unfold bNv; rw[awU h3]; rfl)
end
def Dm(x:Int):ByteArray:=(upd (upd (upd (upd (fun _=>ByteArray.empty) 0 (ByteArray.mk #[107])) 1 (ByteArray.mk #[97])) 2 (ByteArray.mk #[107,107])) 3 (ByteArray.mk #[])) (0+vN x)
abbrev NZ:=Int×Z0i
def Ch(P G:Nat)(t:Nat)(a:NZ):List Z0H:=uE P G (aNv (vN a.2.2.2.2.2.1)) (bNv (vN a.2.2.2.2.2.1)) t (nnN (vN a.2.2.2.2.2.1))
def Xc(t I:Nat)(a:NZ):Nat:=(I-1+(a.2.2.2.2.2.2%2).toNat)%(3*t+1)
def Py(Q t I:Nat)(a:NZ):List Nat:=(List.range (nnN (vN a.2.2.2.2.2.1))).map fun k=>evN (coN (aNv (vN a.2.2.2.2.2.1)) (bNv (vN a.2.2.2.2.2.1)) t k) (t+1) (Xc t I a+1) Q
structure aac(P Q G t I:Nat)(a:NZ)(op:Int)(st:aF)(dg:ByteArray)(M:List Z0H)(L:List Nat):Prop where
 few:M.length≤2∧L.length≤2
 listen:a.2.1=1∨a.2.1=2→op=a.2.2.1∧st=(0,0)∧dg=ByteArray.empty∧M=[]∧L=[]
 shares:a.2.1=4∨a.2.1=8→op=a.2.2.1∧st=a.2.2.2.2.1∧dg=ByteArray.empty∧M=Ch P G t a∧L=Py Q t I a
 vote:a.2.1=5∨a.2.1=6→op=0∧st=a.2.2.2.2.1∧dg=yV (iH (Ch P G t a))∧M=[]∧L=[]
 other:a.2.1≠1∧a.2.1≠2∧a.2.1≠4∧a.2.1≠8∧a.2.1≠5∧a.2.1≠6→op=a.2.2.1∧st=a.2.2.2.2.1∧dg=ByteArray.empty∧M=[]∧L=[]
theorem J6:jg 0 (fun _=>.nil) []:=⟨rfl,fun i hi=>absurd hi (axv _),fun i hi=>absurd hi (axv _),fun i hi=>absurd hi (axv _)⟩
theorem J7:yu 0 zNN []:=⟨rfl,fun j hj=>absurd hj (axv _)⟩
theorem LA(P G t:Nat)(hP:0<P)(p62:P<4611686018427387904)(ht:t=1∨t=2)(a:NZ):(iH (Ch P G t a)).length≤600:=by
 have h:=a3P (M:=Ch P G t a) fun R hR=>by
  simp only[Ch,uE,azd,az7]at hR
  obtain⟨k,_,rfl⟩:=hR
  refine⟨by simp; omega,fun n hn=>?_⟩
  simp only[azd,az7]at hn
  obtain⟨j,_,rfl⟩:=hn
  exact azl (axh _ hP) (azl p62 (by decide))
 have hl:(Ch P G t a).length=nnN (vN a.2.2.2.2.2.1):=by simp[Ch,uE]
 have:=VH (vN a.2.2.2.2.2.1)
 omega
theorem yX {P Q G:Nat}(hP:1<P)(p62:P<4611686018427387904)(hQ:512≤Q)(q31:Q<2147483648) {t I:Nat}(ht:t=1∨t=2)(hI:1≤I∧I≤3*t+1)(a:NZ):
  ∃op st dg nm m ny y M L,dR ((P:Int),(Q:Int),(G:Int)) (t:Int) (I:Int) a=some (Dj a.2.1 op (Dm a.2.2.2.1) st dg nm m ny y)∧jg nm m M∧yu ny y L∧aac P Q G t I a op st dg M L:=by
 obtain⟨m,l,d1,d2⟩:=VI (P:=P) (Q:=Q) (G:=G) hP p62 hQ q31 ht a.2.2.2.2.2.1
 have hv:=aa9 a.2.2.2.1
 obtain⟨r,hr⟩: ∃r,dR ((P:Int),(Q:Int),(G:Int)) (t:Int) (I:Int) a=r:=⟨_,rfl⟩
 rw[hr]
 rw[I8]at hr; unfold Ev at hr
 rw[acY,K7 (by omega),bB,axd]at hr
 simp-zeta-letToHave only[d1]at hr
 extract_lets-underBinder t1 k at hr
 have et:t1=Dm a.2.2.2.1:=rfl
 clear_value t1
 subst et
 have hD:=Fg d2.mat (by have:=VH (vN a.2.2.2.2.2.1); omega) (axb (LA P G t (by omega) p62 ht a) (by decide))
 have n12:=VH (vN a.2.2.2.2.2.1)
 have bf: ∀ {x y:Int},x≠y→(x==y)=false:=iA
 by_cases c1:a.2.1=1∨a.2.1=2
 ·have e:(bif (a.2.1==1)then k (((a.2.1==1),()),())else k (((a.2.1==2),()),()))=k ((true,()),()):=by
   rcases c1 with c|c<;>rw[c]<;>rfl
  rw[e]at hr
  refine⟨a.2.2.1,(0,0),ByteArray.empty,0,_,0,zNN,[],[],hr.symm,J6,J7,⟨by decide,fun _=>⟨rfl,rfl,rfl,rfl,rfl⟩,fun h=>by omega,fun h=>by omega,fun h=>by omega⟩⟩
 have e:(bif (a.2.1==1)then k (((a.2.1==1),()),())else k (((a.2.1==2),()),()))=k ((false,()),()):=by
  rw[bf (fun h=>c1 (.inl h)),bf (fun h=>c1 (.inr h))]; rfl
 rw[e]at hr
 unfold k at hr
 extract_lets-underBinder t2 k1 at hr
 replace hr:(bif (a.2.1==4)then k1 (((a.2.1==4),()),())else k1 (((a.2.1==8),()),()))=r:=hr
 by_cases c2:a.2.1=4∨a.2.1=8
 ·have e:(bif (a.2.1==4)then k1 (((a.2.1==4),()),())else k1 (((a.2.1==8),()),()))=k1 ((true,()),()):=by
   rcases c2 with c|c<;>rw[c]<;>rfl
  rw[e]at hr
  unfold k1 at hr
  have w1:IntKind.i64.wrap ((I:Int)-1)=((I-1:Nat):Int):=by rw[wrap_i64 (by omega)]; omega
  have w2:IntKind.i64.wrap (((I-1:Nat):Int)+a.2.2.2.2.2.2%2)=((I-1+(a.2.2.2.2.2.2%2).toNat:Nat):Int):=by
   have h0:0≤a.2.2.2.2.2.2%2:=Int.emod_nonneg _ (by decide)
   have h1:a.2.2.2.2.2.2%2<2:=Int.emod_lt_of_pos _ (by decide)
   rw[wrap_i64 (by omega)]; omega
  have w3:Int.tmod ((I-1+(a.2.2.2.2.2.2%2).toNat:Nat):Int) ((3*t+1:Nat):Int)=(Xc t I a:Int):=rfl
  have hw:Xc t I a<3*t+1:=axh _ (by omega)
  obtain⟨f,f1,f2⟩:=d2.sh (Xc t I a) hw
  refine⟨a.2.2.1,a.2.2.2.2.1,ByteArray.empty,nnN (vN a.2.2.2.2.2.1),m,nnN (vN a.2.2.2.2.2.1),f,Ch P G t a,Py Q t I a,?_,d2.mat,⟨by simp[Py],fun j hj=>?_⟩,⟨⟨by simp[Ch,uE]; omega,by simp[Py]; omega⟩,fun h=>absurd h c1,fun _=>⟨rfl,rfl,rfl,rfl,rfl⟩,fun h=>by omega,fun h=>by omega⟩⟩
  ·rw[NM,w1,w2,w3]at hr
   simp(disch:=omega) only[WW,f1,show∀ {α:Type} (n:Nat) (g:Nat→α),SlV.isMs (.fz n g)=false from fun _ _=>rfl]at hr
   exact hr.symm
  ·rw[Py,NU hj]; exact f2 j hj
 have e:(bif (a.2.1==4)then k1 (((a.2.1==4),()),())else k1 (((a.2.1==8),()),()))=k1 ((false,()),()):=by
  rw[bf (fun h=>c2 (.inl h)),bf (fun h=>c2 (.inr h))]; rfl
 rw[e]at hr
 unfold k1 at hr
 simp only[bF,hD]at hr
 by_cases c3:a.2.1=5
 ·rw[c3]at hr⊢
  exact⟨0,a.2.2.2.2.1,_,0,_,0,zNN,[],[],hr.symm,J6,J7,⟨by decide,fun h=>by omega,fun h=>by omega,fun _=>⟨rfl,rfl,rfl,rfl,rfl⟩,fun h=>by omega⟩⟩
 by_cases c4:a.2.1=6
 ·rw[c4]at hr⊢
  exact⟨0,a.2.2.2.2.1,_,0,_,0,zNN,[],[],hr.symm,J6,J7,⟨by decide,fun h=>by omega,fun h=>by omega,fun _=>⟨rfl,rfl,rfl,rfl,rfl⟩,fun h=>by omega⟩⟩
 ·rw[bf c3,bf c4]at hr
  exact⟨a.2.2.1,a.2.2.2.2.1,ByteArray.empty,0,_,0,zNN,[],[],hr.symm,J6,J7,⟨by decide,fun h=>by omega,fun h=>by omega,fun h=>by omega,fun _=>⟨rfl,rfl,rfl,rfl,rfl⟩⟩⟩
open Go Go.Den Go.Num
theorem a4J: ∀(l:List OU) (o:iF) (i:Nat),(apps o l).2 i=if i<o.1 then o.2 i else if h:i-o.1<l.length then l[i-o.1]else(apps o l).2 i
 | [],o,i=>by
  show o.2 i=_
  split
  ·rfl
  ·rw[dif_neg (by simp)]; rfl
 |x::l,o,i=>by
  have ih:=a4J l (app o x) i
  have e:(apps o (x::l))=apps (app o x) l:=rfl
  by_cases h0:i<o.1
  ·rw[ax1 h0,e,ih,ax1 (show i<(app o x).1 by simp only[app]; omega)]
   simp only[app]; exact a1A h0
  ·rw[awU h0]
   by_cases h1:i=o.1
   ·subst h1
    rw[dif_pos (by simp),e,ih,ax1 (show o.1<(app o x).1 by simp only[app]; omega)]
    simp only[app,ayx,List.getElem_cons_zero]
    rw[a1B (ax5 _),ayx]; rfl
   ·split
    ·rename_i h2
     rw[e,ih,awU (show¬i<(app o x).1 by simp only[app]; omega)]
     have h3:i-(app o x).1<l.length:=by simp only[app]; simp only[axN]at h2; omega
     rw[dif_pos h3]
     have h4:i-o.1=(i-(app o x).1)+1:=by simp only[app]; omega
     simp only[h4,List.getElem_cons_succ]
    ·rfl
theorem aad {l:List OU} {i:Nat}(h:i<l.length):(frz (apps zNO l)).2 i=l[i]:=by
 show(apps zNO l).2 (0+i)=_
 rw[axc,a4J,awU (show¬i<(zNO:iF).1 from axv _),dif_pos (show i-(zNO:iF).1<l.length from h)]
 rfl
theorem RX(l:List OU):(frz (apps zNO l)).1=l.length:=by
 show(apps zNO l).1=_
 rw[gq]; exact axc _
def Ia(f:Fr)(o:iF):Prop:= ∀i,i<o.1→ ∃key,Vy { f with key:=key } (o.2 i)
theorem RA {f:Fr} {l:List OU}(h: ∀x∈l,∃key,Vy { f with key:=key } x):Ia f (frz (apps zNO l)):=fun i hi=>by
 rw[RX]at hi
 rw[aad hi]
 exact h _ (List.getElem_mem hi)
theorem a6q(f:Fr):Ia f zNO:=fun i hi=>absurd hi (axv _)
theorem Y7 {f:Fr} {o:iF}(h:Ia f o)(hn:o.1<9223372036854775808):lq o.1 o.2 o.1 o.2=some true:=by
 rw[EO]; unfold BM
 obtain⟨_,y1,rfl⟩:=aO (R:=iO) (S:=Unit) (fun i _=>uZ o.1 o.2 o.1 o.2 (i:Int)) (fun _=>qP) (fun _ s=>s=()) o.1
  (fun i hi _ _=>by
   obtain⟨key,_,nm,m,ny,y,M,L,he,hm,hy,⟨s1,s2,s3⟩,_⟩:=h i hi
   have hsz:=hm.sz
   have hyl:=hy.1
   refine⟨(),?_,rfl⟩
   obtain⟨x1,x2,x3,x4,x5,x6,hx⟩: ∃x1 x2 x3 x4 x5 x6,o.2 i=(x1,(x2,(x3,(x4,(x5,(x6,((SlV.fz nm m,SlV.fz ny y)))))))):=by
    generalize o.2 i=x at*
    obtain⟨x1,x2,x3,x4,x5,x6,x7,x8⟩:=x
    simp only[azn]at he
    obtain⟨rfl,rfl⟩:=he
    exact⟨x1,x2,x3,x4,x5,x6,rfl⟩
   have hs:H6 (x2,(x3,(x4,(x5,(x6,((nm,m),(ny,y))))))) (x2,(x3,(x4,(x5,(x6,((nm,m),(ny,y)))))))=some true:=by
    rw[QC]; unfold OJ
    have e1:=X6 hm hm (by omega) (fun i hi=>by have:=s3 i hi; omega)
    have e2:=Kj hy hy (by omega)
    rw[dM rfl]at e1 e2
    simp only[axY,bB,(u7 _ _).2,a5Z,e1,e2]
   have e0:(x1 !=x1)=false:=ayl _
   have i1:(SlV.fz nm m).isMs=false:=rfl
   have i2:(SlV.fz ny y).isMs=false:=rfl
   have hs':H6 (x2,(x3,(x4,(x5,(x6,(((SlV.fz nm m).len,SlV.fn SlV.nil (SlV.fz nm m)),((SlV.fz ny y).len,SlV.fn (fun _=>0) (SlV.fz ny y)))))))) (x2,(x3,(x4,(x5,(x6,(((SlV.fz nm m).len,SlV.fn SlV.nil (SlV.fz nm m)),((SlV.fz ny y).len,SlV.fn (fun _=>0) (SlV.fz ny y))))))))=some true:=hs
   simp(disch:=omega) only[iO,uZ,WW,CC,axd,hx,e0,i1,i2,hs',bF,ay1])
  (fun _ _=>by simp(disch:=omega) only[iO,uZ,WW,CC]) () rfl
 have y1':aB iO (((o.1,o.2),((o.1,o.2),(0,()))),())=some qP:=y1
 simp only[ayl,bF,y1',qP]
def Xd(l:List (ByteArray×Rc))(k:ByteArray):Prop:= ∃e∈l,e.1=k
theorem Pz: ∀ {l:List (ByteArray×Rc)} {k},Xd l k→ ∃e,l[gD l k]?=some e
 | [],k,⟨e,h,_⟩=>absurd h (by simp)
 |a::l,k,⟨e,h,he⟩=>by
  simp only[gD]
  split
  ·exact⟨a,by simp⟩
  ·rename_i hn
   rcases ay9.1 h with rfl|h
   ·exact absurd he hn
   ·obtain⟨q,hq⟩:=Pz ⟨e,h,he⟩
    exact⟨q,by simp[hq]⟩
theorem abp {l:List (ByteArray×Rc)} {k:ByteArray} {e}(h:l[gD l k]?=some e):Xd l k:=⟨e,axO h,vU h⟩
open Classical in
theorem a6r(l:List (ByteArray×Rc))(k:ByteArray)(x:Rc):(Jh l k x).map (·.1)=if Xd l k then l.map (·.1)else l.map (·.1)++[k]:=by
 unfold Jh
 cases h:l[gD l k]? with
 |none=>
  rw[awU (fun hk=>by obtain⟨e,he⟩:=Pz hk; rw[h]at he; cases he)]
  simp
 |some e=>
  rw[ax1 (abp h)]
  apply axV
  intro j
  simp only[axz,ayD]
  by_cases c:gD l k=j
  ·subst c; simp[h]
  ·simp only[awU c]; cases l[j]?<;>rfl
theorem VJ {l:List (ByteArray×Rc)} {k:ByteArray} :Xd l k↔k∈l.map (·.1):=by
 simp only[Xd,azd]
open Classical in
theorem a1Q(l:List (ByteArray×Rc))(k:ByteArray)(x:Rc)(q:ByteArray):Xd (Jh l k x) q↔Xd l q∨q=k:=by
 rw[VJ,a6r]
 split
 ·rename_i h
  rw[←VJ]
  exact⟨.inl,fun hh=>hh.elim id fun e=>by rw[e]; exact h⟩
 ·rw[axD,←VJ,ay2]
theorem aae {l:List (ByteArray×Rc)} {k:ByteArray} {x:Rc} {e}(h:e∈Jh l k x):e∈l∨e=(k,x):=by
 unfold Jh at h
 cases hl:l[gD l k]? with
 |none=>
  rw[hl]at h
  simp only[axD,ay2]at h
  exact h
 |some q=>
  rw[hl]at h
  simp only at h
  obtain⟨j,hj,rfl⟩:=List.getElem_of_mem h
  rw[List.length_modify]at hj
  rw[List.getElem_modify]
  split
  ·rename_i c
   subst c
   have:l[gD l k]=q:=by rw[awZ hj]at hl; exact axH hl
   rw[this]
   exact .inr (by rw[vU hl])
  ·exact .inl (List.getElem_mem hj)
theorem aaf(l:List (ByteArray×Rc))(k:ByteArray):(∃e∈l,e.2=Ai l k∧e.1=k)∨Ai l k=newR:=by
 unfold Ai
 cases h:l[gD l k]? with
 |none=>exact .inr rfl
 |some e=>exact .inl ⟨e,axO h,rfl,vU h⟩
structure Good(h:Hd)(s:Sv)(j:Nat):Prop where
 srt:qI s.n s.ks
 few:s.n≤j
 full: ∀i,i<s.n→Xd s.l (s.ks i)∧(1≤(s.ks i).size∧(s.ks i).size≤8)
 rcs: ∀e∈s.l,oM e.2
theorem oM.wf {x:Rc}(h:oM x):WFc x.c:=fun i _ hp=>(h.c i).w.2.2 hp
theorem Good.ok {h:Hd} {s:Sv} {j:Nat}(g:Good h s j)(hj:j<1000):s.Ok:=⟨g.srt,axb g.few hj,fun e he=>(g.rcs e he).wf⟩
theorem Good.tick {h:Hd} {s:Sv} {j:Nat}(g:Good h s j):s.Full:=fun i hi=>Pz (g.full i hi).1
theorem Good.get {h:Hd} {s:Sv} {j:Nat}(g:Good h s j)(k:ByteArray):oM (Ai s.l k):=by
 rcases aaf s.l k with⟨e,he,e1,_⟩|e
 ·rw[←e1]; exact g.rcs e he
 ·rw[e]; exact aa5
structure a4K(k op:Int)(st:aF)(dg:ByteArray)(nm:Nat)(m:Nat→SlV (Nat→Int))(ny:Nat)(y:Nat→(Nat→Int))(M:List Z0H)(L:List Nat):Prop where
 mat:jg nm m M
 row:yu ny y L
 few:M.length<1000∧L.length<1000
 len: ∀i,i<nm→(m i).len<1000
 byt:(iH M).length≤600
noncomputable def Kl(h:Hd)(from_ k op:Int)(key:ByteArray)(st:aF)(dg:ByteArray)(v:VA)(s:Sv):List OU:=(jA h from_ k op key st dg v (Ai s.l key)).2
noncomputable def Y8(h:Hd)(from_ k op:Int)(key:ByteArray)(st:aF)(dg:ByteArray)(v:VA)(s:Sv):Sv:=
 ⟨Jh s.l key (jA h from_ k op key st dg v (Ai s.l key)).1,(h.opn key from_ s).2.1.2.2.1.1,(h.opn key from_ s).2.1.2.2.1.2,(h.opn key from_ s).2.1.2.2.2,frz (apps zNO (Kl h from_ k op key st dg v s))⟩
theorem a3Q {M:List Z0H}(h:iH M≠ []):Ac M=true:=by
 cases he:Ac M with
 |true=>rfl
 |false=>exfalso; apply h; unfold iH; rw[he]; rfl
theorem abq {k c:Int}(h:Vv k c)(hk:k=5∨k=6):c=3:=by unfold Vv at h; omega
theorem abr {k c:Int}(h:Vv k c)(hk:k=1):c=8:=by unfold Vv at h; omega
theorem aag {h:Hd}(hh:h.Ok) {from_ k op:Int} {key:ByteArray} {st:aF} {dg:ByteArray} {nm:Nat} {m:Nat→SlV (Nat→Int)} {ny:Nat} {y:Nat→(Nat→Int)} {M:List Z0H} {L:List Nat}(hm:a4K k op st dg nm m ny y M L)(hmay:I7 h from_ k op key st dg M L) {x:Rc}(hx:oM x):
  j4 (h.fr key) (jA h from_ k op key st dg (st,(yV (iH M),((nm,m),(ny,y)))) x):=by
 have hF:(h.fr key).Ok2:= { hh.f key with key:=hmay.1.1 }
 have hk:k=1∨k=2∨k=5∨k=6∨k=8∨k=4:=by have:=hmay.2.1; unfold dz at this; omega
 have h3:=hmay.1.2.2
 have h2:=hmay.1.2.1
 have hv:k=4∨k=8→Gv (st,(yV (iH M),((nm,m),(ny,y)))):=fun c=>by
  obtain⟨w1,w2,w3,w4⟩:=a3L hmay.1 c
  exact⟨M,L,hm.mat,hm.row,⟨hm.few.1,hm.few.2,hm.len⟩,.inr ⟨w1,XT _,.inr ⟨a3Q w3,w2⟩⟩⟩
 have hvote:k=5∨k=6→lU st∧dg.size=32:=fun c=>by
  obtain⟨a1,a2,a3,a4⟩:=aiI (abq h3 c)
  exact⟨h2.1 a1,h2.2.1 a2⟩
 have hop:k=1→1≤op∧op≤1048576:=fun c=>by
  obtain⟨a1,a2,a3,a4⟩:=aiJ (abr h3 c)
  exact h2.2.2.2 a4
 unfold jA
 rcases hk with rfl|rfl|rfl|rfl|rfl|rfl
 ·rw[ax1 rfl]; exact a3O hF _ (hop rfl) hx
 ·rw[awU (by decide),ax1 rfl]; exact a6p _ _ hx
 ·rw[awU (by decide),awU (by decide),ax1 rfl]; exact a6n hF _ (hvote (.inl rfl)).1 (hvote (.inl rfl)).2 hx
 ·rw[awU (by decide),awU (by decide),awU (by decide),ax1 rfl]; exact a6o hF _ (hvote (.inr rfl)).1 (hvote (.inr rfl)).2 hx
 ·rw[awU (by decide),awU (by decide),awU (by decide),awU (by decide),ax1 rfl]; exact Y6 hF (hv (.inr rfl)) hx
 ·rw[awU (by decide),awU (by decide),awU (by decide),awU (by decide),awU (by decide)]
  obtain⟨w1,w2,w3,w4,w5,_⟩:=a3L hmay.1 (.inl rfl)
  exact ZO hF _ ⟨hv (.inl rfl),⟨by show 0≤op; omega,w5⟩,fun _=>w1⟩ w1 (by show 0<op; omega) hx
def LB(h:Hd)(from_ k op:Int)(key:ByteArray)(st:aF)(dg:ByteArray)(M:List Z0H)(L:List Nat)(s:Sv):Prop:=I7 h from_ k op key st dg M L∧(h.opn key from_ s).1.2.2.1=0
theorem aiL(h:Hd)(key:ByteArray)(from_:Int)(s:Sv):(h.opn key from_ s).2.1=h.sp (h.opn key from_ s).2.1.2.2.1.1 (h.opn key from_ s).2.1.2.2.1.2 (h.opn key from_ s).2.1.2.2.2:=by
 unfold Hd.opn uD
 repeat' split
 all_goals rfl
theorem aah {h:Hd} {key:ByteArray} {from_:Int} {s:Sv}(h0:(h.opn key from_ s).1.2.2.1=0):
  (1≤key.size∧key.size≤8)∧(h.opn key from_ s).2.1.2.2.1.1≤s.n+1∧ ∀i,i<(h.opn key from_ s).2.1.2.2.1.1→(h.opn key from_ s).2.1.2.2.1.2 i=key∨ ∃j,j<s.n∧(h.opn key from_ s).2.1.2.2.1.2 i=s.ks j:=by
 revert h0
 unfold Hd.opn uD
 split
 ·intro h; exact absurd h (by show¬((1:Int)=0); decide)
 ·rename_i hc
  have hk:1≤key.size∧key.size≤8:=axp fun h=>hc (.inl h)
  split
  ·intro _; exact⟨hk,Nat.le_succ _,fun i hi=>.inr ⟨i,hi,rfl⟩⟩
  ·split
   ·intro h; exact absurd h (by show¬((7:Int)=0); decide)
   ·intro _
    refine⟨hk,ax5 _,fun i hi=>?_⟩
    have hi':i<s.n+1:=hi
    show Af s.ks (before s.n s.ks key) key i=key∨ ∃j,j<s.n∧Af s.ks (before s.n s.ks key) key i=s.ks j
    have hb:before s.n s.ks key≤s.n:=ZC _ _ _
    rw[ZE]
    split
    ·exact .inr ⟨i,by omega,rfl⟩
    ·split
     ·exact .inl rfl
     ·exact .inr ⟨i-1,by omega,rfl⟩
theorem PD {h:Hd}(hh:h.Ok) {from_ k op:Int} {key:ByteArray} {st:aF} {dg:ByteArray} {nm:Nat} {m:Nat→SlV (Nat→Int)} {ny:Nat} {y:Nat→(Nat→Int)} {M:List Z0H} {L:List Nat}(hm:a4K k op st dg nm m ny y M L) {s:Sv} {j:Nat}(g:Good h s j)(ht:LB h from_ k op key st dg M L s):
  Good h (Y8 h from_ k op key st dg (st,(yV (iH M),((nm,m),(ny,y)))) s) (j+1)∧nW (h.fr key) (Kl h from_ k op key st dg (st,(yV (iH M),((nm,m),(ny,y)))) s):=by
 have hr:=aag hh hm ht.1 (g.get key)
 obtain⟨k1,k2,k3⟩:=aah ht.2
 have k4:=ZG g.srt key from_ (h.N:Int) 3 s.u
 refine⟨⟨k4.1,ayG k2 (Nat.succ_le_succ g.few),fun i hi=>?_,fun e he=>?_⟩,hr.2⟩
 ·rcases k3 i hi with e|⟨j',hj,e⟩
  ·show Xd (Jh _ _ _) ((h.opn key from_ s).2.1.2.2.1.2 i)∧_≤((h.opn key from_ s).2.1.2.2.1.2 i).size∧((h.opn key from_ s).2.1.2.2.1.2 i).size≤_
   rw[e]; exact⟨(a1Q _ _ _ _).2 (.inr rfl),k1⟩
  ·show Xd (Jh _ _ _) ((h.opn key from_ s).2.1.2.2.1.2 i)∧_≤((h.opn key from_ s).2.1.2.2.1.2 i).size∧((h.opn key from_ s).2.1.2.2.1.2 i).size≤_
   rw[e]; exact⟨(a1Q _ _ _ _).2 (.inl (g.full j' hj).1),(g.full j' hj).2⟩
 ·rcases aae he with h1|rfl
  ·exact g.rcs e h1
  ·exact hr.1
open Classical in
theorem Dn {h:Hd}(hh:h.Ok) {from_:Int}(hf: -9223372036854775808≤from_∧from_<9223372036854775808) {k op:Int} {key:ByteArray} {st:aF} {dg:ByteArray} {nm:Nat} {m:Nat→SlV (Nat→Int)} {ny:Nat} {y:Nat→(Nat→Int)} {M:List Z0H} {L:List Nat}(hm:a4K k op st dg nm m ny y M L) {s:Sv} {j:Nat}(g:Good h s j)(hj:j<1000):
  aN from_ k op key st dg nm m ny y (h.mk' s)=
   some (if LB h from_ k op key st dg M L s then((frz (apps zNO (Kl h from_ k op key st dg (st,(yV (iH M),((nm,m),(ny,y)))) s)),()),h.mk' (Y8 h from_ k op key st dg (st,(yV (iH M),((nm,m),(ny,y)))) s))else((zNO,()),h.mk' s)):=by
 have hsz:=hm.mat.sz
 have hyl:=hm.row.1
 have hfw:=hm.few
 by_cases c:LB h from_ k op key st dg M L s
 ·rw[ax1 c]
  exact step_ok hh hf hm.mat hm.row (by omega) (by omega) (g.ok hj) (Lr hm.mat (by omega) (axb hm.byt (by decide))) c.1 c.2 (aiL h key from_ s)
 ·rw[awU c]
  exact abj hh hf hm.mat hm.row (by omega) (by omega) (g.ok hj) c
theorem acZ {n:Int} {s:Nat}(h:s≤64):bH .i64 n (s:Int)=n/2^s:=by
 unfold bH
 rw[axd,show min s (IntKind.bits .i64)=s from ayw h]
 exact Int.fdiv_eq_ediv_of_nonneg _ (Int.le_of_lt (Int.pow_pos (by decide)))
theorem aai {a b:Int}(h:1≤a∧a≤7∧1≤b∧b≤4):wZ a b=some (EZ 0 a b 0 (fun _=>ByteArray.empty) []):=by
 rw[Hf,Ef,bG (by omega),bF,bG (by omega),bF,bG (by omega),bF,bG (by omega),bF]
abbrev VK(h:Hd):=(((h.P:Int),((h.Q:Int),(h.G:Int))),((h.T:Int),((h.I:Int),((h.N:Int),((3:Int),(((h.N:Int),((3:Int),((.nil:SlV ByteArray),(.nil:SlV Int)))),((.nil:SlV Z0g),(.nil:SlV OU))))))))
def zS:Sv:=⟨[],0,fun _=>ByteArray.empty,[],zNO⟩
structure Hd.Ok3(h:Hd):Prop extends h.Ok where
 p1:1<h.P
 p62:h.P<4611686018427387904
 q31:h.Q<2147483648
 q20:1000000<h.Q
theorem Hd.Ok3.q512 {h:Hd}(hh:h.Ok3):512≤h.Q:=hh.grp.big
theorem aiM(which:Int): ∃k l ga g P Q G,MQ which=some ((k,l),ga)∧a3t k l ga g P Q G∧P<4611686018427387904∧Q<2147483648∧1000000<Q:=by
 rw[Qo]; unfold Oz
 have hm:ak .and .i64 which 1=which%(2^1:Nat):=IJ (k:=1) (by decide)
 by_cases h:which%2=1
 ·have h1:ak .and .i64 which 1=1:=by rw[hm]; exact h
  simp(disch:=omega) only[WW,h1,WT]
  obtain⟨g,hg⟩:=a3v
  exact⟨3,En,Lg,g,_,_,_,rfl,hg,by decide,by decide,by decide⟩
 ·have h1:ak .and .i64 which 1=0:=by rw[hm]; omega
  simp(disch:=omega) only[WW,h1,WR]
  obtain⟨g,hg⟩:=a3u
  exact⟨3,Em,Lf,g,_,_,_,rfl,hg,by decide,by decide,by decide⟩
theorem VL(which:Int): ∃h:Hd,h.Ok3∧(which=0→h.T=1∧h.I=1)∧
  oN which=some (((),(VK h,(((h.P:Int),((h.Q:Int),(h.G:Int))),(true,())))),(h.sp 0 (fun _=>ByteArray.empty) [],(h.sn [] zNO,()))):=by
 obtain⟨k,l,ga,g,P,Q,G,p1,hg,hP,hQ,hQ2⟩:=aiM which
 have hgg:=hg.group
 have hG:=hgg.gP
 have hG1:=hgg.g1
 obtain⟨fr,f1,_⟩:=vK hgg
 have hO:=a1i (P:=P) (Q:=Q) (G:=G) hg.k2 (by have:=hg.k8; omega) hg.p hg.q hg.gen (by omega) (by omega) (by omega)
 have s1:ak .and .i64 (bH .i64 which 1) 1=which/2%2:=by
  rw[show(1:Int)=((1:Nat):Int)from rfl,acZ (n:=which) (s:=1) (by decide)]; exact IJ (x:=which/2^1) (k:=1) (by decide)
 have s2:ak .and .i64 (bH .i64 which 2) 255=which/4%256:=by
  rw[show(2:Int)=((2:Nat):Int)from rfl,acZ (n:=which) (s:=2) (by decide)]; exact IJ (x:=which/2^2) (k:=8) (by decide)
 have hT1:0≤which/2%2∧which/2%2<2:=by omega
 have hI1:0≤which/4%256∧which/4%256<256:=by omega
 have hz:which=0→which/2%2=0∧which/4%256=0:=by omega
 rw[Fb]; unfold Cc
 simp only[p1,hg.made,s1,s2,hO]
 generalize which/2%2=u at*
 generalize which/4%256=v at*
 obtain⟨T,hT⟩: ∃T:Nat,(T:Int)=1+u:=⟨(1+u).toNat,by omega⟩
 have w1:IntKind.i64.wrap (1+u)=(T:Int):=by rw[wrap_i64 (by omega)]; omega
 have w2:IntKind.i64.wrap (IntKind.i64.wrap (3*(T:Int))+1)=((3*T+1:Nat):Int):=by
  rw[wrap_i64 (x:=3*(T:Int)) (by omega),wrap_i64 (by omega)]; omega
 have hv:0≤v%((3*T+1:Nat):Int)∧v%((3*T+1:Nat):Int)<((3*T+1:Nat):Int):=⟨Int.emod_nonneg _ (by omega),Int.emod_lt_of_pos _ (by omega)⟩
 obtain⟨I,hI⟩: ∃I:Nat,(I:Int)=1+v%((3*T+1:Nat):Int):=⟨(1+v%((3*T+1:Nat):Int)).toNat,by omega⟩
 have w3:IntKind.i64.wrap (1+Int.tmod v ((3*T+1:Nat):Int))=(I:Int):=by
  rw[aaW hI1.1,wrap_i64 (by omega)]; omega
 refine⟨⟨g,P,Q,G,T,I,3*T+1⟩,⟨⟨hgg,by show 1≤T∧T≤2; omega,rfl,by show 1≤I∧I≤3*T+1; omega⟩,by show 1<P; omega,hP,hQ,hQ2⟩,fun h0=>?_,?_⟩
 ·obtain⟨h1,h2⟩:=hz h0
  subst h1; subst h2
  have e:T=1:=by omega
  subst e
  exact⟨rfl,by show I=1; simp at hI; omega⟩
 ·have hne: ¬((3*T+1:Nat):Int)=0:=by omega
  have hs:tO (some g) (T:Int) (I:Int) 3=some (vG 0 ((3*T+1:Nat):Int) 3 0 (fun _=>ByteArray.empty) [] g (T:Int) (I:Int) ((3*T+1:Nat):Int) 3 [] 0 (fun i=>(zNO:iF).2 i)):=by
   rw[F7]; unfold wH
   simp only[f1,w2,bG (show¬(T:Int)<1 by omega),bG (show¬(T:Int)>2 by omega),bG (show¬(I:Int)<1 by omega),bG (show¬(I:Int)>((3*T+1:Nat):Int)by omega),bF,aai (a:=((3*T+1:Nat):Int)) (b:=3) (by omega),ayl,EZ,vG]
  have hr:Eb ((P:Int),((Q:Int),(G:Int))) (T:Int) (I:Int) 3=some (some (VK ⟨g,P,Q,G,T,I,3*T+1⟩)):=by
   rw[Uw]; unfold Uv
   simp only[w2]
  simp only[w1,w2,w3,bG hne,bF,hs,hr,vG,axY,bB]
theorem Y9 {P G:Nat}(e x:Nat→Nat): ∀n,iY (fun j=>(G^e j%P)^x j) n%P=G^Df e x n%P
 |0=>by simp[iY,Df]
 |n+1=>by
  simp only[iY,Df]
  rw[ayF,Y9 e x n,←Nat.pow_mod,←ayF,←ayU,←ayg]
section
variable {g:rA} {P Q G:Nat}
theorem O0 {f g:Nat→Nat} : ∀ {n:Nat},(∀i,i<n→f i=g i)→iY f n=iY g n
 |0,_=>rfl
 |n+1,h=>by
  simp only[iY]
  rw[O0 fun i hi=>h i (by omega),h n (by omega)]
theorem a1R(h:dF g P Q G) {t:Nat}(ht:t≤6)(e:Nat→Nat):Pb P Q (t+1) (fun j=>((List.range (t+1)).map fun j=>G^e j%P).getD j 0):=
 ⟨by omega,by omega,fun j hj=>by
  show InP P Q (((List.range (t+1)).map fun j=>G^e j%P).getD j 0)
  rw[NU hj]; exact h.pow_in _⟩
theorem abt {t:Nat}(e:Nat→Nat)(i:Nat):atN P (t+1) (fun j=>((List.range (t+1)).map fun j=>G^e j%P).getD j 0) i=G^Df e (fun j=>i^j) (t+1)%P:=by
 unfold atN
 rw[←Y9 e (fun j=>i^j) (t+1)]
 rw[O0 (f:=fun j=>((List.range (t+1)).map fun j=>G^e j%P).getD j 0^i^j) (g:=fun j=>(G^e j%P)^i^j) fun j hj=>by rw[NU hj]]
theorem a3R(h:dF g P Q G) {t:Nat}(ht:t≤6)(e:Nat→Nat) {i:Nat}(hi:1≤i∧i≤7)(x:Nat):
  uf P Q G (t+1) (fun j=>((List.range (t+1)).map fun j=>G^e j%P).getD j 0) (i:Int) (evN e (t+1) x Q)↔evN e (t+1) x Q=evN e (t+1) i Q:=by
 unfold uf
 rw[axd,abt,a5P h.pp h.pq h.g1 h.gP h.order]
 have h0:evN e (t+1) x Q<Q:=axh _ h.qpos
 rw[awX h0]
 exact⟨fun hh=>hh.2.2.2,fun hh=>⟨⟨by omega,by omega⟩,h0,a1R h ht e,hh⟩⟩
theorem vV(a b:Nat→Nat)(t nn:Nat):(uE P G a b t nn).length=nn:=by simp[uE]
theorem a6s(h:dF g P Q G) {t nn:Nat}(ht:1≤t∧t≤2)(hn:1≤nn∧nn≤2)(a b:Nat→Nat):Pq P Q (t:Int) (uE P G a b t nn):=by
 refine⟨by omega,by rw[vV]; omega,fun i hi=>?_⟩
 rw[vV]at hi
 rw[vS hi]
 simp only[azi,azj]
 exact⟨by omega,a1R h (by omega) _⟩
def J8(Q:Nat)(a b:Nat→Nat)(t nn x:Nat):List Nat:=(List.range nn).map fun k=>evN (coN a b t k) (t+1) x Q
theorem QW(h:dF g P Q G) {t nn:Nat}(ht:1≤t∧t≤2)(hn:1≤nn∧nn≤2)(a b:Nat→Nat) {i:Nat}(hi:1≤i∧i≤7)(x:Nat):
  ug P Q G (uE P G a b t nn) (i:Int) (J8 Q a b t nn x)↔ ∀k,k<nn→evN (coN a b t k) (t+1) x Q=evN (coN a b t k) (t+1) i Q:=by
 unfold ug
 rw[vV]
 have key: ∀k,k<nn→(uf P Q G ((uE P G a b t nn).getD k []).length (fun j=>((uE P G a b t nn).getD k []).getD j 0) (i:Int) ((J8 Q a b t nn x).getD k 0)↔evN (coN a b t k) (t+1) x Q=evN (coN a b t k) (t+1) i Q):=fun k hk=>by
  have hs:(J8 Q a b t nn x).getD k 0=evN (coN a b t k) (t+1) x Q:=NU hk
  rw[vS hk,hs]
  simp only[azi,azj]
  exact a3R h (by omega) _ hi x
 constructor
 ·intro hh k hk; exact(key k hk).1 (hh.2.2 k hk)
 ·intro hh; exact⟨by omega,by simp[J8],fun k hk=>(key k hk).2 (hh k hk)⟩
end
theorem abu {P G:Nat} {a b:Nat→Nat} {t nn n:Nat}(ht:t≤6) {m:Nat→SlV (Nat→Int)}(hm:jg n m (uE P G a b t nn)): ∀i,i<n→(m i).len<1000:=fun i hi=>by
 have h1:=hm.len i hi
 have h2:=hm.sz
 rw[vV]at h2
 rw[vS (by omega)]at h1
 simp only[azi,azj]at h1
 omega
theorem a3S {P G:Nat}(a b:Nat→Nat) {t nn:Nat}(ht:t≤6)(hn:1≤nn∧nn≤25):Ac (uE P G a b t nn)=true:=by
 refine ax6 ⟨by rw[vV]; exact hn,fun i hi=>?_⟩
 rw[vV]at hi
 unfold wJ
 rw[vS hi,vS (by omega)]
 exact⟨by simp,by simp,by simp; omega⟩
theorem a6t {P G:Nat}(a b:Nat→Nat) {t nn:Nat}(ht:t≤6)(hn:1≤nn∧nn≤25):iH (uE P G a b t nn)≠ []:=by
 unfold iH; rw[ax1 (a3S a b ht hn)]; exact List.cons_ne_nil _ _
theorem RY {h:Hd}(hh:h.Ok3) {a:NZ} {op:Int} {st:aF} {dg:ByteArray} {nm:Nat} {m:Nat→SlV (Nat→Int)} {ny:Nat} {y:Nat→(Nat→Int)} {M:List Z0H} {L:List Nat}(hm:jg nm m M)(hy:yu ny y L)(hs:aac h.P h.Q h.G h.T h.I a op st dg M L):a4K a.2.1 op st dg nm m ny y M L:=by
 have hf:=hs.few
 have hT:=hh.T
 have h0:=hh.p1
 have key:M=[]∨M=Ch h.P h.G h.T a:=by
  by_cases c1:a.2.1=1∨a.2.1=2
  ·exact .inl (hs.listen c1).2.2.2.1
  by_cases c2:a.2.1=4∨a.2.1=8
  ·exact .inr (hs.shares c2).2.2.2.1
  by_cases c3:a.2.1=5∨a.2.1=6
  ·exact .inl (hs.vote c3).2.2.2.1
  exact .inl (hs.other ⟨by omega,by omega,by omega,by omega,by omega,by omega⟩).2.2.2.1
 refine⟨hm,hy,⟨by omega,by omega⟩,?_,?_⟩
 ·rcases key with rfl|rfl
  ·intro i hi; have:=hm.sz; simp only[List.length_nil]at this; omega
  ·exact abu (by omega) hm
 ·rcases key with rfl|rfl
  ·have:iH []=[]:=by unfold iH; rw[awU]; intro hc; have:=of_decide_eq_true hc; exact absurd this.1.1 (by decide)
   rw[this]; exact ay5 _
  ·exact LA h.P h.G h.T (by omega) hh.p62 (by omega) a
open Go Go.Den Go.Num
section
variable (key d:ByteArray) (w:(Nat×(Nat→SlV (Nat→Int)))×(Nat×(Nat→(Nat→Int)))) (rec:FD)
abbrev fA1:Fr:=⟨1,1,4,key⟩
abbrev vA1:VA:=((1,1),(d,w))
theorem J9 {F:FC} {b:Nat→Bool}(h: ∀k,hit (F k 0 1) (1,1) d=b k):xV 4 F (1,1) d=vcn b 4:=by
 unfold xV
 rw[ax1 (by decide)]
 exact Pg fun k _=>h k
theorem RZ(F:FC)(s:Nat)(k:Nat):oK F ((s+1:Nat):Int) (1,1) d k 0 1=if k=s then((1,1),d)else F k 0 1:=by
 unfold oK
 have e:(((s+1:Nat):Int)-1).toNat=s:=by omega
 rw[e]
 by_cases h:k=s
 ·rw[ax1 h,ax1 ⟨h,rfl,rfl⟩]
 ·rw[awU h,awU fun hh=>h hh.1]
theorem O1 {F:FC} {b:Nat→Bool}(h: ∀k,hit (F k 0 1) (1,1) d=b k)(s:Nat)(k:Nat):hit (oK F ((s+1:Nat):Int) (1,1) d k 0 1) (1,1) d=(k==s||b k):=by
 rw[RZ]
 by_cases e:k=s
 ·rw[ax1 e,a1p,e,axY,Bool.true_or]
 ·rw[awU e,h,beq_eq_false_iff_ne.2 e,azo]
theorem a3T(k:Nat):hit (nV k 0 1) (1,1) d=false:=rfl
def xA1:Rc:= { newR with c:=takeC newR (vA1 d w,1),e:=oK nV 1 (1,1) d }
theorem ad1(k:Nat):hit ((xA1 d w).e k 0 1) (1,1) d=(k==0||false):=O1 d (a3T d) 0 k
theorem arZ:iB (fA1 key) rec 0 (vA1 d w,1) newR=(xA1 d w,Ep (fA1 key) 5 (1,1) d):=by
 unfold iB
 have l1: ¬ ¬nS (1,1) (0,0):=by decide
 have l2:NP (1,1) (0,0):=by decide
 rw[awU (show¬ ¬nS ((vA1 d w,1):PR).1.1 newR.v.1 from l1),ax1 (show NP ((vA1 d w,1):PR).1.1 newR.v.1 from l2)]
 unfold pR
 have l3:okV 4 nV 1 (1,1):=by decide
 rw[ax1 (show okV (fA1 key).N newR.e (fA1 key).I ((vA1 d w,1):PR).1.1 from l3)]
 have ex:({ newR with c:=takeC newR (vA1 d w,1),e:=oK newR.e (fA1 key).I (1,1) d } :Rc)=xA1 d w:=rfl
 show gu ({ newR with c:=takeC newR (vA1 d w,1),e:=oK newR.e (fA1 key).I (1,1) d },Ep (fA1 key) 5 (1,1) d) (jP (fA1 key) rec (1,1) d)=_
 rw[ex]
 have ce:xV 4 (xA1 d w).e (1,1) d=1:=(J9 d (ad1 d w)).trans (by decide)
 have cr:xV 4 (xA1 d w).r (1,1) d=0:=(J9 d (a3T d)).trans (by decide)
 have h1:pQ (fA1 key) (1,1) d (xA1 d w)=(xA1 d w,[]):=by
  unfold pQ u6
  rw[awU]
  show¬((2*1<xV 4 (xA1 d w).e (1,1) d∨1<xV 4 (xA1 d w).r (1,1) d)∧_)
  omega
 have h2:endP (fA1 key) rec (1,1) d (xA1 d w)=(xA1 d w,[]):=by
  unfold endP
  rw[awU]
  show¬(2*1<xV 4 (xA1 d w).r (1,1) d∧_)
  omega
 simp only[gu,jP,h1,h2,aye]
def xA2:Rc:= { xA1 d w with r:=oK nV 2 (1,1) d }
theorem ad2(k:Nat):hit ((xA2 d w).r k 0 1) (1,1) d=(k==1||false):=O1 d (a3T d) 1 k
theorem as0:uh (fA1 key) rec 2 (1,1) d (xA1 d w)=(xA2 d w,[]):=by
 unfold uh
 have l3:okV 4 nV 2 (1,1):=by decide
 rw[ax1 (show okV (fA1 key).N (xA1 d w).r 2 (1,1)from l3)]
 show jP (fA1 key) rec (1,1) d (xA2 d w)=_
 have ce:xV 4 (xA2 d w).e (1,1) d=1:=(J9 d (ad1 d w)).trans (by decide)
 have cr:xV 4 (xA2 d w).r (1,1) d=1:=(J9 d (ad2 d w)).trans (by decide)
 have h1:pQ (fA1 key) (1,1) d (xA2 d w)=(xA2 d w,[]):=by
  unfold pQ u6
  rw[awU]
  show¬((2*1<xV 4 (xA2 d w).e (1,1) d∨1<xV 4 (xA2 d w).r (1,1) d)∧_)
  omega
 have h2:endP (fA1 key) rec (1,1) d (xA2 d w)=(xA2 d w,[]):=by
  unfold endP
  rw[awU]
  show¬(2*1<xV 4 (xA2 d w).r (1,1) d∧_)
  omega
 simp only[gu,jP,h1,h2,aye]
def xA3:Rc:= { xA1 d w with r:=oK (oK nV 2 (1,1) d) 3 (1,1) d }
theorem ad3(k:Nat):hit ((xA3 d w).r k 0 1) (1,1) d=(k==2||(k==1||false)):=O1 d (ad2 d w) 2 k
def xA4:Rc:= { xA1 d w with r:=oK (oK (oK nV 2 (1,1) d) 3 (1,1) d) 1 (1,1) d }
theorem as1(k:Nat):hit ((xA4 d w).r k 0 1) (1,1) d=(k==0||(k==2||(k==1||false))):=O1 d (ad3 d w) 0 k
def xA5:Rc:= { xA4 d w with v:=vA1 d w }
def xA6:Rc:= { xA5 d w with c:=upd (xA5 d w).c 0 ((upd ((xA5 d w).c 0).1 1 (vA1 d w,0)),((xA5 d w).c 0).2) }
theorem as2 {rec:FD}(hrec:rec=eH (fA1 key) 5):uh (fA1 key) rec 3 (1,1) d (xA2 d w)=(xA6 d w,Ep (fA1 key) 6 (1,1) d++[I4 (fA1 key) 0 (vA1 d w,1)]):=by
 unfold uh
 have ok3:okV 4 (xA2 d w).r 3 (1,1):=by
  refine⟨by decide,by decide,by decide,?_⟩
  show(oK nV ((1+1:Nat):Int) (1,1) d 2 0 1).1.1<1
  rw[RZ,awU (by decide)]; decide
 rw[ax1 ok3]
 show jP (fA1 key) rec (1,1) d (xA3 d w)=_
 have cr:xV 4 (xA3 d w).r (1,1) d=2:=(J9 d (ad3 d w)).trans (by decide)
 have ok1:okV 4 (xA3 d w).r 1 (1,1):=by
  refine⟨by decide,by decide,by decide,?_⟩
  show(oK (oK nV ((1+1:Nat):Int) (1,1) d) ((2+1:Nat):Int) (1,1) d 0 0 1).1.1<1
  rw[RZ,awU (by decide),RZ,awU (by decide)]; decide
 have h1:pQ (fA1 key) (1,1) d (xA3 d w)=(xA4 d w,Ep (fA1 key) 6 (1,1) d):=by
  unfold pQ
  rw[ax1]
  ·rfl
  ·refine⟨.inr ?_,ok1⟩
   show 1<xV 4 (xA3 d w).r (1,1) d
   omega
 have cr4:xV 4 (xA4 d w).r (1,1) d=3:=(J9 d (as1 d w)).trans (by decide)
 have h2:endP (fA1 key) rec (1,1) d (xA4 d w)=rec (1,1) d (xA4 d w):=by
  unfold endP
  rw[ax1]
  refine⟨?_,show nS (1,1) (0,0)by decide⟩
  show 2*1<xV 4 (xA4 d w).r (1,1) d
  omega
 have h3:rec (1,1) d (xA4 d w)=(xA6 d w,[I4 (fA1 key) 0 (vA1 d w,1)]):=by
  rw[hrec]
  show vQ (fA1 key) (eH (fA1 key) 4) (1,1) d (xA4 d w)=_
  have hv:Bj ((xA4 d w).c ((1:Int)-1).toNat) (1,1) d=vA1 d w:=by
   unfold Bj
   have e0:Ab (((xA4 d w).c ((1:Int)-1).toNat).1 0).1 (1,1) d=false:=rfl
   have e1:Ab (((xA4 d w).c ((1:Int)-1).toNat).1 1).1 (1,1) d=true:=a1p (1,1) d
   rw[e0,e1]; rfl
  unfold vQ
  have e5:({ xA4 d w with v:=Bj ((xA4 d w).c (((1,1):aF).2-1).toNat) (1,1) d } :Rc)=xA5 d w:=by
   show({ xA4 d w with v:=Bj ((xA4 d w).c ((1:Int)-1).toNat) (1,1) d } :Rc)=xA5 d w
   rw[hv]; rfl
  rw[e5]
  have a0:Ru (fA1 key) (xA5 d w)=[]:=rfl
  have k0:Bh (fA1 key) (xA5 d w) 3=(xA6 d w,[I4 (fA1 key) 0 (vA1 d w,1)]):=by
   simp only[Bh]
   have q0:Pk (fA1 key) 0 (xA5 d w)=(xA6 d w,[I4 (fA1 key) 0 (vA1 d w,1)]):=by
    unfold Pk
    have b0:FE (fA1 key) 0 (xA5 d w)=(xA5 d w,[]):=by
     unfold FE; rw[awU]; exact fun h=>absurd h.1 (show¬((0:Int)<0)by decide)
    have b1:FH (fA1 key) 0 (xA5 d w)=(xA6 d w,[I4 (fA1 key) 0 (vA1 d w,1)]):=by
     unfold FH; rw[ax1]
     ·rfl
     ·exact⟨show(0:Int)<1 by decide,show¬nS (1,1) (1,1)by decide⟩
    have b2:I5 (fA1 key) 0 (xA6 d w)=(xA6 d w,[]):=by
     unfold I5; rw[awU]; exact fun h=>absurd h.1 (show¬((0:Int)<0)by decide)
    simp only[gu,b0,b1,b2,aye,ayN]
   have qn: ∀i,i=1∨i=2→Pk (fA1 key) i (xA6 d w)=(xA6 d w,[]):=fun i hi=>by
    unfold Pk
    have b0:FE (fA1 key) i (xA6 d w)=(xA6 d w,[]):=by
     unfold FE; rw[awU]; rcases hi with rfl|rfl<;>exact fun h=>absurd h.1 (show¬((0:Int)<0)by decide)
    have b1:FH (fA1 key) i (xA6 d w)=(xA6 d w,[]):=by
     unfold FH; rw[awU]; rcases hi with rfl|rfl<;>exact fun h=>absurd h.1 (show¬((0:Int)<0)by decide)
    have b2:I5 (fA1 key) i (xA6 d w)=(xA6 d w,[]):=by
     unfold I5; rw[awU]; rcases hi with rfl|rfl<;>exact fun h=>absurd h.1 (show¬((0:Int)<0)by decide)
    simp only[gu,b0,b1,b2,aye,ayN]
   simp only[gu,q0,qn 1 (.inl rfl),qn 2 (.inr rfl),aye,ayN]
  have w0: ∀rec':FD,vP (fA1 key) rec' (xA6 d w) 3=(xA6 d w,[]):=fun rec'=>by
   have wn: ∀i,i=0∨i=1∨i=2→vO (fA1 key) rec' i (xA6 d w)=(xA6 d w,[]):=fun i hi=>by
    unfold vO; rw[awU]; rcases hi with rfl|rfl|rfl<;>exact fun h=>absurd h.1 (show¬((0:Int)<0)by decide)
   simp only[vP,gu,wn 0 (.inl rfl),wn 1 (.inr (.inl rfl)),wn 2 (.inr (.inr rfl)),aye]
  simp only[gu,a0,k0,w0,aye,ayN]
 simp only[gu,jP,h1,h2,h3]
end
open Go Go.Den Go.Num
abbrev kK:ByteArray:=ByteArray.mk #[107]
def fK0:Nat→ByteArray:=fun _=>ByteArray.empty
def fK:Nat→ByteArray:=Af fK0 0 kK
def uK:List (Int×Int):=VQ (.int .i64) (.int .i64) [] 5 1
theorem aaj:uD kK 5 4 3 0 fK0 []=((0,(true,(0,()))),((4,(3,((1,fK),uK))),())):=by
 rw[uD,awU (by decide+kernel),awU (by decide+kernel),awU (by decide+kernel)]
 rfl
theorem aak(e:Int)(he:e=2∨e=3):uD kK e 4 3 1 fK uK=((0,(false,(0,()))),((4,(3,((1,fK),uK))),())):=by
 rcases he with rfl|rfl<;>
 ·rw[uD,awU (by decide+kernel),ax1 (by decide+kernel)]
  have e:before 1 fK kK=0:=by decide+kernel
  rw[e]; rfl
theorem abv(k:ByteArray)(x y:Rc):Jh [(k,x)] k y=[(k,y)]:=by
 simp[Jh,gD]
theorem abw(k:ByteArray)(x:Rc):Ai [(k,x)] k=x:=by
 simp[Ai,gD]
theorem hd4 {h:Hd}(hh:h.Ok3)(h1:h.T=1∧h.I=1):h.N=4:=by have:=hh.N; omega
theorem aiN {h:Hd}(hh:h.Ok3)(h1:h.T=1∧h.I=1) {a:NZ}(ha:a=(0,(4,(1,(0,((1,1),(0,0))))))):I7 h 5 4 1 kK (1,1) ByteArray.empty (Ch h.P h.G h.T a) (Py h.Q h.T h.I a):=by
 have hT:=h1.1
 have hN:=hd4 hh h1
 have hv:nnN (vN a.2.2.2.2.2.1)=1:=by subst ha; rfl
 have hl:(Ch h.P h.G h.T a).length=1:=by unfold Ch; rw[vV,hv]
 have hl2:(Py h.Q h.T h.I a).length=1:=by unfold Py; simp[hv]
 have he:sEq ByteArray.empty (ByteArray.mk #[])=true:=(u7 _ _).2 rfl
 have hb:iH (Ch h.P h.G h.T a)≠ []:=a6t _ _ (by omega) (by omega)
 refine⟨⟨by decide,⟨fun _=>by decide,fun hc=>?_,fun _=>⟨by rw[hl2,hl],hb⟩,fun _=>by decide⟩,?_⟩,.inr (.inl ⟨rfl,⟨by omega,by omega⟩,by show(1:Int)=5-h.N; omega⟩),fun _=>⟨a6s hh.grp (by omega) (by omega) _ _,?_⟩⟩
 ·exfalso
  have hc':(!(sEq ByteArray.empty (ByteArray.mk #[])))=true:=hc
  rw[he]at hc'; exact absurd hc' (by decide)
 ·rw[hl,hl2]
  refine .inr (.inr (.inl ⟨.inl rfl,?_⟩))
  show Vu (!(eqF (.pair (.int .i64) (.int .i64)) ((1,1):aF) (0,0))) (!(sEq ByteArray.empty (ByteArray.mk #[]))) (decide (0<1+1)) ((1:Int) !=0)=13
  rw[he]; rfl
 ·have hw:Xc h.T h.I a=0:=by unfold Xc; rw[h1.2]; subst ha; exact Nat.zero_mod _
  have e:Py h.Q h.T h.I a=J8 h.Q (aNv (vN a.2.2.2.2.2.1)) (bNv (vN a.2.2.2.2.2.1)) h.T (nnN (vN a.2.2.2.2.2.1)) (Xc h.T h.I a+1):=rfl
  rw[e]
  refine(QW hh.grp (by omega) (by omega) _ _ (i:=h.I) (by omega) _).2 fun k hk=>?_
  rw[hw,h1.2]
theorem aiO {h:Hd}(hh:h.Ok3)(h1:h.T=1∧h.I=1) {dg:ByteArray}(hd:dg.size=32) {from_:Int}(hf:from_=2∨from_=3):I7 h from_ 6 0 kK (1,1) dg [] []:=by
 have hN:=hd4 hh h1
 have hs:(!(sEq dg (ByteArray.mk #[])))=true:=by
  rw[Bool.not_eq_true']
  cases hc:sEq dg (ByteArray.mk #[])
  ·rfl
  ·have:=(u7 _ _).1 hc; subst this; exact absurd hd (by decide)
 refine⟨⟨by decide,⟨fun _=>by decide,fun _=>hd,fun hc=>absurd hc (by show¬(false=true); decide),fun hc=>absurd hc (by show¬(false=true); decide)⟩,.inr (.inr (.inr (.inl ⟨.inr rfl,?_⟩)))⟩,.inr (.inr ⟨.inr rfl,by omega,by omega,by have:=h1.2; omega⟩),fun hc=>by omega⟩
 show Vu (!(eqF (.pair (.int .i64) (.int .i64)) ((1,1):aF) (0,0))) (!(sEq dg (ByteArray.mk #[]))) false false=3
 rw[hs]; rfl
def sK(x:Rc)(o:iF):Sv:=⟨[(kK,x)],1,fK,uK,o⟩
theorem abx(f:Nat→ByteArray):qI 0 f:=fun i j _ h=>absurd h (axv _)
theorem ZP(h:Hd):Good h zS 0:=⟨abx _,ax5 _,fun i hi=>absurd hi (axv _),fun e he=>absurd he (by simp[zS])⟩
theorem aiP {h:Hd}(hh:h.Ok3)(h1:h.T=1∧h.I=1) {st:aF} {dg:ByteArray} {d:ByteArray} {w:(Nat×(Nat→SlV (Nat→Int)))×(Nat×(Nat→(Nat→Int)))} :
  Kl h 5 4 1 kK (1,1) dg (vA1 d w) zS=Ep (fA1 kK) 5 (1,1) d∧ ∃o,Y8 h 5 4 1 kK (1,1) dg (vA1 d w) zS=sK (xA1 d w) o:=by
 have hN:=hd4 hh h1
 have hf:h.fr kK=fA1 kK:=by unfold Hd.fr; rw[h1.1,h1.2,hN]
 have hr:jA h 5 4 1 kK (1,1) dg (vA1 d w) (Ai zS.l kK)=(xA1 d w,Ep (fA1 kK) 5 (1,1) d):=by
  unfold jA
  rw[awU (by decide),awU (by decide),awU (by decide),awU (by decide),awU (by decide),hf,hN]
  exact arZ kK d w _
 have ho:h.opn kK 5 zS=((0,(true,(0,()))),((4,(3,((1,fK),uK))),())):=by
  unfold Hd.opn; rw[hN]; exact aaj
 refine⟨by unfold Kl; rw[hr],frz (apps zNO (Kl h 5 4 1 kK (1,1) dg (vA1 d w) zS)),?_⟩
 unfold Y8
 rw[hr,ho]; rfl
theorem FI {h:Hd}(hh:h.Ok3)(h1:h.T=1∧h.I=1) {from_:Int}(hf:from_=2∨from_=3) {d:ByteArray} {x y:Rc} {l:List OU} {o:iF} {v:VA}(hr:uh (fA1 kK) (eH (fA1 kK) 5) from_ (1,1) d x=(y,l)):
  Kl h from_ 6 0 kK (1,1) d v (sK x o)=l∧ ∃o',Y8 h from_ 6 0 kK (1,1) d v (sK x o)=sK y o':=by
 have hN:=hd4 hh h1
 have hfr:h.fr kK=fA1 kK:=by unfold Hd.fr; rw[h1.1,h1.2,hN]
 have hr:jA h from_ 6 0 kK (1,1) d v (Ai (sK x o).l kK)=(y,l):=by
  unfold jA
  rw[awU (by decide),awU (by decide),awU (by decide),ax1 rfl,hfr,show Ai (sK x o).l kK=x from abw _ _]
  exact hr
 have ho:h.opn kK from_ (sK x o)=((0,(false,(0,()))),((4,(3,((1,fK),uK))),())):=by
  unfold Hd.opn; rw[hN]; exact aak from_ hf
 refine⟨by unfold Kl; rw[hr],frz (apps zNO (Kl h from_ 6 0 kK (1,1) d v (sK x o))),?_⟩
 unfold Y8
 rw[hr,ho]
 show(⟨Jh [(kK,x)] kK y,1,fK,uK,frz (apps zNO (Kl h from_ 6 0 kK (1,1) d v (sK x o)))⟩:Sv)=sK y _
 rw[abv]; rfl
theorem as3 {h:Hd}(hh:h.Ok3)(h1:h.T=1∧h.I=1) {from_:Int}(hf:from_=2∨from_=3)(x:Rc)(o:iF):(h.opn kK from_ (sK x o)).1.2.2.1=0:=by
 have hN:=hd4 hh h1
 unfold Hd.opn; rw[hN]
 show(uD kK from_ ((4:Nat):Int) 3 1 fK uK).1.2.2.1=0
 rw[show((4:Nat):Int)=4 from rfl,aak from_ hf]
theorem aal {l:List OU} {out:iF}(e:out=frz (apps zNO l)):out.1=l.length∧ ∀i (hi:i<l.length),out.2 i=l[i]:=by
 subst e; exact⟨RX l,fun i hi=>aad hi⟩
theorem as4 {h:Hd} {x:Rc} {o:iF} {d:ByteArray} {w:(Nat×(Nat→SlV (Nat→Int)))×(Nat×(Nat→(Nat→Int)))}(hx:x.v=vA1 d w)(hw:w.2.1=1):gZ kK (h.mk' (sK x o))=some (((1,1),(d,(true,()))),h.mk' (sK x o)):=by
 rw[a6j]
 have e:(sK x o).l[gD (sK x o).l kK]?=some (kK,x):=by simp[sK,gD]
 rw[e]
 show some ((x.v.1,(x.v.2.1,(decide (0<x.v.2.2.2.1),()))),h.mk' (sK x o))=_
 rw[hx]
 show some ((((1,1):aF),(d,(decide (0<w.2.1),()))),h.mk' (sK x o))=_
 rw[hw]; rfl
theorem as5 {h:Hd} {x:Rc} {o:iF} :bS (h.mk' (sK x o))=some (((1,fun j=>fK (0+j)),()),h.mk' (sK x o)):=by
 rw[kG]; unfold jc
 have hK:eG (h.N:Int) 3 1 fK uK=some (((1,(fun j=>fK (0+j))),()),((h.N:Int),(3,((1,fK),uK))),()):=by
  rw[j5]; rfl
 simp only[Hd.mk',Hd.sp,sK,hK]
theorem Ae:rY=some true:=by
 obtain⟨h,hh,h1,hw⟩:=VL 0
 replace h1:=h1 rfl
 have hN:=hd4 hh h1
 have hT:=h1.1
 have hq:=hh.q512
 have eT:((h.T:Nat):Int)=1:=by omega
 have eI:((h.I:Nat):Int)=1:=by omega
 obtain⟨m0,l0,d1,d2⟩:=VI (P:=h.P) (Q:=h.Q) (G:=h.G) hh.p1 hh.p62 hq hh.q31 (t:=h.T) (by omega) 0
 obtain⟨op,st,dg,nm,m,ny,y,M,L,q1,q2,q3,q4⟩:=yX (P:=h.P) (Q:=h.Q) (G:=h.G) hh.p1 hh.p62 hq hh.q31 (t:=h.T) (I:=h.I) (by omega) (by omega) (0,(4,(1,(0,((1,1),(0,0))))))
 obtain⟨op',st',dg',nm',m',ny',y',M',L',r1,r2,r3,r4⟩:=yX (P:=h.P) (Q:=h.Q) (G:=h.G) hh.p1 hh.p62 hq hh.q31 (t:=h.T) (I:=h.I) (by omega) (by omega) (0,(6,(0,(0,((1,1),(0,0))))))
 have hin:=RY hh q2 q3 q4
 have hin':=RY hh r2 r3 r4
 obtain⟨e1,e2,e3,e4,e5⟩:=q4.shares (.inl rfl)
 obtain⟨g1,g2,g3,g4,g5⟩:=r4.vote (.inr rfl)
 have hDg:qO (nnN (vN 0)) m0=some (yV (iH (Ch h.P h.G h.T (0,(4,(1,(0,((1,1),(0,0))))))))):=
  Fg d2.mat (by decide) (axb (LA h.P h.G h.T (by have:=hh.p1; omega) hh.p62 (by omega) (0,(4,(1,(0,((1,1),(0,0))))))) (by decide))
 have hms:I7 h 5 4 1 kK (1,1) ByteArray.empty (Ch h.P h.G h.T (0,(4,(1,(0,((1,1),(0,0))))))) (Py h.Q h.T h.I (0,(4,(1,(0,((1,1),(0,0))))))):=aiN hh h1 rfl
 have hl2:L.length=1:=by rw[e5]; unfold Py; simp; rfl
 have hny:ny=1:=by have:=q3.1; omega
 have hms6: ∀from_:Int,from_=2∨from_=3→I7 h from_ 6 0 kK (1,1) (yV (iH (Ch h.P h.G h.T (0,(4,(1,(0,((1,1),(0,0))))))))) [] []:=fun from_ hf=>aiO hh h1 (XT _) hf
 have hd:yV (iH (Ch h.P h.G h.T (0,(6,(0,(0,((1,1),(0,0))))))))=yV (iH (Ch h.P h.G h.T (0,(4,(1,(0,((1,1),(0,0)))))))):=rfl
 rw[hd]at g3
 subst e1 e2 e3 e4 e5 g1 g2 g3 g4 g5
 generalize hdd:yV (iH (Ch h.P h.G h.T (0,(4,(1,(0,((1,1),(0,0))))))))=d at*
 rw[eT,eI]at q1 r1
 rw[eT]at d1
 have q1':dR ((h.P:Int),((h.Q:Int),(h.G:Int))) 1 1 (0,(4,(1,(0,((1,1),(0,0))))))=some (Dj 4 1 kK (1,1) ByteArray.empty nm m ny y):=q1
 have r1':dR ((h.P:Int),((h.Q:Int),(h.G:Int))) 1 1 (0,(6,(0,(0,((1,1),(0,0))))))=some (Dj 6 0 kK (1,1) d nm' m' ny' y'):=r1
 have hA:=Dn hh.toOk (from_:=5) (by decide) (k:=4) (op:=1) (key:=kK) (st:=(1,1)) (dg:=ByteArray.empty) hin (ZP h) (by decide)
 have tA:LB h 5 4 1 kK (1,1) ByteArray.empty (Ch h.P h.G h.T (0,(4,(1,(0,((1,1),(0,0))))))) (Py h.Q h.T h.I (0,(4,(1,(0,((1,1),(0,0))))))) zS:=⟨hms,by unfold Hd.opn; rw[hN]; show(uD kK 5 4 3 0 fK0 []).1.2.2.1=0; rw[aaj]⟩
 have gA:=(PD hh.toOk hin (ZP h) tA).1
 rw[ax1 tA]at hA
 rw[hdd]at hA gA
 obtain⟨lA,oA,sA⟩:=aiP hh h1 (st:=(1,1)) (dg:=ByteArray.empty) (d:=d) (w:=((nm,m),(ny,y)))
 rw[sA]at hA gA
 rw[lA]at hA
 obtain⟨A1,A2⟩:=aal (l:=Ep (fA1 kK) 5 (1,1) d) rfl
 generalize frz (apps zNO (Ep (fA1 kK) 5 (1,1) d))=outA at hA A1 A2
 have hB:=Dn hh.toOk (from_:=2) (by decide) (k:=6) (op:=0) (key:=kK) (st:=(1,1)) (dg:=d) hin' gA (by decide)
 have tB:LB h 2 6 0 kK (1,1) d [] [] (sK (xA1 d ((nm,m),(ny,y))) oA):=⟨hms6 2 (.inl rfl),as3 hh h1 (.inl rfl) _ _⟩
 have gB:=(PD hh.toOk hin' gA tB).1
 rw[ax1 tB]at hB
 obtain⟨lB,oB,sB⟩:=FI hh h1 (from_:=2) (.inl rfl) (d:=d) (o:=oA) (v:=((1,1),(yV (iH []),((nm',m'),(ny',y'))))) (as0 kK d ((nm,m),(ny,y)) (eH (fA1 kK) 5))
 rw[sB]at hB gB
 have hC:=Dn hh.toOk (from_:=3) (by decide) (k:=6) (op:=0) (key:=kK) (st:=(1,1)) (dg:=d) hin' gB (by decide)
 have tC:LB h 3 6 0 kK (1,1) d [] [] (sK (xA2 d ((nm,m),(ny,y))) oB):=⟨hms6 3 (.inr rfl),as3 hh h1 (.inr rfl) _ _⟩
 rw[ax1 tC]at hC
 obtain⟨lC,oC,sC⟩:=FI hh h1 (from_:=3) (.inr rfl) (d:=d) (o:=oB) (v:=((1,1),(yV (iH []),((nm',m'),(ny',y'))))) (as2 kK d ((nm,m),(ny,y)) rfl)
 rw[sC,lC]at hC
 obtain⟨C1,C2⟩:=aal (l:=Ep (fA1 kK) 6 (1,1) d++[I4 (fA1 kK) 0 (vA1 d ((nm,m),(ny,y)),1)]) rfl
 generalize frz (apps zNO (Ep (fA1 kK) 6 (1,1) d++[I4 (fA1 kK) 0 (vA1 d ((nm,m),(ny,y)),1)]))=outC at hC C1 C2
 have A1':outA.1=3:=A1
 have A20:outA.2 0=voP (fA1 kK) 5 (1,1) d 1:=A2 0 (show 0<3 by decide)
 have C1':outC.1=4:=C1
 have C23:outC.2 3=I4 (fA1 kK) 0 (vA1 d ((nm,m),(ny,y)),1):=C2 3 (show 3<4 by decide)
 have hS:wW 1 (fun j=>fK (0+j)) 1 (fun j=>(upd (fun _=>ByteArray.empty) 0 kK) (0+j))=some true:=Y0 (by decide) fun i hi=>by
  obtain rfl:i=0:=by omega
  rfl
 have hA':aN 5 4 1 kK (1,1) ByteArray.empty nm m ny y (h.sn [] zNO,(h.sp 0 (fun _=>ByteArray.empty) [],()))=some ((outA,()),h.mk' (sK (xA1 d ((nm,m),(ny,y))) oA)):=hA
 rw[NY]; unfold Lx
 have b1:(bif (((3:Nat):Int) !=3)then true else false)=false:=rfl
 simp only[hw,d1,q1',r1',ay1,bF,hA',hB,hC,A1',A20,C1',C23,as4 (x:=xA6 d ((nm,m),(ny,y))) rfl hny,as5,hS,hDg,eI,(u7 d d).2 rfl]
 rfl
theorem HB5:HB 5=6534:=rfl
theorem a6u {h:Hd}(hh:h.Ok)(from_ k op:Int)(key:ByteArray)(st:aF)(dg:ByteArray)(v:VA)(x:Rc):(jA h from_ k op key st dg v x).2.length≤10000:=by
 have hF:=hh.f key
 have hr:=Dh hF 5
 have h5:=HB5
 have one: ∀ {α:Type} (a:α),([a]:List α).length≤10000:=fun a=>by simp
 unfold jA
 repeat' split
 ·unfold Bn; split
  ·exact ayG (XU _ _) (by decide)
  ·exact ay5 _
 ·unfold Ls; split<;>exact ay5 _
 ·unfold Es; split
  ·have:=(Pm hF hr st dg { x with e:=oK x.e from_ st dg }).2; omega
  ·exact ay5 _
 ·unfold uh; split
  ·have:=(Pm hF hr st dg { x with r:=oK x.r from_ st dg }).2; omega
  ·exact ay5 _
 ·unfold mG; split
  ·exact ayG (xA _ 3) (by decide)
  ·exact ay5 _
 ·unfold iB
  have hm:(mG (h.fr key) v x).2.length≤3:=by
   unfold mG; split
   ·exact xA _ 3
   ·exact ay5 _
  repeat' split
  ·rw[vR]; simp only[axN,List.length_nil]; omega
  ·have:=(XW hF hr (v,op) x).2; omega
  all_goals exact ay5 _
theorem Good.mono {h:Hd} {s:Sv} {j:Nat}(g:Good h s j):Good h s (j+1):=⟨g.srt,Nat.le_succ_of_le g.few,g.full,g.rcs⟩
theorem aby {h:Hd}(hh:h.Ok3) {a:NZ}(hf: -9223372036854775808≤a.1∧a.1<9223372036854775808) {s:Sv} {j:Nat}(g:Good h s j)(hj:j<1000):
  ∃op st dg nm m ny y out s',dR ((h.P:Int),((h.Q:Int),(h.G:Int))) (h.T:Int) (h.I:Int) a=some (Dj a.2.1 op (Dm a.2.2.2.1) st dg nm m ny y)∧
   aN a.1 a.2.1 op (Dm a.2.2.2.1) st dg nm m ny y (h.mk' s)=some ((out,()),h.mk' s')∧Good h s' (j+1)∧Ia (h.fr kK) out∧out.1<9223372036854775808:=by
 have hT:=hh.T
 have hN:=hh.N
 obtain⟨op,st,dg,nm,m,ny,y,M,L,q1,q2,q3,q4⟩:=yX (P:=h.P) (Q:=h.Q) (G:=h.G) hh.p1 hh.p62 hh.q512 hh.q31 (t:=h.T) (I:=h.I) (by omega) (by have:=hh.I; omega) a
 have hin:=RY hh q2 q3 q4
 have hS:=Dn hh.toOk hf (k:=a.2.1) (op:=op) (key:=Dm a.2.2.2.1) (st:=st) (dg:=dg) hin g hj
 by_cases c:LB h a.1 a.2.1 op (Dm a.2.2.2.1) st dg M L s
 ·rw[ax1 c]at hS
  have hg:=PD hh.toOk hin g c
  refine⟨op,st,dg,nm,m,ny,y,_,_,q1,hS,hg.1,RA fun x hx=>⟨Dm a.2.2.2.1,hg.2 x hx⟩,?_⟩
  rw[RX]
  exact axb (a6u hh.toOk _ _ _ _ _ _ _ _) (by decide)
 ·rw[awU c]at hS
  exact⟨op,st,dg,nm,m,ny,y,_,_,q1,hS,g.mono,a6q _,by decide⟩
theorem a1S {h:Hd}(hh:h.Ok) {s:Sv} {j:Nat}(g:Good h s j): ∀n,n≤s.n→ ∀x∈Bo h s n,∃key,Vy { h.fr kK with key:=key } x
 |0,_=>fun x hx=>absurd hx (by simp[Bo])
 |n+1,hn=>fun x hx=>by
  rw[Bo,axD]at hx
  rcases hx with hx|hx
  ·exact a1S hh g n (by omega) x hx
  ·have hF:(h.fr (s.ks n)).Ok2:= { hh.f (s.ks n)with key:=(g.full n hn).2 }
   exact⟨s.ks n,aa8 hF (g.get (s.ks n)) x hx⟩
theorem aam {h:Hd}(hh:h.Ok3) {s:Sv} {j:Nat}(g:Good h s j)(hj:j<1000):
  ∃out,bT (h.mk' s)=some ((out,()),h.mk' { s with o:=out })∧Ia (h.fr kK) out∧out.1<9223372036854775808∧out=frz (apps zNO (a4H h s)):=by
 refine⟨_,a6i hh.toOk (g.ok hj) g.tick,RA (a1S hh.toOk g s.n (ax5 _)),?_,rfl⟩
 rw[RX]
 have:=Pv hh.toOk s s.n
 have:=g.few
 have e:(a4H h s).length=(Bo h s s.n).length:=rfl
 omega
theorem aan {h:Hd} {s:Sv}(hs:s.n<1000):bS (h.mk' s)=some (((s.n,fun j=>s.ks (0+j)),()),h.mk' s):=by
 rw[kG]; unfold jc
 have hK:eG (h.N:Int) 3 s.n s.ks s.u=some (((s.n,(fun j=>s.ks (0+j))),()),((h.N:Int),(3,((s.n,s.ks),s.u))),()):=by
  rw[j5]; unfold jU
  rw[ax2 (by omega),bB]
 simp only[Hd.mk',Hd.sp,hK]
abbrev as6:Ty:=.pair (.int .i64) (.pair (.int .i64) (.pair (.int .i64) (.pair (.int .i64) (.pair (.pair (.int .i64) (.int .i64)) (.pair (.int .i64) (.int .i64))))))
theorem ad4 {x:Int} :((ak .and .i64 x 1)==1)=true↔x%2=1:=by
 have hm:ak .and .i64 x 1=x%(2^1:Nat):=IJ (k:=1) (by decide)
 rw[hm,azw]
 exact Iff.rfl
theorem as7(A X:Nat→Nat):Df A X 2=A 0*X 0+A 1*X 1:=by simp[Df]
theorem as8(A X:Nat→Nat):Df A X 3=A 0*X 0+A 1*X 1+A 2*X 2:=by simp[Df]
theorem aao {Q:Nat}(hQ:1000000<Q) {t v:Nat}(ht:t=1∨t=2)(hv:v<4) {x y:Nat}(hx:1≤x∧x≤7)(hy:1≤y∧y≤7)(hxy:x≠y):evN (coN (aNv v) (bNv v) t 0) (t+1) x Q≠evN (coN (aNv v) (bNv v) t 0) (t+1) y Q:=by
 have hv4:v=0∨v=1∨v=2∨v=3:=by omega
 have hx7:x=1∨x=2∨x=3∨x=4∨x=5∨x=6∨x=7:=by omega
 have hy7:y=1∨y=2∨y=3∨y=4∨y=5∨y=6∨y=7:=by omega
 have small: ∀z,1≤z∧z≤7→Df (coN (aNv v) (bNv v) t 0) (fun i=>z^i) (t+1)<1000000:=by
  intro z hz
  have hz7:z=1∨z=2∨z=3∨z=4∨z=5∨z=6∨z=7:=by omega
  rcases ht with rfl|rfl<;>rcases hv4 with rfl|rfl|rfl|rfl<;>rcases hz7 with rfl|rfl|rfl|rfl|rfl|rfl|rfl<;>decide
 have hne:Df (coN (aNv v) (bNv v) t 0) (fun i=>x^i) (t+1)≠Df (coN (aNv v) (bNv v) t 0) (fun i=>y^i) (t+1):=by
  have low: ∀a b:Nat,1≤a→a<b→b≤7→Df (coN (aNv v) (bNv v) t 0) (fun i=>a^i) (t+1)<Df (coN (aNv v) (bNv v) t 0) (fun i=>b^i) (t+1):=by
   intro a b h1 h2 h3
   have c1:0<coN (aNv v) (bNv v) t 0 1:=by rcases ht with rfl|rfl<;>rcases hv4 with rfl|rfl|rfl|rfl<;>decide
   have hm: ∀c:Nat,c*a≤c*b:=fun c=>ayK c (by omega)
   have m1:coN (aNv v) (bNv v) t 0 1*a<coN (aNv v) (bNv v) t 0 1*b:=Nat.mul_lt_mul_of_pos_left h2 c1
   rcases ht with rfl|rfl
   ·rw[as7,as7]; simp only[ayt,Nat.pow_one]; omega
   ·have m2:coN (aNv v) (bNv v) 2 0 2*a^2≤coN (aNv v) (bNv v) 2 0 2*b^2:=ayK _ (Nat.pow_le_pow_left (by omega) 2)
    rw[as8,as8]; simp only[ayt,Nat.pow_one]; omega
  rcases Nat.lt_or_gt_of_ne hxy with h|h
  ·exact Nat.ne_of_lt (low x y hx.1 h hy.2)
  ·exact(Nat.ne_of_lt (low y x hy.1 h hx.2)).symm
 unfold evN
 rw[awX (azl (small x hx) hQ),awX (azl (small y hy) hQ)]
 exact hne
theorem aap {h:Hd}(hh:h.Ok3) {a:NZ} {op:Int} {st:aF} {dg:ByteArray} {M:List Z0H} {L:List Nat}(hs:aac h.P h.Q h.G h.T h.I a op st dg M L)(hk:a.2.1=4∨a.2.1=8)(ho:a.2.2.2.2.2.2%2=1)(key:ByteArray): ¬I7 h a.1 a.2.1 op key st dg M L:=fun hm=>by
 have hT:=hh.T
 have hN:=hh.N
 have hI:=hh.I
 obtain⟨_,_,_,e4,e5⟩:=hs.shares hk
 have hH:=(hm.2.2 hk).2
 rw[e4,e5]at hH
 have e:Py h.Q h.T h.I a=J8 h.Q (aNv (vN a.2.2.2.2.2.1)) (bNv (vN a.2.2.2.2.2.1)) h.T (nnN (vN a.2.2.2.2.2.1)) (Xc h.T h.I a+1):=rfl
 rw[e]at hH
 have n12:=VH (vN a.2.2.2.2.2.1)
 have hw:Xc h.T h.I a=h.I%(3*h.T+1):=by
  unfold Xc; rw[ho]; congr 1; show h.I-1+1=h.I; omega
 have:=(QW hh.grp hT (by omega) _ _ (i:=h.I) (by omega) _).1 hH 0 (by omega)
 have hlt:h.I%(3*h.T+1)<3*h.T+1:=axh _ (by omega)
 refine aao hh.q20 (t:=h.T) (by omega) (aa9 _) ⟨by omega,by omega⟩ ⟨by omega,by omega⟩ ?_ this
 rw[hw]
 by_cases hc:h.I=3*h.T+1
 ·rw[hc,Nat.mod_self]; omega
 ·rw[awX (by omega)]; omega
end Go.Pl
