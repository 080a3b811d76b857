/-
 What the statements of a layer share.
-/
import Derived.Test.YtldlihheppdhnaaGreatDenM
import Derived.Test.YtldlihheppdhnaaGreatDenI
import Derived.Test.YtldlihheppdhnaaGreatPlA
import Derived.Test.YtldlihheppdhnaaGreatPlB
import Derived.Test.YtldlihheppdhnaaGreatEqA
import Derived.Test.YtldlihheppdhnaaGreatDenF
import Derived.Test.YtldlihheppdhnaaGreatEqB
import Derived.Test.YtldlihheppdhnaaGreatMH
import Derived.Test.YtldlihheppdhnaaGreatMF
import Derived.Test.YtldlihheppdhnaaGreatMD
set_option linter.unusedVariables false
set_option linter.unusedSimpArgs false
set_option maxRecDepth 100000
set_option maxHeartbeats 0
namespace Go.Pl
end Go.Pl
open Go Go.Den Go.Pl
namespace Go.Pl
noncomputable section
open Go.IntKind (i64 u64 u32 u8)
def D8(which:Int):Option (((Unit×(Z0r×(Z0k×Z0u)))×(SP×(SN×Unit)))):=match(NW which)with|none=>none|some r=>(match(sW ((r.1.1,r.1.2),r.2))with|none=>none|some r1=>(match r1.1 with|none=>(let t:=(i64.wrap ((i64.wrap (3*(i64.wrap (1+(ak .and .i64 (bG .i64 which 1) 1)))))+1));bif (decide (t=0))then(none)else(match(uO none (i64.wrap (1+(ak .and .i64 (bG .i64 which 1) 1))) (i64.wrap (1+(Int.tmod (ak .and .i64 (bG .i64 which 2) 255) t))) 3)with|none=>none|some y=>(match y with| .inl y1=>(let r2:=y1.1.2.1;match(LW ((r.1.1,r.1.2),r.2))with|none=>none|some r4=>(match(ER r4 (i64.wrap (1+(ak .and .i64 (bG .i64 which 1) 1))) (i64.wrap (1+(Int.tmod (ak .and .i64 (bG .i64 which 2) 255) t))) 3)with|none=>none|some r5=>(match r5 with|none=>(bif (r1.2==0)then(bif (r2==0)then(none)else(none))else(none))|some p1=>(bif (r1.2==0)then(bif (r2==0)then(none)else(none))else(none)))))| .inr y1=>(let r3:=y1.1.2.1;let o:=y1.2.1.1;let o1:=y1.2.1.2.1;let no:=y1.2.1.2.2.1.1;let o2:=y1.2.1.2.2.1.2;let o3:=y1.2.1.2.2.2;let o4:=y1.2.2.1.1;let o5:=y1.2.2.1.2.1;let o6:=y1.2.2.1.2.2.1;let o7:=y1.2.2.1.2.2.2.1;let o8:=y1.2.2.1.2.2.2.2.1;let o9:=y1.2.2.1.2.2.2.2.2.2.1;let no1:=y1.2.2.1.2.2.2.2.2.2.2.1;let o10:=y1.2.2.1.2.2.2.2.2.2.2.2;match(LW ((r.1.1,r.1.2),r.2))with|none=>none|some r6=>(match(ER r6 (i64.wrap (1+(ak .and .i64 (bG .i64 which 1) 1))) (i64.wrap (1+(Int.tmod (ak .and .i64 (bG .i64 which 2) 255) t))) 3)with|none=>none|some r7=>(match r7 with|none=>(bif (r1.2==0)then(bif (r3==0)then(none)else(none))else(none))|some p2=>(bif (r1.2==0)then(bif (r3==0)then(some (((),(p2,(r6,(true,())))),((o,(o1,((no,o2),o3))),((o4,(o5,(o6,(o7,(o8,((),(o9,(no1,o10)))))))),()))))else(some (((),(p2,(r6,(false,())))),((o,(o1,((no,o2),o3))),((o4,(o5,(o6,(o7,(o8,((),(o9,(no1,o10)))))))),())))))else(some (((),(p2,(r6,(false,())))),((o,(o1,((no,o2),o3))),((o4,(o5,(o6,(o7,(o8,((),(o9,(no1,o10)))))))),())))))))))))|some p=>(let t1:=(i64.wrap ((i64.wrap (3*(i64.wrap (1+(ak .and .i64 (bG .i64 which 1) 1)))))+1));bif (decide (t1=0))then(none)else(match(uO (some p) (i64.wrap (1+(ak .and .i64 (bG .i64 which 1) 1))) (i64.wrap (1+(Int.tmod (ak .and .i64 (bG .i64 which 2) 255) t1))) 3)with|none=>none|some y2=>(match y2 with| .inl y3=>(let r8:=y3.1.2.1;match(LW ((r.1.1,r.1.2),r.2))with|none=>none|some r10=>(match(ER r10 (i64.wrap (1+(ak .and .i64 (bG .i64 which 1) 1))) (i64.wrap (1+(Int.tmod (ak .and .i64 (bG .i64 which 2) 255) t1))) 3)with|none=>none|some r11=>(match r11 with|none=>(bif (r1.2==0)then(bif (r8==0)then(none)else(none))else(none))|some p3=>(bif (r1.2==0)then(bif (r8==0)then(none)else(none))else(none)))))| .inr y3=>(let r9:=y3.1.2.1;let o11:=y3.2.1.1;let o12:=y3.2.1.2.1;let no2:=y3.2.1.2.2.1.1;let o13:=y3.2.1.2.2.1.2;let o14:=y3.2.1.2.2.2;let o15:=y3.2.2.1.1;let o16:=y3.2.2.1.2.1;let o17:=y3.2.2.1.2.2.1;let o18:=y3.2.2.1.2.2.2.1;let o19:=y3.2.2.1.2.2.2.2.1;let o20:=y3.2.2.1.2.2.2.2.2.2.1;let no3:=y3.2.2.1.2.2.2.2.2.2.2.1;let o21:=y3.2.2.1.2.2.2.2.2.2.2.2;match(LW ((r.1.1,r.1.2),r.2))with|none=>none|some r12=>(match(ER r12 (i64.wrap (1+(ak .and .i64 (bG .i64 which 1) 1))) (i64.wrap (1+(Int.tmod (ak .and .i64 (bG .i64 which 2) 255) t1))) 3)with|none=>none|some r13=>(match r13 with|none=>(bif (r1.2==0)then(bif (r9==0)then(none)else(none))else(none))|some p4=>(bif (r1.2==0)then(bif (r9==0)then(some (((),(p4,(r12,(true,())))),((o11,(o12,((no2,o13),o14))),((o15,(o16,(o17,(o18,(o19,((),(o20,(no3,o21)))))))),()))))else(some (((),(p4,(r12,(false,())))),((o11,(o12,((no2,o13),o14))),((o15,(o16,(o17,(o18,(o19,((),(o20,(no3,o21)))))))),())))))else(some (((),(p4,(r12,(false,())))),((o11,(o12,((no2,o13),o14))),((o15,(o16,(o17,(o18,(o19,((),(o20,(no3,o21)))))))),())))))))))))))
def uZ:=veil D8
theorem Gf:uZ=D8:=aj _
def Mt(g:Z0k)(t:Int)(value:Int):Option (Z0f×(Nat×(Nat->Z0N))):=
 match(aT (i64.wrap (100+(ak .and .i64 value 3))))with
 |none=>none
 |some r=>(
 match(aT (i64.wrap (7+(ak .and .i64 value 3))))with
 |none=>none
 |some r1=>(
 match(aT (i64.wrap (9+(ak .and .i64 value 3))))with
 |none=>none
 |some r2=>(
 let k:((Z0j×(Z0j×Unit))×Unit)->Option (Z0f×(Nat×(Nat->Z0N))):=λx=>(
 let nnumbers:=x.1.1.1;let numbers:=x.1.1.2;let nrandom:=x.1.2.1.1;let random:=x.1.2.1.2
 bif ((decide (0<=(i64.wrap (t*((nnumbers:Nat):Int)))))&&(decide ((i64.wrap (t*((nnumbers:Nat):Int)))<=((nrandom:Nat):Int))))then(
 match(EN g t nnumbers (λj=>numbers (0+j)) ((Int.toNat (i64.wrap (t*((nnumbers:Nat):Int))))-0) (λj=>random (0+j)))with
 |none=>none
 |some y=>(
 let nr:=y.1.1.1;let r6:=y.1.1.2;let nr1:=y.1.2.1.1;let r7:=y.1.2.1.2;let r8:=y.1.2.2.1
 some ((nr,r6),(nr1,r7))))
 else(
 none))
 bif ((ak .and .i64 value 3)==3)then(
 match(aT 5)with
 |none=>none
 |some r3=>(
 match(aT 1)with
 |none=>none
 |some r4=>(
 match(aT 2)with
 |none=>none
 |some r5=>(
 k (((2,(glue 1 (upd zNN 0 r) (λj=>(upd zNN 0 r3) (0+j)))),((4,(glue 2 (upd (upd zNN 0 r1) 1 r2) (λj=>(upd (upd zNN 0 r4) 1 r5) (0+j)))),())),())))))
 else(
 k (((1,(upd zNN 0 r)),((2,(upd (upd zNN 0 r1) 1 r2)),())),())))))
def zR:=veil Mt
theorem OX:zR=Mt:=aj _
def Fe(g:Z0k)(t:Int)(number:Int)(a:Z08):Option (Z0g):=
 bif (inb (ak .and .i64 a.2.2.2.1 3) 4)then(
 let t1:=((upd (upd (upd (upd (λ_=>ByteArray.empty) 0 (ByteArray.mk #[107])) 1 (ByteArray.mk #[97])) 2 (ByteArray.mk #[107,107])) 3 (ByteArray.mk #[])) (0+(Int.toNat (ak .and .i64 a.2.2.2.1 3))))
 match(zR g t a.2.2.2.2.2.1)with
 |none=>none
 |some r=>(
 let k:Z0d->Option (Z0g):=λx=>(
 let t2:=x.1.1
 bif t2 then(
 some (a.2.1,(a.2.2.1,(t1,((0,0),(ByteArray.empty,((0,(λ_=>.nil)),(0,zNN))))))))
 else(
 let k1:Z0d->Option (Z0g):=λx1=>(
 let t3:=x1.1.1
 bif t3 then(
 bif (decide (((r.2.1:Nat):Int)=0))then(
 none)
 else(
 bif (inb (Int.tmod (i64.wrap ((i64.wrap (number-1))+(ak .and .i64 a.2.2.2.2.2.2 1))) ((r.2.1:Nat):Int)) r.2.1)then(
 bif (SlV.isMs (r.2.2 (Int.toNat (Int.tmod (i64.wrap ((i64.wrap (number-1))+(ak .and .i64 a.2.2.2.2.2.2 1))) ((r.2.1:Nat):Int)))).2)then(
 none)
 else(
 some (a.2.1,(a.2.2.1,(t1,(a.2.2.2.2.1,(ByteArray.empty,((r.1.1,r.1.2),((SlV.len (r.2.2 (Int.toNat (Int.tmod (i64.wrap ((i64.wrap (number-1))+(ak .and .i64 a.2.2.2.2.2.2 1))) ((r.2.1:Nat):Int)))).2),(SlV.fn ((λ_=>0):NI) (r.2.2 (Int.toNat (Int.tmod (i64.wrap ((i64.wrap (number-1))+(ak .and .i64 a.2.2.2.2.2.2 1))) ((r.2.1:Nat):Int)))).2))))))))))
 else(
 none)))
 else(
 bif (a.2.1==5)then(
 let t4:=(a.2.1==5)
 bif t4 then(
 match(rO r.1.1 r.1.2)with
 |none=>none
 |some r1=>(
 some (a.2.1,(0,(t1,(a.2.2.2.2.1,(r1,((0,(λ_=>.nil)),(0,zNN)))))))))
 else(
 some (a.2.1,(a.2.2.1,(t1,(a.2.2.2.2.1,(ByteArray.empty,((0,(λ_=>.nil)),(0,zNN)))))))))
 else(
 let t4:=(a.2.1==6)
 bif t4 then(
 match(rO r.1.1 r.1.2)with
 |none=>none
 |some r1=>(
 some (a.2.1,(0,(t1,(a.2.2.2.2.1,(r1,((0,(λ_=>.nil)),(0,zNN)))))))))
 else(
 some (a.2.1,(a.2.2.1,(t1,(a.2.2.2.2.1,(ByteArray.empty,((0,(λ_=>.nil)),(0,zNN)))))))))))
 bif (a.2.1==4)then(
 k1 (((a.2.1==4),()),()))
 else(
 k1 (((a.2.1==8),()),()))))
 bif (a.2.1==1)then(
 k (((a.2.1==1),()),()))
 else(
 k (((a.2.1==2),()),()))))
 else(
 none)
def iK:=veil Fe
theorem Jd:iK=Fe:=aj _
def Mw:Option (Bool):=match(uZ 0)with|none=>none|some y=>(let r:=y.1.2.1;let r1:=y.1.2.2.1;let r2:=y.1.2.2.2.1;bif (!r2)then(some false)else(match(zR r1 1 0)with|none=>none|some r3=>(match(iK r1 1 1 (0,(4,(1,(0,((1,1),(0,0)))))))with|none=>none|some r4=>(match(bC 5 r4.1 r4.2.1 r4.2.2.1 r4.2.2.2.1 r4.2.2.2.2.1 r4.2.2.2.2.2.1.1 r4.2.2.2.2.2.1.2 r4.2.2.2.2.2.2.1 r4.2.2.2.2.2.2.2 (y.2.2.1,(y.2.1,())))with|none=>none|some y1=>(let nr:=y1.1.1.1;let r5:=y1.1.1.2;bif (((nr:Nat):Int) !=3)then(some false)else(bif (inb 0 nr)then(bif ((r5 0).2.1 !=5)then(some false)else(bif (inb 0 nr)then(let t:=((r5 0).1 !=2);bif t then(some false)else(match(iK r1 1 1 (0,(6,(0,(0,((1,1),(0,0)))))))with|none=>none|some r6=>(match(bC 2 r6.1 r6.2.1 r6.2.2.1 r6.2.2.2.1 r6.2.2.2.2.1 r6.2.2.2.2.2.1.1 r6.2.2.2.2.2.1.2 r6.2.2.2.2.2.2.1 r6.2.2.2.2.2.2.2 y1.2)with|none=>none|some y2=>(match(iK r1 1 1 (0,(6,(0,(0,((1,1),(0,0)))))))with|none=>none|some r8=>(match(bC 3 r8.1 r8.2.1 r8.2.2.1 r8.2.2.2.1 r8.2.2.2.2.1 r8.2.2.2.2.2.1.1 r8.2.2.2.2.2.1.2 r8.2.2.2.2.2.2.1 r8.2.2.2.2.2.2.2 y2.2)with|none=>none|some y3=>(match(bW (ByteArray.mk #[107]) y3.2)with|none=>none|some y4=>(bif (r.2.2.1==1)then(bif (((y3.1.1.1:Nat):Int)==4)then(bif (inb 3 y3.1.1.1)then(bif ((y3.1.1.2 3).2.1==7)then(bif (inb 3 y3.1.1.1)then(bif ((y3.1.1.2 3).1==5)then(bif (eqF (.pair (.int .i64) (.int .i64)) y4.1.1 (1,1))then(match(rO r3.1.1 r3.1.2)with|none=>none|some r13=>(bif (sEq y4.1.2.1 r13)then(bif y4.1.2.2.1 then(match(jP y4.2)with|none=>none|some y5=>(match(IB y5.1.1.1 y5.1.1.2 1 (λj=>(upd (λ_=>ByteArray.empty) 0 (ByteArray.mk #[107])) (0+j)))with|none=>none|some r15=>(some r15)))else(some false))else(some false)))else(some false))else(some false))else(none))else(some false))else(none))else(some false))else(some false))))))))else(none)))else(none)))))))
def wS:=veil Mw
theorem OY:wS=Mw:=aj _
end
end Go.Pl
namespace Go.Proofs.YtldlihheppdhnaaGreat
noncomputable section
abbrev WT:Shape:= { sl:=[(pv 0 tI)],ob:=[],lo:=0,nx:=0 }
abbrev WU:List Shape:=[{ sl:=[(0,(.c ⟨(.ptr tSV),(.rf 7 [])⟩)),(1,(.pz (.pair (.pair tI (.pair tI tI)) (.pair tI (.pair tI (.pair tI (.pair tI (.pair (.pair tI (.pair tI (.pair (.sl .str) (.sl tI)))) (.pair (.sl (.pair .str (.pair tG (.pair (.sl tV) (.pair (.sl tV) (.arr 4 (.pair (.arr 2 tG) (.pair tG (.pair tI tI))))))))) (.sl tOU)))))))))),(pv 2 (.pair tI (.pair tI tI))),(3,(.v .bool))],ob:=[(3,(.p (.v tI) (.p (.v tI) (.p (.w 9 .str 12) (.m tI tI 13))))),(7,(.p (.pz tGR) (.p (.v tI) (.p (.v tI) (.p (.v tI) (.p (.v tI) (.p (.c ⟨(.ptr tSP),(.rf 3 [])⟩) (.p (.bg .str tRC 14 none) (.sz tOU)))))))))],lo:=12,nx:=15 }]
def AY:Con:=lN WT WU λx=>uZ x.1.1
def WV:Cx:=cx [(25,aon),(22,anF),(24,asq),(26,aow),(27,aqM)] []
theorem QD:au Tryz.prog WV:=au.of mixed aA (fc ⟨ag4,fc ⟨afH,fc ⟨aiO,fc ⟨agd,fc ⟨ahn,fz⟩⟩⟩⟩⟩) fz
theorem Eh:av Tryz.prog 7 AY:=dW QD 8 ⟨Tryz.func7,Tryz.call7,ah⟩ 4 _ _ _ (by decide) (λx=>by rw[Gf];kernel_rfl)
def Je:Con:=aP false [(.pair tI (.pair tI tI)),tI,tI] [(.sl (.sl tN)),(.sl (.pair tI (.sl tN)))] λx=>zR x.1 x.2.1 x.2.2.1
def a2R:Cx:=cx [(71,a6K),(72,aqm)] []
theorem XZ:au Tryz.prog a2R:=au.of mixed aA (fc ⟨Ve,fc ⟨ah5,fz⟩⟩) fz
theorem Lb:av Tryz.prog 28 Je:=ay XZ 8 ⟨Tryz.func28,Tryz.call28,ah⟩ _ _ _ _ (by decide) (λx=>by rw[OX];kernel_rfl)
def D9:Con:=aP false [(.pair tI (.pair tI tI)),tI,tI,(.pair tI (.pair tI (.pair tI (.pair tI (.pair (.pair tI tI) (.pair tI tI))))))] [tMS] λx=>iK x.1 x.2.1 x.2.2.1 x.2.2.2.1
def Y0:Cx:=cx [(28,Je),(29,ah9)] []
theorem SY:au Tryz.prog Y0:=au.of mixed aA (fc ⟨Lb,fc ⟨a9z,fz⟩⟩) fz
theorem Gg:av Tryz.prog 12 D9:=ay SY 8 ⟨Tryz.func12,Tryz.call12,ah⟩ _ _ _ _ (by decide) (λx=>by rw[Jd];kernel_rfl)
def RZ:Con:=aP true [] [.bool] λx=>wS
def a2S:Cx:=cx [(7,AY),(28,Je),(12,D9),(13,lI 0 ajm ajp),(15,lI 0 ajs aju),(29,ah9),(18,lI 0 asH asI),(17,aqE)] []
theorem Y1:au Tryz.prog a2S:=au.of mixed aA (fc ⟨Eh,fc ⟨Lb,fc ⟨Gg,fc ⟨eF aax aay,fc ⟨eF aaz aaA,fc ⟨a9z,fc ⟨eF ajy ajB,fc ⟨ahb,fz⟩⟩⟩⟩⟩⟩⟩⟩) fz
theorem Y2:av Tryz.prog 8 RZ:=ay Y1 8 ⟨Tryz.func8,Tryz.call8,ah⟩ _ _ _ _ (by decide) (λx=>by rw[OY];kernel_rfl)
end
end Go.Proofs.YtldlihheppdhnaaGreat
namespace Go.Pl
open Go Go.Den Go.Num
theorem WX: ∀ {R:List Nat},(∀n∈R,n<2^256)->(XV R).length<=33*R.length
 | [],_=>ay7 _
 |a::R,h=>by
  have:=WX (R:=R) λn hn=>h n (ayw _ hn)
  have h1:=WG (h a ayA);simp only[XV,aAp,ayd,a2F,ayN,JN]at this⊢;omega
theorem WY: ∀ {M:List Z0F},(∀R∈M,R.length<=7/\ ∀n∈R,n<2^256)->(M.flatMap XV).length<=231*M.length
 | [],_=>ay7 _
 |R::M,h=>by
  have:=WY (M:=M) λn hn=>h n (ayw _ hn)
  have h0:=h R ayA;have h1:=WX h0.2;simp only[aAp,ayd,ayN];omega
theorem a4X {M:List Z0F}(h: ∀R∈M,R.length<=7/\ ∀n∈R,n<2^256):(gT M).length<=231*M.length+2:=by
 have:=WY h;unfold gT;split
 ·simp only[ayN];omega
 ·exact az8 _
theorem Gh {n:Nat}{m:Nat->SlV (Nat->Int)}{M:List Z0F}(hm:lD n m M)(hn:n<9223372036854775808)(hb:(gT M).length<2^40):rO n m=some (yu (gT M)):=by rw[KM];unfold Iy;have hs:O6 ⟨(gT M).toArray⟩=some (yu (bl ⟨(gT M).toArray⟩)):=a0t (by simpa [ByteArray.size]using hb);simp only[Jb hm hn,hs]
def aNv(v k:Nat):Nat:=if v=3 then(if k=0 then 103 else 5)else 100+v
def bNv(v j:Nat):Nat:=if v=3 then(if j=0 then 10 else if j=1 then 12 else if j=2 then 1 else 2)else if j=0 then 7+v else 9+v
def nnN(v:Nat):Nat:=if v=3 then 2 else 1
theorem a0H(v:Nat):nnN v=1\/nnN v=2:=by unfold nnN;split<;>simp
def vN(value:Int):Nat:=(value%4).toNat
theorem aec(value:Int):vN value<4:=by unfold vN;omega
theorem aed(value:Int):ak .and .i64 value 3=(vN value:Int):=by have:=Ot (x:=value) (k:=2) (by decide);rw[show((2^2-1:Nat):Int)=3 from rfl]at this;rw[this];unfold vN;rw[aAc (Int.emod_nonneg _ (by decide))];rfl
section
variable {P Q G:Nat}
theorem WZ(hP:1<P)(p62:P<4611686018427387904)(hQ:512<=Q)(q31:Q<2147483648){t:Nat}(ht:t=1\/t=2)(value:Int):
  ∃m l,zR ((P:Int),(Q:Int),(G:Int)) (t:Int) value=some ((nnN (vN value),m),(3*t+1,l))/\abd P Q G (aNv (vN value)) (bNv (vN value)) t (nnN (vN value)) m l:=by
 obtain⟨r,hr⟩: ∃r,zR ((P:Int),(Q:Int),(G:Int)) (t:Int) value=r:=⟨_,rfl⟩;rw[hr];rw[OX]at hr;unfold Mt at hr;have hv:=aec value;rw[aed]at hr;generalize vN value=v at*;have w1:IntKind.i64.wrap (100+(v:Int))=((100+v:Nat):Int):=wrap_i64 (by omega);have w2:IntKind.i64.wrap (7+(v:Int))=((7+v:Nat):Int):=wrap_i64 (by omega);have w3:IntKind.i64.wrap (9+(v:Int))=((9+v:Nat):Int):=wrap_i64 (by omega);have i1:=xI (n:=100+v) (by omega);have i2:=xI (n:=7+v) (by omega);have i3:=xI (n:=9+v) (by omega);have j1:=D5 (n:=100+v) (by omega);have j2:=D5 (n:=7+v) (by omega);have j3:=D5 (n:=9+v) (by omega);simp-zeta-letToHave only[w1,w2,w3,i1,i2,i3]at hr;extract_lets-underBinder k at hr;have hk: ∀(nn nr:Nat) (x y:Nat->(Nat->Int)),nn=nnN v->t*nn<=nr->nr<10->(∀k,k<nn->IsN (x k) (aNv v k))->(∀j,j<t*nn->IsN (y j) (bNv v j))->
   ∃m l,k (((nn,x),((nr,y),())),())=some ((nnN v,m),(3*t+1,l))/\abd P Q G (aNv v) (bNv v) t (nnN v) m l:=by
  intro nn nr x y hnn h1 h1' hx hy;subst hnn;obtain⟨m,l,d1,d2⟩:=a7s (P:=P) (Q:=Q) (G:=G) hP p62 (by omega) q31 ht (a0H v) (x:=λj=>x (0+j)) (y:=λj=>y (0+j)) (a:=aNv v) (b:=bNv v)
   (λk hk=>by simp only[aye];exact hx k hk) (λj hj=>by simp only[aye];exact hy j hj)
   (λk _=>by unfold aNv;(repeat' split)<;>omega) (λj _=>by unfold bNv;(repeat' split)<;>omega)
  refine⟨m,l,?_,d2⟩;unfold k;have e1:IntKind.i64.wrap ((t:Int)*((nnN v:Nat):Int))=((t*nnN v:Nat):Int):=by rw[show(t:Int)*((nnN v:Nat):Int)=((t*nnN v:Nat):Int)from rfl,wrap_i64 (by omega)]
  simp(disch:=omega) only[e1,WW,aAD,Nat.sub_zero,d1]
 clear_value k;by_cases h3:v=3
 ·subst h3;have i5:=xI (n:=5) (by decide);have i6:=xI (n:=1) (by decide);have i7:=xI (n:=2) (by decide);have i5':aT 5=some (K9 5):=i5;have i6':aT 1=some (K9 1):=i6;have i7':aT 2=some (K9 2):=i7;simp only[show((((3:Nat):Int))==3)=true from rfl,bA,i5',i6',i7']at hr;rw[<-hr];refine hk 2 4 _ _ rfl (by rcases ht with rfl|rfl<;>decide) (by decide) (λk hk=>?_) (λj hj=>?_)
  ·rcases(by omega:k=0\/k=1)with rfl|rfl
   ·exact j1
   ·exact D5 (n:=5) (by decide)
  ·rcases(by rcases ht with rfl|rfl<;>omega:j=0\/j=1\/j=2\/j=3)with rfl|rfl|rfl|rfl
   ·exact j2
   ·exact j3
   ·exact D5 (n:=1) (by decide)
   ·exact D5 (n:=2) (by decide)
 ·have e:nnN v=1:=axY h3;have e3:((v:Int)==3)=false:=gN (by omega);simp only[e3,bH]at hr;rw[<-hr];refine hk 1 2 _ _ e.symm (by rcases ht with rfl|rfl<;>decide) (by decide) (λk hk=>?_) (λj hj=>?_)
  ·obtain rfl:k=0:=by omega
   exact j1.of_eq (by unfold aNv;rw[axY h3])
  ·rcases(by rcases ht with rfl|rfl<;>omega:j=0\/j=1)with rfl|rfl
   ·exact j2.of_eq (by unfold bNv;rw[axY h3];rfl)
   ·exact j3.of_eq (by unfold bNv;rw[axY h3];rfl)
end
def zM(x:Int):ByteArray:=(upd (upd (upd (upd (λ_=>ByteArray.empty) 0 (ByteArray.mk #[107])) 1 (ByteArray.mk #[97])) 2 (ByteArray.mk #[107,107])) 3 (ByteArray.mk #[])) (0+vN x)
abbrev QE:=Int×(Int×(Int×(Int×((Int×Int)×(Int×Int)))))
def Da(P G:Nat)(t:Nat)(a:QE):List Z0F:=vE P G (aNv (vN a.2.2.2.2.2.1)) (bNv (vN a.2.2.2.2.2.1)) t (nnN (vN a.2.2.2.2.2.1))
def a4Y(t I:Nat)(a:QE):Nat:=(I-1+(a.2.2.2.2.2.2%2).toNat)%(3*t+1)
def T9(Q t I:Nat)(a:QE):List Nat:=(List.range (nnN (vN a.2.2.2.2.2.1))).map λk=>evN (coN (aNv (vN a.2.2.2.2.2.1)) (bNv (vN a.2.2.2.2.2.1)) t k) (t+1) (a4Y t I a+1) Q
structure aee(P Q G t I:Nat)(a:QE)(op:Int)(st:aC)(dg:ByteArray)(M:List Z0F)(L:List Nat):Prop where
 few:M.length<=2/\L.length<=2
 listen:a.2.1=1\/a.2.1=2->op=a.2.2.1/\st=(0,0)/\dg=ByteArray.empty/\M=[]/\L=[]
 shares:a.2.1=4\/a.2.1=8->op=a.2.2.1/\st=a.2.2.2.2.1/\dg=ByteArray.empty/\M=Da P G t a/\L=T9 Q t I a
 vote:a.2.1=5\/a.2.1=6->op=0/\st=a.2.2.2.2.1/\dg=yu (gT (Da P G t a))/\M=[]/\L=[]
 other:a.2.1≠1/\a.2.1≠2/\a.2.1≠4/\a.2.1≠8/\a.2.1≠5/\a.2.1≠6->op=a.2.2.1/\st=a.2.2.2.2.1/\dg=ByteArray.empty/\M=[]/\L=[]
theorem JV:lD 0 (λ_=>.nil) []:=⟨rfl,λi hi=>absurd hi (ayz _),λi hi=>absurd hi (ayz _),λi hi=>absurd hi (ayz _)⟩
theorem JW:Ci 0 zNN []:=⟨rfl,λj hj=>absurd hj (ayz _)⟩
theorem Mx(P G t:Nat)(hP:0<P)(p62:P<4611686018427387904)(ht:t=1\/t=2)(a:QE):(gT (Da P G t a)).length<=600:=by
 have h:=a4X (M:=Da P G t a) λR hR=>by simp only[Da,vE,aAh,aAa]at hR;obtain⟨k,_,rfl⟩:=hR;refine⟨by simp;omega,λn hn=>?_⟩;simp only[aAh,aAa]at hn;obtain⟨j,_,rfl⟩:=hn;exact aAI (ayk _ hP) (aAI p62 (by decide))
 have hl:(Da P G t a).length=nnN (vN a.2.2.2.2.2.1):=by simp[Da,vE]
 have:=a0H (vN a.2.2.2.2.2.1);omega
theorem Fg {P Q G:Nat}(hP:1<P)(p62:P<4611686018427387904)(hQ:512<=Q)(q31:Q<2147483648){t I:Nat}(ht:t=1\/t=2)(hI:1<=I/\I<=3*t+1)(a:QE):
  ∃op st dg nm m ny y M L,iK ((P:Int),(Q:Int),(G:Int)) (t:Int) (I:Int) a=some (Gt a.2.1 op (zM a.2.2.2.1) st dg nm m ny y)/\lD nm m M/\Ci ny y L/\aee P Q G t I a op st dg M L:=by
 obtain⟨m,l,d1,d2⟩:=WZ (P:=P) (Q:=Q) (G:=G) hP p62 hQ q31 ht a.2.2.2.2.2.1;have hv:=aec a.2.2.2.1;obtain⟨r,hr⟩: ∃r,iK ((P:Int),(Q:Int),(G:Int)) (t:Int) (I:Int) a=r:=⟨_,rfl⟩;rw[hr];rw[Jd]at hr;unfold Fe at hr;rw[aed,KU (by omega),bA,ay8]at hr;simp-zeta-letToHave only[d1]at hr;extract_lets-underBinder t1 k at hr;have et:t1=zM a.2.2.2.1:=rfl;clear_value t1;subst et;have hD:=Gh d2.mat (by have:=a0H (vN a.2.2.2.2.2.1);omega) (ayh (Mx P G t (by omega) p62 ht a) (by decide));have n12:=a0H (vN a.2.2.2.2.2.1);have bf: ∀ {x y:Int},x≠y->(x==y)=false:=gN;by_cases c1:a.2.1=1\/a.2.1=2
 ·have e:(bif (a.2.1==1)then k (((a.2.1==1),()),())else k (((a.2.1==2),()),()))=k ((true,()),()):=by rcases c1 with c|c<;>rw[c]<;>rfl
  rw[e]at hr;refine⟨a.2.2.1,(0,0),ByteArray.empty,0,_,0,zNN,[],[],hr.symm,JV,JW,⟨by decide,λ_=>⟨rfl,rfl,rfl,rfl,rfl⟩,λh=>by omega,λh=>by omega,λh=>by omega⟩⟩
 have e:(bif (a.2.1==1)then k (((a.2.1==1),()),())else k (((a.2.1==2),()),()))=k ((false,()),()):=by rw[bf (λh=>c1 (.inl h)),bf (λh=>c1 (.inr h))];rfl
 rw[e]at hr;unfold k at hr;extract_lets-underBinder t2 k1 at hr;replace hr:(bif (a.2.1==4)then k1 (((a.2.1==4),()),())else k1 (((a.2.1==8),()),()))=r:=hr;by_cases c2:a.2.1=4\/a.2.1=8
 ·have e:(bif (a.2.1==4)then k1 (((a.2.1==4),()),())else k1 (((a.2.1==8),()),()))=k1 ((true,()),()):=by rcases c2 with c|c<;>rw[c]<;>rfl
  rw[e]at hr;unfold k1 at hr;have w1:IntKind.i64.wrap ((I:Int)-1)=((I-1:Nat):Int):=by rw[wrap_i64 (by omega)];omega
  have w2:IntKind.i64.wrap (((I-1:Nat):Int)+a.2.2.2.2.2.2%2)=((I-1+(a.2.2.2.2.2.2%2).toNat:Nat):Int):=by have h0:0<=a.2.2.2.2.2.2%2:=Int.emod_nonneg _ (by decide);have h1:a.2.2.2.2.2.2%2<2:=Int.emod_lt_of_pos _ (by decide);rw[wrap_i64 (by omega)];omega
  have w3:Int.tmod ((I-1+(a.2.2.2.2.2.2%2).toNat:Nat):Int) ((3*t+1:Nat):Int)=(a4Y t I a:Int):=rfl;have hw:a4Y t I a<3*t+1:=ayk _ (by omega);obtain⟨f,f1,f2⟩:=d2.sh (a4Y t I a) hw;refine⟨a.2.2.1,a.2.2.2.2.1,ByteArray.empty,nnN (vN a.2.2.2.2.2.1),m,nnN (vN a.2.2.2.2.2.1),f,Da P G t a,T9 Q t I a,?_,d2.mat,⟨by simp[T9],λj hj=>?_⟩,⟨⟨by simp[Da,vE];omega,by simp[T9];omega⟩,λh=>absurd h c1,λ_=>⟨rfl,rfl,rfl,rfl,rfl⟩,λh=>by omega,λh=>by omega⟩⟩
  ·rw[OH,w1,w2,w3]at hr;simp(disch:=omega) only[WW,f1,show∀ {α:Type} (n:Nat) (g:Nat->α),SlV.isMs (.fz n g)=false from λ_ _=>rfl]at hr;exact hr.symm
  ·rw[T9,OP hj];exact f2 j hj
 have e:(bif (a.2.1==4)then k1 (((a.2.1==4),()),())else k1 (((a.2.1==8),()),()))=k1 ((false,()),()):=by rw[bf (λh=>c2 (.inl h)),bf (λh=>c2 (.inr h))];rfl
 rw[e]at hr;unfold k1 at hr;simp only[bH,hD]at hr;by_cases c3:a.2.1=5
 ·rw[c3]at hr⊢;exact⟨0,a.2.2.2.2.1,_,0,_,0,zNN,[],[],hr.symm,JV,JW,⟨by decide,λh=>by omega,λh=>by omega,λ_=>⟨rfl,rfl,rfl,rfl,rfl⟩,λh=>by omega⟩⟩
 by_cases c4:a.2.1=6
 ·rw[c4]at hr⊢;exact⟨0,a.2.2.2.2.1,_,0,_,0,zNN,[],[],hr.symm,JV,JW,⟨by decide,λh=>by omega,λh=>by omega,λ_=>⟨rfl,rfl,rfl,rfl,rfl⟩,λh=>by omega⟩⟩
 ·rw[bf c3,bf c4]at hr;exact⟨a.2.2.1,a.2.2.2.2.1,ByteArray.empty,0,_,0,zNN,[],[],hr.symm,JV,JW,⟨by decide,λh=>by omega,λh=>by omega,λh=>by omega,λ_=>⟨rfl,rfl,rfl,rfl,rfl⟩⟩⟩
open Go Go.Den Go.Num
theorem a5V: ∀(l:List OU) (o:iN) (i:Nat),(apps o l).2 i=if i<o.1 then o.2 i else if h:i-o.1<l.length then l[i-o.1]else(apps o l).2 i
 | [],o,i=>by
  show o.2 i=_;split
  ·rfl
  ·rw[dif_neg (by simp)];rfl
 |x::l,o,i=>by
  have ih:=a5V l (app o x) i;have e:(apps o (x::l))=apps (app o x) l:=rfl;by_cases h0:i<o.1
  ·rw[ay5 h0,e,ih,ay5 (show i<(app o x).1 by simp only[app];omega)];simp only[app];exact YN h0
  ·rw[axY h0];by_cases h1:i=o.1
   ·subst h1;rw[dif_pos (by simp),e,ih,ay5 (show o.1<(app o x).1 by simp only[app];omega)];simp only[app,azz,List.getElem_cons_zero];rw[YO (ay7 _),azz];rfl
   ·split
    ·rename_i h2;rw[e,ih,axY (show¬i<(app o x).1 by simp only[app];omega)];have h3:i-(app o x).1<l.length:=by simp only[app];simp only[ayN]at h2;omega
     rw[dif_pos h3];have h4:i-o.1=(i-(app o x).1)+1:=by simp only[app];omega
     simp only[h4,List.getElem_cons_succ]
    ·rfl
theorem a4Z {l:List OU}{i:Nat}(h:i<l.length):(frz (apps zNO l)).2 i=l[i]:=by show(apps zNO l).2 (0+i)=_;rw[aye,a5V,axY (show¬i<(zNO:iN).1 from ayz _),dif_pos (show i-(zNO:iN).1<l.length from h)];rfl
theorem a0I(l:List OU):(frz (apps zNO l)).1=l.length:=by show(apps zNO l).1=_;rw[gQ];exact aye _
def abl(f:Fr)(o:iN):Prop:= ∀i,i<o.1-> ∃key,OT { f with key:=key } (o.2 i)
theorem a5k {f:Fr}{l:List OU}(h: ∀x∈l,∃key,OT { f with key:=key } x):abl f (frz (apps zNO l)):=λi hi=>by rw[a0I]at hi;rw[a4Z hi];exact h _ (aAF hi)
def Y3(l:List (ByteArray×Rc))(k:ByteArray):Prop:= ∃e∈l,e.1=k
theorem QF: ∀ {l:List (ByteArray×Rc)} {k},Y3 l k-> ∃e,l[bU l k]?=some e
 | [],k,⟨e,h,_⟩=>absurd h (by simp)
 |a::l,k,⟨e,h,he⟩=>by
  simp only[bU];split
  ·exact⟨a,by simp⟩
  ·rename_i hn;rcases azd.1 h with rfl|h
   ·exact absurd he hn
   ·obtain⟨q,hq⟩:=QF ⟨e,h,he⟩;exact⟨q,by simp[hq]⟩
theorem acH {l:List (ByteArray×Rc)}{k:ByteArray}{e}(h:l[bU l k]?=some e):Y3 l k:=⟨e,ayS h,pW h⟩
open Classical in
theorem a7B(l:List (ByteArray×Rc))(k:ByteArray)(x:Rc):(D6 l k x).map (·.1)=if Y3 l k then l.map (·.1)else l.map (·.1)++[k]:=by
 unfold D6;cases h:l[bU l k]? with
 |none=>
  rw[axY (λhk=>by obtain⟨e,he⟩:=QF hk;rw[h]at he;cases he)];simp
 |some e=>
  rw[ay5 (acH h)];apply az3;intro j;simp only[ayD,azw];by_cases c:bU l k=j
  ·subst c;simp[h]
  ·simp only[axY c];cases l[j]?<;>rfl
theorem X0 {l:List (ByteArray×Rc)}{k:ByteArray} :Y3 l k↔k∈l.map (·.1):=by simp only[Y3,aAh]
open Classical in
theorem a2T(l:List (ByteArray×Rc))(k:ByteArray)(x:Rc)(q:ByteArray):Y3 (D6 l k x) q↔Y3 l q\/q=k:=by
 rw[X0,a7B];split
 ·rename_i h;rw[<-X0];exact⟨.inl,λhh=>hh.elim id λe=>by rw[e];exact h⟩
 ·rw[ays,<-X0,az1]
theorem abm {l:List (ByteArray×Rc)}{k:ByteArray}{x:Rc}{e}(h:e∈D6 l k x):e∈l\/e=(k,x):=by
 unfold D6 at h;cases hl:l[bU l k]? with
 |none=>
  rw[hl]at h;simp only[ays,az1]at h;exact h
 |some q=>
  rw[hl]at h;simp only at h;obtain⟨j,hj,rfl⟩:=List.getElem_of_mem h;rw[List.length_modify]at hj;rw[List.getElem_modify];split
  ·rename_i c;subst c;have:l[bU l k]=q:=by rw[ay3 hj]at hl;exact ayL hl
   rw[this];exact .inr (by rw[pW hl])
  ·exact .inl (aAF hj)
theorem abn(l:List (ByteArray×Rc))(k:ByteArray):(∃e∈l,e.2=gu l k/\e.1=k)\/gu l k=newR:=by
 unfold gu;cases h:l[bU l k]? with
 |none=>exact .inr rfl
 |some e=>exact .inl ⟨e,ayS h,rfl,pW h⟩
structure Good(h:Hd)(s:Sv)(j:Nat):Prop where
 srt:rE s.n s.ks
 few:s.n<=j
 full: ∀i,i<s.n->Y3 s.l (s.ks i)/\(1<=(s.ks i).size/\(s.ks i).size<=8)
 rcs: ∀e∈s.l,jG e.2
theorem jG.wf {x:Rc}(h:jG x):WFc x.c:=λi _ hp=>(h.c i).w.2.2 hp
theorem Good.ok {h:Hd}{s:Sv}{j:Nat}(g:Good h s j)(hj:j<1000):s.Ok:=⟨g.srt,ayh g.few hj,λe he=>(g.rcs e he).wf⟩
theorem Good.tick {h:Hd}{s:Sv}{j:Nat}(g:Good h s j):s.Full:=λi hi=>QF (g.full i hi).1
theorem Good.get {h:Hd}{s:Sv}{j:Nat}(g:Good h s j)(k:ByteArray):jG (gu s.l k):=by
 rcases abn s.l k with⟨e,he,e1,_⟩|e
 ·rw[<-e1];exact g.rcs e he
 ·rw[e];exact abh
theorem Good.out {h:Hd}{s:Sv}{j:Nat}(g:Good h s j)(o:iN):Good h { s with o:=o } j:=⟨g.srt,g.few,g.full,g.rcs⟩
structure a2U(k op:Int)(st:aC)(dg:ByteArray)(nm:Nat)(m:Nat->SlV (Nat->Int))(ny:Nat)(y:Nat->(Nat->Int))(M:List Z0F)(L:List Nat):Prop where
 mat:lD nm m M
 row:Ci ny y L
 few:M.length<1000/\L.length<1000
 len: ∀i,i<nm->(m i).len<1000
 byt:(gT M).length<=600
noncomputable def Lc(h:Hd)(from_ k op:Int)(key:ByteArray)(st:aC)(dg:ByteArray)(v:VA)(s:Sv):List OU:=(jo h from_ k op key st dg v (gu s.l key)).2
noncomputable def X3(h:Hd)(from_ k op:Int)(key:ByteArray)(st:aC)(dg:ByteArray)(v:VA)(s:Sv):Sv:=
 ⟨D6 s.l key (jo h from_ k op key st dg v (gu s.l key)).1,(h.opn key from_ s).2.1.2.2.1.1,(h.opn key from_ s).2.1.2.2.1.2,(h.opn key from_ s).2.1.2.2.2,frz (apps zNO (Lc h from_ k op key st dg v s))⟩
theorem X4 {M:List Z0F}(h:gT M≠ []):zk M=true:=by
 cases he:zk M with
 |true=>rfl
 |false=>exfalso;apply h;unfold gT;rw[he];rfl
theorem a5W {k c:Int}(h:WL k c)(hk:k=5\/k=6):c=3:=by unfold WL at h;omega
theorem acI {k c:Int}(h:WL k c)(hk:k=1):c=8:=by unfold WL at h;omega
theorem abo {h:Hd}(hh:h.Ok){from_ k op:Int}{key:ByteArray}{st:aC}{dg:ByteArray}{nm:Nat}{m:Nat->SlV (Nat->Int)}{ny:Nat}{y:Nat->(Nat->Int)}{M:List Z0F}{L:List Nat}(hm:a2U k op st dg nm m ny y M L)(hmay:SX h from_ k op key st dg M L){x:Rc}(hx:jG x):
  iU (h.fr key) (jo h from_ k op key st dg (st,(yu (gT M),((nm,m),(ny,y)))) x):=by
 have hF:(h.fr key).Ok2:= { hh.f key with key:=hmay.1.1 };have hk:k=1\/k=2\/k=5\/k=6\/k=8\/k=4:=by have:=hmay.2.1;unfold gI at this;omega
 have h3:=hmay.1.2.2;have h2:=hmay.1.2.1;have hv:k=4\/k=8->Gv (st,(yu (gT M),((nm,m),(ny,y)))):=λc=>by obtain⟨w1,w2,w3,w4⟩:=a0D hmay.1 c;exact⟨M,L,hm.mat,hm.row,⟨hm.few.1,hm.few.2,hm.len⟩,.inr ⟨w1,Qn _,.inr ⟨X4 w3,w2⟩⟩⟩
 have hvote:k=5\/k=6->j5 st/\dg.size=32:=λc=>by obtain⟨a1,a2,a3,a4⟩:=abg (a5W h3 c);exact⟨h2.1 a1,h2.2.1 a2⟩
 have hop:k=1->1<=op/\op<=1048576:=λc=>by obtain⟨a1,a2,a3,a4⟩:=ajZ (acI h3 c);exact h2.2.2.2 a4
 unfold jo;rcases hk with rfl|rfl|rfl|rfl|rfl|rfl
 ·rw[ay5 rfl];exact a4W hF _ (hop rfl) hx
 ·rw[axY (by decide),ay5 rfl];exact a7A _ _ hx
 ·rw[axY (by decide),axY (by decide),ay5 rfl];exact a7y hF _ (hvote (.inl rfl)).1 (hvote (.inl rfl)).2 hx
 ·rw[axY (by decide),axY (by decide),axY (by decide),ay5 rfl];exact a7z hF _ (hvote (.inr rfl)).1 (hvote (.inr rfl)).2 hx
 ·rw[axY (by decide),axY (by decide),axY (by decide),axY (by decide),ay5 rfl];exact YU hF (hv (.inr rfl)) hx
 ·rw[axY (by decide),axY (by decide),axY (by decide),axY (by decide),axY (by decide)];obtain⟨w1,w2,w3,w4,w5,_⟩:=a0D hmay.1 (.inl rfl);exact a0G hF _ ⟨hv (.inl rfl),⟨by show 0<=op;omega,w5⟩,λ_=>w1⟩ w1 (by show 0<op;omega) hx
def MB(h:Hd)(from_ k op:Int)(key:ByteArray)(st:aC)(dg:ByteArray)(M:List Z0F)(L:List Nat)(s:Sv):Prop:=SX h from_ k op key st dg M L/\(h.opn key from_ s).1.2.2.1=0
theorem ak1(h:Hd)(key:ByteArray)(from_:Int)(s:Sv):(h.opn key from_ s).2.1=h.sp (h.opn key from_ s).2.1.2.2.1.1 (h.opn key from_ s).2.1.2.2.1.2 (h.opn key from_ s).2.1.2.2.2:=by
 unfold Hd.opn vD
 repeat' split
 all_goals rfl
theorem abp {h:Hd}{key:ByteArray}{from_:Int}{s:Sv}(h0:(h.opn key from_ s).1.2.2.1=0):
  (1<=key.size/\key.size<=8)/\(h.opn key from_ s).2.1.2.2.1.1<=s.n+1/\ ∀i,i<(h.opn key from_ s).2.1.2.2.1.1->(h.opn key from_ s).2.1.2.2.1.2 i=key\/ ∃j,j<s.n/\(h.opn key from_ s).2.1.2.2.1.2 i=s.ks j:=by
 revert h0;unfold Hd.opn vD;split
 ·intro h;exact absurd h (by show¬((1:Int)=0);decide)
 ·rename_i hc;have hk:1<=key.size/\key.size<=8:=ayu λh=>hc (.inl h)
  split
  ·intro _;exact⟨hk,Nat.le_succ _,λi hi=>.inr ⟨i,hi,rfl⟩⟩
  ·split
   ·intro h;exact absurd h (by show¬((7:Int)=0);decide)
   ·intro _;refine⟨hk,ay7 _,λi hi=>?_⟩;have hi':i<s.n+1:=hi;show Bl s.ks (before s.n s.ks key) key i=key\/ ∃j,j<s.n/\Bl s.ks (before s.n s.ks key) key i=s.ks j;have hb:before s.n s.ks key<=s.n:=a0v _ _ _;rw[a0w];split
    ·exact .inr ⟨i,by omega,rfl⟩
    ·split
     ·exact .inl rfl
     ·exact .inr ⟨i-1,by omega,rfl⟩
theorem QG {h:Hd}(hh:h.Ok){from_ k op:Int}{key:ByteArray}{st:aC}{dg:ByteArray}{nm:Nat}{m:Nat->SlV (Nat->Int)}{ny:Nat}{y:Nat->(Nat->Int)}{M:List Z0F}{L:List Nat}(hm:a2U k op st dg nm m ny y M L){s:Sv}{j:Nat}(g:Good h s j)(ht:MB h from_ k op key st dg M L s):
  Good h (X3 h from_ k op key st dg (st,(yu (gT M),((nm,m),(ny,y)))) s) (j+1)/\oO (h.fr key) (Lc h from_ k op key st dg (st,(yu (gT M),((nm,m),(ny,y)))) s):=by
 have hr:=abo hh hm ht.1 (g.get key);obtain⟨k1,k2,k3⟩:=abp ht.2;have k4:=a0y g.srt key from_ (h.N:Int) 3 s.u;refine⟨⟨k4.1,azJ k2 (Nat.succ_le_succ g.few),λi hi=>?_,λe he=>?_⟩,hr.2⟩
 ·rcases k3 i hi with e|⟨j',hj,e⟩
  ·show Y3 (D6 _ _ _) ((h.opn key from_ s).2.1.2.2.1.2 i)/\_<=((h.opn key from_ s).2.1.2.2.1.2 i).size/\((h.opn key from_ s).2.1.2.2.1.2 i).size<=_;rw[e];exact⟨(a2T _ _ _ _).2 (.inr rfl),k1⟩
  ·show Y3 (D6 _ _ _) ((h.opn key from_ s).2.1.2.2.1.2 i)/\_<=((h.opn key from_ s).2.1.2.2.1.2 i).size/\((h.opn key from_ s).2.1.2.2.1.2 i).size<=_;rw[e];exact⟨(a2T _ _ _ _).2 (.inl (g.full j' hj).1),(g.full j' hj).2⟩
 ·rcases abm he with h1|rfl
  ·exact g.rcs e h1
  ·exact hr.1
open Classical in
theorem JX {h:Hd}(hh:h.Ok){from_:Int}(hf: -9223372036854775808<=from_/\from_<9223372036854775808){k op:Int}{key:ByteArray}{st:aC}{dg:ByteArray}{nm:Nat}{m:Nat->SlV (Nat->Int)}{ny:Nat}{y:Nat->(Nat->Int)}{M:List Z0F}{L:List Nat}(hm:a2U k op st dg nm m ny y M L){s:Sv}{j:Nat}(g:Good h s j)(hj:j<1000):
  bC from_ k op key st dg nm m ny y (h.mk' s)=
   some (if MB h from_ k op key st dg M L s then((frz (apps zNO (Lc h from_ k op key st dg (st,(yu (gT M),((nm,m),(ny,y)))) s)),()),h.mk' (X3 h from_ k op key st dg (st,(yu (gT M),((nm,m),(ny,y)))) s))else((zNO,()),h.mk' s)):=by
 have hsz:=hm.mat.sz;have hyl:=hm.row.1;have hfw:=hm.few;by_cases c:MB h from_ k op key st dg M L s
 ·rw[ay5 c];exact step_ok hh hf hm.mat hm.row (by omega) (by omega) (g.ok hj) (Mr hm.mat (by omega) (ayh hm.byt (by decide))) c.1 c.2 (ak1 h key from_ s)
 ·rw[axY c];exact acC hh hf hm.mat hm.row (by omega) (by omega) (g.ok hj) c
def MC(I:Nat)(x:Rc)(b c:Nat):Gc:=x.e ((I:Int)-1).toNat b c
def own(I:Nat)(x:Rc)(s:aC):Gc:=MC I x (s.2-1).toNat (s.1%2).toNat
def placed(k:Gc)(b c:Nat):Prop:=b=(k.1.2-1).toNat/\c=(k.1.1%2).toNat
def Says(I:Nat)(x:Rc)(s:aC)(d:ByteArray):Prop:=own I x s=(s,d)\/s.1<(own I x s).1.1
def ME(I:Nat)(x y:Rc):Prop:= ∀b c,MC I y b c=MC I x b c\/((MC I x b c).1.1<(MC I y b c).1.1/\placed (MC I y b c) b c)
theorem ME.refl(I:Nat)(x:Rc):ME I x x:=λ_ _=>.inl rfl
theorem ME.of {I:Nat}{x y:Rc}(h:y.e=x.e):ME I x y:=λb c=>.inl (by unfold MC;rw[h])
theorem ME.le {I:Nat}{x y:Rc}(h:ME I x y)(b c:Nat):(MC I x b c).1.1<=(MC I y b c).1.1:=by
 rcases h b c with e|e
 ·rw[e];exact aAL _
 ·exact Int.le_of_lt e.1
theorem ME.trans {I:Nat}{x y z:Rc}(h:ME I x y)(g:ME I y z):ME I x z:=λb c=>by
 rcases g b c with e|e
 ·rw[e];exact h b c
 ·exact .inr ⟨Int.lt_of_le_of_lt (h.le b c) e.1,e.2⟩
theorem Says.up {I:Nat}{x y:Rc}{s:aC}{d:ByteArray}(h:Says I x s d)(r:ME I x y):Says I y s d:=by
 unfold Says own at*;rcases r (s.2-1).toNat (s.1%2).toNat with e|e
 ·rw[e];exact h
 ·rcases h with h|h
  ·rw[h]at e;exact .inr e.1
  ·exact .inr (Int.lt_trans h e.1)
abbrev oKd(m:OU):Int:=m.2.1
abbrev Jf(m:OU):ByteArray:=m.2.2.2.1
abbrev oSt(m:OU):aC:=m.2.2.2.2.1
abbrev oDg(m:OU):ByteArray:=m.2.2.2.2.2.1
structure Ech(f:Fr)(x y:Rc)(l:List OU):Prop where
 ge: ¬dJ x.v.1 y.v.1
 rise:ME f.I x y
 new: ∀m∈l,oKd m=5->(own f.I x (oSt m)).1.1<(oSt m).1/\Says f.I y (oSt m) (oDg m)/\(oSt m).1<=y.v.1.1+1
 uni: ∀m∈l,∀m'∈l,oKd m=5->oKd m'=5->oSt m=oSt m'->oDg m=oDg m'
 key: ∀m∈l,oKd m=5->Jf m=f.key
theorem bK(p:aC): ¬dJ p p:=by unfold dJ;omega
theorem abq {p q r:aC}(h: ¬dJ p q)(g: ¬dJ q r): ¬dJ p r:=by unfold dJ at*;omega
theorem ak2 {p q:aC}(h: ¬dJ p q):p.1<=q.1:=by unfold dJ at h;omega
theorem abr {p q:aC}(h:dJ p q): ¬dJ q p:=by unfold dJ at*;omega
theorem Ech.trans {f:Fr}{x y z:Rc}{a b:List OU}(h:Ech f x y a)(g:Ech f y z b):Ech f x z (a++b) where
 ge:=abq h.ge g.ge
 rise:=h.rise.trans g.rise
 new:=λm hm hk=>by
  rcases ays.1 hm with hm|hm
  ·obtain⟨h1,h2,h3⟩:=h.new m hm hk;exact⟨h1,h2.up g.rise,by have:=ak2 g.ge;omega⟩
  ·obtain⟨h1,h2,h3⟩:=g.new m hm hk;exact⟨Int.lt_of_le_of_lt (h.rise.le _ _) h1,h2,h3⟩
 uni:=λm hm m' hm' hk hk' e=>by
  have no: ∀u∈a,∀v∈b,oKd u=5->oKd v=5->oSt u=oSt v->False:=λu hu v hv ku kv e=>by
   obtain⟨_,h2,_⟩:=h.new u hu ku;obtain⟨g1,_,_⟩:=g.new v hv kv;rw[e]at h2;rcases h2 with h2|h2
   ·rw[h2]at g1;exact absurd g1 (Int.lt_irrefl _)
   ·exact absurd (Int.lt_trans h2 g1) (Int.lt_irrefl _)
  rcases ays.1 hm with hm|hm<;>rcases ays.1 hm' with hm'|hm'
  ·exact h.uni m hm m' hm' hk hk' e
  ·exact(no m hm m' hm' hk hk' e).elim
  ·exact(no m' hm' m hm hk' hk e.symm).elim
  ·exact g.uni m hm m' hm' hk hk' e
 key:=λm hm hk=>(ays.1 hm).elim (λhm=>h.key m hm hk) (λhm=>g.key m hm hk)
abbrev zN(f:Fr)(x:Rc)(a:RcW):Prop:=Ech f x a.1 a.2
theorem zN.bind {f:Fr}{x:Rc}{a:RcW}{F:Rc->RcW}(h:zN f x a)(g:zN f a.1 (F a.1)):zN f x (fZ a F):=Ech.trans h g
def NoE(l:List OU):Prop:= ∀m∈l,oKd m≠5
theorem iH:NoE []:=λm h=>absurd h (by simp)
theorem NoE.app {a b:List OU}(h:NoE a)(g:NoE b):NoE (a++b):=λm hm=>(ays.1 hm).elim (h m) (g m)
theorem OZ {x:OU}(h:oKd x≠5):NoE [x]:=λy hy=>by rw[az1.1 hy];exact h
theorem Ech.quiet {f:Fr}{x y:Rc}{l:List OU}(he:y.e=x.e)(hv: ¬dJ x.v.1 y.v.1)(hl:NoE l):Ech f x y l:=
 ⟨hv,.of he,λm hm hk=>absurd hk (hl m hm),λm hm _ _ hk=>absurd hk (hl m hm),λm hm hk=>absurd hk (hl m hm)⟩
theorem Ech.same {f:Fr}{x:Rc}{l:List OU}(hl:NoE l):Ech f x x l:=.quiet rfl (bK _) hl
section
variable {f:Fr}
theorem vg {k:Int}{p:aC}{d:ByteArray}{m:OU} : ∀ {n},m∈Qq f k p d n-> ∃i,m=voP f k p d i
 |0,h=>absurd h (by simp[Qq])
 |n+1,h=>by
  rw[Qq,ays]at h;rcases h with h|h
  ·exact vg h
  ·split at h
   ·simp at h
   ·exact⟨n,az1.1 h⟩
theorem acJ {k:Int}(hk:k≠5)(p:aC)(d:ByteArray)(n:Nat):NoE (Qq f k p d n):=λm hm=>by obtain⟨i,rfl⟩:=vg hm;exact hk
theorem a2V(x:Rc)(c:Nat):NoE (J9 f x c):=by
 unfold J9;split
 ·exact OZ (show(3:Int)≠5 by decide)
 ·exact iH
theorem Tz(x:Rc): ∀n,NoE (XU f x n)
 |0=>iH
 |n+1=>(Tz x n).app (a2V x n)
theorem abt(i:Nat)(x:Rc):zN f x (E8 f i x):=by
 unfold E8;split
 ·exact .quiet rfl (bK _) (OZ (show(7:Int)≠5 by decide))
 ·exact .same iH
theorem abu(i:Nat)(x:Rc):zN f x (E9 f i x):=by
 unfold E9;split
 ·exact .quiet rfl (bK _) (OZ (show(7:Int)≠5 by decide))
 ·exact .same iH
theorem abv(i:Nat)(x:Rc):zN f x (Fa f i x):=by
 unfold Fa;split
 ·exact .quiet rfl (bK _) (OZ (show(7:Int)≠5 by decide))
 ·exact .same iH
theorem YV(x:Rc): ∀n,zN f x (zh f x n)
 |0=>.same iH
 |n+1=>(YV x n).bind (((abt n _).bind (abu n _)).bind (abv n _))
def a5a(f:Fr)(rec:E5):Prop:= ∀p d x,j5 p->d.size=32->jG x->dJ p x.v.1->zN f x (rec p d x)
variable {rec:E5}
theorem a7C(p:aC)(d:ByteArray)(x:Rc):zN f x (nC f p d x):=by
 unfold nC;split
 ·exact .quiet rfl (bK _) (acJ (by decide) _ _ _)
 ·exact .same iH
theorem QH(hf:f.Ok2)(hr:a5a f rec){p:aC}(hp:j5 p){d:ByteArray}(hd:d.size=32){x:Rc}(h:jG x):zN f x (jF f rec p d x):=
 (a7C p d x).bind (by
  unfold endP;split
  ·rename_i hc;exact hr p d _ hp hd (YS hf hp hd h).1 hc.2
  ·exact .same iH)
theorem abw {x y:Rc}{p:aC}{d:ByteArray}(hy:y.e=kH x.e f.I p d)(ho:okV f.N x.e f.I p):ME f.I x y/\own f.I y p=(p,d):=by
 have h1: ∀b c,MC f.I y b c=if b=(p.2-1).toNat/\c=(p.1%2).toNat then(p,d)else MC f.I x b c:=λb c=>by
  unfold MC;rw[hy];unfold kH;by_cases hc:b=(p.2-1).toNat/\c=(p.1%2).toNat
  ·rw[ay5 hc,ay5 ⟨rfl,hc⟩]
  ·rw[axY hc,axY λh=>hc h.2]
 refine⟨λb c=>?_,by unfold own;rw[h1,ay5 ⟨rfl,rfl⟩]⟩;rw[h1];split
 ·rename_i hc;refine .inr ⟨?_,hc⟩;rw[hc.1,hc.2];exact ho.2.2.2
 ·exact .inl rfl
theorem acK {p q:aC}(hp:j5 p)(h:Gd p q):p.1<=q.1+1:=by unfold Gd at h;obtain⟨a,b,_,_⟩:=hp;rw[wrap_i64 (by omega)]at h;omega
theorem YW(hf:f.Ok2)(hr:a5a f rec){p:PR}(hp:D7 p)(hm:j5 p.1.1){x:Rc}(h:jG x)(hn:Gd p.1.1 x.v.1):zN f x (nD f rec p x):=by
 have hd:=a5U hp.1 hm;unfold nD;split
 ·rename_i ho;obtain⟨r1,r2⟩:=abw (f:=f) (x:=x) (y:= { x with c:=takeC x p,e:=kH x.e f.I p.1.1 p.1.2.1 }) (p:=p.1.1) (d:=p.1.2.1) rfl ho;refine zN.bind (a:=(_,_)) ⟨bK _,r1,λm hm' _=>?_,λm hm1 m' hm2 _ _ _=>?_,λm hm' _=>?_⟩ (QH hf hr hm hd ⟨h.v,sD h.e hm hd,h.r,WR h hp⟩)
  ·obtain⟨i,rfl⟩:=vg hm';exact⟨ho.2.2.2,.inl r2,acK hm hn⟩
  ·obtain⟨i,rfl⟩:=vg hm1;obtain⟨j,rfl⟩:=vg hm2;rfl
  ·obtain⟨i,rfl⟩:=vg hm';rfl
 ·exact .quiet rfl (bK _) iH
theorem a7D(hf:f.Ok2)(hr:a5a f rec)(i:Nat){x:Rc}(h:jG x):zN f x (sw f rec i x):=by
 unfold sw;split
 ·rename_i hg;exact Ech.trans (a:=[]) (y:= { x with c:=Qt x.c i }) (.quiet rfl (bK _) iH) (YW hf hr (x:= { x with c:=Qt x.c i }) (h.c i).w ((h.c i).w.2.2 hg.1) ⟨h.v,h.e,h.r,qX h.c ⟨(h.c i).p0,(h.c i).p1,Ee,(h.c i).op⟩⟩ hg.2)
 ·exact .same iH
theorem X5(hf:f.Ok2)(hr:a5a f rec)(ho:OW f rec){x:Rc}(h:jG x): ∀n,zN f x (uV f rec x n)
 |0=>.same iH
 |n+1=>(X5 hf hr ho h n).bind (a7D hf hr n (QC hf ho h n).1)
theorem abx(c:CL)(p:aC)(d:ByteArray):(qc c p d).1=p:=by
 have key: ∀v:VA,zi v p d=true->v.1=p:=λv hv=>YF hv
 unfold qc;split
 ·rename_i hc;exact key _ hc
 ·split
  ·rename_i hc;exact key _ hc
  ·split
   ·rename_i hc;exact key _ hc
   ·rfl
theorem a5b(hf:f.Ok2)(hr:a5a f rec)(ho:OW f rec):a5a f (uW f rec):=λp d x hp hd h hl=>by
 have h1:jG { x with v:=qc (x.c (p.2-1).toNat) p d } :=⟨a2P (h.c _) hp hd,h.e,h.r,h.c⟩;have a1:zN f x ({ x with v:=qc (x.c (p.2-1).toNat) p d },OI f { x with v:=qc (x.c (p.2-1).toNat) p d }):=.quiet rfl (by show¬dJ x.v.1 (qc _ p d).1;rw[abx];exact abr hl) (Tz _ 3);have s2:iU f (fZ ({ x with v:=qc (x.c (p.2-1).toNat) p d },OI f { x with v:=qc (x.c (p.2-1).toNat) p d }) λy=>zh f y 3):=iU.bind (a:=(_,_)) ⟨h1,OV hf h1 3⟩ λy hy=>WQ hf hy 3
 exact(zN.bind a1 (YV _ 3)).bind (X5 hf hr ho s2.1 3)
theorem Fh(hf:f.Ok2): ∀n,a5a f (dQ f n)
 |0=>λp d x _ _ _ _=>.same iH
 |n+1=>a5b hf (Fh hf n) (Ef hf n)
theorem YX(v:VA)(x:Rc):zN f x (lG f v x):=by
 unfold lG;split
 ·rename_i hc;exact .quiet rfl (by show¬dJ x.v.1 v.1;rw[YF hc.1];exact bK _) (Tz _ 3)
 ·exact .same iH
theorem a0J(hf:f.Ok2)(i:Nat){p:PR}(hp:D7 p)(hm:j5 p.1.1){x:Rc}(h:jG x):zN f x (gq f (dQ f 5) i p x):=by
 unfold gq;split
 ·exact(YX p.1 x).bind (.same (OZ (show(7:Int)≠5 by decide)))
 ·split
  ·rename_i hn;exact YW hf (Fh hf 5) hp hm h hn
  ·split
   ·exact .quiet rfl (bK _) iH
   ·exact .same iH
theorem a7E(hf:f.Ok2){from_:Int}(h1:1<=from_)(hI:from_≠f.I){p:aC}(hp:j5 p){d:ByteArray}(hd:d.size=32){x:Rc}(h:jG x):zN f x (AX f (dQ f 5) from_ p d x):=by
 unfold AX;split
 ·have hIi:=hf.I;refine Ech.trans (a:=[]) (y:= { x with e:=kH x.e from_ p d }) ⟨bK _,λb c=>.inl ?_,λm hm=>absurd hm (by simp),λm hm=>absurd hm (by simp),λm hm=>absurd hm (by simp)⟩ (QH hf (Fh hf 5) hp hd (x:= { x with e:=kH x.e from_ p d }) ⟨h.v,sD h.e hp hd,h.r,h.c⟩);show kH x.e from_ p d _ b c=x.e _ b c;unfold kH;rw[axY λhh=>by have:=hh.1;omega]
 ·exact .same iH
theorem a5c(hf:f.Ok2)(from_:Int){p:aC}(hp:j5 p){d:ByteArray}(hd:d.size=32){x:Rc}(h:jG x):zN f x (qB f (dQ f 5) from_ p d x):=by
 unfold qB;split
 ·exact Ech.trans (a:=[]) (y:= { x with r:=kH x.r from_ p d }) (.quiet rfl (bK _) iH) (QH hf (Fh hf 5) hp hd (x:= { x with r:=kH x.r from_ p d }) ⟨h.v,h.e,sD h.r hp hd,h.c⟩)
 ·exact .same iH
theorem a5d(i:Nat)(op:Int)(x:Rc):zN f x (xJ f i op x):=by
 unfold xJ;split
 ·exact .quiet rfl (bK _) (a2V _ _)
 ·exact .same iH
theorem a7F(i:Nat)(op:Int)(x:Rc):zN f x (Fb i op x):=by unfold Fb;split<;>exact .quiet rfl (bK _) iH
end
theorem a7G {h:Hd}(hh:h.Ok){from_ k op:Int}{key:ByteArray}{st:aC}{dg:ByteArray}{nm:Nat}{m:Nat->SlV (Nat->Int)}{ny:Nat}{y:Nat->(Nat->Int)}{M:List Z0F}{L:List Nat}(hm:a2U k op st dg nm m ny y M L)(hmay:SX h from_ k op key st dg M L){x:Rc}(hx:jG x):
  zN (h.fr key) x (jo h from_ k op key st dg (st,(yu (gT M),((nm,m),(ny,y)))) x):=by
 have hF:(h.fr key).Ok2:= { hh.f key with key:=hmay.1.1 };have hs:=hmay.2.1;have hk:k=1\/k=2\/k=5\/k=6\/k=8\/k=4:=by unfold gI at hs;omega
 have h3:=hmay.1.2.2;have h2:=hmay.1.2.1;have hvote:k=5\/k=6->j5 st/\dg.size=32:=λc=>by obtain⟨a1,a2,a3,a4⟩:=abg (a5W h3 c);exact⟨h2.1 a1,h2.2.1 a2⟩
 unfold jo;rcases hk with rfl|rfl|rfl|rfl|rfl|rfl
 ·rw[ay5 rfl];exact a5d _ _ _
 ·rw[axY (by decide),ay5 rfl];exact a7F _ _ _
 ·rw[axY (by decide),axY (by decide),ay5 rfl];exact a7E hF (by unfold gI at hs;omega) (by show from_≠(h.I:Int);unfold gI at hs;omega) (hvote (.inl rfl)).1 (hvote (.inl rfl)).2 hx
 ·rw[axY (by decide),axY (by decide),axY (by decide),ay5 rfl];exact a5c hF _ (hvote (.inr rfl)).1 (hvote (.inr rfl)).2 hx
 ·rw[axY (by decide),axY (by decide),axY (by decide),axY (by decide),ay5 rfl];exact YX _ _
 ·rw[axY (by decide),axY (by decide),axY (by decide),axY (by decide),axY (by decide)];obtain⟨w1,w2,w3,w4,w5,_⟩:=a0D hmay.1 (.inl rfl);exact a0J hF _ ⟨⟨M,L,hm.mat,hm.row,⟨hm.few.1,hm.few.2,hm.len⟩,.inr ⟨w1,Qn _,.inr ⟨X4 w3,w2⟩⟩⟩,⟨by show 0<=op;omega,w5⟩,λ_=>w1⟩ w1 hx
theorem YZ(k q:ByteArray)(x:Rc)(i:Nat): ∀l:List (ByteArray×Rc),bU (l.modify i λe=>(e.1,x)) q=bU l q:=λl=>by
 induction l generalizing i with
 |nil=>simp[bU]
 |cons a l ih=>
  cases i with
  |zero=>simp only[List.modify_zero_cons,bU]
  |succ i=>simp only[List.modify_succ_cons,bU,ih]
theorem Z0 {q k:ByteArray}{x:Rc}(hq:q≠k): ∀l:List (ByteArray×Rc),(l++[(k,x)])[bU (l++[(k,x)]) q]?=l[bU l q]?\/(l[bU l q]?=none/\(l++[(k,x)])[bU (l++[(k,x)]) q]?=none)
 | []=>by refine .inr ⟨rfl,?_⟩;simp[bU,Ne.symm hq]
 |a::l=>by
  simp only[azN,bU];split
  ·exact .inl rfl
  ·simp only[az0];exact Z0 hq l
theorem a2W {l:List (ByteArray×Rc)}{k q:ByteArray}(x:Rc)(hq:q≠k):gu (D6 l k x) q=gu l q:=by
 unfold D6;cases hl:l[bU l k]? with
 |none=>
  simp only;unfold gu;rcases Z0 (x:=x) hq l with e|⟨e1,e2⟩
  ·rw[e]
  ·rw[e1,e2]
 |some e=>
  simp only;unfold gu;rw[YZ k q,azw];by_cases c:bU l k=bU l q
  ·exfalso;have h1:=pW hl;rw[c]at hl;have h2:=pW hl;exact hq (h2.symm.trans h1)
  ·cases l[bU l q]? with
   |none=>rfl
   |some a=>simp only[Option.map_eq_map,ayU,axY c]
theorem X6(l:List (ByteArray×Rc))(k:ByteArray)(x:Rc):gu (D6 l k x) k=x:=by
 unfold D6;cases hl:l[bU l k]? with
 |none=>
  simp only;unfold gu;have hn:=WM hl;have key: ∀l:List (ByteArray×Rc),bU l k=l.length->(l++[(k,x)])[bU (l++[(k,x)]) k]?=some (k,x):=λl=>by
   induction l with
   |nil=>intro _;simp[bU]
   |cons a l ih=>
    intro h;simp only[bU,ayN]at h;split at h
    ·omega
    ·rename_i hc;simp only[azN,bU,axY hc,az0];exact ih (by omega)
  rw[key l hn]
 |some e=>
  simp only;unfold gu;rw[YZ k k,azw,hl];simp only[Option.map_eq_map,ayU,ay5]
open Go Go.Den Go.Num
theorem aef {n:Int}{s:Nat}(h:s<=64):bG .i64 n (s:Int)=n/2^s:=by unfold bG;rw[ay8,show min s (IntKind.bits .i64)=s from azA h];exact Int.fdiv_eq_ediv_of_nonneg _ (Int.le_of_lt (Int.pow_pos (by decide)))
theorem aby {a b:Int}(h:1<=a/\a<=7/\1<=b/\b<=4):xY a b=some (FX 0 a b 0 (λ_=>ByteArray.empty) []):=by rw[IL,EW,bq (by omega),bH,bq (by omega),bH,bq (by omega),bH,bq (by omega),bH]
abbrev yT(h:Hd):=(((h.P:Int),((h.Q:Int),(h.G:Int))),((h.T:Int),((h.I:Int),((h.N:Int),((3:Int),(((h.N:Int),((3:Int),((.nil:SlV ByteArray),(.nil:SlV Int)))),((.nil:SlV (ByteArray×(GI×((SlV VO)×((SlV VO)×(Nat->((Nat->GI)×(GI×(Int×Int))))))))),(.nil:SlV OU))))))))
def zS:Sv:=⟨[],0,λ_=>ByteArray.empty,[],zNO⟩
structure Hd.Ok3(h:Hd):Prop extends h.Ok where
 p1:1<h.P
 p62:h.P<4611686018427387904
 q31:h.Q<2147483648
 q20:1000000<h.Q
theorem Hd.Ok3.q512 {h:Hd}(hh:h.Ok3):512<=h.Q:=hh.grp.big
theorem ak3(which:Int): ∃k l ga g P Q G,NW which=some ((k,l),ga)/\a4E k l ga g P Q G/\P<4611686018427387904/\Q<2147483648/\1000000<Q:=by
 rw[Rp];unfold PL;have hm:ak .and .i64 which 1=which%(2^1:Nat):=Ot (k:=1) (by decide);by_cases h:which%2=1
 ·have h1:ak .and .i64 which 1=1:=by rw[hm];exact h
  simp(disch:=omega) only[WW,h1,XK];obtain⟨g,hg⟩:=a4G;exact⟨3,F6,Mh,g,_,_,_,rfl,hg,by decide,by decide,by decide⟩
 ·have h1:ak .and .i64 which 1=0:=by rw[hm];omega
  simp(disch:=omega) only[WW,h1,XJ];obtain⟨g,hg⟩:=a4F;exact⟨3,F5,Mg,g,_,_,_,rfl,hg,by decide,by decide,by decide⟩
theorem X7(which:Int): ∃h:Hd,h.Ok3/\(which=0->h.T=1/\h.I=1)/\
  uZ which=some (((),(yT h,(((h.P:Int),((h.Q:Int),(h.G:Int))),(true,())))),(h.sp 0 (λ_=>ByteArray.empty) [],(h.sn [] zNO,()))):=by
 obtain⟨k,l,ga,g,P,Q,G,p1,hg,hP,hQ,hQ2⟩:=ak3 which;have hgg:=hg.group;have hG:=hgg.gP;have hG1:=hgg.g1;obtain⟨fr,f1,_⟩:=wN hgg;have hO:=a2n (P:=P) (Q:=Q) (G:=G) hg.k2 (by have:=hg.k8;omega) hg.p hg.q hg.gen (by omega) (by omega) (by omega);have s1:ak .and .i64 (bG .i64 which 1) 1=which/2%2:=by rw[show(1:Int)=((1:Nat):Int)from rfl,aef (n:=which) (s:=1) (by decide)];exact Ot (x:=which/2^1) (k:=1) (by decide)
 have s2:ak .and .i64 (bG .i64 which 2) 255=which/4%256:=by rw[show(2:Int)=((2:Nat):Int)from rfl,aef (n:=which) (s:=2) (by decide)];exact Ot (x:=which/2^2) (k:=8) (by decide)
 have hT1:0<=which/2%2/\which/2%2<2:=by omega
 have hI1:0<=which/4%256/\which/4%256<256:=by omega
 have hz:which=0->which/2%2=0/\which/4%256=0:=by omega
 rw[Gf];unfold D8;simp only[p1,hg.made,s1,s2,hO];generalize which/2%2=u at*;generalize which/4%256=v at*;obtain⟨T,hT⟩: ∃T:Nat,(T:Int)=1+u:=⟨(1+u).toNat,by omega⟩;have w1:IntKind.i64.wrap (1+u)=(T:Int):=by rw[wrap_i64 (by omega)];omega
 have w2:IntKind.i64.wrap (IntKind.i64.wrap (3*(T:Int))+1)=((3*T+1:Nat):Int):=by rw[wrap_i64 (x:=3*(T:Int)) (by omega),wrap_i64 (by omega)];omega
 have hv:0<=v%((3*T+1:Nat):Int)/\v%((3*T+1:Nat):Int)<((3*T+1:Nat):Int):=⟨Int.emod_nonneg _ (by omega),Int.emod_lt_of_pos _ (by omega)⟩;obtain⟨I,hI⟩: ∃I:Nat,(I:Int)=1+v%((3*T+1:Nat):Int):=⟨(1+v%((3*T+1:Nat):Int)).toNat,by omega⟩;have w3:IntKind.i64.wrap (1+Int.tmod v ((3*T+1:Nat):Int))=(I:Int):=by rw[ac9 hI1.1,wrap_i64 (by omega)];omega
 refine⟨⟨g,P,Q,G,T,I,3*T+1⟩,⟨⟨hgg,by show 1<=T/\T<=2;omega,rfl,by show 1<=I/\I<=3*T+1;omega⟩,by show 1<P;omega,hP,hQ,hQ2⟩,λh0=>?_,?_⟩
 ·obtain⟨h1,h2⟩:=hz h0;subst h1;subst h2;have e:T=1:=by omega
  subst e;exact⟨rfl,by show I=1;simp at hI;omega⟩
 ·have hne: ¬((3*T+1:Nat):Int)=0:=by omega
  have hs:uO (some g) (T:Int) (I:Int) 3=some (wJ 0 ((3*T+1:Nat):Int) 3 0 (λ_=>ByteArray.empty) [] g (T:Int) (I:Int) ((3*T+1:Nat):Int) 3 [] 0 (λi=>(zNO:iN).2 i)):=by rw[G7];unfold xE;simp only[f1,w2,bq (show¬(T:Int)<1 by omega),bq (show¬(T:Int)>2 by omega),bq (show¬(I:Int)<1 by omega),bq (show¬(I:Int)>((3*T+1:Nat):Int)by omega),bH,aby (a:=((3*T+1:Nat):Int)) (b:=3) (by omega),az7,FX,wJ]
  have hr:ER ((P:Int),((Q:Int),(G:Int))) (T:Int) (I:Int) 3=some (some (yT ⟨g,P,Q,G,T,I,3*T+1⟩)):=by rw[Vw];unfold Vv;simp only[w2]
  simp only[w1,w2,w3,bq hne,bH,hs,hr,wJ,ayZ,bA]
theorem Z4 {P G:Nat}(e x:Nat->Nat): ∀n,jl (λj=>(G^e j%P)^x j) n%P=G^Wj e x n%P
 |0=>by simp[jl,Wj]
 |n+1=>by simp only[jl,Wj];rw[azI,Z4 e x n,<-Nat.pow_mod,<-azI,<-azX,<-azk]
section
variable {g:sj} {P Q G:Nat}
theorem P5 {f g:Nat->Nat} : ∀ {n:Nat},(∀i,i<n->f i=g i)->jl f n=jl g n
 |0,_=>rfl
 |n+1,h=>by simp only[jl];rw[P5 λi hi=>h i (by omega),h n (by omega)]
theorem a2X(h:dI g P Q G){t:Nat}(ht:t<=6)(e:Nat->Nat):Qj P Q (t+1) (λj=>((List.range (t+1)).map λj=>G^e j%P).getD j 0):=
 ⟨by omega,by omega,λj hj=>by show InP P Q (((List.range (t+1)).map λj=>G^e j%P).getD j 0);rw[OP hj];exact h.pow_in _⟩
theorem acL {t:Nat}(e:Nat->Nat)(i:Nat):atN P (t+1) (λj=>((List.range (t+1)).map λj=>G^e j%P).getD j 0) i=G^Wj e (λj=>i^j) (t+1)%P:=by unfold atN;rw[<-Z4 e (λj=>i^j) (t+1)];rw[P5 (f:=λj=>((List.range (t+1)).map λj=>G^e j%P).getD j 0^i^j) (g:=λj=>(G^e j%P)^i^j) λj hj=>by rw[OP hj]]
theorem a5e(h:dI g P Q G){t:Nat}(ht:t<=6)(e:Nat->Nat){i:Nat}(hi:1<=i/\i<=7)(x:Nat):
  uX P Q G (t+1) (λj=>((List.range (t+1)).map λj=>G^e j%P).getD j 0) (i:Int) (evN e (t+1) x Q)↔evN e (t+1) x Q=evN e (t+1) i Q:=by
 unfold uX;rw[ay8,acL,a7c h.pp h.pq h.g1 h.gP h.order];have h0:evN e (t+1) x Q<Q:=ayk _ h.qpos;rw[ay1 h0];exact⟨λhh=>hh.2.2.2,λhh=>⟨⟨by omega,by omega⟩,h0,a2X h ht e,hh⟩⟩
theorem wT(a b:Nat->Nat)(t nn:Nat):(vE P G a b t nn).length=nn:=by simp[vE]
theorem a7H(h:dI g P Q G){t nn:Nat}(ht:1<=t/\t<=2)(hn:1<=nn/\nn<=2)(a b:Nat->Nat):Qy P Q (t:Int) (vE P G a b t nn):=by refine⟨by omega,by rw[wT];omega,λi hi=>?_⟩;rw[wT]at hi;rw[wR hi];simp only[aAn,aAo];exact⟨by omega,a2X h (by omega) _⟩
def P6(Q:Nat)(a b:Nat->Nat)(t nn x:Nat):List Nat:=(List.range nn).map λk=>evN (coN a b t k) (t+1) x Q
theorem a2Y(h:dI g P Q G){t nn:Nat}(ht:1<=t/\t<=2)(hn:1<=nn/\nn<=2)(a b:Nat->Nat){i:Nat}(hi:1<=i/\i<=7)(x:Nat):
  uY P Q G (vE P G a b t nn) (i:Int) (P6 Q a b t nn x)↔ ∀k,k<nn->evN (coN a b t k) (t+1) x Q=evN (coN a b t k) (t+1) i Q:=by
 unfold uY;rw[wT];have key: ∀k,k<nn->(uX P Q G ((vE P G a b t nn).getD k []).length (λj=>((vE P G a b t nn).getD k []).getD j 0) (i:Int) ((P6 Q a b t nn x).getD k 0)↔evN (coN a b t k) (t+1) x Q=evN (coN a b t k) (t+1) i Q):=λk hk=>by have hs:(P6 Q a b t nn x).getD k 0=evN (coN a b t k) (t+1) x Q:=OP hk;rw[wR hk,hs];simp only[aAn,aAo];exact a5e h (by omega) _ hi x
 constructor
 ·intro hh k hk;exact(key k hk).1 (hh.2.2 k hk)
 ·intro hh;exact⟨by omega,by simp[P6],λk hk=>(key k hk).2 (hh k hk)⟩
end
theorem acM {P G:Nat}{a b:Nat->Nat}{t nn n:Nat}(ht:t<=6){m:Nat->SlV (Nat->Int)}(hm:lD n m (vE P G a b t nn)): ∀i,i<n->(m i).len<1000:=λi hi=>by have h1:=hm.len i hi;have h2:=hm.sz;rw[wT]at h2;rw[wR (by omega)]at h1;simp only[aAn,aAo]at h1;omega
theorem a5f {P G:Nat}(a b:Nat->Nat){t nn:Nat}(ht:t<=6)(hn:1<=nn/\nn<=25):zk (vE P G a b t nn)=true:=by refine ayf ⟨by rw[wT];exact hn,λi hi=>?_⟩;rw[wT]at hi;unfold xH;rw[wR hi,wR (by omega)];exact⟨by simp,by simp,by simp;omega⟩
theorem a7I {P G:Nat}(a b:Nat->Nat){t nn:Nat}(ht:t<=6)(hn:1<=nn/\nn<=25):gT (vE P G a b t nn)≠ []:=by unfold gT;rw[ay5 (a5f a b ht hn)];exact List.cons_ne_nil _ _
theorem a0K {h:Hd}(hh:h.Ok3){a:QE}{op:Int}{st:aC}{dg:ByteArray}{nm:Nat}{m:Nat->SlV (Nat->Int)}{ny:Nat}{y:Nat->(Nat->Int)}{M:List Z0F}{L:List Nat}(hm:lD nm m M)(hy:Ci ny y L)(hs:aee h.P h.Q h.G h.T h.I a op st dg M L):a2U a.2.1 op st dg nm m ny y M L:=by
 have hf:=hs.few;have hT:=hh.T;have h0:=hh.p1;have key:M=[]\/M=Da h.P h.G h.T a:=by
  by_cases c1:a.2.1=1\/a.2.1=2
  ·exact .inl (hs.listen c1).2.2.2.1
  by_cases c2:a.2.1=4\/a.2.1=8
  ·exact .inr (hs.shares c2).2.2.2.1
  by_cases c3:a.2.1=5\/a.2.1=6
  ·exact .inl (hs.vote c3).2.2.2.1
  exact .inl (hs.other ⟨by omega,by omega,by omega,by omega,by omega,by omega⟩).2.2.2.1
 refine⟨hm,hy,⟨by omega,by omega⟩,?_,?_⟩
 ·rcases key with rfl|rfl
  ·intro i hi;have:=hm.sz;simp only[List.length_nil]at this;omega
  ·exact acM (by omega) hm
 ·rcases key with rfl|rfl
  ·have:gT []=[]:=by unfold gT;rw[axY];intro hc;have:=of_decide_eq_true hc;exact absurd this.1.1 (by decide)
   rw[this];exact az8 _
  ·exact Mx h.P h.G h.T (by omega) hh.p62 (by omega) a
open Go Go.Den Go.Num
section
variable (key d:ByteArray) (w:(Nat×(Nat->SlV (Nat->Int)))×(Nat×(Nat->(Nat->Int)))) (rec:E5)
abbrev fA1:Fr:=⟨1,1,4,key⟩
abbrev vA1:VA:=((1,1),(d,w))
theorem JY {F:Gs}{b:Nat->Bool}(h: ∀k,hit (F k 0 1) (1,1) d=b k):yR 4 F (1,1) d=vcn b 4:=by unfold yR;rw[ay5 (by decide)];exact Qo λk _=>h k
theorem TA(F:Gs)(s:Nat)(k:Nat):kH F ((s+1:Nat):Int) (1,1) d k 0 1=if k=s then((1,1),d)else F k 0 1:=by
 unfold kH;have e:(((s+1:Nat):Int)-1).toNat=s:=by omega
 rw[e];by_cases h:k=s
 ·rw[ay5 h,ay5 ⟨h,rfl,rfl⟩]
 ·rw[axY h,axY λhh=>h hh.1]
theorem P7 {F:Gs}{b:Nat->Bool}(h: ∀k,hit (F k 0 1) (1,1) d=b k)(s:Nat)(k:Nat):hit (kH F ((s+1:Nat):Int) (1,1) d k 0 1) (1,1) d=(k==s||b k):=by
 rw[TA];by_cases e:k=s
 ·rw[ay5 e,a2u,e,ayZ,Bool.true_or]
 ·rw[axY e,h,beq_eq_false_iff_ne.2 e,aAs]
theorem a5g(k:Nat):hit (nV k 0 1) (1,1) d=false:=rfl
def xA1:Rc:= { newR with c:=takeC newR (vA1 d w,1),e:=kH nV 1 (1,1) d }
theorem aeg(k:Nat):hit ((xA1 d w).e k 0 1) (1,1) d=(k==0||false):=P7 d (a5g d) 0 k
theorem ate:gq (fA1 key) rec 0 (vA1 d w,1) newR=(xA1 d w,F8 (fA1 key) 5 (1,1) d):=by
 unfold gq;have l1: ¬ ¬dJ (1,1) (0,0):=by decide
 have l2:Gd (1,1) (0,0):=by decide
 rw[axY (show¬ ¬dJ ((vA1 d w,1):PR).1.1 newR.v.1 from l1),ay5 (show Gd ((vA1 d w,1):PR).1.1 newR.v.1 from l2)];unfold nD;have l3:okV 4 nV 1 (1,1):=by decide
 rw[ay5 (show okV (fA1 key).N newR.e (fA1 key).I ((vA1 d w,1):PR).1.1 from l3)];have ex:({ newR with c:=takeC newR (vA1 d w,1),e:=kH newR.e (fA1 key).I (1,1) d } :Rc)=xA1 d w:=rfl;show fZ ({ newR with c:=takeC newR (vA1 d w,1),e:=kH newR.e (fA1 key).I (1,1) d },F8 (fA1 key) 5 (1,1) d) (jF (fA1 key) rec (1,1) d)=_;rw[ex];have ce:yR 4 (xA1 d w).e (1,1) d=1:=(JY d (aeg d w)).trans (by decide);have cr:yR 4 (xA1 d w).r (1,1) d=0:=(JY d (a5g d)).trans (by decide);have h1:nC (fA1 key) (1,1) d (xA1 d w)=(xA1 d w,[]):=by unfold nC uU;rw[axY];show¬((2*1<yR 4 (xA1 d w).e (1,1) d\/1<yR 4 (xA1 d w).r (1,1) d)/\_);omega
 have h2:endP (fA1 key) rec (1,1) d (xA1 d w)=(xA1 d w,[]):=by unfold endP;rw[axY];show¬(2*1<yR 4 (xA1 d w).r (1,1) d/\_);omega
 simp only[fZ,jF,h1,h2,azi]
def xA2:Rc:= { xA1 d w with r:=kH nV 2 (1,1) d }
theorem aeh(k:Nat):hit ((xA2 d w).r k 0 1) (1,1) d=(k==1||false):=P7 d (a5g d) 1 k
theorem atf:qB (fA1 key) rec 2 (1,1) d (xA1 d w)=(xA2 d w,[]):=by
 unfold qB;have l3:okV 4 nV 2 (1,1):=by decide
 rw[ay5 (show okV (fA1 key).N (xA1 d w).r 2 (1,1)from l3)];show jF (fA1 key) rec (1,1) d (xA2 d w)=_;have ce:yR 4 (xA2 d w).e (1,1) d=1:=(JY d (aeg d w)).trans (by decide);have cr:yR 4 (xA2 d w).r (1,1) d=1:=(JY d (aeh d w)).trans (by decide);have h1:nC (fA1 key) (1,1) d (xA2 d w)=(xA2 d w,[]):=by unfold nC uU;rw[axY];show¬((2*1<yR 4 (xA2 d w).e (1,1) d\/1<yR 4 (xA2 d w).r (1,1) d)/\_);omega
 have h2:endP (fA1 key) rec (1,1) d (xA2 d w)=(xA2 d w,[]):=by unfold endP;rw[axY];show¬(2*1<yR 4 (xA2 d w).r (1,1) d/\_);omega
 simp only[fZ,jF,h1,h2,azi]
def xA3:Rc:= { xA1 d w with r:=kH (kH nV 2 (1,1) d) 3 (1,1) d }
theorem aei(k:Nat):hit ((xA3 d w).r k 0 1) (1,1) d=(k==2||(k==1||false)):=P7 d (aeh d w) 2 k
def xA4:Rc:= { xA1 d w with r:=kH (kH (kH nV 2 (1,1) d) 3 (1,1) d) 1 (1,1) d }
theorem atg(k:Nat):hit ((xA4 d w).r k 0 1) (1,1) d=(k==0||(k==2||(k==1||false))):=P7 d (aei d w) 0 k
def xA5:Rc:= { xA4 d w with v:=vA1 d w }
def xA6:Rc:= { xA5 d w with c:=upd (xA5 d w).c 0 ((upd ((xA5 d w).c 0).1 1 (vA1 d w,0)),((xA5 d w).c 0).2) }
theorem ath {rec:E5}(hrec:rec=dQ (fA1 key) 5):qB (fA1 key) rec 3 (1,1) d (xA2 d w)=(xA6 d w,F8 (fA1 key) 6 (1,1) d++[Ja (fA1 key) 0 (vA1 d w,1)]):=by
 unfold qB;have ok3:okV 4 (xA2 d w).r 3 (1,1):=by refine⟨by decide,by decide,by decide,?_⟩;show(kH nV ((1+1:Nat):Int) (1,1) d 2 0 1).1.1<1;rw[TA,axY (by decide)];decide
 rw[ay5 ok3];show jF (fA1 key) rec (1,1) d (xA3 d w)=_;have cr:yR 4 (xA3 d w).r (1,1) d=2:=(JY d (aei d w)).trans (by decide);have ok1:okV 4 (xA3 d w).r 1 (1,1):=by refine⟨by decide,by decide,by decide,?_⟩;show(kH (kH nV ((1+1:Nat):Int) (1,1) d) ((2+1:Nat):Int) (1,1) d 0 0 1).1.1<1;rw[TA,axY (by decide),TA,axY (by decide)];decide
 have h1:nC (fA1 key) (1,1) d (xA3 d w)=(xA4 d w,F8 (fA1 key) 6 (1,1) d):=by
  unfold nC;rw[ay5]
  ·rfl
  ·refine⟨.inr ?_,ok1⟩;show 1<yR 4 (xA3 d w).r (1,1) d;omega
 have cr4:yR 4 (xA4 d w).r (1,1) d=3:=(JY d (atg d w)).trans (by decide);have h2:endP (fA1 key) rec (1,1) d (xA4 d w)=rec (1,1) d (xA4 d w):=by unfold endP;rw[ay5];refine⟨?_,show dJ (1,1) (0,0)by decide⟩;show 2*1<yR 4 (xA4 d w).r (1,1) d;omega
 have h3:rec (1,1) d (xA4 d w)=(xA6 d w,[Ja (fA1 key) 0 (vA1 d w,1)]):=by
  rw[hrec];show uW (fA1 key) (dQ (fA1 key) 4) (1,1) d (xA4 d w)=_;have hv:qc ((xA4 d w).c ((1:Int)-1).toNat) (1,1) d=vA1 d w:=by unfold qc;have e0:zi (((xA4 d w).c ((1:Int)-1).toNat).1 0).1 (1,1) d=false:=rfl;have e1:zi (((xA4 d w).c ((1:Int)-1).toNat).1 1).1 (1,1) d=true:=a2u (1,1) d;rw[e0,e1];rfl
  unfold uW;have e5:({ xA4 d w with v:=qc ((xA4 d w).c (((1,1):aC).2-1).toNat) (1,1) d } :Rc)=xA5 d w:=by show({ xA4 d w with v:=qc ((xA4 d w).c ((1:Int)-1).toNat) (1,1) d } :Rc)=xA5 d w;rw[hv];rfl
  rw[e5];have a0:OI (fA1 key) (xA5 d w)=[]:=rfl;have k0:zh (fA1 key) (xA5 d w) 3=(xA6 d w,[Ja (fA1 key) 0 (vA1 d w,1)]):=by
   simp only[zh];have q0:Qs (fA1 key) 0 (xA5 d w)=(xA6 d w,[Ja (fA1 key) 0 (vA1 d w,1)]):=by
    unfold Qs;have b0:E8 (fA1 key) 0 (xA5 d w)=(xA5 d w,[]):=by unfold E8;rw[axY];exact λh=>absurd h.1 (show¬((0:Int)<0)by decide)
    have b1:E9 (fA1 key) 0 (xA5 d w)=(xA6 d w,[Ja (fA1 key) 0 (vA1 d w,1)]):=by
     unfold E9;rw[ay5]
     ·rfl
     ·exact⟨show(0:Int)<1 by decide,show¬dJ (1,1) (1,1)by decide⟩
    have b2:Fa (fA1 key) 0 (xA6 d w)=(xA6 d w,[]):=by unfold Fa;rw[axY];exact λh=>absurd h.1 (show¬((0:Int)<0)by decide)
    simp only[fZ,b0,b1,b2,azi,azQ]
   have qn: ∀i,i=1\/i=2->Qs (fA1 key) i (xA6 d w)=(xA6 d w,[]):=λi hi=>by
    unfold Qs;have b0:E8 (fA1 key) i (xA6 d w)=(xA6 d w,[]):=by unfold E8;rw[axY];rcases hi with rfl|rfl<;>exact λh=>absurd h.1 (show¬((0:Int)<0)by decide)
    have b1:E9 (fA1 key) i (xA6 d w)=(xA6 d w,[]):=by unfold E9;rw[axY];rcases hi with rfl|rfl<;>exact λh=>absurd h.1 (show¬((0:Int)<0)by decide)
    have b2:Fa (fA1 key) i (xA6 d w)=(xA6 d w,[]):=by unfold Fa;rw[axY];rcases hi with rfl|rfl<;>exact λh=>absurd h.1 (show¬((0:Int)<0)by decide)
    simp only[fZ,b0,b1,b2,azi,azQ]
   simp only[fZ,q0,qn 1 (.inl rfl),qn 2 (.inr rfl),azi,azQ]
  have w0: ∀rec':E5,uV (fA1 key) rec' (xA6 d w) 3=(xA6 d w,[]):=λrec'=>by
   have wn: ∀i,i=0\/i=1\/i=2->sw (fA1 key) rec' i (xA6 d w)=(xA6 d w,[]):=λi hi=>by unfold sw;rw[axY];rcases hi with rfl|rfl|rfl<;>exact λh=>absurd h.1 (show¬((0:Int)<0)by decide)
   simp only[uV,fZ,wn 0 (.inl rfl),wn 1 (.inr (.inl rfl)),wn 2 (.inr (.inr rfl)),azi]
  simp only[fZ,a0,k0,w0,azi,azQ]
 simp only[fZ,jF,h1,h2,h3]
end
open Go Go.Den Go.Num
abbrev kK:ByteArray:=ByteArray.mk #[107]
def fK0:Nat->ByteArray:=λ_=>ByteArray.empty
def fK:Nat->ByteArray:=Bl fK0 0 kK
def uK:List (Int×Int):=X8 (.int .i64) (.int .i64) [] 5 1
theorem abz:vD kK 5 4 3 0 fK0 []=((0,(true,(0,()))),((4,(3,((1,fK),uK))),())):=by rw[vD,axY (by decide+kernel),axY (by decide+kernel),axY (by decide+kernel)];rfl
theorem abA(e:Int)(he:e=2\/e=3):vD kK e 4 3 1 fK uK=((0,(false,(0,()))),((4,(3,((1,fK),uK))),())):=by
 rcases he with rfl|rfl<;>
 ·rw[vD,axY (by decide+kernel),ay5 (by decide+kernel)];have e:before 1 fK kK=0:=by decide+kernel
  rw[e];rfl
theorem acN(k:ByteArray)(x y:Rc):D6 [(k,x)] k y=[(k,y)]:=by simp[D6,bU]
theorem acO(k:ByteArray)(x:Rc):gu [(k,x)] k=x:=by simp[gu,bU]
theorem hd4 {h:Hd}(hh:h.Ok3)(h1:h.T=1/\h.I=1):h.N=4:=by have:=hh.N;omega
theorem ak4 {h:Hd}(hh:h.Ok3)(h1:h.T=1/\h.I=1){a:QE}(ha:a=(0,(4,(1,(0,((1,1),(0,0))))))):SX h 5 4 1 kK (1,1) ByteArray.empty (Da h.P h.G h.T a) (T9 h.Q h.T h.I a):=by
 have hT:=h1.1;have hN:=hd4 hh h1;have hv:nnN (vN a.2.2.2.2.2.1)=1:=by subst ha;rfl
 have hl:(Da h.P h.G h.T a).length=1:=by unfold Da;rw[wT,hv]
 have hl2:(T9 h.Q h.T h.I a).length=1:=by unfold T9;simp[hv]
 have he:sEq ByteArray.empty (ByteArray.mk #[])=true:=(nN _ _).2 rfl;have hb:gT (Da h.P h.G h.T a)≠ []:=a7I _ _ (by omega) (by omega);refine⟨⟨by decide,⟨λ_=>by decide,λhc=>?_,λ_=>⟨by rw[hl2,hl],hb⟩,λ_=>by decide⟩,?_⟩,.inr (.inl ⟨rfl,⟨by omega,by omega⟩,by show(1:Int)=5-h.N;omega⟩),λ_=>⟨a7H hh.grp (by omega) (by omega) _ _,?_⟩⟩
 ·exfalso;have hc':(!(sEq ByteArray.empty (ByteArray.mk #[])))=true:=hc;rw[he]at hc';exact absurd hc' (by decide)
 ·rw[hl,hl2];refine .inr (.inr (.inl ⟨.inl rfl,?_⟩));show WK (!(eqF (.pair (.int .i64) (.int .i64)) ((1,1):aC) (0,0))) (!(sEq ByteArray.empty (ByteArray.mk #[]))) (decide (0<1+1)) ((1:Int) !=0)=13;rw[he];rfl
 ·have hw:a4Y h.T h.I a=0:=by unfold a4Y;rw[h1.2];subst ha;exact Nat.zero_mod _
  have e:T9 h.Q h.T h.I a=P6 h.Q (aNv (vN a.2.2.2.2.2.1)) (bNv (vN a.2.2.2.2.2.1)) h.T (nnN (vN a.2.2.2.2.2.1)) (a4Y h.T h.I a+1):=rfl;rw[e];refine(a2Y hh.grp (by omega) (by omega) _ _ (i:=h.I) (by omega) _).2 λk hk=>?_
  rw[hw,h1.2]
theorem ak5 {h:Hd}(hh:h.Ok3)(h1:h.T=1/\h.I=1){dg:ByteArray}(hd:dg.size=32){from_:Int}(hf:from_=2\/from_=3):SX h from_ 6 0 kK (1,1) dg [] []:=by
 have hN:=hd4 hh h1;have hs:(!(sEq dg (ByteArray.mk #[])))=true:=by
  rw[Bool.not_eq_true'];cases hc:sEq dg (ByteArray.mk #[])
  ·rfl
  ·have:=(nN _ _).1 hc;subst this;exact absurd hd (by decide)
 refine⟨⟨by decide,⟨λ_=>by decide,λ_=>hd,λhc=>absurd hc (by show¬(false=true);decide),λhc=>absurd hc (by show¬(false=true);decide)⟩,.inr (.inr (.inr (.inl ⟨.inr rfl,?_⟩)))⟩,.inr (.inr ⟨.inr rfl,by omega,by omega,by have:=h1.2;omega⟩),λhc=>by omega⟩;show WK (!(eqF (.pair (.int .i64) (.int .i64)) ((1,1):aC) (0,0))) (!(sEq dg (ByteArray.mk #[]))) false false=3;rw[hs];rfl
def sK(x:Rc)(o:iN):Sv:=⟨[(kK,x)],1,fK,uK,o⟩
theorem acP(f:Nat->ByteArray):rE 0 f:=λi j _ h=>absurd h (ayz _)
theorem a0L(h:Hd):Good h zS 0:=⟨acP _,ay7 _,λi hi=>absurd hi (ayz _),λe he=>absurd he (by simp[zS])⟩
theorem ak6 {h:Hd}(hh:h.Ok3)(h1:h.T=1/\h.I=1){st:aC}{dg:ByteArray}{d:ByteArray}{w:(Nat×(Nat->SlV (Nat->Int)))×(Nat×(Nat->(Nat->Int)))} :
  Lc h 5 4 1 kK (1,1) dg (vA1 d w) zS=F8 (fA1 kK) 5 (1,1) d/\ ∃o,X3 h 5 4 1 kK (1,1) dg (vA1 d w) zS=sK (xA1 d w) o:=by
 have hN:=hd4 hh h1;have hf:h.fr kK=fA1 kK:=by unfold Hd.fr;rw[h1.1,h1.2,hN]
 have hr:jo h 5 4 1 kK (1,1) dg (vA1 d w) (gu zS.l kK)=(xA1 d w,F8 (fA1 kK) 5 (1,1) d):=by unfold jo;rw[axY (by decide),axY (by decide),axY (by decide),axY (by decide),axY (by decide),hf,hN];exact ate kK d w _
 have ho:h.opn kK 5 zS=((0,(true,(0,()))),((4,(3,((1,fK),uK))),())):=by unfold Hd.opn;rw[hN];exact abz
 refine⟨by unfold Lc;rw[hr],frz (apps zNO (Lc h 5 4 1 kK (1,1) dg (vA1 d w) zS)),?_⟩;unfold X3;rw[hr,ho];rfl
theorem GJ {h:Hd}(hh:h.Ok3)(h1:h.T=1/\h.I=1){from_:Int}(hf:from_=2\/from_=3){d:ByteArray}{x y:Rc}{l:List OU}{o:iN}{v:VA}(hr:qB (fA1 kK) (dQ (fA1 kK) 5) from_ (1,1) d x=(y,l)):
  Lc h from_ 6 0 kK (1,1) d v (sK x o)=l/\ ∃o',X3 h from_ 6 0 kK (1,1) d v (sK x o)=sK y o':=by
 have hN:=hd4 hh h1;have hfr:h.fr kK=fA1 kK:=by unfold Hd.fr;rw[h1.1,h1.2,hN]
 have hr:jo h from_ 6 0 kK (1,1) d v (gu (sK x o).l kK)=(y,l):=by unfold jo;rw[axY (by decide),axY (by decide),axY (by decide),ay5 rfl,hfr,show gu (sK x o).l kK=x from acO _ _];exact hr
 have ho:h.opn kK from_ (sK x o)=((0,(false,(0,()))),((4,(3,((1,fK),uK))),())):=by unfold Hd.opn;rw[hN];exact abA from_ hf
 refine⟨by unfold Lc;rw[hr],frz (apps zNO (Lc h from_ 6 0 kK (1,1) d v (sK x o))),?_⟩;unfold X3;rw[hr,ho];show(⟨D6 [(kK,x)] kK y,1,fK,uK,frz (apps zNO (Lc h from_ 6 0 kK (1,1) d v (sK x o)))⟩:Sv)=sK y _;rw[acN];rfl
theorem ati {h:Hd}(hh:h.Ok3)(h1:h.T=1/\h.I=1){from_:Int}(hf:from_=2\/from_=3)(x:Rc)(o:iN):(h.opn kK from_ (sK x o)).1.2.2.1=0:=by have hN:=hd4 hh h1;unfold Hd.opn;rw[hN];show(vD kK from_ ((4:Nat):Int) 3 1 fK uK).1.2.2.1=0;rw[show((4:Nat):Int)=4 from rfl,abA from_ hf]
theorem abB {l:List OU}{out:iN}(e:out=frz (apps zNO l)):out.1=l.length/\ ∀i (hi:i<l.length),out.2 i=l[i]:=by subst e;exact⟨a0I l,λi hi=>a4Z hi⟩
theorem atj {h:Hd}{x:Rc}{o:iN}{d:ByteArray}{w:(Nat×(Nat->SlV (Nat->Int)))×(Nat×(Nat->(Nat->Int)))}(hx:x.v=vA1 d w)(hw:w.2.1=1):bW kK (h.mk' (sK x o))=some (((1,1),(d,(true,()))),h.mk' (sK x o)):=by
 rw[YR];have e:(sK x o).l[bU (sK x o).l kK]?=some (kK,x):=by simp[sK,bU]
 rw[e];show some ((x.v.1,(x.v.2.1,(decide (0<x.v.2.2.2.1),()))),h.mk' (sK x o))=_;rw[hx];show some ((((1,1):aC),(d,(decide (0<w.2.1),()))),h.mk' (sK x o))=_;rw[hw];rfl
theorem atl {h:Hd}{x:Rc}{o:iN} :jP (h.mk' (sK x o))=some (((1,λj=>fK (0+j)),()),h.mk' (sK x o)):=by
 rw[tL];unfold nu;have hK:iD (h.N:Int) 3 1 fK uK=some (((1,(λj=>fK (0+j))),()),((h.N:Int),(3,((1,fK),uK))),()):=by rw[ng];rfl
 simp only[Hd.mk',Hd.sp,sK,hK]
theorem Jg:wS=some true:=by
 obtain⟨h,hh,h1,hw⟩:=X7 0;replace h1:=h1 rfl;have hN:=hd4 hh h1;have hT:=h1.1;have hq:=hh.q512;have eT:((h.T:Nat):Int)=1:=by omega
 have eI:((h.I:Nat):Int)=1:=by omega
 obtain⟨m0,l0,d1,d2⟩:=WZ (P:=h.P) (Q:=h.Q) (G:=h.G) hh.p1 hh.p62 hq hh.q31 (t:=h.T) (by omega) 0;obtain⟨op,st,dg,nm,m,ny,y,M,L,q1,q2,q3,q4⟩:=Fg (P:=h.P) (Q:=h.Q) (G:=h.G) hh.p1 hh.p62 hq hh.q31 (t:=h.T) (I:=h.I) (by omega) (by omega) (0,(4,(1,(0,((1,1),(0,0))))));obtain⟨op',st',dg',nm',m',ny',y',M',L',r1,r2,r3,r4⟩:=Fg (P:=h.P) (Q:=h.Q) (G:=h.G) hh.p1 hh.p62 hq hh.q31 (t:=h.T) (I:=h.I) (by omega) (by omega) (0,(6,(0,(0,((1,1),(0,0))))));have hin:=a0K hh q2 q3 q4;have hin':=a0K hh r2 r3 r4;obtain⟨e1,e2,e3,e4,e5⟩:=q4.shares (.inl rfl);obtain⟨g1,g2,g3,g4,g5⟩:=r4.vote (.inr rfl);have hDg:rO (nnN (vN 0)) m0=some (yu (gT (Da h.P h.G h.T (0,(4,(1,(0,((1,1),(0,0))))))))):=
  Gh d2.mat (by decide) (ayh (Mx h.P h.G h.T (by have:=hh.p1;omega) hh.p62 (by omega) (0,(4,(1,(0,((1,1),(0,0))))))) (by decide))
 have hms:SX h 5 4 1 kK (1,1) ByteArray.empty (Da h.P h.G h.T (0,(4,(1,(0,((1,1),(0,0))))))) (T9 h.Q h.T h.I (0,(4,(1,(0,((1,1),(0,0))))))):=ak4 hh h1 rfl;have hl2:L.length=1:=by rw[e5];unfold T9;simp;rfl
 have hny:ny=1:=by have:=q3.1;omega
 have hms6: ∀from_:Int,from_=2\/from_=3->SX h from_ 6 0 kK (1,1) (yu (gT (Da h.P h.G h.T (0,(4,(1,(0,((1,1),(0,0))))))))) [] []:=λfrom_ hf=>ak5 hh h1 (Qn _) hf
 have hd:yu (gT (Da h.P h.G h.T (0,(6,(0,(0,((1,1),(0,0))))))))=yu (gT (Da h.P h.G h.T (0,(4,(1,(0,((1,1),(0,0)))))))):=rfl;rw[hd]at g3;subst e1 e2 e3 e4 e5 g1 g2 g3 g4 g5;generalize hdd:yu (gT (Da h.P h.G h.T (0,(4,(1,(0,((1,1),(0,0))))))))=d at*;rw[eT,eI]at q1 r1;rw[eT]at d1;have q1':iK ((h.P:Int),((h.Q:Int),(h.G:Int))) 1 1 (0,(4,(1,(0,((1,1),(0,0))))))=some (Gt 4 1 kK (1,1) ByteArray.empty nm m ny y):=q1;have r1':iK ((h.P:Int),((h.Q:Int),(h.G:Int))) 1 1 (0,(6,(0,(0,((1,1),(0,0))))))=some (Gt 6 0 kK (1,1) d nm' m' ny' y'):=r1;have hA:=JX hh.toOk (from_:=5) (by decide) (k:=4) (op:=1) (key:=kK) (st:=(1,1)) (dg:=ByteArray.empty) hin (a0L h) (by decide);have tA:MB h 5 4 1 kK (1,1) ByteArray.empty (Da h.P h.G h.T (0,(4,(1,(0,((1,1),(0,0))))))) (T9 h.Q h.T h.I (0,(4,(1,(0,((1,1),(0,0))))))) zS:=⟨hms,by unfold Hd.opn;rw[hN];show(vD kK 5 4 3 0 fK0 []).1.2.2.1=0;rw[abz]⟩;have gA:=(QG hh.toOk hin (a0L h) tA).1;rw[ay5 tA]at hA;rw[hdd]at hA gA;obtain⟨lA,oA,sA⟩:=ak6 hh h1 (st:=(1,1)) (dg:=ByteArray.empty) (d:=d) (w:=((nm,m),(ny,y)));rw[sA]at hA gA;rw[lA]at hA;obtain⟨A1,A2⟩:=abB (l:=F8 (fA1 kK) 5 (1,1) d) rfl;generalize frz (apps zNO (F8 (fA1 kK) 5 (1,1) d))=outA at hA A1 A2;have hB:=JX hh.toOk (from_:=2) (by decide) (k:=6) (op:=0) (key:=kK) (st:=(1,1)) (dg:=d) hin' gA (by decide);have tB:MB h 2 6 0 kK (1,1) d [] [] (sK (xA1 d ((nm,m),(ny,y))) oA):=⟨hms6 2 (.inl rfl),ati hh h1 (.inl rfl) _ _⟩;have gB:=(QG hh.toOk hin' gA tB).1;rw[ay5 tB]at hB;obtain⟨lB,oB,sB⟩:=GJ hh h1 (from_:=2) (.inl rfl) (d:=d) (o:=oA) (v:=((1,1),(yu (gT []),((nm',m'),(ny',y'))))) (atf kK d ((nm,m),(ny,y)) (dQ (fA1 kK) 5));rw[sB]at hB gB;have hC:=JX hh.toOk (from_:=3) (by decide) (k:=6) (op:=0) (key:=kK) (st:=(1,1)) (dg:=d) hin' gB (by decide);have tC:MB h 3 6 0 kK (1,1) d [] [] (sK (xA2 d ((nm,m),(ny,y))) oB):=⟨hms6 3 (.inr rfl),ati hh h1 (.inr rfl) _ _⟩;rw[ay5 tC]at hC;obtain⟨lC,oC,sC⟩:=GJ hh h1 (from_:=3) (.inr rfl) (d:=d) (o:=oB) (v:=((1,1),(yu (gT []),((nm',m'),(ny',y'))))) (ath kK d ((nm,m),(ny,y)) rfl);rw[sC,lC]at hC;obtain⟨C1,C2⟩:=abB (l:=F8 (fA1 kK) 6 (1,1) d++[Ja (fA1 kK) 0 (vA1 d ((nm,m),(ny,y)),1)]) rfl;generalize frz (apps zNO (F8 (fA1 kK) 6 (1,1) d++[Ja (fA1 kK) 0 (vA1 d ((nm,m),(ny,y)),1)]))=outC at hC C1 C2;have A1':outA.1=3:=A1;have A20:outA.2 0=voP (fA1 kK) 5 (1,1) d 1:=A2 0 (show 0<3 by decide);have C1':outC.1=4:=C1;have C23:outC.2 3=Ja (fA1 kK) 0 (vA1 d ((nm,m),(ny,y)),1):=C2 3 (show 3<4 by decide);have hS:IB 1 (λj=>fK (0+j)) 1 (λj=>(upd (λ_=>ByteArray.empty) 0 kK) (0+j))=some true:=a7p (by decide) λi hi=>by
  obtain rfl:i=0:=by omega
  rfl
 have hA':bC 5 4 1 kK (1,1) ByteArray.empty nm m ny y (h.sn [] zNO,(h.sp 0 (λ_=>ByteArray.empty) [],()))=some ((outA,()),h.mk' (sK (xA1 d ((nm,m),(ny,y))) oA)):=hA;rw[OY];unfold Mw;have b1:(bif (((3:Nat):Int) !=3)then true else false)=false:=rfl;simp only[hw,d1,q1',r1',ayK,bH,hA',hB,hC,A1',A20,C1',C23,atj (x:=xA6 d ((nm,m),(ny,y))) rfl hny,atl,hS,hDg,eI,(nN d d).2 rfl];rfl
theorem HB5:HB 5=6534:=rfl
theorem a7J {h:Hd}(hh:h.Ok)(from_ k op:Int)(key:ByteArray)(st:aC)(dg:ByteArray)(v:VA)(x:Rc):(jo h from_ k op key st dg v x).2.length<=10000:=by
 have hF:=hh.f key;have hr:=Ea hF 5;have h5:=HB5;have one: ∀ {α:Type} (a:α),([a]:List α).length<=10000:=λa=>by simp
 unfold jo
 repeat' split
 ·unfold xJ;split
  ·exact azJ (YI _ _) (by decide)
  ·exact az8 _
 ·unfold Fb;split<;>exact az8 _
 ·unfold AX;split
  ·have:=(Qu hF hr st dg { x with e:=kH x.e from_ st dg }).2;omega
  ·exact az8 _
 ·unfold qB;split
  ·have:=(Qu hF hr st dg { x with r:=kH x.r from_ st dg }).2;omega
  ·exact az8 _
 ·unfold lG;split
  ·exact azJ (yw _ 3) (by decide)
  ·exact az8 _
 ·unfold gq;have hm:(lG (h.fr key) v x).2.length<=3:=by
   unfold lG;split
   ·exact yw _ 3
   ·exact az8 _
  repeat' split
  ·rw[wQ];simp only[ayN,List.length_nil];omega
  ·have:=(YK hF hr (v,op) x).2;omega
  all_goals exact az8 _
theorem Good.mono {h:Hd}{s:Sv}{j:Nat}(g:Good h s j):Good h s (j+1):=⟨g.srt,Nat.le_succ_of_le g.few,g.full,g.rcs⟩
theorem a2Z {h:Hd}(hh:h.Ok){s:Sv}{j:Nat}(g:Good h s j): ∀n,n<=s.n-> ∀x∈yx h s n,∃key,OT { h.fr kK with key:=key } x
 |0,_=>λx hx=>absurd hx (by simp[yx])
 |n+1,hn=>λx hx=>by
  rw[yx,ays]at hx;rcases hx with hx|hx
  ·exact a2Z hh g n (by omega) x hx
  ·have hF:(h.fr (s.ks n)).Ok2:= { hh.f (s.ks n)with key:=(g.full n hn).2 };exact⟨s.ks n,abk hF (g.get (s.ks n)) x hx⟩
theorem Ei(p q:aC): ∃r,yh p q=some r/\(r<0↔dJ q p):=by
 rw[IV];unfold EZ dJ;by_cases h1:p.1<q.1
 ·exact⟨-1,by rw[dH h1];rfl,by simp[h1]⟩
 ·by_cases h2:p.1>q.1
  ·exact⟨1,by rw[bq h1,dH h2];rfl,by simp;omega⟩
  ·by_cases h3:p.2<q.2
   ·exact⟨-1,by rw[bq h1,bq h2,dH h3];rfl,by simp;omega⟩
   ·by_cases h4:p.2>q.2
    ·exact⟨1,by rw[bq h1,bq h2,bq h3,dH h4];rfl,by simp;omega⟩
    ·exact⟨0,by rw[bq h1,bq h2,bq h3,bq h4];rfl,by simp;omega⟩
theorem AZ(s:aC):dX s=some (decide (j5 s)):=by
 rw[Od];unfold M4 j5;by_cases h1:s.1>=1
 ·by_cases h2:s.1<=1099511627776
  ·by_cases h3:s.2>=1<;>simp[h1,h2,h3]
  ·simp[h1,h2]
 ·simp[h1]
theorem a3a {k op:Int}{key:ByteArray}{st:aC}{dg:ByteArray}{nm:Nat}{m:Nat->SlV (Nat->Int)}{ny:Nat}{y:Nat->(Nat->Int)}{M:List Z0F}{L:List Nat}(hm:lD nm m M)(hy:Ci ny y L)(hn:M.length<1000)(h:aea k op key st dg M L):
  Oe (k,(op,(key,(st,(dg,((nm,m),(ny,y)))))))=some true:=by
 have hsz:=hm.sz;have hyl:=hy.1;have e8: ∀ {a b:Int},a≠b->(a==b)=false:=gN;have hkey:Tp key=some true:=by rw[Vs];unfold Vr;have:=h.1;rw[dH (show((key.size:Nat):Int)>=1 by omega),bA,dH (show((key.size:Nat):Int)<=8 by omega)]
 have bare:M=[]->L=[]->dF (k,(op,(key,(st,(dg,((nm,m),(ny,y)))))))=some true:=λh1 h2=>by subst h1;subst h2;rw[IC];unfold JF;have z1:(((nm:Nat):Int)==0)=true:=G8 (by simp at hsz;omega);have z2:(((ny:Nat):Int)==0)=true:=G8 (by simp at hyl;omega);simp only[z1,z2,bA]
 have nbare:M≠ []->dF (k,(op,(key,(st,(dg,((nm,m),(ny,y)))))))=some false:=λh1=>by rw[IC];unfold JF;have z1:(((nm:Nat):Int)==0)=false:=gN (λe=>h1 (aA4 (by omega)));simp only[z1,bH]
 have carries:zk M=true->L.length=M.length->iI (k,(op,(key,(st,(dg,((nm,m),(ny,y)))))))=some true:=λh1 h2=>by
  rw[IE];unfold EP;have hb:=Jb hm (by omega);have z1:(((ny:Nat):Int)==((nm:Nat):Int))=true:=G8 (by omega);have z2:sEq (⟨(gT M).toArray⟩:ByteArray) (ByteArray.mk #[])=false:=by
   cases hc:sEq (⟨(gT M).toArray⟩:ByteArray) (ByteArray.mk #[])with
   |false=>rfl
   |true=>
    have:=(nN _ _).1 hc;have h3:(gT M).toArray= #[]:=ByteArray.mk.inj this;unfold gT at h3;rw[ay5 h1]at h3;simp at h3
  simp only[hb,z1,z2,azB,bA]
 rw[Vu];unfold Vt;rcases h.2 with⟨hk,rfl,hs,hd,rfl,rfl⟩|⟨rfl,ho,hc⟩|⟨rfl,ho,hs,rfl,rfl,rfl⟩
 ·have hb:=bare rfl rfl;have hst:=AZ st;rw[dH hs]at hst;have z:((dg.size:Nat):Int)==32:=G8 (by omega);rcases hk with rfl|rfl
  ·simp only[ayZ,bA,bH,hkey,ayK,az7,e8 (show(5:Int)≠1 by decide),e8 (show(5:Int)≠2 by decide),e8 (show(5:Int)≠3 by decide),e8 (show(5:Int)≠4 by decide),e8 (show(5:Int)≠8 by decide),hst,z,hb]
  ·simp only[ayZ,bA,bH,hkey,ayK,az7,e8 (show(6:Int)≠1 by decide),e8 (show(6:Int)≠2 by decide),e8 (show(6:Int)≠3 by decide),e8 (show(6:Int)≠4 by decide),e8 (show(6:Int)≠5 by decide),e8 (show(6:Int)≠8 by decide),hst,z,hb]
 ·have o1:decide (op<1)=false:=bq (by omega);have o2:decide (op>1048576)=false:=bq (by omega);have pre:(3:Int)≠1/\(3:Int)≠2/\(3:Int)≠4/\(3:Int)≠5/\(3:Int)≠6/\(3:Int)≠8:=by decide
  rcases hc with⟨rfl,rfl,rfl,rfl⟩|⟨hs,hd,hc⟩
  ·have hb:=bare rfl rfl;have z1:eqF (.pair (.int .i64) (.int .i64)) ((0,0):aC) (0,0)=true:=YG _;have z2:sEq ByteArray.empty (ByteArray.mk #[])=true:=(nN _ _).2 rfl;simp only[ayZ,bA,bH,hkey,ayK,azB,az7,e8 pre.1,e8 pre.2.1,e8 pre.2.2.1,e8 pre.2.2.2.1,e8 pre.2.2.2.2.1,e8 pre.2.2.2.2.2,o1,o2,z1,z2,hb]
  ·have hst:=AZ st;rw[dH hs]at hst;have z:(((dg.size:Nat):Int)==32)=true:=G8 (by omega);have z1:eqF (.pair (.int .i64) (.int .i64)) st (0,0)=false:=YH (λe=>by rw[e]at hs;exact absurd hs.1 (by decide));rcases hc with⟨rfl,rfl⟩|⟨h1,h2⟩
   ·have hb:=bare rfl rfl;simp only[ayZ,bA,bH,hkey,ayK,azB,az7,e8 pre.1,e8 pre.2.1,e8 pre.2.2.1,e8 pre.2.2.2.1,e8 pre.2.2.2.2.1,e8 pre.2.2.2.2.2,o1,o2,z1,z,hst,hb]
   ·have hM:M≠ []:=λe=>by subst e;have:=(of_decide_eq_true h1:a5R []).1.1;exact absurd this (by decide)
    have hb:=nbare hM;have hc:=carries h1 h2;simp only[ayZ,bA,bH,hkey,ayK,azB,az7,e8 pre.1,e8 pre.2.1,e8 pre.2.2.1,e8 pre.2.2.2.1,e8 pre.2.2.2.2.1,e8 pre.2.2.2.2.2,o1,o2,z1,z,hst,hb,hc]
 ·have o1:decide (op<1)=false:=bq (by omega);have o2:decide (op>1048576)=false:=bq (by omega);have hb:=bare rfl rfl;have hst:=AZ st;rw[dH hs]at hst;have pre:(7:Int)≠1/\(7:Int)≠2/\(7:Int)≠4/\(7:Int)≠5/\(7:Int)≠6/\(7:Int)≠8/\(7:Int)≠3:=by decide
  have z2:sEq ByteArray.empty (ByteArray.mk #[])=true:=(nN _ _).2 rfl;simp only[ayZ,bA,bH,hkey,ayK,azB,az7,e8 pre.1,e8 pre.2.1,e8 pre.2.2.1,e8 pre.2.2.2.1,e8 pre.2.2.2.2.1,e8 pre.2.2.2.2.2.1,e8 pre.2.2.2.2.2.2,o1,o2,z2,hst,hb]
def Plc(I:Nat)(x:Rc):Prop:= ∀b c,0<(MC I x b c).1.1->placed (MC I x b c) b c
theorem Plc.up {I:Nat}{x y:Rc}(h:Plc I x)(r:ME I x y):Plc I y:=λb c h0=>by
 rcases r b c with e|e
 ·rw[e]at h0⊢;exact h b c h0
 ·exact e.2
theorem acQ(I:Nat):Plc I newR:=λb c h0=>absurd h0 (by show¬((0:Int)<0);decide)
def Jh(h:Hd)(s:Sv)(m:MS):Prop:=Says h.I (gu s.l m.2.2.1) m.2.2.2.1 m.2.2.2.2.1
structure Turn(h:Hd)(s s':Sv)(l:List OU):Prop where
 pl: ∀k,Plc h.I (gu s'.l k)
 up: ∀m,Jh h s m->Jh h s' m
 says: ∀m∈l,oKd m=5->Jh h s' m.2
 old: ∀q:MS,Jh h s q-> ∀m∈l,oKd m=5->q.2.2.1=Jf m->q.2.2.2.1=oSt m->q.2.2.2.2.1=oDg m
 uni: ∀m∈l,∀m'∈l,oKd m=5->oKd m'=5->Jf m=Jf m'->oSt m=oSt m'->oDg m=oDg m'
theorem Turn.none {h:Hd}{s:Sv}(p: ∀k,Plc h.I (gu s.l k)):Turn h s s []:=
 ⟨p,λ_ h=>h,λm hm=>absurd hm (by simp),λ_ _ m hm=>absurd hm (by simp),λm hm=>absurd hm (by simp)⟩
theorem acR {h:Hd}{s s':Sv}{key:ByteArray}{x:Rc}{l:List OU}(hs:s'.l=D6 s.l key x)(p: ∀k,Plc h.I (gu s.l k))(e:Ech (h.fr key) (gu s.l key) x l):Turn h s s' l:=by
 have r: ∀k,ME h.I (gu s.l k) (gu s'.l k):=λk=>by
  rw[hs];by_cases c:k=key
  ·subst c;rw[X6];exact e.rise
  ·rw[a2W x c];exact .refl _ _
 refine⟨λk=>(p k).up (r k),λm hm=>Says.up hm (r _),λm hm hk=>?_,λq hq m hm hk e1 e2=>?_,λm hm m' hm' hk hk' _ e1=>e.uni m hm m' hm' hk hk' e1⟩
 ·have hkey:m.2.2.2.1=key:=e.key m hm hk;show Says h.I (gu s'.l m.2.2.2.1) (oSt m) (oDg m);rw[hkey,hs,X6];exact(e.new m hm hk).2.1
 ·exfalso;have hkey:Jf m=key:=e.key m hm hk;have h1:Says h.I (gu s.l q.2.2.1) q.2.2.2.1 q.2.2.2.2.1:=hq;rw[e1,hkey,e2]at h1;have h2:=(e.new m hm hk).1;rcases h1 with h1|h1
  ·rw[show own (h.fr key).I (gu s.l key) (oSt m)=own h.I (gu s.l key) (oSt m)from rfl,h1]at h2;exact absurd h2 (Int.lt_irrefl _)
  ·exact absurd (Int.lt_trans h1 h2) (Int.lt_irrefl _)
theorem a7K {f:Fr}{x:Rc}(hp:Plc f.I x){i:Nat}{m:OU}(hm:m∈La f x i)(hk:oKd m=5):own f.I x (oSt m)=(oSt m,oDg m):=by
 have says: ∀odd:Int,m∈jR f 5 (atT f.N x.e f.I ((i+1:Nat):Int) odd)->own f.I x (oSt m)=(oSt m,oDg m):=λodd h=>by
  unfold jR at h;split at h
  ·rename_i h0;obtain⟨j,rfl⟩:=vg h;show own f.I x (atT f.N x.e f.I ((i+1:Nat):Int) odd).1=atT f.N x.e f.I ((i+1:Nat):Int) odd;unfold atT at h0⊢;split
   ·rename_i hc;rw[ay5 hc]at h0;have hq:=hp (((i+1:Nat):Int)-1).toNat odd.toNat h0;unfold own;rw[show x.e ((f.I:Int)-1).toNat (((i+1:Nat):Int)-1).toNat odd.toNat=MC f.I x (((i+1:Nat):Int)-1).toNat odd.toNat from rfl,<-hq.1,<-hq.2]
   ·rename_i hc;rw[axY hc]at h0;exact absurd h0 (by show¬((0:Int)<0);decide)
  ·exact absurd h (by simp)
 have no6: ∀odd:Int,¬m∈jR f 6 (atT f.N x.r f.I ((i+1:Nat):Int) odd):=λodd h=>by
  unfold jR at h;split at h
  ·obtain⟨j,rfl⟩:=vg h;exact absurd hk (by show¬((6:Int)=5);decide)
  ·exact absurd h (by simp)
 simp only[La,ays]at hm;rcases hm with hm|hm|hm|hm
 ·exact says _ hm
 ·exact absurd hm (no6 _)
 ·exact says _ hm
 ·exact absurd hm (no6 _)
theorem Z5 {f:Fr}{x:Rc}(hp:Plc f.I x){m:OU}(hk:oKd m=5): ∀ {n},m∈Ec f x n->own f.I x (oSt m)=(oSt m,oDg m)
 |0,h=>absurd h (by simp[Ec])
 |n+1,h=>by rw[Ec,ays]at h;exact h.elim (Z5 hp hk) λh=>a7K hp h hk
theorem a7L {f:Fr}{x:Rc}{i:Nat}{m:OU}(hm:m∈La f x i):Jf m=f.key:=by
 have says: ∀k c,m∈jR f k c->Jf m=f.key:=λk c h=>by
  unfold jR at h;split at h
  ·obtain⟨j,rfl⟩:=vg h;rfl
  ·exact absurd h (by simp)
 simp only[La,ays]at hm;rcases hm with hm|hm|hm|hm<;>exact says _ _ hm
theorem Z6 {f:Fr}{x:Rc}{m:OU} : ∀ {n},m∈Ec f x n->Jf m=f.key
 |0,h=>absurd h (by simp[Ec])
 |n+1,h=>by rw[Ec,ays]at h;exact h.elim Z6 a7L
theorem Ej {h:Hd}{s:Sv}(p: ∀k,Plc h.I (gu s.l k)){m:OU}(hk:oKd m=5): ∀ {n},m∈yx h s n->own h.I (gu s.l (Jf m)) (oSt m)=(oSt m,oDg m)
 |0,hm=>absurd hm (by simp[yx])
 |n+1,hm=>by
  rw[yx,ays]at hm;rcases hm with hm|hm
  ·exact Ej p hk hm
  ·rw[YQ,ays]at hm;rcases hm with hm|hm
   ·have e:Jf m=s.ks n:=Z6 hm;rw[e];exact Z5 (f:=h.fr (s.ks n)) (p _) hk hm
   ·exact absurd hk (Tz _ 3 m hm)
theorem a7M {h:Hd}{s:Sv}(p: ∀k,Plc h.I (gu s.l k))(o:iN):Turn h s { s with o:=o } (a2N h s) where
 pl:=p
 up:=λ_ h=>h
 says:=λm hm hk=>.inl (Ej p hk hm)
 old:=λq hq m hm hk e1 e2=>by
  have h1:=Ej p hk hm;have h2:Says h.I (gu s.l q.2.2.1) q.2.2.2.1 q.2.2.2.2.1:=hq;rw[e1,e2]at h2;rcases h2 with h2|h2
  ·rw[h1]at h2;exact(Prod.mk.inj h2).2.symm
  ·rw[h1]at h2;exact absurd h2 (Int.lt_irrefl _)
 uni:=λm hm m' hm' hk hk' e1 e2=>by have h1:=Ej p hk hm;have h2:=Ej p hk' hm';rw[e1,e2,h2]at h1;exact(Prod.mk.inj h1).2.symm
theorem acS(s:Sv)(key:ByteArray):(match s.l[bU s.l key]? with|some e=>e.2.v.1|none=>((0,0):aC))=(gu s.l key).v.1:=by unfold gu;cases s.l[bU s.l key]?<;>rfl
def a5X(h:Hd)(out:iN)(l:List OU):Prop:=out.1=l.length/\(∀i (hi:i<l.length),out.2 i=l[i])/\ ∀x∈l,∃key,OT { h.fr kK with key:=key } x
theorem a3b {h:Hd}{l:List OU}(hl: ∀x∈l,∃key,OT { h.fr kK with key:=key } x):a5X h (frz (apps zNO l)) l:=⟨a0I l,λi hi=>a4Z hi,hl⟩
theorem abC {h:Hd}(hh:h.Ok3){a:QE}(hf: -9223372036854775808<=a.1/\a.1<9223372036854775808){s:Sv}{j:Nat}(g:Good h s j)(hj:j<1000)(p: ∀k,Plc h.I (gu s.l k)):
  ∃op st dg nm m ny y,iK ((h.P:Int),((h.Q:Int),(h.G:Int))) (h.T:Int) (h.I:Int) a=some (Gt a.2.1 op (zM a.2.2.2.1) st dg nm m ny y)/\
   ∃out s' l,bC a.1 a.2.1 op (zM a.2.2.2.1) st dg nm m ny y (h.mk' s)=some ((out,()),h.mk' s')/\Good h s' (j+1)/\a5X h out l/\l.length<=10000/\Turn h s s' l/\
    ¬dJ (gu s.l (zM a.2.2.2.1)).v.1 (gu s'.l (zM a.2.2.2.1)).v.1/\ ∀m∈l,oKd m=5->(oSt m).1<=(gu s'.l (zM a.2.2.2.1)).v.1.1+1:=by
 have hT:=hh.T;have hN:=hh.N;obtain⟨op,st,dg,nm,m,ny,y,M,L,q1,q2,q3,q4⟩:=Fg (P:=h.P) (Q:=h.Q) (G:=h.G) hh.p1 hh.p62 hh.q512 hh.q31 (t:=h.T) (I:=h.I) (by omega) (by have:=hh.I;omega) a;have hin:=a0K hh q2 q3 q4;have hS:=JX hh.toOk hf (k:=a.2.1) (op:=op) (key:=zM a.2.2.2.1) (st:=st) (dg:=dg) hin g hj;refine⟨op,st,dg,nm,m,ny,y,q1,?_⟩;by_cases c:MB h a.1 a.2.1 op (zM a.2.2.2.1) st dg M L s
 ·rw[ay5 c]at hS;have hg:=QG hh.toOk hin g c;have he:=a7G hh.toOk hin c.1 (g.get (zM a.2.2.2.1));have hput:gu (X3 h a.1 a.2.1 op (zM a.2.2.2.1) st dg (st,(yu (gT M),((nm,m),(ny,y)))) s).l (zM a.2.2.2.1)=_:=X6 s.l (zM a.2.2.2.1) _;refine⟨_,_,_,hS,hg.1,a3b λx hx=>⟨zM a.2.2.2.1,hg.2 x hx⟩,a7J hh.toOk _ _ _ _ _ _ _ _,acR rfl p he,?_,?_⟩
  ·rw[hput];exact he.ge
  ·intro q hq hk;rw[hput];exact(he.new q hq hk).2.2
 ·rw[axY c]at hS;exact⟨_,_,[],hS,g.mono,⟨rfl,λi hi=>absurd hi (ayz _),λx hx=>absurd hx (by simp)⟩,az8 _,.none p,bK _,λq hq=>absurd hq (by simp)⟩
theorem a7N {h:Hd}(hh:h.Ok3){s:Sv}{j:Nat}(g:Good h s j)(hj:j<100)(p: ∀k,Plc h.I (gu s.l k)):
  ∃out l,fA (h.mk' s)=some ((out,()),h.mk' { s with o:=out })/\a5X h out l/\l.length<=10000/\Turn h s { s with o:=out } l:=by
 refine⟨_,a2N h s,a7v hh.toOk (g.ok (by omega)) g.tick,a3b (a2Z hh.toOk g s.n (ay7 _)),?_,a7M p _⟩;have:=QA hh.toOk s s.n;have:=g.few;have e:(a2N h s).length=(yx h s s.n).length:=rfl;omega
end Go.Pl
