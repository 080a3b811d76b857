/-
 What the statements of a layer share.
-/
import Derived.Test.YtldlihheppdhnaaGreatDenM
import Derived.Test.YtldlihheppdhnaaGreatDenI
import Derived.Test.YtldlihheppdhnaaGreatPlA
import Derived.Test.YtldlihheppdhnaaGreatPlB
import Derived.Test.YtldlihheppdhnaaGreatEqA
import Derived.Test.YtldlihheppdhnaaGreatDenF
import Derived.Test.YtldlihheppdhnaaGreatEqB
import Derived.Test.YtldlihheppdhnaaGreatMH
import Derived.Test.YtldlihheppdhnaaGreatMF
import Derived.Test.YtldlihheppdhnaaGreatMD
set_option linter.unusedVariables false
set_option linter.unusedSimpArgs false
set_option maxRecDepth 100000
set_option maxHeartbeats 0
namespace Go.Pl
end Go.Pl
open Go Go.Den Go.Pl
namespace Go.Pl
noncomputable section
open Go.IntKind (i64 u64 u32 u8)
def CG(which:Int):Option (((Unit×(Z0A×(Z0g×Z0q)))×(SP×(SN×Unit)))):=match(Ni which)with|none=>none|some r=>(match(pI ((r.1.1,r.1.2),r.2))with|none=>none|some r1=>(match r1.1 with|none=>(let t:=(i64.wrap ((i64.wrap (3*(i64.wrap (1+(av .and .i64 (bL .i64 which 1) 1)))))+1));bif (decide (t=0))then(none)else(match(bD none (i64.wrap (1+(av .and .i64 (bL .i64 which 1) 1))) (i64.wrap (1+(Int.tmod (av .and .i64 (bL .i64 which 2) 255) t))) 3)with|none=>none|some y=>(match y with| .inl y1=>(let r2:=y1.1.2.1;match(Lg ((r.1.1,r.1.2),r.2))with|none=>none|some r4=>(match(Ew r4 (i64.wrap (1+(av .and .i64 (bL .i64 which 1) 1))) (i64.wrap (1+(Int.tmod (av .and .i64 (bL .i64 which 2) 255) t))) 3)with|none=>none|some r5=>(match r5 with|none=>(bif (r1.2==0)then(bif (r2==0)then(none)else(none))else(none))|some p1=>(bif (r1.2==0)then(bif (r2==0)then(none)else(none))else(none)))))| .inr y1=>(let r3:=y1.1.2.1;let o:=y1.2.1.1;let o1:=y1.2.1.2.1;let no:=y1.2.1.2.2.1.1;let o2:=y1.2.1.2.2.1.2;let o3:=y1.2.1.2.2.2;let o4:=y1.2.2.1.1;let o5:=y1.2.2.1.2.1;let o6:=y1.2.2.1.2.2.1;let o7:=y1.2.2.1.2.2.2.1;let o8:=y1.2.2.1.2.2.2.2.1;let o9:=y1.2.2.1.2.2.2.2.2.2.1;let no1:=y1.2.2.1.2.2.2.2.2.2.2.1;let o10:=y1.2.2.1.2.2.2.2.2.2.2.2;match(Lg ((r.1.1,r.1.2),r.2))with|none=>none|some r6=>(match(Ew r6 (i64.wrap (1+(av .and .i64 (bL .i64 which 1) 1))) (i64.wrap (1+(Int.tmod (av .and .i64 (bL .i64 which 2) 255) t))) 3)with|none=>none|some r7=>(match r7 with|none=>(bif (r1.2==0)then(bif (r3==0)then(none)else(none))else(none))|some p2=>(bif (r1.2==0)then(bif (r3==0)then(some (((),(p2,(r6,(true,())))),((o,(o1,((no,o2),o3))),((o4,(o5,(o6,(o7,(o8,((),(o9,(no1,o10)))))))),()))))else(some (((),(p2,(r6,(false,())))),((o,(o1,((no,o2),o3))),((o4,(o5,(o6,(o7,(o8,((),(o9,(no1,o10)))))))),())))))else(some (((),(p2,(r6,(false,())))),((o,(o1,((no,o2),o3))),((o4,(o5,(o6,(o7,(o8,((),(o9,(no1,o10)))))))),())))))))))))|some p=>(let t1:=(i64.wrap ((i64.wrap (3*(i64.wrap (1+(av .and .i64 (bL .i64 which 1) 1)))))+1));bif (decide (t1=0))then(none)else(match(bD (some p) (i64.wrap (1+(av .and .i64 (bL .i64 which 1) 1))) (i64.wrap (1+(Int.tmod (av .and .i64 (bL .i64 which 2) 255) t1))) 3)with|none=>none|some y2=>(match y2 with| .inl y3=>(let r8:=y3.1.2.1;match(Lg ((r.1.1,r.1.2),r.2))with|none=>none|some r10=>(match(Ew r10 (i64.wrap (1+(av .and .i64 (bL .i64 which 1) 1))) (i64.wrap (1+(Int.tmod (av .and .i64 (bL .i64 which 2) 255) t1))) 3)with|none=>none|some r11=>(match r11 with|none=>(bif (r1.2==0)then(bif (r8==0)then(none)else(none))else(none))|some p3=>(bif (r1.2==0)then(bif (r8==0)then(none)else(none))else(none)))))| .inr y3=>(let r9:=y3.1.2.1;let o11:=y3.2.1.1;let o12:=y3.2.1.2.1;let no2:=y3.2.1.2.2.1.1;let o13:=y3.2.1.2.2.1.2;let o14:=y3.2.1.2.2.2;let o15:=y3.2.2.1.1;let o16:=y3.2.2.1.2.1;let o17:=y3.2.2.1.2.2.1;let o18:=y3.2.2.1.2.2.2.1;let o19:=y3.2.2.1.2.2.2.2.1;let o20:=y3.2.2.1.2.2.2.2.2.2.1;let no3:=y3.2.2.1.2.2.2.2.2.2.2.1;let o21:=y3.2.2.1.2.2.2.2.2.2.2.2;match(Lg ((r.1.1,r.1.2),r.2))with|none=>none|some r12=>(match(Ew r12 (i64.wrap (1+(av .and .i64 (bL .i64 which 1) 1))) (i64.wrap (1+(Int.tmod (av .and .i64 (bL .i64 which 2) 255) t1))) 3)with|none=>none|some r13=>(match r13 with|none=>(bif (r1.2==0)then(bif (r9==0)then(none)else(none))else(none))|some p4=>(bif (r1.2==0)then(bif (r9==0)then(some (((),(p4,(r12,(true,())))),((o11,(o12,((no2,o13),o14))),((o15,(o16,(o17,(o18,(o19,((),(o20,(no3,o21)))))))),()))))else(some (((),(p4,(r12,(false,())))),((o11,(o12,((no2,o13),o14))),((o15,(o16,(o17,(o18,(o19,((),(o20,(no3,o21)))))))),())))))else(some (((),(p4,(r12,(false,())))),((o11,(o12,((no2,o13),o14))),((o15,(o16,(o17,(o18,(o19,((),(o20,(no3,o21)))))))),())))))))))))))
def qb:=veil CG
theorem FL:qb=CG:=au _
def LY(g:Z0g)(t:Int)(value:Int):Option (Z0a×(Nat×(Nat->Z0K))):=
 match(aV (i64.wrap (100+(av .and .i64 value 3))))with
 |none=>none
 |some r=>(
 match(aV (i64.wrap (7+(av .and .i64 value 3))))with
 |none=>none
 |some r1=>(
 match(aV (i64.wrap (9+(av .and .i64 value 3))))with
 |none=>none
 |some r2=>(
 let k:((Z0d×(Z0d×Unit))×Unit)->Option (Z0a×(Nat×(Nat->Z0K))):=λx=>(
 let nnumbers:=x.1.1.1;let numbers:=x.1.1.2;let nrandom:=x.1.2.1.1;let random:=x.1.2.1.2
 bif ((decide (0<=(i64.wrap (t*((nnumbers:Nat):Int)))))&&(decide ((i64.wrap (t*((nnumbers:Nat):Int)))<=((nrandom:Nat):Int))))then(
 match(Eu g t nnumbers (λj=>numbers (0+j)) ((Int.toNat (i64.wrap (t*((nnumbers:Nat):Int))))-0) (λj=>random (0+j)))with
 |none=>none
 |some y=>(
 let nr:=y.1.1.1;let r6:=y.1.1.2;let nr1:=y.1.2.1.1;let r7:=y.1.2.1.2;let r8:=y.1.2.2.1
 some ((nr,r6),(nr1,r7))))
 else(
 none))
 bif ((av .and .i64 value 3)==3)then(
 match(aV 5)with
 |none=>none
 |some r3=>(
 match(aV 1)with
 |none=>none
 |some r4=>(
 match(aV 2)with
 |none=>none
 |some r5=>(
 k (((2,(glue 1 (upd zNN 0 r) (λj=>(upd zNN 0 r3) (0+j)))),((4,(glue 2 (upd (upd zNN 0 r1) 1 r2) (λj=>(upd (upd zNN 0 r4) 1 r5) (0+j)))),())),())))))
 else(
 k (((1,(upd zNN 0 r)),((2,(upd (upd zNN 0 r1) 1 r2)),())),())))))
def zK:=veil LY
theorem Og:zK=LY:=au _
def EO(g:Z0g)(t:Int)(number:Int)(a:(Int×Z0o)):Option (Z0e):=
 bif (inb (av .and .i64 a.2.2.2.1 3) 4)then(
 let t1:=((upd (upd (upd (upd (λ_=>ByteArray.empty) 0 (ByteArray.mk #[107])) 1 (ByteArray.mk #[97])) 2 (ByteArray.mk #[107,107])) 3 (ByteArray.mk #[])) (0+(Int.toNat (av .and .i64 a.2.2.2.1 3))))
 match(zK g t a.2.2.2.2.2.1)with
 |none=>none
 |some r=>(
 let k:Z01->Option (Z0e):=λx=>(
 let t2:=x.1.1
 bif t2 then(
 some (a.2.1,(a.2.2.1,(t1,((0,0),(ByteArray.empty,((0,(λ_=>.nil)),(0,zNN))))))))
 else(
 let k1:Z01->Option (Z0e):=λx1=>(
 let t3:=x1.1.1
 bif t3 then(
 bif (decide (((r.2.1:Nat):Int)=0))then(
 none)
 else(
 bif (inb (Int.tmod (i64.wrap ((i64.wrap (number-1))+(av .and .i64 a.2.2.2.2.2.2 1))) ((r.2.1:Nat):Int)) r.2.1)then(
 bif (SlV.isMs (r.2.2 (Int.toNat (Int.tmod (i64.wrap ((i64.wrap (number-1))+(av .and .i64 a.2.2.2.2.2.2 1))) ((r.2.1:Nat):Int)))).2)then(
 none)
 else(
 some (a.2.1,(a.2.2.1,(t1,(a.2.2.2.2.1,(ByteArray.empty,((r.1.1,r.1.2),((SlV.len (r.2.2 (Int.toNat (Int.tmod (i64.wrap ((i64.wrap (number-1))+(av .and .i64 a.2.2.2.2.2.2 1))) ((r.2.1:Nat):Int)))).2),(SlV.fn ((λ_=>0):NI) (r.2.2 (Int.toNat (Int.tmod (i64.wrap ((i64.wrap (number-1))+(av .and .i64 a.2.2.2.2.2.2 1))) ((r.2.1:Nat):Int)))).2))))))))))
 else(
 none)))
 else(
 bif (a.2.1==5)then(
 let t4:=(a.2.1==5)
 bif t4 then(
 match(rR r.1.1 r.1.2)with
 |none=>none
 |some r1=>(
 some (a.2.1,(0,(t1,(a.2.2.2.2.1,(r1,((0,(λ_=>.nil)),(0,zNN)))))))))
 else(
 some (a.2.1,(a.2.2.1,(t1,(a.2.2.2.2.1,(ByteArray.empty,((0,(λ_=>.nil)),(0,zNN)))))))))
 else(
 let t4:=(a.2.1==6)
 bif t4 then(
 match(rR r.1.1 r.1.2)with
 |none=>none
 |some r1=>(
 some (a.2.1,(0,(t1,(a.2.2.2.2.1,(r1,((0,(λ_=>.nil)),(0,zNN)))))))))
 else(
 some (a.2.1,(a.2.2.1,(t1,(a.2.2.2.2.1,(ByteArray.empty,((0,(λ_=>.nil)),(0,zNN)))))))))))
 bif (a.2.1==4)then(
 k1 (((a.2.1==4),()),()))
 else(
 k1 (((a.2.1==8),()),()))))
 bif (a.2.1==1)then(
 k (((a.2.1==1),()),()))
 else(
 k (((a.2.1==2),()),()))))
 else(
 none)
def iE:=veil EO
theorem Io:iE=EO:=au _
def LZ:Option (Bool):=match(qb 0)with|none=>none|some y=>(let r:=y.1.2.1;let r1:=y.1.2.2.1;let r2:=y.1.2.2.2.1;bif (!r2)then(some false)else(match(zK r1 1 0)with|none=>none|some r3=>(match(iE r1 1 1 (0,(4,(1,(0,((1,1),(0,0)))))))with|none=>none|some r4=>(match(bn 5 r4.1 r4.2.1 r4.2.2.1 r4.2.2.2.1 r4.2.2.2.2.1 r4.2.2.2.2.2.1.1 r4.2.2.2.2.2.1.2 r4.2.2.2.2.2.2.1 r4.2.2.2.2.2.2.2 (y.2.2.1,(y.2.1,())))with|none=>none|some y1=>(let nr:=y1.1.1.1;let r5:=y1.1.1.2;bif (((nr:Nat):Int) !=3)then(some false)else(bif (inb 0 nr)then(bif ((r5 0).2.1 !=5)then(some false)else(bif (inb 0 nr)then(let t:=((r5 0).1 !=2);bif t then(some false)else(match(iE r1 1 1 (0,(6,(0,(0,((1,1),(0,0)))))))with|none=>none|some r6=>(match(bn 2 r6.1 r6.2.1 r6.2.2.1 r6.2.2.2.1 r6.2.2.2.2.1 r6.2.2.2.2.2.1.1 r6.2.2.2.2.2.1.2 r6.2.2.2.2.2.2.1 r6.2.2.2.2.2.2.2 y1.2)with|none=>none|some y2=>(match(iE r1 1 1 (0,(6,(0,(0,((1,1),(0,0)))))))with|none=>none|some r8=>(match(bn 3 r8.1 r8.2.1 r8.2.2.1 r8.2.2.2.1 r8.2.2.2.2.1 r8.2.2.2.2.2.1.1 r8.2.2.2.2.2.1.2 r8.2.2.2.2.2.2.1 r8.2.2.2.2.2.2.2 y2.2)with|none=>none|some y3=>(match(iD (ByteArray.mk #[107]) y3.2)with|none=>none|some y4=>(bif (r.2.2.1==1)then(bif (((y3.1.1.1:Nat):Int)==4)then(bif (inb 3 y3.1.1.1)then(bif ((y3.1.1.2 3).2.1==7)then(bif (inb 3 y3.1.1.1)then(bif ((y3.1.1.2 3).1==5)then(bif (eqF (.pair (.int .i64) (.int .i64)) y4.1.1 (1,1))then(match(rR r3.1.1 r3.1.2)with|none=>none|some r13=>(bif (sEq y4.1.2.1 r13)then(bif y4.1.2.2.1 then(match(jL y4.2)with|none=>none|some y5=>(match(Hy y5.1.1.1 y5.1.1.2 1 (λj=>(upd (λ_=>ByteArray.empty) 0 (ByteArray.mk #[107])) (0+j)))with|none=>none|some r15=>(some r15)))else(some false))else(some false)))else(some false))else(some false))else(none))else(some false))else(none))else(some false))else(some false))))))))else(none)))else(none)))))))
def DL:=veil LZ
theorem Oh:DL=LZ:=au _
end
end Go.Pl
namespace Go.Proofs.YtldlihheppdhnaaGreat
noncomputable section
abbrev Wq:Shape:= { sl:=[(pv 0 tI)],ob:=[],lo:=0,nx:=0 }
abbrev Wt:List Shape:=[{ sl:=[(0,(.c ⟨(.ptr tSV),(.rf 7 [])⟩)),(1,(.pz (.pair (.pair tI (.pair tI tI)) (.pair tI (.pair tI (.pair tI (.pair tI (.pair (.pair tI (.pair tI (.pair (.sl .str) (.sl tI)))) (.pair (.sl (.pair .str (.pair tG (.pair (.sl tV) (.pair (.sl tV) (.arr 4 (.pair (.arr 2 tG) (.pair tG (.pair tI tI))))))))) (.sl tOU)))))))))),(pv 2 (.pair tI (.pair tI tI))),(3,(.v .bool))],ob:=[(3,(.p (.v tI) (.p (.v tI) (.p (.w 9 .str 12) (.m tI tI 13))))),(7,(.p (.pz tGR) (.p (.v tI) (.p (.v tI) (.p (.v tI) (.p (.v tI) (.p (.c ⟨(.ptr tSP),(.rf 3 [])⟩) (.p (.bg .str tRC 14 none) (.sz tOU)))))))))],lo:=12,nx:=15 }]
def AB:Con:=lJ Wq Wt λx=>qb x.1.1
def Wu:Cx:=cx [(25,anA),(22,aeY),(24,ahW),(26,anJ),(27,aq6)] []
theorem Q6:ay Tryz.prog Wu:=ay.of mixed aC (fc ⟨afn,fc ⟨a8o,fc ⟨a9G,fc ⟨afw,fc ⟨agA,fz⟩⟩⟩⟩⟩) fz
theorem DN:aA Tryz.prog 7 AB:=dS Q6 8 ⟨Tryz.func7,Tryz.call7,ak⟩ 4 _ _ _ (by decide) (λx=>by rw[FL];kernel_rfl)
def Ip:Con:=aQ false [(.pair tI (.pair tI tI)),tI,tI] [(.sl (.sl tN)),(.sl (.pair tI (.sl tN)))] λx=>zK x.1 x.2.1 x.2.2.1
def a2m:Cx:=cx [(71,a5Y),(72,apE)] []
theorem Xv:ay Tryz.prog a2m:=ay.of mixed aC (fc ⟨UC,fc ⟨agp,fz⟩⟩) fz
theorem KF:aA Tryz.prog 28 Ip:=aB Xv 8 ⟨Tryz.func28,Tryz.call28,ak⟩ _ _ _ _ (by decide) (λx=>by rw[Og];kernel_rfl)
def CJ:Con:=aQ false [(.pair tI (.pair tI tI)),tI,tI,(.pair tI (.pair tI (.pair tI (.pair tI (.pair (.pair tI tI) (.pair tI tI))))))] [tMS] λx=>iE x.1 x.2.1 x.2.2.1 x.2.2.2.1
def Xw:Cx:=cx [(28,Ip),(29,agt)] []
theorem S9:ay Tryz.prog Xw:=ay.of mixed aC (fc ⟨KF,fc ⟨a8S,fz⟩⟩) fz
theorem FM:aA Tryz.prog 12 CJ:=aB S9 8 ⟨Tryz.func12,Tryz.call12,ak⟩ _ _ _ _ (by decide) (λx=>by rw[Io];kernel_rfl)
def Rn:Con:=aQ true [] [.bool] λx=>DL
def a2n:Cx:=cx [(7,AB),(28,Ip),(12,CJ),(13,kM 0 aiA aiD),(15,kM 0 aiG aiI),(29,agt),(18,kM 0 aiL aiN),(17,aq2)] []
theorem Xx:ay Tryz.prog a2n:=ay.of mixed aC (fc ⟨DN,fc ⟨KF,fc ⟨FM,fc ⟨dU a9T a9U,fc ⟨dU a9V a9W,fc ⟨a8S,fc ⟨dU a9X a9Y,fc ⟨agw,fz⟩⟩⟩⟩⟩⟩⟩⟩) fz
theorem Xy:aA Tryz.prog 8 Rn:=aB Xx 8 ⟨Tryz.func8,Tryz.call8,ak⟩ _ _ _ _ (by decide) (λx=>by rw[Oh];kernel_rfl)
end
end Go.Proofs.YtldlihheppdhnaaGreat
namespace Go.Pl
open Go Go.Den Go.Num
theorem Wv: ∀ {R:List Nat},(∀n∈R,n<2^256)->(Xq R).length<=33*R.length
 | [],_=>axr _
 |a::R,h=>by
  have:=Wv (R:=R) λn hn=>h n (axP _ hn)
  have h1:=VW (h a axT);simp only[Xq,azH,axq,a1Z,ayb,Jb]at this⊢;omega
theorem Ww: ∀ {M:List Z0G},(∀R∈M,R.length<=7/\ ∀n∈R,n<2^256)->(M.flatMap Xq).length<=231*M.length
 | [],_=>axr _
 |R::M,h=>by
  have:=Ww (M:=M) λn hn=>h n (axP _ hn)
  have h0:=h R axT;have h1:=Wv h0.2;simp only[azH,axq,ayb];omega
theorem a4r {M:List Z0G}(h: ∀R∈M,R.length<=7/\ ∀n∈R,n<2^256):(iQ M).length<=231*M.length+2:=by
 have:=Ww h;unfold iQ;split
 ·simp only[ayb];omega
 ·exact ays _
theorem FN {n:Nat}{m:Nat->SlV (Nat->Int)}{M:List Z0G}(hm:jm n m M)(hn:n<9223372036854775808)(hb:(iQ M).length<2^40):rR n m=some (zF (iQ M)):=by rw[Kg];unfold Hu;have hs:Nt ⟨(iQ M).toArray⟩=some (zF (bl ⟨(iQ M).toArray⟩)):=ZX (by simpa [ByteArray.size]using hb);simp only[W9 hm hn,hs]
def aNv(v k:Nat):Nat:=if v=3 then(if k=0 then 103 else 5)else 100+v
def bNv(v j:Nat):Nat:=if v=3 then(if j=0 then 10 else if j=1 then 12 else if j=2 then 1 else 2)else if j=0 then 7+v else 9+v
def nnN(v:Nat):Nat:=if v=3 then 2 else 1
theorem a0d(v:Nat):nnN v=1\/nnN v=2:=by unfold nnN;split<;>simp
def vN(value:Int):Nat:=(value%4).toNat
theorem adu(value:Int):vN value<4:=by unfold vN;omega
theorem adv(value:Int):av .and .i64 value 3=(vN value:Int):=by have:=NR (x:=value) (k:=2) (by decide);rw[show((2^2-1:Nat):Int)=3 from rfl]at this;rw[this];unfold vN;rw[azv (Int.emod_nonneg _ (by decide))];rfl
section
variable {P Q G:Nat}
theorem Wx(hP:1<P)(p62:P<4611686018427387904)(hQ:512<=Q)(q31:Q<2147483648){t:Nat}(ht:t=1\/t=2)(value:Int):
  ∃m l,zK ((P:Int),(Q:Int),(G:Int)) (t:Int) value=some ((nnN (vN value),m),(3*t+1,l))/\aaC P Q G (aNv (vN value)) (bNv (vN value)) t (nnN (vN value)) m l:=by
 obtain⟨r,hr⟩: ∃r,zK ((P:Int),(Q:Int),(G:Int)) (t:Int) value=r:=⟨_,rfl⟩;rw[hr];rw[Og]at hr;unfold LY at hr;have hv:=adu value;rw[adv]at hr;generalize vN value=v at*;have w1:IntKind.i64.wrap (100+(v:Int))=((100+v:Nat):Int):=wrap_i64 (by omega);have w2:IntKind.i64.wrap (7+(v:Int))=((7+v:Nat):Int):=wrap_i64 (by omega);have w3:IntKind.i64.wrap (9+(v:Int))=((9+v:Nat):Int):=wrap_i64 (by omega);have i1:=xH (n:=100+v) (by omega);have i2:=xH (n:=7+v) (by omega);have i3:=xH (n:=9+v) (by omega);have j1:=CF (n:=100+v) (by omega);have j2:=CF (n:=7+v) (by omega);have j3:=CF (n:=9+v) (by omega);simp-zeta-letToHave only[w1,w2,w3,i1,i2,i3]at hr;extract_lets-underBinder k at hr;have hk: ∀(nn nr:Nat) (x y:Nat->(Nat->Int)),nn=nnN v->t*nn<=nr->nr<10->(∀k,k<nn->IsN (x k) (aNv v k))->(∀j,j<t*nn->IsN (y j) (bNv v j))->
   ∃m l,k (((nn,x),((nr,y),())),())=some ((nnN v,m),(3*t+1,l))/\aaC P Q G (aNv v) (bNv v) t (nnN v) m l:=by
  intro nn nr x y hnn h1 h1' hx hy;subst hnn;obtain⟨m,l,d1,d2⟩:=a6G (P:=P) (Q:=Q) (G:=G) hP p62 (by omega) q31 ht (a0d v) (x:=λj=>x (0+j)) (y:=λj=>y (0+j)) (a:=aNv v) (b:=bNv v)
   (λk hk=>by simp only[axA];exact hx k hk) (λj hj=>by simp only[axA];exact hy j hj)
   (λk _=>by unfold aNv;(repeat' split)<;>omega) (λj _=>by unfold bNv;(repeat' split)<;>omega)
  refine⟨m,l,?_,d2⟩;unfold k;have e1:IntKind.i64.wrap ((t:Int)*((nnN v:Nat):Int))=((t*nnN v:Nat):Int):=by rw[show(t:Int)*((nnN v:Nat):Int)=((t*nnN v:Nat):Int)from rfl,wrap_i64 (by omega)]
  simp(disch:=omega) only[e1,WW,Bool.and_self,Nat.sub_zero,d1]
 clear_value k;by_cases h3:v=3
 ·subst h3;have i5:=xH (n:=5) (by decide);have i6:=xH (n:=1) (by decide);have i7:=xH (n:=2) (by decide);have i5':aV 5=some (Jr 5):=i5;have i6':aV 1=some (Jr 1):=i6;have i7':aV 2=some (Jr 2):=i7;simp only[show((((3:Nat):Int))==3)=true from rfl,bM,i5',i6',i7']at hr;rw[<-hr];refine hk 2 4 _ _ rfl (by rcases ht with rfl|rfl<;>decide) (by decide) (λk hk=>?_) (λj hj=>?_)
  ·rcases(by omega:k=0\/k=1)with rfl|rfl
   ·exact j1
   ·exact CF (n:=5) (by decide)
  ·rcases(by rcases ht with rfl|rfl<;>omega:j=0\/j=1\/j=2\/j=3)with rfl|rfl|rfl|rfl
   ·exact j2
   ·exact j3
   ·exact CF (n:=1) (by decide)
   ·exact CF (n:=2) (by decide)
 ·have e:nnN v=1:=axi h3;have e3:((v:Int)==3)=false:=iP (by omega);simp only[e3,bO]at hr;rw[<-hr];refine hk 1 2 _ _ e.symm (by rcases ht with rfl|rfl<;>decide) (by decide) (λk hk=>?_) (λj hj=>?_)
  ·obtain rfl:k=0:=by omega
   exact j1.of_eq (by unfold aNv;rw[axi h3])
  ·rcases(by rcases ht with rfl|rfl<;>omega:j=0\/j=1)with rfl|rfl
   ·exact j2.of_eq (by unfold bNv;rw[axi h3];rfl)
   ·exact j3.of_eq (by unfold bNv;rw[axi h3];rfl)
end
def Q7(x:Int):ByteArray:=(upd (upd (upd (upd (λ_=>ByteArray.empty) 0 (ByteArray.mk #[107])) 1 (ByteArray.mk #[97])) 2 (ByteArray.mk #[107,107])) 3 (ByteArray.mk #[])) (0+vN x)
abbrev Wy:=Int×Z0o
def CK(P G:Nat)(t:Nat)(a:Wy):List Z0G:=vD P G (aNv (vN a.2.2.2.2.2.1)) (bNv (vN a.2.2.2.2.2.1)) t (nnN (vN a.2.2.2.2.2.1))
def a4s(t I:Nat)(a:Wy):Nat:=(I-1+(a.2.2.2.2.2.2%2).toNat)%(3*t+1)
def Sb(Q t I:Nat)(a:Wy):List Nat:=(List.range (nnN (vN a.2.2.2.2.2.1))).map λk=>evN (coN (aNv (vN a.2.2.2.2.2.1)) (bNv (vN a.2.2.2.2.2.1)) t k) (t+1) (a4s t I a+1) Q
structure adw(P Q G t I:Nat)(a:Wy)(op:Int)(st:aH)(dg:ByteArray)(M:List Z0G)(L:List Nat):Prop where
 few:M.length<=2/\L.length<=2
 listen:a.2.1=1\/a.2.1=2->op=a.2.2.1/\st=(0,0)/\dg=ByteArray.empty/\M=[]/\L=[]
 shares:a.2.1=4\/a.2.1=8->op=a.2.2.1/\st=a.2.2.2.2.1/\dg=ByteArray.empty/\M=CK P G t a/\L=Sb Q t I a
 vote:a.2.1=5\/a.2.1=6->op=0/\st=a.2.2.2.2.1/\dg=zF (iQ (CK P G t a))/\M=[]/\L=[]
 other:a.2.1≠1/\a.2.1≠2/\a.2.1≠4/\a.2.1≠8/\a.2.1≠5/\a.2.1≠6->op=a.2.2.1/\st=a.2.2.2.2.1/\dg=ByteArray.empty/\M=[]/\L=[]
theorem Ji:jm 0 (λ_=>.nil) []:=⟨rfl,λi hi=>absurd hi (axS _),λi hi=>absurd hi (axS _),λi hi=>absurd hi (axS _)⟩
theorem Jj:tK 0 zNN []:=⟨rfl,λj hj=>absurd hj (axS _)⟩
theorem M0(P G t:Nat)(hP:0<P)(p62:P<4611686018427387904)(ht:t=1\/t=2)(a:Wy):(iQ (CK P G t a)).length<=600:=by
 have h:=a4r (M:=CK P G t a) λR hR=>by simp only[CK,vD,azA,azt]at hR;obtain⟨k,_,rfl⟩:=hR;refine⟨by simp;omega,λn hn=>?_⟩;simp only[azA,azt]at hn;obtain⟨j,_,rfl⟩:=hn;exact azZ (axG _ hP) (azZ p62 (by decide))
 have hl:(CK P G t a).length=nnN (vN a.2.2.2.2.2.1):=by simp[CK,vD]
 have:=a0d (vN a.2.2.2.2.2.1);omega
theorem EP {P Q G:Nat}(hP:1<P)(p62:P<4611686018427387904)(hQ:512<=Q)(q31:Q<2147483648){t I:Nat}(ht:t=1\/t=2)(hI:1<=I/\I<=3*t+1)(a:Wy):
  ∃op st dg nm m ny y M L,iE ((P:Int),(Q:Int),(G:Int)) (t:Int) (I:Int) a=some (FY a.2.1 op (Q7 a.2.2.2.1) st dg nm m ny y)/\jm nm m M/\tK ny y L/\adw P Q G t I a op st dg M L:=by
 obtain⟨m,l,d1,d2⟩:=Wx (P:=P) (Q:=Q) (G:=G) hP p62 hQ q31 ht a.2.2.2.2.2.1;have hv:=adu a.2.2.2.1;obtain⟨r,hr⟩: ∃r,iE ((P:Int),(Q:Int),(G:Int)) (t:Int) (I:Int) a=r:=⟨_,rfl⟩;rw[hr];rw[Io]at hr;unfold EO at hr;rw[adv,Kr (by omega),bM,axE]at hr;simp-zeta-letToHave only[d1]at hr;extract_lets-underBinder t1 k at hr;have et:t1=Q7 a.2.2.2.1:=rfl;clear_value t1;subst et;have hD:=FN d2.mat (by have:=a0d (vN a.2.2.2.2.2.1);omega) (axB (M0 P G t (by omega) p62 ht a) (by decide));have n12:=a0d (vN a.2.2.2.2.2.1);have bf: ∀ {x y:Int},x≠y->(x==y)=false:=iP;by_cases c1:a.2.1=1\/a.2.1=2
 ·have e:(bif (a.2.1==1)then k (((a.2.1==1),()),())else k (((a.2.1==2),()),()))=k ((true,()),()):=by rcases c1 with c|c<;>rw[c]<;>rfl
  rw[e]at hr;refine⟨a.2.2.1,(0,0),ByteArray.empty,0,_,0,zNN,[],[],hr.symm,Ji,Jj,⟨by decide,λ_=>⟨rfl,rfl,rfl,rfl,rfl⟩,λh=>by omega,λh=>by omega,λh=>by omega⟩⟩
 have e:(bif (a.2.1==1)then k (((a.2.1==1),()),())else k (((a.2.1==2),()),()))=k ((false,()),()):=by rw[bf (λh=>c1 (.inl h)),bf (λh=>c1 (.inr h))];rfl
 rw[e]at hr;unfold k at hr;extract_lets-underBinder t2 k1 at hr;replace hr:(bif (a.2.1==4)then k1 (((a.2.1==4),()),())else k1 (((a.2.1==8),()),()))=r:=hr;by_cases c2:a.2.1=4\/a.2.1=8
 ·have e:(bif (a.2.1==4)then k1 (((a.2.1==4),()),())else k1 (((a.2.1==8),()),()))=k1 ((true,()),()):=by rcases c2 with c|c<;>rw[c]<;>rfl
  rw[e]at hr;unfold k1 at hr;have w1:IntKind.i64.wrap ((I:Int)-1)=((I-1:Nat):Int):=by rw[wrap_i64 (by omega)];omega
  have w2:IntKind.i64.wrap (((I-1:Nat):Int)+a.2.2.2.2.2.2%2)=((I-1+(a.2.2.2.2.2.2%2).toNat:Nat):Int):=by have h0:0<=a.2.2.2.2.2.2%2:=Int.emod_nonneg _ (by decide);have h1:a.2.2.2.2.2.2%2<2:=Int.emod_lt_of_pos _ (by decide);rw[wrap_i64 (by omega)];omega
  have w3:Int.tmod ((I-1+(a.2.2.2.2.2.2%2).toNat:Nat):Int) ((3*t+1:Nat):Int)=(a4s t I a:Int):=rfl;have hw:a4s t I a<3*t+1:=axG _ (by omega);obtain⟨f,f1,f2⟩:=d2.sh (a4s t I a) hw;refine⟨a.2.2.1,a.2.2.2.2.1,ByteArray.empty,nnN (vN a.2.2.2.2.2.1),m,nnN (vN a.2.2.2.2.2.1),f,CK P G t a,Sb Q t I a,?_,d2.mat,⟨by simp[Sb],λj hj=>?_⟩,⟨⟨by simp[CK,vD];omega,by simp[Sb];omega⟩,λh=>absurd h c1,λ_=>⟨rfl,rfl,rfl,rfl,rfl⟩,λh=>by omega,λh=>by omega⟩⟩
  ·rw[O6,w1,w2,w3]at hr;simp(disch:=omega) only[WW,f1,show∀ {α:Type} (n:Nat) (g:Nat->α),SlV.isMs (.fz n g)=false from λ_ _=>rfl]at hr;exact hr.symm
  ·rw[Sb,Od hj];exact f2 j hj
 have e:(bif (a.2.1==4)then k1 (((a.2.1==4),()),())else k1 (((a.2.1==8),()),()))=k1 ((false,()),()):=by rw[bf (λh=>c2 (.inl h)),bf (λh=>c2 (.inr h))];rfl
 rw[e]at hr;unfold k1 at hr;simp only[bO,hD]at hr;by_cases c3:a.2.1=5
 ·rw[c3]at hr⊢;exact⟨0,a.2.2.2.2.1,_,0,_,0,zNN,[],[],hr.symm,Ji,Jj,⟨by decide,λh=>by omega,λh=>by omega,λ_=>⟨rfl,rfl,rfl,rfl,rfl⟩,λh=>by omega⟩⟩
 by_cases c4:a.2.1=6
 ·rw[c4]at hr⊢;exact⟨0,a.2.2.2.2.1,_,0,_,0,zNN,[],[],hr.symm,Ji,Jj,⟨by decide,λh=>by omega,λh=>by omega,λ_=>⟨rfl,rfl,rfl,rfl,rfl⟩,λh=>by omega⟩⟩
 ·rw[bf c3,bf c4]at hr;exact⟨a.2.2.1,a.2.2.2.2.1,ByteArray.empty,0,_,0,zNN,[],[],hr.symm,Ji,Jj,⟨by decide,λh=>by omega,λh=>by omega,λh=>by omega,λ_=>⟨rfl,rfl,rfl,rfl,rfl⟩⟩⟩
open Go Go.Den Go.Num
theorem a5k: ∀(l:List OU) (o:fO) (i:Nat),(apps o l).2 i=if i<o.1 then o.2 i else if h:i-o.1<l.length then l[i-o.1]else(apps o l).2 i
 | [],o,i=>by
  show o.2 i=_;split
  ·rfl
  ·rw[dif_neg (by simp)];rfl
 |x::l,o,i=>by
  have ih:=a5k l (app o x) i;have e:(apps o (x::l))=apps (app o x) l:=rfl;by_cases h0:i<o.1
  ·rw[axp h0,e,ih,axp (show i<(app o x).1 by simp only[app];omega)];simp only[app];exact Rj h0
  ·rw[axi h0];by_cases h1:i=o.1
   ·subst h1;rw[dif_pos (by simp),e,ih,axp (show o.1<(app o x).1 by simp only[app];omega)];simp only[app,ayu,List.getElem_cons_zero];rw[Rk (axr _),ayu];rfl
   ·split
    ·rename_i h2;rw[e,ih,axi (show¬i<(app o x).1 by simp only[app];omega)];have h3:i-(app o x).1<l.length:=by simp only[app];simp only[ayb]at h2;omega
     rw[dif_pos h3];have h4:i-o.1=(i-(app o x).1)+1:=by simp only[app];omega
     simp only[h4,List.getElem_cons_succ]
    ·rfl
theorem aaJ {l:List OU}{i:Nat}(h:i<l.length):(frz (apps zNO l)).2 i=l[i]:=by show(apps zNO l).2 (0+i)=_;rw[axA,a5k,axi (show¬i<(zNO:fO).1 from axS _),dif_pos (show i-(zNO:fO).1<l.length from h)];rfl
theorem SE(l:List OU):(frz (apps zNO l)).1=l.length:=by show(apps zNO l).1=_;rw[gF];exact axA _
def Iq(f:Fr)(o:fO):Prop:= ∀i,i<o.1-> ∃key,Wo { f with key:=key } (o.2 i)
theorem Sg {f:Fr}{l:List OU}(h: ∀x∈l,∃key,Wo { f with key:=key } x):Iq f (frz (apps zNO l)):=λi hi=>by rw[SE]at hi;rw[aaJ hi];exact h _ (List.getElem_mem hi)
theorem a6R(f:Fr):Iq f zNO:=λi hi=>absurd hi (axS _)
theorem Yu {f:Fr}{o:fO}(h:Iq f o)(hn:o.1<9223372036854775808):uq o.1 o.2 o.1 o.2=some true:=by
 rw[Fe];unfold Ck;obtain⟨_,y1,rfl⟩:=aP (R:=j4) (S:=Unit) (λi _=>wh o.1 o.2 o.1 o.2 (i:Int)) (λ_=>rT) (λ_ s=>s=()) o.1
  (λi hi _ _=>by
   obtain⟨key,_,nm,m,ny,y,M,L,he,hm,hy,⟨s1,s2,s3⟩,_⟩:=h i hi;have hsz:=hm.sz;have hyl:=hy.1;refine⟨(),?_,rfl⟩;obtain⟨x1,x2,x3,x4,x5,x6,hx⟩: ∃x1 x2 x3 x4 x5 x6,o.2 i=(x1,(x2,(x3,(x4,(x5,(x6,((SlV.fz nm m,SlV.fz ny y)))))))):=by generalize o.2 i=x at*;obtain⟨x1,x2,x3,x4,x5,x6,x7,x8⟩:=x;simp only[azJ]at he;obtain⟨rfl,rfl⟩:=he;exact⟨x1,x2,x3,x4,x5,x6,rfl⟩
   have hs:Hz (x2,(x3,(x4,(x5,(x6,((nm,m),(ny,y))))))) (x2,(x3,(x4,(x5,(x6,((nm,m),(ny,y)))))))=some true:=by rw[QX];unfold Pd;have e1:=Xt hm hm (by omega) (λi hi=>by have:=s3 i hi;omega);have e2:=KE hy hy (by omega);rw[dJ rfl]at e1 e2;simp only[ayA,bM,(uT _ _).2,Yg,e1,e2]
   have e0:(x1 !=x1)=false:=ayJ _;have i1:(SlV.fz nm m).isMs=false:=rfl;have i2:(SlV.fz ny y).isMs=false:=rfl;have hs':Hz (x2,(x3,(x4,(x5,(x6,(((SlV.fz nm m).len,SlV.fn SlV.nil (SlV.fz nm m)),((SlV.fz ny y).len,SlV.fn (λ_=>0) (SlV.fz ny y)))))))) (x2,(x3,(x4,(x5,(x6,(((SlV.fz nm m).len,SlV.fn SlV.nil (SlV.fz nm m)),((SlV.fz ny y).len,SlV.fn (λ_=>0) (SlV.fz ny y))))))))=some true:=hs;simp(disch:=omega) only[j4,wh,WW,CC,axE,hx,e0,i1,i2,hs',bO,aym])
  (λ_ _=>by simp(disch:=omega) only[j4,wh,WW,CC]) () rfl
 have y1':aD j4 (((o.1,o.2),((o.1,o.2),(0,()))),())=some rT:=y1;simp only[ayJ,bO,y1',rT]
def Xz(l:List (ByteArray×Rc))(k:ByteArray):Prop:= ∃e∈l,e.1=k
theorem Q8: ∀ {l:List (ByteArray×Rc)} {k},Xz l k-> ∃e,l[gH l k]?=some e
 | [],k,⟨e,h,_⟩=>absurd h (by simp)
 |a::l,k,⟨e,h,he⟩=>by
  simp only[gH];split
  ·exact⟨a,by simp⟩
  ·rename_i hn;rcases ayw.1 h with rfl|h
   ·exact absurd he hn
   ·obtain⟨q,hq⟩:=Q8 ⟨e,h,he⟩;exact⟨q,by simp[hq]⟩
theorem abR {l:List (ByteArray×Rc)}{k:ByteArray}{e}(h:l[gH l k]?=some e):Xz l k:=⟨e,ayc h,wQ h⟩
open Classical in
theorem a6S(l:List (ByteArray×Rc))(k:ByteArray)(x:Rc):(Js l k x).map (·.1)=if Xz l k then l.map (·.1)else l.map (·.1)++[k]:=by
 unfold Js;cases h:l[gH l k]? with
 |none=>
  rw[axi (λhk=>by obtain⟨e,he⟩:=Q8 hk;rw[h]at he;cases he)];simp
 |some e=>
  rw[axp (abR h)];apply ayj;intro j;simp only[axW,az1];by_cases c:gH l k=j
  ·subst c;simp[h]
  ·simp only[axi c];cases l[j]?<;>rfl
theorem Wz {l:List (ByteArray×Rc)}{k:ByteArray} :Xz l k↔k∈l.map (·.1):=by simp only[Xz,azA]
open Classical in
theorem a2o(l:List (ByteArray×Rc))(k:ByteArray)(x:Rc)(q:ByteArray):Xz (Js l k x) q↔Xz l q\/q=k:=by
 rw[Wz,a6S];split
 ·rename_i h;rw[<-Wz];exact⟨.inl,λhh=>hh.elim id λe=>by rw[e];exact h⟩
 ·rw[ay0,<-Wz,ayp]
theorem aaK {l:List (ByteArray×Rc)}{k:ByteArray}{x:Rc}{e}(h:e∈Js l k x):e∈l\/e=(k,x):=by
 unfold Js at h;cases hl:l[gH l k]? with
 |none=>
  rw[hl]at h;simp only[ay0,ayp]at h;exact h
 |some q=>
  rw[hl]at h;simp only at h;obtain⟨j,hj,rfl⟩:=List.getElem_of_mem h;rw[List.length_modify]at hj;rw[List.getElem_modify];split
  ·rename_i c;subst c;have:l[gH l k]=q:=by rw[axn hj]at hl;exact ay6 hl
   rw[this];exact .inr (by rw[wQ hl])
  ·exact .inl (List.getElem_mem hj)
theorem aaL(l:List (ByteArray×Rc))(k:ByteArray):(∃e∈l,e.2=AQ l k/\e.1=k)\/AQ l k=newR:=by
 unfold AQ;cases h:l[gH l k]? with
 |none=>exact .inr rfl
 |some e=>exact .inl ⟨e,ayc h,rfl,wQ h⟩
structure Good(h:Hd)(s:Sv)(j:Nat):Prop where
 srt:rH s.n s.ks
 few:s.n<=j
 full: ∀i,i<s.n->Xz s.l (s.ks i)/\(1<=(s.ks i).size/\(s.ks i).size<=8)
 rcs: ∀e∈s.l,pY e.2
theorem pY.wf {x:Rc}(h:pY x):WFc x.c:=λi _ hp=>(h.c i).w.2.2 hp
theorem Good.ok {h:Hd}{s:Sv}{j:Nat}(g:Good h s j)(hj:j<1000):s.Ok:=⟨g.srt,axB g.few hj,λe he=>(g.rcs e he).wf⟩
theorem Good.tick {h:Hd}{s:Sv}{j:Nat}(g:Good h s j):s.Full:=λi hi=>Q8 (g.full i hi).1
theorem Good.get {h:Hd}{s:Sv}{j:Nat}(g:Good h s j)(k:ByteArray):pY (AQ s.l k):=by
 rcases aaL s.l k with⟨e,he,e1,_⟩|e
 ·rw[<-e1];exact g.rcs e he
 ·rw[e];exact aaF
theorem Good.out {h:Hd}{s:Sv}{j:Nat}(g:Good h s j)(o:fO):Good h { s with o:=o } j:=⟨g.srt,g.few,g.full,g.rcs⟩
structure a5l(k op:Int)(st:aH)(dg:ByteArray)(nm:Nat)(m:Nat->SlV (Nat->Int))(ny:Nat)(y:Nat->(Nat->Int))(M:List Z0G)(L:List Nat):Prop where
 mat:jm nm m M
 row:tK ny y L
 few:M.length<1000/\L.length<1000
 len: ∀i,i<nm->(m i).len<1000
 byt:(iQ M).length<=600
noncomputable def KG(h:Hd)(from_ k op:Int)(key:ByteArray)(st:aH)(dg:ByteArray)(v:VA)(s:Sv):List OU:=(jN h from_ k op key st dg v (AQ s.l key)).2
noncomputable def Yv(h:Hd)(from_ k op:Int)(key:ByteArray)(st:aH)(dg:ByteArray)(v:VA)(s:Sv):Sv:=
 ⟨Js s.l key (jN h from_ k op key st dg v (AQ s.l key)).1,(h.opn key from_ s).2.1.2.2.1.1,(h.opn key from_ s).2.1.2.2.1.2,(h.opn key from_ s).2.1.2.2.2,frz (apps zNO (KG h from_ k op key st dg v s))⟩
theorem a4t {M:List Z0G}(h:iQ M≠ []):AA M=true:=by
 cases he:AA M with
 |true=>rfl
 |false=>exfalso;apply h;unfold iQ;rw[he];rfl
theorem abS {k c:Int}(h:Wj k c)(hk:k=5\/k=6):c=3:=by unfold Wj at h;omega
theorem abT {k c:Int}(h:Wj k c)(hk:k=1):c=8:=by unfold Wj at h;omega
theorem aaM {h:Hd}(hh:h.Ok){from_ k op:Int}{key:ByteArray}{st:aH}{dg:ByteArray}{nm:Nat}{m:Nat->SlV (Nat->Int)}{ny:Nat}{y:Nat->(Nat->Int)}{M:List Z0G}{L:List Nat}(hm:a5l k op st dg nm m ny y M L)(hmay:Wm h from_ k op key st dg M L){x:Rc}(hx:pY x):
  jo (h.fr key) (jN h from_ k op key st dg (st,(zF (iQ M),((nm,m),(ny,y)))) x):=by
 have hF:(h.fr key).Ok2:= { hh.f key with key:=hmay.1.1 };have hk:k=1\/k=2\/k=5\/k=6\/k=8\/k=4:=by have:=hmay.2.1;unfold iN at this;omega
 have h3:=hmay.1.2.2;have h2:=hmay.1.2.1;have hv:k=4\/k=8->Gv (st,(zF (iQ M),((nm,m),(ny,y)))):=λc=>by obtain⟨w1,w2,w3,w4⟩:=a4n hmay.1 c;exact⟨M,L,hm.mat,hm.row,⟨hm.few.1,hm.few.2,hm.len⟩,.inr ⟨w1,Yf _,.inr ⟨a4t w3,w2⟩⟩⟩
 have hvote:k=5\/k=6->mJ st/\dg.size=32:=λc=>by obtain⟨a1,a2,a3,a4⟩:=ajd (abS h3 c);exact⟨h2.1 a1,h2.2.1 a2⟩
 have hop:k=1->1<=op/\op<=1048576:=λc=>by obtain⟨a1,a2,a3,a4⟩:=aje (abT h3 c);exact h2.2.2.2 a4
 unfold jN;rcases hk with rfl|rfl|rfl|rfl|rfl|rfl
 ·rw[axp rfl];exact a4q hF _ (hop rfl) hx
 ·rw[axi (by decide),axp rfl];exact a6Q _ _ hx
 ·rw[axi (by decide),axi (by decide),axp rfl];exact a6O hF _ (hvote (.inl rfl)).1 (hvote (.inl rfl)).2 hx
 ·rw[axi (by decide),axi (by decide),axi (by decide),axp rfl];exact a6P hF _ (hvote (.inr rfl)).1 (hvote (.inr rfl)).2 hx
 ·rw[axi (by decide),axi (by decide),axi (by decide),axi (by decide),axp rfl];exact Yt hF (hv (.inr rfl)) hx
 ·rw[axi (by decide),axi (by decide),axi (by decide),axi (by decide),axi (by decide)];obtain⟨w1,w2,w3,w4,w5,_⟩:=a4n hmay.1 (.inl rfl);exact a0c hF _ ⟨hv (.inl rfl),⟨by show 0<=op;omega,w5⟩,λ_=>w1⟩ w1 (by show 0<op;omega) hx
def ER(h:Hd)(from_ k op:Int)(key:ByteArray)(st:aH)(dg:ByteArray)(M:List Z0G)(L:List Nat)(s:Sv):Prop:=Wm h from_ k op key st dg M L/\(h.opn key from_ s).1.2.2.1=0
theorem ajg(h:Hd)(key:ByteArray)(from_:Int)(s:Sv):(h.opn key from_ s).2.1=h.sp (h.opn key from_ s).2.1.2.2.1.1 (h.opn key from_ s).2.1.2.2.1.2 (h.opn key from_ s).2.1.2.2.2:=by
 unfold Hd.opn vC
 repeat' split
 all_goals rfl
theorem aaN {h:Hd}{key:ByteArray}{from_:Int}{s:Sv}(h0:(h.opn key from_ s).1.2.2.1=0):
  (1<=key.size/\key.size<=8)/\(h.opn key from_ s).2.1.2.2.1.1<=s.n+1/\ ∀i,i<(h.opn key from_ s).2.1.2.2.1.1->(h.opn key from_ s).2.1.2.2.1.2 i=key\/ ∃j,j<s.n/\(h.opn key from_ s).2.1.2.2.1.2 i=s.ks j:=by
 revert h0;unfold Hd.opn vC;split
 ·intro h;exact absurd h (by show¬((1:Int)=0);decide)
 ·rename_i hc;have hk:1<=key.size/\key.size<=8:=axN λh=>hc (.inl h)
  split
  ·intro _;exact⟨hk,Nat.le_succ _,λi hi=>.inr ⟨i,hi,rfl⟩⟩
  ·split
   ·intro h;exact absurd h (by show¬((7:Int)=0);decide)
   ·intro _;refine⟨hk,axr _,λi hi=>?_⟩;have hi':i<s.n+1:=hi;show AL s.ks (before s.n s.ks key) key i=key\/ ∃j,j<s.n/\AL s.ks (before s.n s.ks key) key i=s.ks j;have hb:before s.n s.ks key<=s.n:=a02 _ _ _;rw[a03];split
    ·exact .inr ⟨i,by omega,rfl⟩
    ·split
     ·exact .inl rfl
     ·exact .inr ⟨i-1,by omega,rfl⟩
theorem Q9 {h:Hd}(hh:h.Ok){from_ k op:Int}{key:ByteArray}{st:aH}{dg:ByteArray}{nm:Nat}{m:Nat->SlV (Nat->Int)}{ny:Nat}{y:Nat->(Nat->Int)}{M:List Z0G}{L:List Nat}(hm:a5l k op st dg nm m ny y M L){s:Sv}{j:Nat}(g:Good h s j)(ht:ER h from_ k op key st dg M L s):
  Good h (Yv h from_ k op key st dg (st,(zF (iQ M),((nm,m),(ny,y)))) s) (j+1)/\oQ (h.fr key) (KG h from_ k op key st dg (st,(zF (iQ M),((nm,m),(ny,y)))) s):=by
 have hr:=aaM hh hm ht.1 (g.get key);obtain⟨k1,k2,k3⟩:=aaN ht.2;have k4:=a05 g.srt key from_ (h.N:Int) 3 s.u;refine⟨⟨k4.1,az3 k2 (Nat.succ_le_succ g.few),λi hi=>?_,λe he=>?_⟩,hr.2⟩
 ·rcases k3 i hi with e|⟨j',hj,e⟩
  ·show Xz (Js _ _ _) ((h.opn key from_ s).2.1.2.2.1.2 i)/\_<=((h.opn key from_ s).2.1.2.2.1.2 i).size/\((h.opn key from_ s).2.1.2.2.1.2 i).size<=_;rw[e];exact⟨(a2o _ _ _ _).2 (.inr rfl),k1⟩
  ·show Xz (Js _ _ _) ((h.opn key from_ s).2.1.2.2.1.2 i)/\_<=((h.opn key from_ s).2.1.2.2.1.2 i).size/\((h.opn key from_ s).2.1.2.2.1.2 i).size<=_;rw[e];exact⟨(a2o _ _ _ _).2 (.inl (g.full j' hj).1),(g.full j' hj).2⟩
 ·rcases aaK he with h1|rfl
  ·exact g.rcs e h1
  ·exact hr.1
open Classical in
theorem DR {h:Hd}(hh:h.Ok){from_:Int}(hf: -9223372036854775808<=from_/\from_<9223372036854775808){k op:Int}{key:ByteArray}{st:aH}{dg:ByteArray}{nm:Nat}{m:Nat->SlV (Nat->Int)}{ny:Nat}{y:Nat->(Nat->Int)}{M:List Z0G}{L:List Nat}(hm:a5l k op st dg nm m ny y M L){s:Sv}{j:Nat}(g:Good h s j)(hj:j<1000):
  bn from_ k op key st dg nm m ny y (h.mk' s)=
   some (if ER h from_ k op key st dg M L s then((frz (apps zNO (KG h from_ k op key st dg (st,(zF (iQ M),((nm,m),(ny,y)))) s)),()),h.mk' (Yv h from_ k op key st dg (st,(zF (iQ M),((nm,m),(ny,y)))) s))else((zNO,()),h.mk' s)):=by
 have hsz:=hm.mat.sz;have hyl:=hm.row.1;have hfw:=hm.few;by_cases c:ER h from_ k op key st dg M L s
 ·rw[axp c];exact step_ok hh hf hm.mat hm.row (by omega) (by omega) (g.ok hj) (LV hm.mat (by omega) (axB hm.byt (by decide))) c.1 c.2 (ajg h key from_ s)
 ·rw[axi c];exact abL hh hf hm.mat hm.row (by omega) (by omega) (g.ok hj) c
theorem adx {n:Int}{s:Nat}(h:s<=64):bL .i64 n (s:Int)=n/2^s:=by unfold bL;rw[axE,show min s (IntKind.bits .i64)=s from ayT h];exact Int.fdiv_eq_ediv_of_nonneg _ (Int.le_of_lt (Int.pow_pos (by decide)))
theorem a2p {a b:Int}(h:1<=a/\a<=7/\1<=b/\b<=4):sU a b=some (yG 0 a b 0 (λ_=>ByteArray.empty) []):=by rw[Ak,zA,bF (by omega),bO,bF (by omega),bO,bF (by omega),bO,bF (by omega),bO]
theorem a6T {a b:Int}(h: ¬(1<=a/\a<=7/\1<=b/\b<=4)):sU a b=some (FB 1):=by
 rw[Ak,zA];by_cases h1:a<1
 ·rw[dJ h1];rfl
 ·rw[bF h1,bO];by_cases h2:a>7
  ·rw[dJ h2];rfl
  ·rw[bF h2,bO];by_cases h3:b<1
   ·rw[dJ h3];rfl
   ·rw[bF h3,bO,dJ (by omega)];rfl
abbrev a0e(h:Hd):=(((h.P:Int),((h.Q:Int),(h.G:Int))),((h.T:Int),((h.I:Int),((h.N:Int),((3:Int),(((h.N:Int),((3:Int),((.nil:SlV ByteArray),(.nil:SlV Int)))),((.nil:SlV Z0f),(.nil:SlV OU))))))))
def zS:Sv:=⟨[],0,λ_=>ByteArray.empty,[],zNO⟩
structure Hd.Ok3(h:Hd):Prop extends h.Ok where
 p1:1<h.P
 p62:h.P<4611686018427387904
 q31:h.Q<2147483648
 q20:1000000<h.Q
theorem Hd.Ok3.q512 {h:Hd}(hh:h.Ok3):512<=h.Q:=hh.grp.big
theorem ajh(which:Int): ∃k l ga g P Q G,Ni which=some ((k,l),ga)/\a3V k l ga g P Q G/\P<4611686018427387904/\Q<2147483648/\1000000<Q:=by
 rw[QG];unfold OX;have hm:av .and .i64 which 1=which%(2^1:Nat):=NR (k:=1) (by decide);by_cases h:which%2=1
 ·have h1:av .and .i64 which 1=1:=by rw[hm];exact h
  simp(disch:=omega) only[WW,h1,Xi];obtain⟨g,hg⟩:=a3W;exact⟨3,EH,LJ,g,_,_,_,rfl,hg,by decide,by decide,by decide⟩
 ·have h1:av .and .i64 which 1=0:=by rw[hm];omega
  simp(disch:=omega) only[WW,h1,KA];obtain⟨g,hg⟩:=Vu;exact⟨3,EG,LH,g,_,_,_,rfl,hg,by decide,by decide,by decide⟩
theorem WA(which:Int): ∃h:Hd,h.Ok3/\(which=0->h.T=1/\h.I=1)/\
  qb which=some (((),(a0e h,(((h.P:Int),((h.Q:Int),(h.G:Int))),(true,())))),(h.sp 0 (λ_=>ByteArray.empty) [],(h.sn [] zNO,()))):=by
 obtain⟨k,l,ga,g,P,Q,G,p1,hg,hP,hQ,hQ2⟩:=ajh which;have hgg:=hg.group;have hG:=hgg.gP;have hG1:=hgg.g1;obtain⟨fr,f1,_⟩:=lu hgg;have hO:=a1H (P:=P) (Q:=Q) (G:=G) hg.k2 (by have:=hg.k8;omega) hg.p hg.q hg.gen (by omega) (by omega) (by omega);have s1:av .and .i64 (bL .i64 which 1) 1=which/2%2:=by rw[show(1:Int)=((1:Nat):Int)from rfl,adx (n:=which) (s:=1) (by decide)];exact NR (x:=which/2^1) (k:=1) (by decide)
 have s2:av .and .i64 (bL .i64 which 2) 255=which/4%256:=by rw[show(2:Int)=((2:Nat):Int)from rfl,adx (n:=which) (s:=2) (by decide)];exact NR (x:=which/2^2) (k:=8) (by decide)
 have hT1:0<=which/2%2/\which/2%2<2:=by omega
 have hI1:0<=which/4%256/\which/4%256<256:=by omega
 have hz:which=0->which/2%2=0/\which/4%256=0:=by omega
 rw[FL];unfold CG;simp only[p1,hg.made,s1,s2,hO];generalize which/2%2=u at*;generalize which/4%256=v at*;obtain⟨T,hT⟩: ∃T:Nat,(T:Int)=1+u:=⟨(1+u).toNat,by omega⟩;have w1:IntKind.i64.wrap (1+u)=(T:Int):=by rw[wrap_i64 (by omega)];omega
 have w2:IntKind.i64.wrap (IntKind.i64.wrap (3*(T:Int))+1)=((3*T+1:Nat):Int):=by rw[wrap_i64 (x:=3*(T:Int)) (by omega),wrap_i64 (by omega)];omega
 have hv:0<=v%((3*T+1:Nat):Int)/\v%((3*T+1:Nat):Int)<((3*T+1:Nat):Int):=⟨Int.emod_nonneg _ (by omega),Int.emod_lt_of_pos _ (by omega)⟩;obtain⟨I,hI⟩: ∃I:Nat,(I:Int)=1+v%((3*T+1:Nat):Int):=⟨(1+v%((3*T+1:Nat):Int)).toNat,by omega⟩;have w3:IntKind.i64.wrap (1+Int.tmod v ((3*T+1:Nat):Int))=(I:Int):=by rw[abq hI1.1,wrap_i64 (by omega)];omega
 refine⟨⟨g,P,Q,G,T,I,3*T+1⟩,⟨⟨hgg,by show 1<=T/\T<=2;omega,rfl,by show 1<=I/\I<=3*T+1;omega⟩,by show 1<P;omega,hP,hQ,hQ2⟩,λh0=>?_,?_⟩
 ·obtain⟨h1,h2⟩:=hz h0;subst h1;subst h2;have e:T=1:=by omega
  subst e;exact⟨rfl,by show I=1;simp at hI;omega⟩
 ·have hne: ¬((3*T+1:Nat):Int)=0:=by omega
  have hs:bD (some g) (T:Int) (I:Int) 3=some (kX 0 ((3*T+1:Nat):Int) 3 0 (λ_=>ByteArray.empty) [] g (T:Int) (I:Int) ((3*T+1:Nat):Int) 3 [] 0 (λi=>(zNO:fO).2 i)):=by rw[mF];unfold jY;simp only[f1,w2,bF (show¬(T:Int)<1 by omega),bF (show¬(T:Int)>2 by omega),bF (show¬(I:Int)<1 by omega),bF (show¬(I:Int)>((3*T+1:Nat):Int)by omega),bO,a2p (a:=((3*T+1:Nat):Int)) (b:=3) (by omega),ayJ,yG,kX]
  have hr:Ew ((P:Int),((Q:Int),(G:Int))) (T:Int) (I:Int) 3=some (some (a0e ⟨g,P,Q,G,T,I,3*T+1⟩)):=by rw[UY];unfold UW;simp only[w2]
  simp only[w1,w2,w3,bF hne,bO,hs,hr,kX,ayA,bM]
theorem Yw {P G:Nat}(e x:Nat->Nat): ∀n,jk (λj=>(G^e j%P)^x j) n%P=G^Vs e x n%P
 |0=>by simp[jk,Vs]
 |n+1=>by simp only[jk,Vs];rw[ayW,Yw e x n,<-Nat.pow_mod,<-ayW,<-azg,<-ayF]
section
variable {g:iY} {P Q G:Nat}
theorem Oi {f g:Nat->Nat} : ∀ {n:Nat},(∀i,i<n->f i=g i)->jk f n=jk g n
 |0,_=>rfl
 |n+1,h=>by simp only[jk];rw[Oi λi hi=>h i (by omega),h n (by omega)]
theorem a2q(h:cO g P Q G){t:Nat}(ht:t<=6)(e:Nat->Nat):Pz P Q (t+1) (λj=>((List.range (t+1)).map λj=>G^e j%P).getD j 0):=
 ⟨by omega,by omega,λj hj=>by show InP P Q (((List.range (t+1)).map λj=>G^e j%P).getD j 0);rw[Od hj];exact h.pow_in _⟩
theorem abU {t:Nat}(e:Nat->Nat)(i:Nat):atN P (t+1) (λj=>((List.range (t+1)).map λj=>G^e j%P).getD j 0) i=G^Vs e (λj=>i^j) (t+1)%P:=by unfold atN;rw[<-Yw e (λj=>i^j) (t+1)];rw[Oi (f:=λj=>((List.range (t+1)).map λj=>G^e j%P).getD j 0^i^j) (g:=λj=>(G^e j%P)^i^j) λj hj=>by rw[Od hj]]
theorem a4u(h:cO g P Q G){t:Nat}(ht:t<=6)(e:Nat->Nat){i:Nat}(hi:1<=i/\i<=7)(x:Nat):
  uU P Q G (t+1) (λj=>((List.range (t+1)).map λj=>G^e j%P).getD j 0) (i:Int) (evN e (t+1) x Q)↔evN e (t+1) x Q=evN e (t+1) i Q:=by
 unfold uU;rw[axE,abU,a6q h.pp h.pq h.g1 h.gP h.order];have h0:evN e (t+1) x Q<Q:=axG _ h.qpos;rw[axk h0];exact⟨λhh=>hh.2.2.2,λhh=>⟨⟨by omega,by omega⟩,h0,a2q h ht e,hh⟩⟩
theorem wR(a b:Nat->Nat)(t nn:Nat):(vD P G a b t nn).length=nn:=by simp[vD]
theorem a6U(h:cO g P Q G){t nn:Nat}(ht:1<=t/\t<=2)(hn:1<=nn/\nn<=2)(a b:Nat->Nat):PY P Q (t:Int) (vD P G a b t nn):=by refine⟨by omega,by rw[wR];omega,λi hi=>?_⟩;rw[wR]at hi;rw[wP hi];simp only[azF,azG];exact⟨by omega,a2q h (by omega) _⟩
def Oj(Q:Nat)(a b:Nat->Nat)(t nn x:Nat):List Nat:=(List.range nn).map λk=>evN (coN a b t k) (t+1) x Q
theorem a2r(h:cO g P Q G){t nn:Nat}(ht:1<=t/\t<=2)(hn:1<=nn/\nn<=2)(a b:Nat->Nat){i:Nat}(hi:1<=i/\i<=7)(x:Nat):
  uV P Q G (vD P G a b t nn) (i:Int) (Oj Q a b t nn x)↔ ∀k,k<nn->evN (coN a b t k) (t+1) x Q=evN (coN a b t k) (t+1) i Q:=by
 unfold uV;rw[wR];have key: ∀k,k<nn->(uU P Q G ((vD P G a b t nn).getD k []).length (λj=>((vD P G a b t nn).getD k []).getD j 0) (i:Int) ((Oj Q a b t nn x).getD k 0)↔evN (coN a b t k) (t+1) x Q=evN (coN a b t k) (t+1) i Q):=λk hk=>by have hs:(Oj Q a b t nn x).getD k 0=evN (coN a b t k) (t+1) x Q:=Od hk;rw[wP hk,hs];simp only[azF,azG];exact a4u h (by omega) _ hi x
 constructor
 ·intro hh k hk;exact(key k hk).1 (hh.2.2 k hk)
 ·intro hh;exact⟨by omega,by simp[Oj],λk hk=>(key k hk).2 (hh k hk)⟩
end
theorem abV {P G:Nat}{a b:Nat->Nat}{t nn n:Nat}(ht:t<=6){m:Nat->SlV (Nat->Int)}(hm:jm n m (vD P G a b t nn)): ∀i,i<n->(m i).len<1000:=λi hi=>by have h1:=hm.len i hi;have h2:=hm.sz;rw[wR]at h2;rw[wP (by omega)]at h1;simp only[azF,azG]at h1;omega
theorem a4v {P G:Nat}(a b:Nat->Nat){t nn:Nat}(ht:t<=6)(hn:1<=nn/\nn<=25):AA (vD P G a b t nn)=true:=by refine axw ⟨by rw[wR];exact hn,λi hi=>?_⟩;rw[wR]at hi;unfold xG;rw[wP hi,wP (by omega)];exact⟨by simp,by simp,by simp;omega⟩
theorem a6V {P G:Nat}(a b:Nat->Nat){t nn:Nat}(ht:t<=6)(hn:1<=nn/\nn<=25):iQ (vD P G a b t nn)≠ []:=by unfold iQ;rw[axp (a4v a b ht hn)];exact List.cons_ne_nil _ _
theorem a0f {h:Hd}(hh:h.Ok3){a:Wy}{op:Int}{st:aH}{dg:ByteArray}{nm:Nat}{m:Nat->SlV (Nat->Int)}{ny:Nat}{y:Nat->(Nat->Int)}{M:List Z0G}{L:List Nat}(hm:jm nm m M)(hy:tK ny y L)(hs:adw h.P h.Q h.G h.T h.I a op st dg M L):a5l a.2.1 op st dg nm m ny y M L:=by
 have hf:=hs.few;have hT:=hh.T;have h0:=hh.p1;have key:M=[]\/M=CK h.P h.G h.T a:=by
  by_cases c1:a.2.1=1\/a.2.1=2
  ·exact .inl (hs.listen c1).2.2.2.1
  by_cases c2:a.2.1=4\/a.2.1=8
  ·exact .inr (hs.shares c2).2.2.2.1
  by_cases c3:a.2.1=5\/a.2.1=6
  ·exact .inl (hs.vote c3).2.2.2.1
  exact .inl (hs.other ⟨by omega,by omega,by omega,by omega,by omega,by omega⟩).2.2.2.1
 refine⟨hm,hy,⟨by omega,by omega⟩,?_,?_⟩
 ·rcases key with rfl|rfl
  ·intro i hi;have:=hm.sz;simp only[List.length_nil]at this;omega
  ·exact abV (by omega) hm
 ·rcases key with rfl|rfl
  ·have:iQ []=[]:=by unfold iQ;rw[axi];intro hc;have:=of_decide_eq_true hc;exact absurd this.1.1 (by decide)
   rw[this];exact ays _
  ·exact M0 h.P h.G h.T (by omega) hh.p62 (by omega) a
open Go Go.Den Go.Num
section
variable (key d:ByteArray) (w:(Nat×(Nat->SlV (Nat->Int)))×(Nat×(Nat->(Nat->Int)))) (rec:FV)
abbrev fA1:Fr:=⟨1,1,4,key⟩
abbrev vA1:VA:=((1,1),(d,w))
theorem Jk {F:FU}{b:Nat->Bool}(h: ∀k,hit (F k 0 1) (1,1) d=b k):yM 4 F (1,1) d=vcn b 4:=by unfold yM;rw[axp (by decide)];exact PI λk _=>h k
theorem SF(F:FU)(s:Nat)(k:Nat):pW F ((s+1:Nat):Int) (1,1) d k 0 1=if k=s then((1,1),d)else F k 0 1:=by
 unfold pW;have e:(((s+1:Nat):Int)-1).toNat=s:=by omega
 rw[e];by_cases h:k=s
 ·rw[axp h,axp ⟨h,rfl,rfl⟩]
 ·rw[axi h,axi λhh=>h hh.1]
theorem Ol {F:FU}{b:Nat->Bool}(h: ∀k,hit (F k 0 1) (1,1) d=b k)(s:Nat)(k:Nat):hit (pW F ((s+1:Nat):Int) (1,1) d k 0 1) (1,1) d=(k==s||b k):=by
 rw[SF];by_cases e:k=s
 ·rw[axp e,a1O,e,ayA,Bool.true_or]
 ·rw[axi e,h,beq_eq_false_iff_ne.2 e,azK]
theorem a4w(k:Nat):hit (nV k 0 1) (1,1) d=false:=rfl
def xA1:Rc:= { newR with c:=takeC newR (vA1 d w,1),e:=pW nV 1 (1,1) d }
theorem ady(k:Nat):hit ((xA1 d w).e k 0 1) (1,1) d=(k==0||false):=Ol d (a4w d) 0 k
theorem asw:iJ (fA1 key) rec 0 (vA1 d w,1) newR=(xA1 d w,EJ (fA1 key) 5 (1,1) d):=by
 unfold iJ;have l1: ¬ ¬oN (1,1) (0,0):=by decide
 have l2:O8 (1,1) (0,0):=by decide
 rw[axi (show¬ ¬oN ((vA1 d w,1):PR).1.1 newR.v.1 from l1),axp (show O8 ((vA1 d w,1):PR).1.1 newR.v.1 from l2)];unfold qD;have l3:okV 4 nV 1 (1,1):=by decide
 rw[axp (show okV (fA1 key).N newR.e (fA1 key).I ((vA1 d w,1):PR).1.1 from l3)];have ex:({ newR with c:=takeC newR (vA1 d w,1),e:=pW newR.e (fA1 key).I (1,1) d } :Rc)=xA1 d w:=rfl;show gG ({ newR with c:=takeC newR (vA1 d w,1),e:=pW newR.e (fA1 key).I (1,1) d },EJ (fA1 key) 5 (1,1) d) (ku (fA1 key) rec (1,1) d)=_;rw[ex];have ce:yM 4 (xA1 d w).e (1,1) d=1:=(Jk d (ady d w)).trans (by decide);have cr:yM 4 (xA1 d w).r (1,1) d=0:=(Jk d (a4w d)).trans (by decide);have h1:qC (fA1 key) (1,1) d (xA1 d w)=(xA1 d w,[]):=by unfold qC uS;rw[axi];show¬((2*1<yM 4 (xA1 d w).e (1,1) d\/1<yM 4 (xA1 d w).r (1,1) d)/\_);omega
 have h2:endP (fA1 key) rec (1,1) d (xA1 d w)=(xA1 d w,[]):=by unfold endP;rw[axi];show¬(2*1<yM 4 (xA1 d w).r (1,1) d/\_);omega
 simp only[gG,ku,h1,h2,ayD]
def xA2:Rc:= { xA1 d w with r:=pW nV 2 (1,1) d }
theorem adz(k:Nat):hit ((xA2 d w).r k 0 1) (1,1) d=(k==1||false):=Ol d (a4w d) 1 k
theorem asx:uW (fA1 key) rec 2 (1,1) d (xA1 d w)=(xA2 d w,[]):=by
 unfold uW;have l3:okV 4 nV 2 (1,1):=by decide
 rw[axp (show okV (fA1 key).N (xA1 d w).r 2 (1,1)from l3)];show ku (fA1 key) rec (1,1) d (xA2 d w)=_;have ce:yM 4 (xA2 d w).e (1,1) d=1:=(Jk d (ady d w)).trans (by decide);have cr:yM 4 (xA2 d w).r (1,1) d=1:=(Jk d (adz d w)).trans (by decide);have h1:qC (fA1 key) (1,1) d (xA2 d w)=(xA2 d w,[]):=by unfold qC uS;rw[axi];show¬((2*1<yM 4 (xA2 d w).e (1,1) d\/1<yM 4 (xA2 d w).r (1,1) d)/\_);omega
 have h2:endP (fA1 key) rec (1,1) d (xA2 d w)=(xA2 d w,[]):=by unfold endP;rw[axi];show¬(2*1<yM 4 (xA2 d w).r (1,1) d/\_);omega
 simp only[gG,ku,h1,h2,ayD]
def xA3:Rc:= { xA1 d w with r:=pW (pW nV 2 (1,1) d) 3 (1,1) d }
theorem adA(k:Nat):hit ((xA3 d w).r k 0 1) (1,1) d=(k==2||(k==1||false)):=Ol d (adz d w) 2 k
def xA4:Rc:= { xA1 d w with r:=pW (pW (pW nV 2 (1,1) d) 3 (1,1) d) 1 (1,1) d }
theorem asy(k:Nat):hit ((xA4 d w).r k 0 1) (1,1) d=(k==0||(k==2||(k==1||false))):=Ol d (adA d w) 0 k
def xA5:Rc:= { xA4 d w with v:=vA1 d w }
def xA6:Rc:= { xA5 d w with c:=upd (xA5 d w).c 0 ((upd ((xA5 d w).c 0).1 1 (vA1 d w,0)),((xA5 d w).c 0).2) }
theorem asz {rec:FV}(hrec:rec=eO (fA1 key) 5):uW (fA1 key) rec 3 (1,1) d (xA2 d w)=(xA6 d w,EJ (fA1 key) 6 (1,1) d++[Ik (fA1 key) 0 (vA1 d w,1)]):=by
 unfold uW;have ok3:okV 4 (xA2 d w).r 3 (1,1):=by refine⟨by decide,by decide,by decide,?_⟩;show(pW nV ((1+1:Nat):Int) (1,1) d 2 0 1).1.1<1;rw[SF,axi (by decide)];decide
 rw[axp ok3];show ku (fA1 key) rec (1,1) d (xA3 d w)=_;have cr:yM 4 (xA3 d w).r (1,1) d=2:=(Jk d (adA d w)).trans (by decide);have ok1:okV 4 (xA3 d w).r 1 (1,1):=by refine⟨by decide,by decide,by decide,?_⟩;show(pW (pW nV ((1+1:Nat):Int) (1,1) d) ((2+1:Nat):Int) (1,1) d 0 0 1).1.1<1;rw[SF,axi (by decide),SF,axi (by decide)];decide
 have h1:qC (fA1 key) (1,1) d (xA3 d w)=(xA4 d w,EJ (fA1 key) 6 (1,1) d):=by
  unfold qC;rw[axp]
  ·rfl
  ·refine⟨.inr ?_,ok1⟩;show 1<yM 4 (xA3 d w).r (1,1) d;omega
 have cr4:yM 4 (xA4 d w).r (1,1) d=3:=(Jk d (asy d w)).trans (by decide);have h2:endP (fA1 key) rec (1,1) d (xA4 d w)=rec (1,1) d (xA4 d w):=by unfold endP;rw[axp];refine⟨?_,show oN (1,1) (0,0)by decide⟩;show 2*1<yM 4 (xA4 d w).r (1,1) d;omega
 have h3:rec (1,1) d (xA4 d w)=(xA6 d w,[Ik (fA1 key) 0 (vA1 d w,1)]):=by
  rw[hrec];show wN (fA1 key) (eO (fA1 key) 4) (1,1) d (xA4 d w)=_;have hv:BM ((xA4 d w).c ((1:Int)-1).toNat) (1,1) d=vA1 d w:=by unfold BM;have e0:Az (((xA4 d w).c ((1:Int)-1).toNat).1 0).1 (1,1) d=false:=rfl;have e1:Az (((xA4 d w).c ((1:Int)-1).toNat).1 1).1 (1,1) d=true:=a1O (1,1) d;rw[e0,e1];rfl
  unfold wN;have e5:({ xA4 d w with v:=BM ((xA4 d w).c (((1,1):aH).2-1).toNat) (1,1) d } :Rc)=xA5 d w:=by show({ xA4 d w with v:=BM ((xA4 d w).c ((1:Int)-1).toNat) (1,1) d } :Rc)=xA5 d w;rw[hv];rfl
  rw[e5];have a0:RX (fA1 key) (xA5 d w)=[]:=rfl;have k0:BL (fA1 key) (xA5 d w) 3=(xA6 d w,[Ik (fA1 key) 0 (vA1 d w,1)]):=by
   simp only[BL];have q0:PN (fA1 key) 0 (xA5 d w)=(xA6 d w,[Ik (fA1 key) 0 (vA1 d w,1)]):=by
    unfold PN;have b0:FW (fA1 key) 0 (xA5 d w)=(xA5 d w,[]):=by unfold FW;rw[axi];exact λh=>absurd h.1 (show¬((0:Int)<0)by decide)
    have b1:FX (fA1 key) 0 (xA5 d w)=(xA6 d w,[Ik (fA1 key) 0 (vA1 d w,1)]):=by
     unfold FX;rw[axp]
     ·rfl
     ·exact⟨show(0:Int)<1 by decide,show¬oN (1,1) (1,1)by decide⟩
    have b2:Il (fA1 key) 0 (xA6 d w)=(xA6 d w,[]):=by unfold Il;rw[axi];exact λh=>absurd h.1 (show¬((0:Int)<0)by decide)
    simp only[gG,b0,b1,b2,ayD,aza]
   have qn: ∀i,i=1\/i=2->PN (fA1 key) i (xA6 d w)=(xA6 d w,[]):=λi hi=>by
    unfold PN;have b0:FW (fA1 key) i (xA6 d w)=(xA6 d w,[]):=by unfold FW;rw[axi];rcases hi with rfl|rfl<;>exact λh=>absurd h.1 (show¬((0:Int)<0)by decide)
    have b1:FX (fA1 key) i (xA6 d w)=(xA6 d w,[]):=by unfold FX;rw[axi];rcases hi with rfl|rfl<;>exact λh=>absurd h.1 (show¬((0:Int)<0)by decide)
    have b2:Il (fA1 key) i (xA6 d w)=(xA6 d w,[]):=by unfold Il;rw[axi];rcases hi with rfl|rfl<;>exact λh=>absurd h.1 (show¬((0:Int)<0)by decide)
    simp only[gG,b0,b1,b2,ayD,aza]
   simp only[gG,q0,qn 1 (.inl rfl),qn 2 (.inr rfl),ayD,aza]
  have w0: ∀rec':FV,wM (fA1 key) rec' (xA6 d w) 3=(xA6 d w,[]):=λrec'=>by
   have wn: ∀i,i=0\/i=1\/i=2->wL (fA1 key) rec' i (xA6 d w)=(xA6 d w,[]):=λi hi=>by unfold wL;rw[axi];rcases hi with rfl|rfl|rfl<;>exact λh=>absurd h.1 (show¬((0:Int)<0)by decide)
   simp only[wM,gG,wn 0 (.inl rfl),wn 1 (.inr (.inl rfl)),wn 2 (.inr (.inr rfl)),ayD]
  simp only[gG,a0,k0,w0,ayD,aza]
 simp only[gG,ku,h1,h2,h3]
end
open Go Go.Den Go.Num
abbrev kK:ByteArray:=ByteArray.mk #[107]
def fK0:Nat->ByteArray:=λ_=>ByteArray.empty
def fK:Nat->ByteArray:=AL fK0 0 kK
def uK:List (Int×Int):=WB (.int .i64) (.int .i64) [] 5 1
theorem aaO:vC kK 5 4 3 0 fK0 []=((0,(true,(0,()))),((4,(3,((1,fK),uK))),())):=by rw[vC,axi (by decide+kernel),axi (by decide+kernel),axi (by decide+kernel)];rfl
theorem aaP(e:Int)(he:e=2\/e=3):vC kK e 4 3 1 fK uK=((0,(false,(0,()))),((4,(3,((1,fK),uK))),())):=by
 rcases he with rfl|rfl<;>
 ·rw[vC,axi (by decide+kernel),axp (by decide+kernel)];have e:before 1 fK kK=0:=by decide+kernel
  rw[e];rfl
theorem abW(k:ByteArray)(x y:Rc):Js [(k,x)] k y=[(k,y)]:=by simp[Js,gH]
theorem abX(k:ByteArray)(x:Rc):AQ [(k,x)] k=x:=by simp[AQ,gH]
theorem hd4 {h:Hd}(hh:h.Ok3)(h1:h.T=1/\h.I=1):h.N=4:=by have:=hh.N;omega
theorem aji {h:Hd}(hh:h.Ok3)(h1:h.T=1/\h.I=1){a:Wy}(ha:a=(0,(4,(1,(0,((1,1),(0,0))))))):Wm h 5 4 1 kK (1,1) ByteArray.empty (CK h.P h.G h.T a) (Sb h.Q h.T h.I a):=by
 have hT:=h1.1;have hN:=hd4 hh h1;have hv:nnN (vN a.2.2.2.2.2.1)=1:=by subst ha;rfl
 have hl:(CK h.P h.G h.T a).length=1:=by unfold CK;rw[wR,hv]
 have hl2:(Sb h.Q h.T h.I a).length=1:=by unfold Sb;simp[hv]
 have he:sEq ByteArray.empty (ByteArray.mk #[])=true:=(uT _ _).2 rfl;have hb:iQ (CK h.P h.G h.T a)≠ []:=a6V _ _ (by omega) (by omega);refine⟨⟨by decide,⟨λ_=>by decide,λhc=>?_,λ_=>⟨by rw[hl2,hl],hb⟩,λ_=>by decide⟩,?_⟩,.inr (.inl ⟨rfl,⟨by omega,by omega⟩,by show(1:Int)=5-h.N;omega⟩),λ_=>⟨a6U hh.grp (by omega) (by omega) _ _,?_⟩⟩
 ·exfalso;have hc':(!(sEq ByteArray.empty (ByteArray.mk #[])))=true:=hc;rw[he]at hc';exact absurd hc' (by decide)
 ·rw[hl,hl2];refine .inr (.inr (.inl ⟨.inl rfl,?_⟩));show Wi (!(eqF (.pair (.int .i64) (.int .i64)) ((1,1):aH) (0,0))) (!(sEq ByteArray.empty (ByteArray.mk #[]))) (decide (0<1+1)) ((1:Int) !=0)=13;rw[he];rfl
 ·have hw:a4s h.T h.I a=0:=by unfold a4s;rw[h1.2];subst ha;exact Nat.zero_mod _
  have e:Sb h.Q h.T h.I a=Oj h.Q (aNv (vN a.2.2.2.2.2.1)) (bNv (vN a.2.2.2.2.2.1)) h.T (nnN (vN a.2.2.2.2.2.1)) (a4s h.T h.I a+1):=rfl;rw[e];refine(a2r hh.grp (by omega) (by omega) _ _ (i:=h.I) (by omega) _).2 λk hk=>?_
  rw[hw,h1.2]
theorem ajj {h:Hd}(hh:h.Ok3)(h1:h.T=1/\h.I=1){dg:ByteArray}(hd:dg.size=32){from_:Int}(hf:from_=2\/from_=3):Wm h from_ 6 0 kK (1,1) dg [] []:=by
 have hN:=hd4 hh h1;have hs:(!(sEq dg (ByteArray.mk #[])))=true:=by
  rw[Bool.not_eq_true'];cases hc:sEq dg (ByteArray.mk #[])
  ·rfl
  ·have:=(uT _ _).1 hc;subst this;exact absurd hd (by decide)
 refine⟨⟨by decide,⟨λ_=>by decide,λ_=>hd,λhc=>absurd hc (by show¬(false=true);decide),λhc=>absurd hc (by show¬(false=true);decide)⟩,.inr (.inr (.inr (.inl ⟨.inr rfl,?_⟩)))⟩,.inr (.inr ⟨.inr rfl,by omega,by omega,by have:=h1.2;omega⟩),λhc=>by omega⟩;show Wi (!(eqF (.pair (.int .i64) (.int .i64)) ((1,1):aH) (0,0))) (!(sEq dg (ByteArray.mk #[]))) false false=3;rw[hs];rfl
def sK(x:Rc)(o:fO):Sv:=⟨[(kK,x)],1,fK,uK,o⟩
theorem abY(f:Nat->ByteArray):rH 0 f:=λi j _ h=>absurd h (axS _)
theorem a0g(h:Hd):Good h zS 0:=⟨abY _,axr _,λi hi=>absurd hi (axS _),λe he=>absurd he (by simp[zS])⟩
theorem ajk {h:Hd}(hh:h.Ok3)(h1:h.T=1/\h.I=1){st:aH}{dg:ByteArray}{d:ByteArray}{w:(Nat×(Nat->SlV (Nat->Int)))×(Nat×(Nat->(Nat->Int)))} :
  KG h 5 4 1 kK (1,1) dg (vA1 d w) zS=EJ (fA1 kK) 5 (1,1) d/\ ∃o,Yv h 5 4 1 kK (1,1) dg (vA1 d w) zS=sK (xA1 d w) o:=by
 have hN:=hd4 hh h1;have hf:h.fr kK=fA1 kK:=by unfold Hd.fr;rw[h1.1,h1.2,hN]
 have hr:jN h 5 4 1 kK (1,1) dg (vA1 d w) (AQ zS.l kK)=(xA1 d w,EJ (fA1 kK) 5 (1,1) d):=by unfold jN;rw[axi (by decide),axi (by decide),axi (by decide),axi (by decide),axi (by decide),hf,hN];exact asw kK d w _
 have ho:h.opn kK 5 zS=((0,(true,(0,()))),((4,(3,((1,fK),uK))),())):=by unfold Hd.opn;rw[hN];exact aaO
 refine⟨by unfold KG;rw[hr],frz (apps zNO (KG h 5 4 1 kK (1,1) dg (vA1 d w) zS)),?_⟩;unfold Yv;rw[hr,ho];rfl
theorem FZ {h:Hd}(hh:h.Ok3)(h1:h.T=1/\h.I=1){from_:Int}(hf:from_=2\/from_=3){d:ByteArray}{x y:Rc}{l:List OU}{o:fO}{v:VA}(hr:uW (fA1 kK) (eO (fA1 kK) 5) from_ (1,1) d x=(y,l)):
  KG h from_ 6 0 kK (1,1) d v (sK x o)=l/\ ∃o',Yv h from_ 6 0 kK (1,1) d v (sK x o)=sK y o':=by
 have hN:=hd4 hh h1;have hfr:h.fr kK=fA1 kK:=by unfold Hd.fr;rw[h1.1,h1.2,hN]
 have hr:jN h from_ 6 0 kK (1,1) d v (AQ (sK x o).l kK)=(y,l):=by unfold jN;rw[axi (by decide),axi (by decide),axi (by decide),axp rfl,hfr,show AQ (sK x o).l kK=x from abX _ _];exact hr
 have ho:h.opn kK from_ (sK x o)=((0,(false,(0,()))),((4,(3,((1,fK),uK))),())):=by unfold Hd.opn;rw[hN];exact aaP from_ hf
 refine⟨by unfold KG;rw[hr],frz (apps zNO (KG h from_ 6 0 kK (1,1) d v (sK x o))),?_⟩;unfold Yv;rw[hr,ho];show(⟨Js [(kK,x)] kK y,1,fK,uK,frz (apps zNO (KG h from_ 6 0 kK (1,1) d v (sK x o)))⟩:Sv)=sK y _;rw[abW];rfl
theorem asA {h:Hd}(hh:h.Ok3)(h1:h.T=1/\h.I=1){from_:Int}(hf:from_=2\/from_=3)(x:Rc)(o:fO):(h.opn kK from_ (sK x o)).1.2.2.1=0:=by have hN:=hd4 hh h1;unfold Hd.opn;rw[hN];show(vC kK from_ ((4:Nat):Int) 3 1 fK uK).1.2.2.1=0;rw[show((4:Nat):Int)=4 from rfl,aaP from_ hf]
theorem aaQ {l:List OU}{out:fO}(e:out=frz (apps zNO l)):out.1=l.length/\ ∀i (hi:i<l.length),out.2 i=l[i]:=by subst e;exact⟨SE l,λi hi=>aaJ hi⟩
theorem asB {h:Hd}{x:Rc}{o:fO}{d:ByteArray}{w:(Nat×(Nat->SlV (Nat->Int)))×(Nat×(Nat->(Nat->Int)))}(hx:x.v=vA1 d w)(hw:w.2.1=1):iD kK (h.mk' (sK x o))=some (((1,1),(d,(true,()))),h.mk' (sK x o)):=by
 rw[a6K];have e:(sK x o).l[gH (sK x o).l kK]?=some (kK,x):=by simp[sK,gH]
 rw[e];show some ((x.v.1,(x.v.2.1,(decide (0<x.v.2.2.2.1),()))),h.mk' (sK x o))=_;rw[hx];show some ((((1,1):aH),(d,(decide (0<w.2.1),()))),h.mk' (sK x o))=_;rw[hw];rfl
theorem asC {h:Hd}{x:Rc}{o:fO} :jL (h.mk' (sK x o))=some (((1,λj=>fK (0+j)),()),h.mk' (sK x o)):=by
 rw[tu];unfold nk;have hK:gZ (h.N:Int) 3 1 fK uK=some (((1,(λj=>fK (0+j))),()),((h.N:Int),(3,((1,fK),uK))),()):=by rw[mX];rfl
 simp only[Hd.mk',Hd.sp,sK,hK]
theorem Ir:DL=some true:=by
 obtain⟨h,hh,h1,hw⟩:=WA 0;replace h1:=h1 rfl;have hN:=hd4 hh h1;have hT:=h1.1;have hq:=hh.q512;have eT:((h.T:Nat):Int)=1:=by omega
 have eI:((h.I:Nat):Int)=1:=by omega
 obtain⟨m0,l0,d1,d2⟩:=Wx (P:=h.P) (Q:=h.Q) (G:=h.G) hh.p1 hh.p62 hq hh.q31 (t:=h.T) (by omega) 0;obtain⟨op,st,dg,nm,m,ny,y,M,L,q1,q2,q3,q4⟩:=EP (P:=h.P) (Q:=h.Q) (G:=h.G) hh.p1 hh.p62 hq hh.q31 (t:=h.T) (I:=h.I) (by omega) (by omega) (0,(4,(1,(0,((1,1),(0,0))))));obtain⟨op',st',dg',nm',m',ny',y',M',L',r1,r2,r3,r4⟩:=EP (P:=h.P) (Q:=h.Q) (G:=h.G) hh.p1 hh.p62 hq hh.q31 (t:=h.T) (I:=h.I) (by omega) (by omega) (0,(6,(0,(0,((1,1),(0,0))))));have hin:=a0f hh q2 q3 q4;have hin':=a0f hh r2 r3 r4;obtain⟨e1,e2,e3,e4,e5⟩:=q4.shares (.inl rfl);obtain⟨g1,g2,g3,g4,g5⟩:=r4.vote (.inr rfl);have hDg:rR (nnN (vN 0)) m0=some (zF (iQ (CK h.P h.G h.T (0,(4,(1,(0,((1,1),(0,0))))))))):=
  FN d2.mat (by decide) (axB (M0 h.P h.G h.T (by have:=hh.p1;omega) hh.p62 (by omega) (0,(4,(1,(0,((1,1),(0,0))))))) (by decide))
 have hms:Wm h 5 4 1 kK (1,1) ByteArray.empty (CK h.P h.G h.T (0,(4,(1,(0,((1,1),(0,0))))))) (Sb h.Q h.T h.I (0,(4,(1,(0,((1,1),(0,0))))))):=aji hh h1 rfl;have hl2:L.length=1:=by rw[e5];unfold Sb;simp;rfl
 have hny:ny=1:=by have:=q3.1;omega
 have hms6: ∀from_:Int,from_=2\/from_=3->Wm h from_ 6 0 kK (1,1) (zF (iQ (CK h.P h.G h.T (0,(4,(1,(0,((1,1),(0,0))))))))) [] []:=λfrom_ hf=>ajj hh h1 (Yf _) hf
 have hd:zF (iQ (CK h.P h.G h.T (0,(6,(0,(0,((1,1),(0,0))))))))=zF (iQ (CK h.P h.G h.T (0,(4,(1,(0,((1,1),(0,0)))))))):=rfl;rw[hd]at g3;subst e1 e2 e3 e4 e5 g1 g2 g3 g4 g5;generalize hdd:zF (iQ (CK h.P h.G h.T (0,(4,(1,(0,((1,1),(0,0))))))))=d at*;rw[eT,eI]at q1 r1;rw[eT]at d1;have q1':iE ((h.P:Int),((h.Q:Int),(h.G:Int))) 1 1 (0,(4,(1,(0,((1,1),(0,0))))))=some (FY 4 1 kK (1,1) ByteArray.empty nm m ny y):=q1;have r1':iE ((h.P:Int),((h.Q:Int),(h.G:Int))) 1 1 (0,(6,(0,(0,((1,1),(0,0))))))=some (FY 6 0 kK (1,1) d nm' m' ny' y'):=r1;have hA:=DR hh.toOk (from_:=5) (by decide) (k:=4) (op:=1) (key:=kK) (st:=(1,1)) (dg:=ByteArray.empty) hin (a0g h) (by decide);have tA:ER h 5 4 1 kK (1,1) ByteArray.empty (CK h.P h.G h.T (0,(4,(1,(0,((1,1),(0,0))))))) (Sb h.Q h.T h.I (0,(4,(1,(0,((1,1),(0,0))))))) zS:=⟨hms,by unfold Hd.opn;rw[hN];show(vC kK 5 4 3 0 fK0 []).1.2.2.1=0;rw[aaO]⟩;have gA:=(Q9 hh.toOk hin (a0g h) tA).1;rw[axp tA]at hA;rw[hdd]at hA gA;obtain⟨lA,oA,sA⟩:=ajk hh h1 (st:=(1,1)) (dg:=ByteArray.empty) (d:=d) (w:=((nm,m),(ny,y)));rw[sA]at hA gA;rw[lA]at hA;obtain⟨A1,A2⟩:=aaQ (l:=EJ (fA1 kK) 5 (1,1) d) rfl;generalize frz (apps zNO (EJ (fA1 kK) 5 (1,1) d))=outA at hA A1 A2;have hB:=DR hh.toOk (from_:=2) (by decide) (k:=6) (op:=0) (key:=kK) (st:=(1,1)) (dg:=d) hin' gA (by decide);have tB:ER h 2 6 0 kK (1,1) d [] [] (sK (xA1 d ((nm,m),(ny,y))) oA):=⟨hms6 2 (.inl rfl),asA hh h1 (.inl rfl) _ _⟩;have gB:=(Q9 hh.toOk hin' gA tB).1;rw[axp tB]at hB;obtain⟨lB,oB,sB⟩:=FZ hh h1 (from_:=2) (.inl rfl) (d:=d) (o:=oA) (v:=((1,1),(zF (iQ []),((nm',m'),(ny',y'))))) (asx kK d ((nm,m),(ny,y)) (eO (fA1 kK) 5));rw[sB]at hB gB;have hC:=DR hh.toOk (from_:=3) (by decide) (k:=6) (op:=0) (key:=kK) (st:=(1,1)) (dg:=d) hin' gB (by decide);have tC:ER h 3 6 0 kK (1,1) d [] [] (sK (xA2 d ((nm,m),(ny,y))) oB):=⟨hms6 3 (.inr rfl),asA hh h1 (.inr rfl) _ _⟩;rw[axp tC]at hC;obtain⟨lC,oC,sC⟩:=FZ hh h1 (from_:=3) (.inr rfl) (d:=d) (o:=oB) (v:=((1,1),(zF (iQ []),((nm',m'),(ny',y'))))) (asz kK d ((nm,m),(ny,y)) rfl);rw[sC,lC]at hC;obtain⟨C1,C2⟩:=aaQ (l:=EJ (fA1 kK) 6 (1,1) d++[Ik (fA1 kK) 0 (vA1 d ((nm,m),(ny,y)),1)]) rfl;generalize frz (apps zNO (EJ (fA1 kK) 6 (1,1) d++[Ik (fA1 kK) 0 (vA1 d ((nm,m),(ny,y)),1)]))=outC at hC C1 C2;have A1':outA.1=3:=A1;have A20:outA.2 0=voP (fA1 kK) 5 (1,1) d 1:=A2 0 (show 0<3 by decide);have C1':outC.1=4:=C1;have C23:outC.2 3=Ik (fA1 kK) 0 (vA1 d ((nm,m),(ny,y)),1):=C2 3 (show 3<4 by decide);have hS:Hy 1 (λj=>fK (0+j)) 1 (λj=>(upd (λ_=>ByteArray.empty) 0 kK) (0+j))=some true:=a6D (by decide) λi hi=>by
  obtain rfl:i=0:=by omega
  rfl
 have hA':bn 5 4 1 kK (1,1) ByteArray.empty nm m ny y (h.sn [] zNO,(h.sp 0 (λ_=>ByteArray.empty) [],()))=some ((outA,()),h.mk' (sK (xA1 d ((nm,m),(ny,y))) oA)):=hA;rw[Oh];unfold LZ;have b1:(bif (((3:Nat):Int) !=3)then true else false)=false:=rfl;simp only[hw,d1,q1',r1',aym,bO,hA',hB,hC,A1',A20,C1',C23,asB (x:=xA6 d ((nm,m),(ny,y))) rfl hny,asC,hS,hDg,eI,(uT d d).2 rfl];rfl
theorem HB5:HB 5=6534:=rfl
theorem a6W {h:Hd}(hh:h.Ok)(from_ k op:Int)(key:ByteArray)(st:aH)(dg:ByteArray)(v:VA)(x:Rc):(jN h from_ k op key st dg v x).2.length<=10000:=by
 have hF:=hh.f key;have hr:=DI hF 5;have h5:=HB5;have one: ∀ {α:Type} (a:α),([a]:List α).length<=10000:=λa=>by simp
 unfold jN
 repeat' split
 ·unfold BO;split
  ·exact az3 (Yh _ _) (by decide)
  ·exact ays _
 ·unfold LW;split<;>exact ays _
 ·unfold EL;split
  ·have:=(PS hF hr st dg { x with e:=pW x.e from_ st dg }).2;omega
  ·exact ays _
 ·unfold uW;split
  ·have:=(PS hF hr st dg { x with r:=pW x.r from_ st dg }).2;omega
  ·exact ays _
 ·unfold nD;split
  ·exact az3 (yg _ 3) (by decide)
  ·exact ays _
 ·unfold iJ;have hm:(nD (h.fr key) v x).2.length<=3:=by
   unfold nD;split
   ·exact yg _ 3
   ·exact ays _
  repeat' split
  ·rw[wO];simp only[ayb,List.length_nil];omega
  ·have:=(Yj hF hr (v,op) x).2;omega
  all_goals exact ays _
theorem Good.mono {h:Hd}{s:Sv}{j:Nat}(g:Good h s j):Good h s (j+1):=⟨g.srt,Nat.le_succ_of_le g.few,g.full,g.rcs⟩
theorem a2s {h:Hd}(hh:h.Ok){s:Sv}{j:Nat}(g:Good h s j): ∀n,n<=s.n-> ∀x∈vF h s n,∃key,Wo { h.fr kK with key:=key } x
 |0,_=>λx hx=>absurd hx (by simp[vF])
 |n+1,hn=>λx hx=>by
  rw[vF,ay0]at hx;rcases hx with hx|hx
  ·exact a2s hh g n (by omega) x hx
  ·have hF:(h.fr (s.ks n)).Ok2:= { hh.f (s.ks n)with key:=(g.full n hn).2 };exact⟨s.ks n,aaI hF (g.get (s.ks n)) x hx⟩
theorem a2t {h:Hd}(hh:h.Ok3){s:Sv}{j:Nat}(g:Good h s j)(hj:j<1000):
  ∃out,dn (h.mk' s)=some ((out,()),h.mk' { s with o:=out })/\Iq (h.fr kK) out/\out.1<9223372036854775808/\out=frz (apps zNO (Yp h s)):=by
 refine⟨_,a6J hh.toOk (g.ok hj) g.tick,Sg (a2s hh.toOk g s.n (axr _)),?_,rfl⟩;rw[SE];have:=Q0 hh.toOk s s.n;have:=g.few;have e:(Yp h s).length=(vF h s s.n).length:=rfl;omega
end Go.Pl
