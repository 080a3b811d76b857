/-
  The functions of more packages, plainly.
-/
import Derived.Test.YtlohbhpbkieoeaaGreatDenI
import Derived.Test.YtlohbhpbkieoeaaGreatPlA
import Derived.Test.YtlohbhpbkieoeaaGreatDenM
import Derived.Test.YtlohbhpbkieoeaaGreatDenL
set_option linter.unusedVariables false
set_option linter.unusedSimpArgs false
set_option maxRecDepth 100000
set_option maxHeartbeats 0
namespace Go.Pl
open Go.Den
abbrev Z01:Type:=SO×(RC×(VT×(VT×(SP×(Unit×((Nat×(Nat->VO))×Unit))))))
abbrev Z04:Type:=SN×(SP×(VT×(Unit×((Nat×(Nat->VO))×Unit))))
abbrev Z0f:Type:=SN×(SP×((Int×(Int×(Int×Z07)))×((Int×(Int×(Int×((Nat×NI)×Unit))))×Unit)))
abbrev Z0j:Type:=SN×(SP×(VT×(VT×(RC×Unit))))
abbrev Z0n:Type:=SN×(SP×(VT×Unit))
abbrev Z0q:Type:=Nat×(Nat->VO)
abbrev Z0r:Type:=Option GR
abbrev Z0A:Type:=Option ((dh GR)×(Int×(Int×(Int×(Int×((dh Z0i)×((Option Nat)×(SlV OU))))))))
abbrev Z0D:Type:=Z0w⊕(Z06×(SP×Unit))
end Go.Pl
namespace Go.Pl
end Go.Pl
open Go Go.Den Go.Pl
namespace Go.Pl
noncomputable section
open Go.IntKind (i64 u64 u32 u8)
def Uh:Option (NI):=some (upd (upd (upd (upd (upd (upd (upd (upd (λ_=>0) 0 1779033703) 1 3144134277) 2 1013904242) 3 2773480762) 4 1359893119) 5 2600822924) 6 528734635) 7 1541459225)
def CS:=veil Uh
theorem DY:CS=Uh:=aj _
def Lr:Option ((Z07×(Z08×Unit))):=match CS with|none=>none|some r=>(some (((),()),((true,(r,((λ_=>0),0))),())))
def Pf:=veil Lr
theorem Nl:Pf=Lr:=aj _
def Gu:Option (NI):=some (upd (upd (upd (upd (upd (upd (upd (upd (upd (upd (upd (upd (upd (upd (upd (upd (upd (upd (upd (upd (upd (upd (upd (upd (upd (upd (upd (upd (upd (upd (upd (upd (upd (upd (upd (upd (upd (upd (upd (upd (upd (upd (upd (upd (upd (upd (upd (upd (upd (upd (upd (upd (upd (upd (upd (upd (upd (upd (upd (upd (upd (upd (upd (upd (λ_=>0) 0 1116352408) 1 1899447441) 2 3049323471) 3 3921009573) 4 961987163) 5 1508970993) 6 2453635748) 7 2870763221) 8 3624381080) 9 310598401) 10 607225278) 11 1426881987) 12 1925078388) 13 2162078206) 14 2614888103) 15 3248222580) 16 3835390401) 17 4022224774) 18 264347078) 19 604807628) 20 770255983) 21 1249150122) 22 1555081692) 23 1996064986) 24 2554220882) 25 2821834349) 26 2952996808) 27 3210313671) 28 3336571891) 29 3584528711) 30 113926993) 31 338241895) 32 666307205) 33 773529912) 34 1294757372) 35 1396182291) 36 1695183700) 37 1986661051) 38 2177026350) 39 2456956037) 40 2730485921) 41 2820302411) 42 3259730800) 43 3345764771) 44 3516065817) 45 3600352804) 46 4094571909) 47 275423344) 48 430227734) 49 506948616) 50 659060556) 51 883997877) 52 958139571) 53 1322822218) 54 1537002063) 55 1747873779) 56 1955562222) 57 2024104815) 58 2227730452) 59 2361852424) 60 2428436474) 61 2756734187) 62 3204031479) 63 3329325298)
def qI:=veil Gu
theorem vC:qI=Gu:=aj _
def Gv(x:Int)(n:Int):Option (Int):=match(sW x (i64.wrap (0-n)))with|none=>none|some r=>(some r)
def eY:=veil Gv
theorem JW:eY=Gv:=aj _
abbrev gB(t:Int)(b:NI)(t1:NI)(w:NI):=(((),((),((),(t,())))),(b,(t1,(w,()))))
abbrev rF(t:NI)(w:NI):=(((),((),())),(t,(w,())))
abbrev CU:Type:=((Unit×Z0k)×(NI×Z05))
def gD:CU->Option (CU⊕(Z0h×Z05)):=λx=>let t:=x.1.2.2.2.1;let b:=x.2.1;let t1:=x.2.2.1;let w:=x.2.2.2.1;bif (decide (t<16))then(bif (inb (i64.wrap (4*t)) 64)then(bif (inb (i64.wrap ((i64.wrap (4*t))+1)) 64)then(let t2:=(ay .or .u32 (iE .u32 (u32.wrap (b (Int.toNat (i64.wrap (4*t))))) 24) (iE .u32 (u32.wrap (b (Int.toNat (i64.wrap ((i64.wrap (4*t))+1))))) 16));bif (inb (i64.wrap ((i64.wrap (4*t))+2)) 64)then(let t3:=(ay .or .u32 t2 (iE .u32 (u32.wrap (b (Int.toNat (i64.wrap ((i64.wrap (4*t))+2))))) 8));bif (inb (i64.wrap ((i64.wrap (4*t))+3)) 64)then(let t4:=(ay .or .u32 t3 (u32.wrap (b (Int.toNat (i64.wrap ((i64.wrap (4*t))+3))))));bif (inb t 64)then(some (.inl (((),((),((),((i64.wrap (t+1)),())))),(b,(t1,((upd w (Int.toNat t) t4),()))))))else(none))else(none))else(none))else(none))else(none))else(some (.inr (((),((),())),(t1,(w,())))))
abbrev gF(k:Int)(t:NI)(w:NI):=(((),((),(k,()))),(t,(w,())))
abbrev rG(t:NI)(w:NI):=(((),((),())),(t,(w,())))
abbrev CV:Type:=(Z0k×Z05)
def gG:CV->Option (CV⊕(Z0h×Z05)):=λx=>let k:=x.1.2.2.1;let t:=x.2.1;let w:=x.2.2.1;bif (decide (k<64))then(bif (inb (i64.wrap (k-15)) 64)then(bif (inb (i64.wrap (k-2)) 64)then(match(eY (w (Int.toNat (i64.wrap (k-15)))) 7)with|none=>none|some r=>(match(eY (w (Int.toNat (i64.wrap (k-15)))) 18)with|none=>none|some r1=>(let t1:=(ay .xor .u32 (ay .xor .u32 r r1) (bO .u32 (w (Int.toNat (i64.wrap (k-15)))) 3));match(eY (w (Int.toNat (i64.wrap (k-2)))) 17)with|none=>none|some r2=>(match(eY (w (Int.toNat (i64.wrap (k-2)))) 19)with|none=>none|some r3=>(let t2:=(ay .xor .u32 (ay .xor .u32 r2 r3) (bO .u32 (w (Int.toNat (i64.wrap (k-2)))) 10));bif (inb (i64.wrap (k-16)) 64)then(bif (inb (i64.wrap (k-7)) 64)then(let t3:=(u32.wrap ((u32.wrap ((w (Int.toNat (i64.wrap (k-16))))+t1))+(w (Int.toNat (i64.wrap (k-7))))));bif (inb k 64)then(some (.inl (((),((),((i64.wrap (k+1)),()))),(t,((upd w (Int.toNat k) (u32.wrap (t3+t2))),())))))else(none))else(none))else(none))))))else(none))else(none))else(some (.inr (((),((),())),(t,(w,())))))
def BL(b:NI):Option (NI):=match(au gD (((),((),((),(0,())))),(b,((λ_=>0),((λ_=>0),())))))with|none=>none|some y=>(let t:=y.2.1;let w:=y.2.2.1;match(au gG (((),((),(16,()))),(t,(w,()))))with|none=>none|some y1=>(let t1:=y1.2.1;let w1:=y1.2.2.1;some w1))
def yM:=veil BL
theorem ER:yM=BL:=aj _
abbrev kr(t:Int)(v:NI)(t1:NI)(k:NI)(w:NI)(x1:NI):=(((),((),((),((),((),(t,())))))),(v,(t1,(k,(w,(x1,()))))))
abbrev xJ(v:NI)(t:NI)(x1:NI):=(((),((),((),()))),(v,(t,(x1,()))))
abbrev JX:Type:=((Unit×Z0v)×(NI×Z0t))
def ku:JX->Option (JX⊕((Unit×Z0h)×(NI×Z05))):=λx=>let t:=x.1.2.2.2.2.2.1;let v:=x.2.1;let t1:=x.2.2.1;let k:=x.2.2.2.1;let w:=x.2.2.2.2.1;let x1:=x.2.2.2.2.2.1;bif (decide (t<64))then(let t2:=(ay .and .u32 (x1 4) (ay .xor .u32 (x1 5) (x1 6)));let t3:=(ay .and .u32 (x1 2) (ay .or .u32 (x1 0) (x1 1)));match(eY (x1 4) 6)with|none=>none|some r=>(match(eY (x1 4) 11)with|none=>none|some r1=>(match(eY (x1 4) 25)with|none=>none|some r2=>(let t4:=(u32.wrap ((u32.wrap ((x1 7)+(ay .xor .u32 (ay .xor .u32 r r1) r2)))+(ay .xor .u32 (x1 6) t2)));bif (inb t 64)then(bif (inb t 64)then(match(eY (x1 0) 2)with|none=>none|some r3=>(match(eY (x1 0) 13)with|none=>none|some r4=>(match(eY (x1 0) 22)with|none=>none|some r5=>(let t5:=(u32.wrap ((ay .xor .u32 (ay .xor .u32 r3 r4) r5)+(ay .or .u32 (ay .and .u32 (x1 0) (x1 1)) t3)));let t6:=(u32.wrap ((x1 3)+(u32.wrap ((u32.wrap (t4+(k (Int.toNat t))))+(w (Int.toNat t))))));let t7:=(u32.wrap ((u32.wrap ((u32.wrap (t4+(k (Int.toNat t))))+(w (Int.toNat t))))+t5));some (.inl (((),((),((),((),((),((i64.wrap (t+1)),())))))),(v,(t1,(k,(w,((upd (upd (sO x1 1 7 (λj=>x1 (0+j))) 4 t6) 0 t7),())))))))))))else(none))else(none)))))else(some (.inr (((),((),((),()))),(v,(t1,(x1,()))))))
abbrev qJ(t:Int)(v:NI)(t1:NI)(x1:NI):=(((),((),((),(t,())))),(v,(t1,(x1,()))))
abbrev xK(t:NI)(x1:NI):=(((),((),())),(t,(x1,())))
abbrev JY:Type:=((Unit×Z0k)×(NI×Z05))
def mX:JY->Option (JY⊕(Z0h×Z05)):=λx=>let t:=x.1.2.2.2.1;let v:=x.2.1;let t1:=x.2.2.1;let x1:=x.2.2.2.1;bif (decide (t<8))then(bif (inb t 8)then(bif (inb t 8)then(bif (inb t 8)then(some (.inl (((),((),((),((i64.wrap (t+1)),())))),(v,(t1,((upd x1 (Int.toNat t) (u32.wrap ((x1 (Int.toNat t))+(v (Int.toNat t))))),()))))))else(none))else(none))else(none))else(some (.inr (((),((),())),(t1,(x1,())))))
def Ls(v:NI)(b:NI):Option (NI):=match qI with|none=>none|some r=>(match(yM b)with|none=>none|some r1=>(match(au ku (((),((),((),((),((),(0,())))))),(v,((λ_=>0),(r,(r1,(v,())))))))with|none=>none|some y=>(let v1:=y.2.1;let t:=y.2.2.1;let x:=y.2.2.2.1;match(au mX (((),((),((),(0,())))),(v1,(t,(x,())))))with|none=>none|some y1=>(let t1:=y1.2.1;let x1:=y1.2.2.1;some x1))))
def CW:=veil Ls
theorem Nn:CW=Ls:=aj _
abbrev dw(s:ByteArray)(h:Z08):=(((),(s,())),(h,()))
abbrev wU(h:Z08):=(((),()),(h,()))
abbrev zF:Type:=((Unit×(ByteArray×Unit))×(Z08×Unit))
def dx:zF->Option (zF⊕(Z07×(Z08×Unit))):=λx=>let s:=x.1.2.1;let h:=x.2.1;bif (!(sEq s (ByteArray.mk #[])))then(bif ((decide (0<=(Int.tmod h.2.2.2 64)))&&(decide ((Int.tmod h.2.2.2 64)<=64)))then(bif ((Nat.ble (64-(Int.toNat (Int.tmod h.2.2.2 64))) 0)||(Nat.ble (ByteArray.size s) 0))then(bif (decide (0<=(((ByteArray.size s):Nat):Int)))then(bif ((Int.tmod (i64.wrap (h.2.2.2+0)) 64)==0)then(match(CW h.2.1 h.2.2.1)with|none=>none|some r=>(some (.inl (((),((ByteArray.extract s 0 (ByteArray.size s)),())),((h.1,(r,(h.2.2.1,(i64.wrap (h.2.2.2+0))))),())))))else(some (.inl (((),((ByteArray.extract s 0 (ByteArray.size s)),())),((h.1,(h.2.1,(h.2.2.1,(i64.wrap (h.2.2.2+0))))),())))))else(none))else(bif ((decide (0<=(((min (ByteArray.size s) (64-(Int.toNat (Int.tmod h.2.2.2 64)))):Nat):Int)))&&(decide ((((min (ByteArray.size s) (64-(Int.toNat (Int.tmod h.2.2.2 64)))):Nat):Int)<=(((ByteArray.size s):Nat):Int))))then(let t:=(ByteArray.extract s (Int.toNat (((min (ByteArray.size s) (64-(Int.toNat (Int.tmod h.2.2.2 64)))):Nat):Int)) (ByteArray.size s));let t1:=(i64.wrap (h.2.2.2+(((min (ByteArray.size s) (64-(Int.toNat (Int.tmod h.2.2.2 64)))):Nat):Int)));bif ((Int.tmod t1 64)==0)then(match(CW h.2.1 (sO h.2.2.1 (Int.toNat (Int.tmod h.2.2.2 64)) (min (ByteArray.size s) (64-(Int.toNat (Int.tmod h.2.2.2 64)))) (λi=>(((s).data.toList.getD i 0).toNat:Int))))with|none=>none|some r1=>(some (.inl (((),(t,())),((h.1,(r1,((sO h.2.2.1 (Int.toNat (Int.tmod h.2.2.2 64)) (min (ByteArray.size s) (64-(Int.toNat (Int.tmod h.2.2.2 64)))) (λi=>(((s).data.toList.getD i 0).toNat:Int))),t1))),())))))else(some (.inl (((),(t,())),((h.1,(h.2.1,((sO h.2.2.1 (Int.toNat (Int.tmod h.2.2.2 64)) (min (ByteArray.size s) (64-(Int.toNat (Int.tmod h.2.2.2 64)))) (λi=>(((s).data.toList.getD i 0).toNat:Int))),t1))),())))))else(none)))else(none))else(some (.inr (((),()),(h,()))))
abbrev rH(h:Z08):=((),(h,()))
def xL(s:ByteArray)(h:Z08):Option ((Unit×(Z08×Unit))):=bif (!h.1)then(some ((),(h,())))else(match(au dx (((),(s,())),(h,())))with|none=>none|some y=>(let h1:=y.2.1;some ((),(h1,()))))
def jq:=veil xL
theorem AR:jq=xL:=aj _
abbrev kU(h:Z08)(c:Z08):=((h,((),())),(c,()))
abbrev rJ(h:Z08)(c:Z08):=((h,((),())),(c,()))
abbrev CX:Type:=((Z08×Z07)×(Z08×Unit))
def jg:CX->Option (CX⊕((Z08×Z07)×(Z08×Unit))):=λx=>let h:=x.1.1;let c:=x.2.1;bif ((Int.tmod c.2.2.2 64) !=56)then(match(jq (ByteArray.mk #[0]) c)with|none=>none|some y=>(let o:=y.2.1;some (.inl ((h,((),())),(o,())))))else(some (.inr ((h,((),())),(c,()))))
abbrev kV(h:Z08)(t:Int)(c:Z08)(last:NI):=((h,((),((),(t,())))),(c,(last,())))
abbrev rM(c:Z08)(last:NI):=(((),((),())),(c,(last,())))
abbrev CY:Type:=((Z08×Z0k)×(Z08×(NI×Unit)))
def jh:CY->Option (CY⊕(Z0h×(Z08×(NI×Unit)))):=λx=>let h:=x.1.1;let t:=x.1.2.2.2.1;let c:=x.2.1;let last:=x.2.2.1;bif (decide (t<8))then(bif (decide ((i64.wrap (56-(i64.wrap (8*t))))<0))then(none)else(let t1:=(bO .i64 (i64.wrap (8*h.2.2.2)) (i64.wrap (56-(i64.wrap (8*t)))));bif (inb t 8)then(some (.inl ((h,((),((),((i64.wrap (t+1)),())))),(c,((upd last (Int.toNat t) (u8.wrap t1)),())))))else(none)))else(some (.inr (((),((),())),(c,(last,())))))
abbrev kW(nout:Nat)(out:Nat->Int)(t:NI)(t1:Int):=(((nout,out),(t,(t1,()))),())
abbrev rO(nout:Nat)(out:Nat->Int):=(((nout,out),()),())
abbrev CZ:Type:=(((Nat×NI)×(NI×Z02))×Unit)
def ji:CZ->Option (CZ⊕Z0x):=λx=>let nout:=x.1.1.1;let out:=x.1.1.2;let t:=x.1.2.1;let t1:=x.1.2.2.1;bif (decide (t1<8))then(bif (inb t1 8)then(bif ((Nat.ble ((nout+4)*1) 140737488355328)&&(Nat.ble (nout+4) 9223372036854775807))then(some (.inl ((((nout+4),(glue nout out (λj=>(upd (upd (upd (upd (λ_=>0) 0 (u8.wrap (bO .u32 (t (Int.toNat t1)) 24))) 1 (u8.wrap (bO .u32 (t (Int.toNat t1)) 16))) 2 (u8.wrap (bO .u32 (t (Int.toNat t1)) 8))) 3 (u8.wrap (t (Int.toNat t1)))) (0+j)))),(t,((i64.wrap (t1+1)),()))),())))else(none))else(none))else(some (.inr (((nout,out),()),())))
def wu(h:(Option Z08)):Option Z0E:=match h with|none=>(some (ByteArray.mk #[]))|some h0=>(bif (!h0.1)then(some (ByteArray.mk #[]))else(match(jq (ByteArray.mk #[128]) h0)with|none=>none|some y=>(let o:=y.2.1;match(au jg ((h0,((),())),(o,())))with|none=>none|some y1=>(let h1:=y1.1.1;let c:=y1.2.1;match(au jh ((h1,((),((),(0,())))),(c,((λ_=>0),()))))with|none=>none|some y2=>(let c1:=y2.2.1;let last:=y2.2.2.1;match(jq (bytesOf 8 (λj=>last (0+j))) c1)with|none=>none|some y3=>(let o1:=y3.2.1;match(au ji (((0,(λ_=>0)),(o1.2.1,(0,()))),()))with|none=>none|some y4=>(let nout:=y4.1.1.1;let out:=y4.1.1.2;some (bytesOf nout (λj=>out (0+j))))))))))
def yN:=veil wu
theorem ES:yN=wu:=aj _
def Ui(s:ByteArray):Option Z0E:=match Pf with|none=>none|some y=>(let o:=y.2.1;match(jq s o)with|none=>none|some y1=>(let o1:=y1.2.1;match(yN (some o1))with|none=>none|some r=>(some r)))
def wz:=veil Ui
theorem Uj:wz=Ui:=aj _
open Go.IntKind (i64 u64 u32 u8)
open Classical in
open Go.IntKind (i64 u64 u32 u8)
open Go.IntKind (i64 u64 u32 u8)
abbrev nL(ns:Nat)(s:Nat->NI)(t:Int)(t1:Int)(o:Z03):=(((ns,s),((),(t,(t1,())))),(o,()))
abbrev tK:Type:=((Z02×(Z03×(NI×Unit)))⊕(Unit×(Z03×Unit)))
abbrev qy(t:Int)(o:Z03)(o1:NI):tK:=(.inl ((t,()),(o,(o1,()))))
abbrev qz(o:Z03):tK:=(.inr ((),(o,())))
abbrev AU:Type:=((Z0d×Z0g)×(Z03×Unit))
def eZ:AU->Option (AU⊕tK):=λx=>let ns:=x.1.1.1;let s:=x.1.1.2;let t:=x.1.2.2.1;let t1:=x.1.2.2.2.1;let o:=x.2.1;bif (decide (t1<t))then(bif (inb t1 ns)then(match(MV (some o) (s (Int.toNat t1)))with|none=>none|some r=>(bif (!r)then(some (.inr (.inl ((t1,()),(o,((s (Int.toNat t1)),()))))))else(some (.inl (((ns,s),((),(t,((i64.wrap (t1+1)),())))),(o,()))))))else(none))else(some (.inr (.inr ((),(o,())))))
def AV(g:Z0u)(nc:Nat)(c:Nat->NI):Option (Bool):=match g with|none=>(bif (decide (((nc:Nat):Int)>=1))then(bif (decide (((nc:Nat):Int)<=7))then(none)else(some false))else(some false))|some g0=>(bif (decide (((nc:Nat):Int)>=1))then(bif (decide (((nc:Nat):Int)<=7))then(match(au eZ (((nc,c),((),(((nc:Nat):Int),(0,())))),(g0,())))with|none=>none|some y=>(match y with| .inl y1=>(let t:=y1.1.1;let o:=y1.2.1;let o1:=y1.2.2.1;some (!(decide (t>=0))))| .inr y1=>(let o2:=y1.2.1;some true)))else(some false))else(some false))
def vD:=veil AV
theorem JZ:vD=AV:=aj _
abbrev BM(g:Z03)(nc:Nat)(c:Nat->NI)(i:Int)(nexps:Nat)(exps:Nat->NI)(p:Int)(t:Int)(t1:Int)(t2:NI):=((g,((nc,c),(i,((),((nexps,exps),(p,(t,(t1,())))))))),(t2,()))
abbrev xM(g:Z03)(nc:Nat)(c:Nat->NI)(nexps:Nat)(exps:Nat->NI)(t:NI):=((g,((nc,c),((),((nexps,exps),())))),(t,()))
abbrev K4:Type:=((Z03×(Z0d×(Int×(Unit×(Z0d×(Int×(Int×Z02)))))))×(NI×Unit))
def mY:K4->Option (K4⊕((Z03×(Z0d×(Unit×(Z0d×Unit))))×(NI×Unit))):=λx=>let g:=x.1.1;let nc:=x.1.2.1.1;let c:=x.1.2.1.2;let i:=x.1.2.2.1;let nexps:=x.1.2.2.2.2.1.1;let exps:=x.1.2.2.2.2.1.2;let p:=x.1.2.2.2.2.2.1;let t:=x.1.2.2.2.2.2.2.1;let t1:=x.1.2.2.2.2.2.2.2.1;let t2:=x.2.1;bif (decide (t1<t))then(match(bR p)with|none=>none|some r=>(bif ((Nat.ble ((nexps+1)*32) 140737488355328)&&(Nat.ble (nexps+1) 9223372036854775807))then(some (.inl ((g,((nc,c),(i,((),(((nexps+1),(glue nexps exps (λj=>(upd (λ_=>(λ_=>0)) 0 r) (0+j)))),((i64.wrap (p*i)),(t,((i64.wrap (t1+1)),())))))))),(t2,()))))else(none)))else(some (.inr ((g,((nc,c),((),((nexps,exps),())))),(t2,()))))
def DZ(g:Z0u)(nc:Nat)(c:Nat->NI)(i:Int):Option (NI):=match g with|none=>(bif (decide (i<0))then(some (λ_=>0))else(bif (decide (i>7))then(some (λ_=>0))else(bif (decide (((nc:Nat):Int)>7))then(some (λ_=>0))else(none))))|some g0=>(bif (decide (i<0))then(some (λ_=>0))else(bif (decide (i>7))then(some (λ_=>0))else(bif (decide (((nc:Nat):Int)>7))then(some (λ_=>0))else(match(au mY ((g0,((nc,c),(i,((),((0,(λ_=>(λ_=>0))),(1,(((nc:Nat):Int),(0,())))))))),((λ_=>0),())))with|none=>none|some y=>(let g1:=y.1.1;let nc1:=y.1.2.1.1;let c1:=y.1.2.1.2;let nexps:=y.1.2.2.2.1.1;let exps:=y.1.2.2.2.1.2;let t:=y.2.1;match(AQ (some g1) nc1 c1 nexps (λj=>exps (0+j)))with|none=>none|some r=>(some r.1))))))
def D5:=veil DZ
theorem Np:D5=DZ:=aj _
def wB(g:Z0u)(nc:Nat)(c:Nat->NI)(s:(Int×NI)):Option (Bool):=match g with|none=>(bif (decide (s.1>=1))then(bif (decide (s.1<=7))then(match(Gl none s.2)with|none=>none|some r4=>(bif r4 then(match(vD none nc c)with|none=>none|some r5=>(bif r5 then(match(Gn none s.2)with|none=>none|some r6=>(match(D5 none nc c s.1)with|none=>none|some r7=>(some (eqF (.arr 4 (.int .u64)) r6 r7))))else(some false)))else(some false)))else(some false))else(some false))|some g0=>(bif (decide (s.1>=1))then(bif (decide (s.1<=7))then(match(Gl (some g0) s.2)with|none=>none|some r=>(bif r then(match(vD (some g0) nc c)with|none=>none|some r1=>(bif r1 then(match(Gn (some g0) s.2)with|none=>none|some r2=>(match(D5 (some g0) nc c s.1)with|none=>none|some r3=>(some (eqF (.arr 4 (.int .u64)) r2 r3))))else(some false)))else(some false)))else(some false))else(some false))
def yO:=veil wB
theorem ET:yO=wB:=aj _
open Go.IntKind (i64 u64 u32 u8)
abbrev gH(ns:Nat)(s:Nat->(SlV NI))(t:Int)(t1:Int)(no:Nat)(o:Nat->(SlV NI)):=(((ns,s),((),(t,(t1,())))),((no,o),()))
abbrev rP:Type:=((Z02×(Z0a×Unit))⊕(Unit×(Z0a×Unit)))
abbrev jL(t:Int)(no:Nat)(o:Nat->(SlV NI)):rP:=(.inl ((t,()),((no,o),())))
abbrev wV(no:Nat)(o:Nat->(SlV NI)):rP:=(.inr ((),((no,o),())))
abbrev zH:Type:=((Z0a×Z0g)×(Z0a×Unit))
def bY:zH->Option (zH⊕rP):=λx=>let ns:=x.1.1.1;let s:=x.1.1.2;let t:=x.1.2.2.1;let t1:=x.1.2.2.2.1;let no:=x.2.1.1;let o:=x.2.1.2;bif (decide (t1<t))then(bif (inb t1 ns)then(bif (SlV.isMs (s (Int.toNat t1)))then(none)else(bif (inb 0 no)then(bif (SlV.isMs (o 0))then(none)else(bif ((((SlV.len (s (Int.toNat t1))):Nat):Int) !=(((SlV.len (o 0)):Nat):Int))then(some (.inr (.inl ((t1,()),((no,o),())))))else(bif (decide ((((SlV.len (s (Int.toNat t1))):Nat):Int)<1))then(some (.inr (.inl ((t1,()),((no,o),())))))else(bif (decide ((((SlV.len (s (Int.toNat t1))):Nat):Int)>7))then(some (.inr (.inl ((t1,()),((no,o),())))))else(some (.inl (((ns,s),((),(t,((i64.wrap (t1+1)),())))),((no,o),()))))))))else(none)))else(none))else(some (.inr (.inr ((),((no,o),())))))
def E5(nm:Nat)(m:Nat->(SlV NI)):Option (Bool):=match(au bY (((nm,m),((),(((nm:Nat):Int),(0,())))),((nm,m),())))with|none=>none|some y=>(match y with| .inl y1=>(let t:=y1.1.1;let no:=y1.2.1.1;let o:=y1.2.1.2;bif (!(decide (t>=0)))then(bif (decide (((no:Nat):Int)>=1))then(some (decide (((no:Nat):Int)<=25)))else(some false))else(some false))| .inr y1=>(let no1:=y1.2.1.1;let o1:=y1.2.1.2;bif (decide (((no1:Nat):Int)>=1))then(some (decide (((no1:Nat):Int)<=25)))else(some false)))
def AX:=veil E5
theorem Gw:AX=E5:=aj _
abbrev vE(nt:Nat)(t:Nat->(SlV NI))(t1:Int)(t2:Int)(nt1:Nat)(t3:Nat->NI)(t4:Int)(t5:Int)(b:Unit)(nb:Nat)(b1:NI):=(((),((nt,t),(t1,(t2,((nt1,t3),(t4,(t5,()))))))),((b,(nb,b1)),()))
abbrev zJ(nt:Nat)(t:Nat->(SlV NI))(t1:Int)(t2:Int)(b:Unit)(nb:Nat)(b1:NI):=(((),((nt,t),(t1,(t2,())))),((b,(nb,b1)),()))
abbrev D6:Type:=((Unit×(Z0a×(Int×(Int×(Z0d×(Int×Z02))))))×Z0C)
def jk:D6->Option (D6⊕((Unit×(Z0a×(Int×Z02)))×Z0C)):=λx=>let nt:=x.1.2.1.1;let t:=x.1.2.1.2;let t1:=x.1.2.2.1;let t2:=x.1.2.2.2.1;let nt1:=x.1.2.2.2.2.1.1;let t3:=x.1.2.2.2.2.1.2;let t4:=x.1.2.2.2.2.2.1;let t5:=x.1.2.2.2.2.2.2.1;let b:=x.2.1.1;let nb:=x.2.1.2.1;let b1:=x.2.1.2.2;bif (decide (t5<t4))then(bif (inb t5 nt1)then(match(IB (t3 (Int.toNat t5)))with|none=>none|some r=>(bif ((Nat.ble ((nb+1)*1) 140737488355328)&&(Nat.ble (nb+1) 9223372036854775807))then(bif ((Nat.ble (((nb+1)+(ByteArray.size r))*1) 140737488355328)&&(Nat.ble ((nb+1)+(ByteArray.size r)) 9223372036854775807))then(some (.inl (((),((nt,t),(t1,(t2,((nt1,t3),(t4,((i64.wrap (t5+1)),()))))))),((b,(((nb+1)+(ByteArray.size r)),(glue (nb+1) (glue nb b1 (λj=>(upd (λ_=>0) 0 (u8.wrap (((ByteArray.size r):Nat):Int))) (0+j))) (λi=>(((r).data.toList.getD i 0).toNat:Int))))),()))))else(none))else(none)))else(none))else(some (.inr (((),((nt,t),(t1,(t2,())))),((b,(nb,b1)),()))))
abbrev vF(nt:Nat)(t:Nat->(SlV NI))(t1:Int)(t2:Int)(b:Unit)(nb:Nat)(b1:NI):=(((),((nt,t),(t1,(t2,())))),((b,(nb,b1)),()))
abbrev zK(b:Unit)(nb:Nat)(b1:NI):=(((),()),((b,(nb,b1)),()))
abbrev D7:Type:=((Unit×(Z0a×(Int×Z02)))×Z0C)
def gI:D7->Option (D7⊕(Z07×Z0C)):=λx=>let nt:=x.1.2.1.1;let t:=x.1.2.1.2;let t1:=x.1.2.2.1;let t2:=x.1.2.2.2.1;let b:=x.2.1.1;let nb:=x.2.1.2.1;let b1:=x.2.1.2.2;bif (decide (t2<t1))then(bif (inb t2 nt)then(bif (SlV.isMs (t (Int.toNat t2)))then(none)else(match(au jk (((),((nt,t),(t1,(t2,(((SlV.len (t (Int.toNat t2))),(SlV.fn ((λ_=>0):NI) (t (Int.toNat t2)))),((((SlV.len (t (Int.toNat t2))):Nat):Int),(0,()))))))),((b,(nb,b1)),())))with|none=>none|some y=>(let nt1:=y.1.2.1.1;let t3:=y.1.2.1.2;let t4:=y.1.2.2.1;let t5:=y.1.2.2.2.1;let b2:=y.2.1.1;let nb1:=y.2.1.2.1;let b3:=y.2.1.2.2;some (.inl (((),((nt1,t3),(t4,((i64.wrap (t5+1)),())))),((b2,(nb1,b3)),()))))))else(none))else(some (.inr (((),()),((b,(nb,b1)),()))))
def BN(nm:Nat)(m:Nat->(SlV NI)):Option Z0E:=match(AX nm m)with|none=>none|some r=>(bif (!r)then(some (ByteArray.mk #[]))else(bif (inb 0 nm)then(bif (SlV.isMs (m 0))then(none)else(match(au gI (((),((nm,m),(((nm:Nat):Int),(0,())))),(((),(2,(glue 1 (glue 0 (λ_=>0) (λj=>(upd (λ_=>0) 0 (u8.wrap ((nm:Nat):Int))) (0+j))) (λj=>(upd (λ_=>0) 0 (u8.wrap (((SlV.len (m 0)):Nat):Int))) (0+j))))),())))with|none=>none|some y=>(let b:=y.2.1.1;let nb:=y.2.1.2.1;let b1:=y.2.1.2.2;bif ((decide (((nb:Nat):Int)=((nb:Nat):Int)))&&(Nat.ble nb 9223372036854775807))then(some (bytesOf nb b1))else(none))))else(none)))
def yP:=veil BN
theorem EU:yP=BN:=aj _
def BO(t:Int):Option (Bool):=bif (decide (t>=1))then(some (decide (t<=2)))else(some false)
def tL:=veil BO
theorem EW:tL=BO:=aj _
abbrev jM(ns:Nat)(s:Nat->(SlV NI))(t:Int)(t1:Int)(o:GR)(o1:Int):=(((ns,s),((),(t,(t1,())))),(o,(o1,())))
abbrev tO:Type:=((Z02×(GR×Z02))⊕(Unit×(GR×Z02)))
abbrev yc(t:Int)(o:GR)(o1:Int):tO:=(.inl ((t,()),(o,(o1,()))))
abbrev yg(o:GR)(o1:Int):tO:=(.inr ((),(o,(o1,()))))
abbrev AY:Type:=((Z0a×Z0g)×(GR×Z02))
def dN:AY->Option (AY⊕tO):=λx=>let ns:=x.1.1.1;let s:=x.1.1.2;let t:=x.1.2.2.1;let t1:=x.1.2.2.2.1;let o:=x.2.1;let o1:=x.2.2.1;bif (decide (t1<t))then(bif (inb t1 ns)then(bif (SlV.isMs (s (Int.toNat t1)))then(none)else(bif ((((SlV.len (s (Int.toNat t1))):Nat):Int) !=(i64.wrap (o1+1)))then(some (.inr (.inl ((t1,()),(o,(o1,()))))))else(match(vD (some o) (SlV.len (s (Int.toNat t1))) (SlV.fn ((λ_=>0):NI) (s (Int.toNat t1))))with|none=>none|some r=>(bif (!r)then(some (.inr (.inl ((t1,()),(o,(o1,()))))))else(some (.inl (((ns,s),((),(t,((i64.wrap (t1+1)),())))),(o,(o1,())))))))))else(none))else(some (.inr (.inr ((),(o,(o1,()))))))
def AZ(g:Z0r)(t:Int)(nm:Nat)(m:Nat->(SlV NI)):Option (Bool):=match g with|none=>(none)|some g0=>(match(au dN (((nm,m),((),(((nm:Nat):Int),(0,())))),(g0,(t,()))))with|none=>none|some y=>(match y with| .inl y1=>(let t1:=y1.1.1;let o:=y1.2.1;let o1:=y1.2.2.1;bif (!(decide (t1>=0)))then(match(tL o1)with|none=>none|some r=>(bif r then(bif (decide (((nm:Nat):Int)>=1))then(some (decide (((nm:Nat):Int)<=25)))else(some false))else(some false)))else(some false))| .inr y1=>(let o2:=y1.2.1;let o3:=y1.2.2.1;match(tL o3)with|none=>none|some r1=>(bif r1 then(bif (decide (((nm:Nat):Int)>=1))then(some (decide (((nm:Nat):Int)<=25)))else(some false))else(some false)))))
def E8:=veil AZ
theorem K5:E8=AZ:=aj _
abbrev pV(g:GR)(nt:Nat)(t:Nat->(SlV NI))(t1:Int)(t2:Int)(p:Int)(np:Nat)(p1:Nat->NI):=((g,((),((nt,t),(t1,(t2,()))))),((p,(np,p1)),()))
abbrev vG:Type:=(Z09⊕Z07)
abbrev Lu(t:Bool):vG:=(.inl ((t,()),()))
abbrev Lv:vG:=(.inr ((),()))
abbrev D8:Type:=((GR×(Unit×(Z0a×(Int×Z02))))×((Int×Z0d)×Unit))
def gJ:D8->Option (D8⊕vG):=λx=>let g:=x.1.1;let nt:=x.1.2.2.1.1;let t:=x.1.2.2.1.2;let t1:=x.1.2.2.2.1;let t2:=x.1.2.2.2.2.1;let p:=x.2.1.1;let np:=x.2.1.2.1;let p1:=x.2.1.2.2;bif (decide (t2<t1))then(bif (inb t2 nt)then(bif (SlV.isMs (t (Int.toNat t2)))then(none)else(bif (inb t2 np)then(match(yO (some g) (SlV.len (t (Int.toNat t2))) (SlV.fn ((λ_=>0):NI) (t (Int.toNat t2))) (p,(p1 (Int.toNat t2))))with|none=>none|some r=>(bif (!r)then(some (.inr (.inl ((false,()),()))))else(some (.inl ((g,((),((nt,t),(t1,((i64.wrap (t2+1)),()))))),((p,(np,p1)),()))))))else(none)))else(none))else(some (.inr (.inr ((),()))))
def wC(g:Z0r)(nm:Nat)(m:Nat->(SlV NI))(p:(Int×Z0d)):Option (Bool):=match g with|none=>(bif (decide (((nm:Nat):Int)<1))then(some false)else(bif (decide (((nm:Nat):Int)>25))then(some false)else(bif (((p.2.1:Nat):Int) !=((nm:Nat):Int))then(some false)else(none))))|some g0=>(bif (decide (((nm:Nat):Int)<1))then(some false)else(bif (decide (((nm:Nat):Int)>25))then(some false)else(bif (((p.2.1:Nat):Int) !=((nm:Nat):Int))then(some false)else(match(au gJ ((g0,((),((nm,m),(((nm:Nat):Int),(0,()))))),((p.1,(p.2.1,p.2.2)),())))with|none=>none|some y=>(match y with| .inl y1=>(let t:=y1.1.1;some t)| .inr y1=>(some true))))))
def tQ:=veil wC
theorem EX:tQ=wC:=aj _
def zL(nm:Nat)(m:Nat->(SlV NI)):Option Z0E:=match(yP nm m)with|none=>none|some r=>(match(wz r)with|none=>none|some r1=>(some r1))
def wD:=veil zL
theorem D9:wD=zL:=aj _
open Go.IntKind (i64 u64 u32 u8)
open Go.IntKind (i64 u64 u32 u8)
def Uk(a0:ByteArray):Option (IM×Int):=none
def Pg:=veil Uk
theorem Z7:Pg=Uk:=aj _
def Lx(s:ByteArray):Option (IM×Int):=bif (decide ((i64.wrap ((((ByteArray.size s):Nat):Int)-32))<0))then(some (zI,4))else(bif ((decide (0<=(i64.wrap ((((ByteArray.size s):Nat):Int)-32))))&&(decide ((i64.wrap ((((ByteArray.size s):Nat):Int)-32))<=(((ByteArray.size s):Nat):Int))))then(match(wz (ByteArray.extract s 0 (Int.toNat (i64.wrap ((((ByteArray.size s):Nat):Int)-32)))))with|none=>none|some r=>(bif ((decide (0<=(i64.wrap ((((ByteArray.size s):Nat):Int)-32))))&&(decide ((i64.wrap ((((ByteArray.size s):Nat):Int)-32))<=(((ByteArray.size s):Nat):Int))))then(bif (!(sEq r (ByteArray.extract s (Int.toNat (i64.wrap ((((ByteArray.size s):Nat):Int)-32))) (ByteArray.size s))))then(some (zI,4))else(bif ((decide (0<=(i64.wrap ((((ByteArray.size s):Nat):Int)-32))))&&(decide ((i64.wrap ((((ByteArray.size s):Nat):Int)-32))<=(((ByteArray.size s):Nat):Int))))then(match(Pg (ByteArray.extract s 0 (Int.toNat (i64.wrap ((((ByteArray.size s):Nat):Int)-32)))))with|none=>none|some r1=>(some ((r1.1.1,(r1.1.2.1,(r1.1.2.2.1,((r1.1.2.2.2.1.1,r1.1.2.2.2.1.2),(r1.1.2.2.2.2.1,r1.1.2.2.2.2.2))))),r1.2)))else(none)))else(none)))else(none))
def IX:=veil Lx
theorem Nq:IX=Lx:=aj _
open Go.IntKind (i64 u64 u32 u8)
abbrev oK(s:ByteArray)(nb:Nat)(b:Nat->Int):=((s,((nb,b),())),())
abbrev vH(s:ByteArray)(nb:Nat)(b:Nat->Int):=((s,((nb,b),())),())
abbrev Gx:Type:=((ByteArray×((Nat×NI)×Unit))×Unit)
def kX:Gx->Option (Gx⊕((ByteArray×((Nat×NI)×Unit))×Unit)):=λx=>let s:=x.1.1;let nb:=x.1.2.1.1;let b:=x.1.2.1.2;bif ((Int.tmod ((nb:Nat):Int) 64) !=56)then(bif ((Nat.ble ((nb+1)*1) 140737488355328)&&(Nat.ble (nb+1) 9223372036854775807))then(some (.inl ((s,(((nb+1),(glue nb b (λj=>(upd (λ_=>0) 0 0) (0+j)))),())),())))else(none))else(some (.inr ((s,((nb,b),())),())))
abbrev oL(s:ByteArray)(nb:Nat)(b:Nat->Int)(k:Int):=((s,((nb,b),(k,()))),())
abbrev vI(nb:Nat)(b:Nat->Int):=(((nb,b),()),())
abbrev Gy:Type:=((ByteArray×((Nat×NI)×Z02))×Unit)
def kY:Gy->Option (Gy⊕Z0x):=λx=>let s:=x.1.1;let nb:=x.1.2.1.1;let b:=x.1.2.1.2;let k:=x.1.2.2.1;bif (decide (k>=0))then(bif (decide ((i64.wrap (8*k))<0))then(none)else(let t:=(ay .and .i64 (bO .i64 (i64.wrap (8*(((ByteArray.size s):Nat):Int))) (i64.wrap (8*k))) 255);bif ((Nat.ble ((nb+1)*1) 140737488355328)&&(Nat.ble (nb+1) 9223372036854775807))then(some (.inl ((s,(((nb+1),(glue nb b (λj=>(upd (λ_=>0) 0 (u8.wrap t)) (0+j)))),((i64.wrap (k-1)),()))),())))else(none)))else(some (.inr (((nb,b),()),())))
def Gz(s:ByteArray):Option ((Nat×NI)):=bif (Nat.ble (ByteArray.size s) 9223372036854775807)then(bif ((Nat.ble (((ByteArray.size s)+1)*1) 140737488355328)&&(Nat.ble ((ByteArray.size s)+1) 9223372036854775807))then(match(au kX ((s,((((ByteArray.size s)+1),(glue (ByteArray.size s) (λi=>(((s).data.toList.getD i 0).toNat:Int)) (λj=>(upd (λ_=>0) 0 128) (0+j)))),())),()))with|none=>none|some y=>(let s1:=y.1.1;let nb:=y.1.2.1.1;let b:=y.1.2.1.2;match(au kY ((s1,((nb,b),(7,()))),()))with|none=>none|some y1=>(let nb1:=y1.1.1.1;let b1:=y1.1.1.2;some (nb1,(λj=>b1 (0+j))))))else(none))else(none)
def E9:=veil Gz
theorem K6:E9=Gz:=aj _
def Ul:Option (NI):=some (upd (upd (upd (upd (upd (upd (upd (upd (λ_=>0) 0 1779033703) 1 3144134277) 2 1013904242) 3 2773480762) 4 1359893119) 5 2600822924) 6 528734635) 7 1541459225)
def IY:=veil Ul
theorem Nr:IY=Ul:=aj _
def Ph(x:Int)(n:Int):Option (Int):=bif (decide (n<0))then(none)else(bif (decide ((i64.wrap (32-n))<0))then(none)else(let t:=(ay .and .i64 (ay .or .i64 (bO .i64 x n) (iE .i64 x (i64.wrap (32-n)))) 4294967295);some t))
def jN:=veil Ph
theorem QD:jN=Ph:=aj _
abbrev gK(nb:Nat)(b:Nat->Int)(t:Int)(t1:NI)(w:NI):=(((nb,b),((),((),(t,())))),(t1,(w,())))
abbrev rQ(t:NI)(w:NI):=(((),((),())),(t,(w,())))
abbrev Da:Type:=(((Nat×NI)×Z0k)×Z05)
def gL:Da->Option (Da⊕(Z0h×Z05)):=λx=>let nb:=x.1.1.1;let b:=x.1.1.2;let t:=x.1.2.2.2.1;let t1:=x.2.1;let w:=x.2.2.1;bif (decide (t<16))then(bif (inb (i64.wrap (4*t)) nb)then(bif (inb (i64.wrap ((i64.wrap (4*t))+1)) nb)then(let t2:=(ay .or .i64 (iE .i64 (i64.wrap (b (Int.toNat (i64.wrap (4*t))))) 24) (iE .i64 (i64.wrap (b (Int.toNat (i64.wrap ((i64.wrap (4*t))+1))))) 16));bif (inb (i64.wrap ((i64.wrap (4*t))+2)) nb)then(let t3:=(ay .or .i64 t2 (iE .i64 (i64.wrap (b (Int.toNat (i64.wrap ((i64.wrap (4*t))+2))))) 8));bif (inb (i64.wrap ((i64.wrap (4*t))+3)) nb)then(let t4:=(ay .or .i64 t3 (i64.wrap (b (Int.toNat (i64.wrap ((i64.wrap (4*t))+3))))));bif (inb t 64)then(some (.inl (((nb,b),((),((),((i64.wrap (t+1)),())))),(t1,((upd w (Int.toNat t) t4),())))))else(none))else(none))else(none))else(none))else(none))else(some (.inr (((),((),())),(t1,(w,())))))
abbrev gM(t:Int)(t1:NI)(w:NI):=(((),((),(t,()))),(t1,(w,())))
abbrev rR(t:NI)(w:NI):=(((),((),())),(t,(w,())))
abbrev Db:Type:=(Z0k×Z05)
def gN:Db->Option (Db⊕(Z0h×Z05)):=λx=>let t:=x.1.2.2.1;let t1:=x.2.1;let w:=x.2.2.1;bif (decide (t<64))then(bif (inb (i64.wrap (t-15)) 64)then(bif (inb (i64.wrap (t-2)) 64)then(match(jN (w (Int.toNat (i64.wrap (t-15)))) 7)with|none=>none|some r=>(match(jN (w (Int.toNat (i64.wrap (t-15)))) 18)with|none=>none|some r1=>(let t2:=(ay .xor .i64 (ay .xor .i64 r r1) (bO .i64 (w (Int.toNat (i64.wrap (t-15)))) 3));match(jN (w (Int.toNat (i64.wrap (t-2)))) 17)with|none=>none|some r2=>(match(jN (w (Int.toNat (i64.wrap (t-2)))) 19)with|none=>none|some r3=>(let t3:=(ay .xor .i64 (ay .xor .i64 r2 r3) (bO .i64 (w (Int.toNat (i64.wrap (t-2)))) 10));bif (inb (i64.wrap (t-7)) 64)then(bif (inb (i64.wrap (t-16)) 64)then(let t4:=(i64.wrap ((i64.wrap ((i64.wrap (t3+(w (Int.toNat (i64.wrap (t-7))))))+t2))+(w (Int.toNat (i64.wrap (t-16))))));bif (inb t 64)then(some (.inl (((),((),((i64.wrap (t+1)),()))),(t1,((upd w (Int.toNat t) (ay .and .i64 t4 4294967295)),())))))else(none))else(none))else(none))))))else(none))else(none))else(some (.inr (((),((),())),(t1,(w,())))))
def BP(nb:Nat)(b:Nat->Int):Option (NI):=match(au gL (((nb,b),((),((),(0,())))),((λ_=>0),((λ_=>0),()))))with|none=>none|some y=>(let t:=y.2.1;let w:=y.2.2.1;match(au gN (((),((),(16,()))),(t,(w,()))))with|none=>none|some y1=>(let t1:=y1.2.1;let w1:=y1.2.2.1;some w1))
def yQ:=veil BP
theorem EY:yQ=BP:=aj _
def GD:Option (NI):=some (upd (upd (upd (upd (upd (upd (upd (upd (upd (upd (upd (upd (upd (upd (upd (upd (upd (upd (upd (upd (upd (upd (upd (upd (upd (upd (upd (upd (upd (upd (upd (upd (upd (upd (upd (upd (upd (upd (upd (upd (upd (upd (upd (upd (upd (upd (upd (upd (upd (upd (upd (upd (upd (upd (upd (upd (upd (upd (upd (upd (upd (upd (upd (upd (λ_=>0) 0 1116352408) 1 1899447441) 2 3049323471) 3 3921009573) 4 961987163) 5 1508970993) 6 2453635748) 7 2870763221) 8 3624381080) 9 310598401) 10 607225278) 11 1426881987) 12 1925078388) 13 2162078206) 14 2614888103) 15 3248222580) 16 3835390401) 17 4022224774) 18 264347078) 19 604807628) 20 770255983) 21 1249150122) 22 1555081692) 23 1996064986) 24 2554220882) 25 2821834349) 26 2952996808) 27 3210313671) 28 3336571891) 29 3584528711) 30 113926993) 31 338241895) 32 666307205) 33 773529912) 34 1294757372) 35 1396182291) 36 1695183700) 37 1986661051) 38 2177026350) 39 2456956037) 40 2730485921) 41 2820302411) 42 3259730800) 43 3345764771) 44 3516065817) 45 3600352804) 46 4094571909) 47 275423344) 48 430227734) 49 506948616) 50 659060556) 51 883997877) 52 958139571) 53 1322822218) 54 1537002063) 55 1747873779) 56 1955562222) 57 2024104815) 58 2227730452) 59 2361852424) 60 2428436474) 61 2756734187) 62 3204031479) 63 3329325298)
def wE:=veil GD
theorem Dc:wE=GD:=aj _
abbrev kC(t:Int)(v:NI)(t1:NI)(w:NI)(k:NI)(x1:NI):=(((),((),((),((),((),(t,())))))),(v,(t1,(w,(k,(x1,()))))))
abbrev xO(v:NI)(t:NI)(x1:NI):=(((),((),((),()))),(v,(t,(x1,()))))
abbrev K7:Type:=((Unit×Z0v)×(NI×Z0t))
def kD:K7->Option (K7⊕((Unit×Z0h)×(NI×Z05))):=λx=>let t:=x.1.2.2.2.2.2.1;let v:=x.2.1;let t1:=x.2.2.1;let w:=x.2.2.2.1;let k:=x.2.2.2.2.1;let x1:=x.2.2.2.2.2.1;bif (decide (t<64))then(match(jN (x1 4) 6)with|none=>none|some r=>(match(jN (x1 4) 11)with|none=>none|some r1=>(match(jN (x1 4) 25)with|none=>none|some r2=>(let t2:=(ay .xor .i64 (ay .and .i64 (x1 4) (x1 5)) (ay .and .i64 (ay .xor .i64 4294967295 (x1 4)) (x1 6)));let t3:=(i64.wrap ((i64.wrap ((x1 7)+(ay .xor .i64 (ay .xor .i64 r r1) r2)))+t2));bif (inb t 64)then(bif (inb t 64)then(match(jN (x1 0) 2)with|none=>none|some r3=>(match(jN (x1 0) 13)with|none=>none|some r4=>(match(jN (x1 0) 22)with|none=>none|some r5=>(let t4:=(ay .xor .i64 (ay .and .i64 (x1 0) (x1 1)) (ay .and .i64 (x1 0) (x1 2)));let t5:=(i64.wrap ((i64.wrap ((i64.wrap (t3+(k (Int.toNat t))))+(w (Int.toNat t))))+(ay .xor .i64 (ay .xor .i64 r3 r4) r5)));let t6:=(i64.wrap (t5+(ay .xor .i64 t4 (ay .and .i64 (x1 1) (x1 2)))));let t7:=(i64.wrap ((x1 3)+(i64.wrap ((i64.wrap (t3+(k (Int.toNat t))))+(w (Int.toNat t))))));some (.inl (((),((),((),((),((),((i64.wrap (t+1)),())))))),(v,(t1,(w,(k,((upd (upd (upd (upd (upd (upd (upd (upd (λ_=>0) 0 (ay .and .i64 t6 4294967295)) 1 (x1 0)) 2 (x1 1)) 3 (x1 2)) 4 (ay .and .i64 t7 4294967295)) 5 (x1 4)) 6 (x1 5)) 7 (x1 6)),())))))))))))else(none))else(none)))))else(some (.inr (((),((),((),()))),(v,(t1,(x1,()))))))
abbrev qK(i:Int)(v:NI)(t:NI)(x1:NI)(out:NI):=(((),((),((),((),(i,()))))),(v,(t,(x1,(out,())))))
abbrev xP(t:NI)(out:NI):=(((),((),())),(t,(out,())))
abbrev K8:Type:=(Z0v×Z0t)
def mZ:K8->Option (K8⊕(Z0h×Z05)):=λx=>let i:=x.1.2.2.2.2.1;let v:=x.2.1;let t:=x.2.2.1;let x1:=x.2.2.2.1;let out:=x.2.2.2.2.1;bif (decide (i<8))then(bif (inb i 8)then(bif (inb i 8)then(bif (inb i 8)then(some (.inl (((),((),((),((),((i64.wrap (i+1)),()))))),(v,(t,(x1,((upd out (Int.toNat i) (ay .and .i64 (i64.wrap ((v (Int.toNat i))+(x1 (Int.toNat i)))) 4294967295)),())))))))else(none))else(none))else(none))else(some (.inr (((),((),())),(t,(out,())))))
def LA(v:NI)(nb:Nat)(b:Nat->Int):Option (NI):=match(yQ nb b)with|none=>none|some r=>(match wE with|none=>none|some r1=>(match(au kD (((),((),((),((),((),(0,())))))),(v,((λ_=>0),(r,(r1,(v,())))))))with|none=>none|some y=>(let v1:=y.2.1;let t:=y.2.2.1;let x:=y.2.2.2.1;match(au mZ (((),((),((),((),(0,()))))),(v1,(t,(x,((λ_=>0),()))))))with|none=>none|some y1=>(let t1:=y1.2.1;let out:=y1.2.2.1;some out))))
def IZ:=veil LA
theorem Ns:IZ=LA:=aj _
abbrev GH(nb:Nat)(b:Nat->Int)(at_:Int)(v:NI):=(((nb,b),((),(at_,()))),(v,()))
abbrev K9(v:NI):=(((),()),(v,()))
abbrev QE:Type:=(((Nat×NI)×Z06)×(NI×Unit))
def sD:QE->Option (QE⊕(Z07×(NI×Unit))):=λx=>let nb:=x.1.1.1;let b:=x.1.1.2;let at_:=x.1.2.2.1;let v:=x.2.1;bif (decide (at_<((nb:Nat):Int)))then(bif ((decide (0<=(i64.wrap (at_+64))))&&(decide ((i64.wrap (at_+64))<=((nb:Nat):Int))))then(bif ((decide (0<=at_))&&(decide (at_<=(((Int.toNat (i64.wrap (at_+64))):Nat):Int))))then(match(IZ v ((Int.toNat (i64.wrap (at_+64)))-(Int.toNat at_)) (λj=>b ((Int.toNat at_)+j)))with|none=>none|some r=>(some (.inl (((nb,b),((),((i64.wrap (at_+64)),()))),(r,())))))else(none))else(none))else(some (.inr (((),()),(v,()))))
abbrev GJ(nout:Nat)(out:Nat->Int)(i:Int)(v:NI):=(((),((nout,out),(i,()))),(v,()))
abbrev Ka(nout:Nat)(out:Nat->Int):=(((nout,out),()),())
abbrev QF:Type:=((Unit×((Nat×NI)×Z02))×(NI×Unit))
def sF:QF->Option (QF⊕Z0x):=λx=>let nout:=x.1.2.1.1;let out:=x.1.2.1.2;let i:=x.1.2.2.1;let v:=x.2.1;bif (decide (i<8))then(bif (inb i 8)then(bif ((Nat.ble ((nout+1)*1) 140737488355328)&&(Nat.ble (nout+1) 9223372036854775807))then(bif (inb i 8)then(bif ((Nat.ble (((nout+1)+1)*1) 140737488355328)&&(Nat.ble ((nout+1)+1) 9223372036854775807))then(bif (inb i 8)then(bif ((Nat.ble ((((nout+1)+1)+1)*1) 140737488355328)&&(Nat.ble (((nout+1)+1)+1) 9223372036854775807))then(bif (inb i 8)then(bif ((Nat.ble (((((nout+1)+1)+1)+1)*1) 140737488355328)&&(Nat.ble ((((nout+1)+1)+1)+1) 9223372036854775807))then(some (.inl (((),((((((nout+1)+1)+1)+1),(glue (((nout+1)+1)+1) (glue ((nout+1)+1) (glue (nout+1) (glue nout out (λj=>(upd (λ_=>0) 0 (u8.wrap (ay .and .i64 (bO .i64 (v (Int.toNat i)) 24) 255))) (0+j))) (λj=>(upd (λ_=>0) 0 (u8.wrap (ay .and .i64 (bO .i64 (v (Int.toNat i)) 16) 255))) (0+j))) (λj=>(upd (λ_=>0) 0 (u8.wrap (ay .and .i64 (bO .i64 (v (Int.toNat i)) 8) 255))) (0+j))) (λj=>(upd (λ_=>0) 0 (u8.wrap (ay .and .i64 (bO .i64 (v (Int.toNat i)) 0) 255))) (0+j)))),((i64.wrap (i+1)),()))),(v,()))))else(none))else(none))else(none))else(none))else(none))else(none))else(none))else(none))else(some (.inr (((nout,out),()),())))
def Um(s:ByteArray):Option Z0E:=match(E9 s)with|none=>none|some r=>(match IY with|none=>none|some r1=>(match(au sD (((r.1,r.2),((),(0,()))),(r1,())))with|none=>none|some y=>(let v:=y.2.1;match(au sF (((),((0,(λ_=>0)),(0,()))),(v,())))with|none=>none|some y1=>(let nout:=y1.1.1.1;let out:=y1.1.1.2;some (bytesOf nout (λj=>out (0+j)))))))
def yR:=veil Um
theorem Un:yR=Um:=aj _
open Go.IntKind (i64 u64 u32 u8)
abbrev Ba(nc:Nat)(c:Nat->NI)(j:Int)(s:Z0b):=(((nc,c),((),(j,()))),(s,()))
abbrev GK:Type:=(Z09⊕((Z0d×Unit)×Unit))
abbrev WK(t:Bool):GK:=(.inl ((t,()),()))
abbrev Kc(nc:Nat)(c:Nat->NI):GK:=(.inr (((nc,c),()),()))
abbrev QG:Type:=((Z0d×Z06)×(Z0b×Unit))
def oM:QG->Option (QG⊕GK):=λx=>let nc:=x.1.1.1;let c:=x.1.1.2;let j:=x.1.2.2.1;let s:=x.2.1;bif (decide (j<((nc:Nat):Int)))then(bif (inb j nc)then(match(YW s (c (Int.toNat j)))with|none=>none|some r=>(bif (!r)then(some (.inr (.inl ((false,()),()))))else(some (.inl (((nc,c),((),((i64.wrap (j+1)),()))),(s,()))))))else(none))else(some (.inr (.inr (((nc,c),()),()))))
def Uo(s:Z0b)(nc:Nat)(c:Nat->NI):Option (Bool):=match(au oM (((nc,c),((),(0,()))),(s,())))with|none=>none|some y=>(match y with| .inl y1=>(let t:=y1.1.1;some t)| .inr y1=>(let nc1:=y1.1.1.1;let c1:=y1.1.1.2;bif (decide (((nc1:Nat):Int)>=1))then(some (decide (((nc1:Nat):Int)<=7)))else(some false)))
def Nt:=veil Uo
theorem Uq:Nt=Uo:=aj _
abbrev LB(nc:Nat)(c:Nat->NI)(i:Int)(out:Int)(power:Int)(j:Int)(s:Z0b):=(((nc,c),(i,((),(out,(power,(j,())))))),(s,()))
abbrev Ea(out:Int):=((out,()),())
abbrev Ur:Type:=((Z0d×(Int×(Unit×(Int×(Int×Z02)))))×(Z0b×Unit))
def vJ:Ur->Option (Ur⊕(Z02×Unit)):=λx=>let nc:=x.1.1.1;let c:=x.1.1.2;let i:=x.1.2.1;let out:=x.1.2.2.2.1;let power:=x.1.2.2.2.2.1;let j:=x.1.2.2.2.2.2.1;let s:=x.2.1;bif (decide (j<((nc:Nat):Int)))then(bif (inb j nc)then(match(YT (c (Int.toNat j)) s.1)with|none=>none|some r=>(match(II power)with|none=>none|some r1=>(match(IW s r r1)with|none=>none|some r2=>(match(RV s out r2)with|none=>none|some r3=>(some (.inl (((nc,c),(i,((),(r3,((i64.wrap (power*i)),((i64.wrap (j+1)),())))))),(s,()))))))))else(none))else(some (.inr ((out,()),())))
def Z8(s:Z0b)(nc:Nat)(c:Nat->NI)(i:Int):Option (Int):=match(au vJ (((nc,c),(i,((),(1,(1,(0,())))))),(s,())))with|none=>none|some y=>(let out:=y.1.1;some out)
def Z9:=veil Z8
theorem XM:Z9=Z8:=aj _
def LC(s:Z0b)(nc:Nat)(c:Nat->NI)(x:(Int×NI)):Option (Bool):=match(yK x.2)with|none=>none|some r=>(match(Nt s nc c)with|none=>none|some r1=>(bif r1 then(bif (decide (x.1>=1))then(bif (decide (x.1<=7))then(bif r.2 then(bif (decide (r.1<s.2.1))then(match(IW s s.2.2 x.2)with|none=>none|some r2=>(match(Z9 s nc c x.1)with|none=>none|some r3=>(some (r2==r3))))else(some false))else(some false))else(some false))else(some false))else(some false)))
def J2:=veil LC
theorem Nu:J2=LC:=aj _
open Go.IntKind (i64 u64 u32 u8)
open Go.IntKind (i64 u64 u32 u8)
abbrev wW(nm:Nat)(m:Nat->(SlV NI))(most:Int)(i:Int):=(((nm,m),(most,(i,()))),())
abbrev GL:Type:=(Z09⊕((Z0a×Z02)×Unit))
abbrev WL(t:Bool):GL:=(.inl ((t,()),()))
abbrev WM(nm:Nat)(m:Nat->(SlV NI))(most:Int):GL:=(.inr (((nm,m),(most,())),()))
abbrev QH:Type:=((Z0a×(Int×Z02))×Unit)
def lD:QH->Option (QH⊕GL):=λx=>let nm:=x.1.1.1;let m:=x.1.1.2;let most:=x.1.2.1;let i:=x.1.2.2.1;bif (decide (i<((nm:Nat):Int)))then(bif (decide (i<most))then(bif (inb i nm)then(bif (SlV.isMs (m (Int.toNat i)))then(none)else(bif (decide ((((SlV.len (m (Int.toNat i))):Nat):Int)>8))then(some (.inr (.inl ((false,()),()))))else(some (.inl (((nm,m),(most,((i64.wrap (i+1)),()))),())))))else(none))else(some (.inr (.inr (((nm,m),(most,())),())))))else(some (.inr (.inr (((nm,m),(most,())),()))))
def Us(nm:Nat)(m:Nat->(SlV NI))(most:Int):Option (Bool):=match(au lD (((nm,m),(most,(0,()))),()))with|none=>none|some y=>(match y with| .inl y1=>(let t:=y1.1.1;some t)| .inr y1=>(let nm1:=y1.1.1.1;let m1:=y1.1.1.2;let most1:=y1.1.2.1;some (decide (((nm1:Nat):Int)<=most1))))
def RY:=veil Us
theorem Ut:RY=Us:=aj _
abbrev yS(na:Nat)(a:Nat->(SlV NI))(nb:Nat)(b:Nat->(SlV NI))(i:Int):=(((na,a),((nb,b),(i,()))),())
abbrev Eb:Type:=(Z09⊕Z07)
abbrev Uu(t:Bool):Eb:=(.inl ((t,()),()))
abbrev Uv:Eb:=(.inr ((),()))
abbrev Nv:Type:=((Z0a×(Z0a×Z02))×Unit)
def lS:Nv->Option (Nv⊕Eb):=λx=>let na:=x.1.1.1;let a:=x.1.1.2;let nb:=x.1.2.1.1;let b:=x.1.2.1.2;let i:=x.1.2.2.1;bif (decide (i<((na:Nat):Int)))then(bif (inb i na)then(bif (SlV.isMs (a (Int.toNat i)))then(none)else(bif (inb i nb)then(bif (SlV.isMs (b (Int.toNat i)))then(none)else(match(Gs (SlV.len (a (Int.toNat i))) (SlV.fn ((λ_=>0):NI) (a (Int.toNat i))) (SlV.len (b (Int.toNat i))) (SlV.fn ((λ_=>0):NI) (b (Int.toNat i))))with|none=>none|some r=>(bif (!r)then(some (.inr (.inl ((false,()),()))))else(some (.inl (((na,a),((nb,b),((i64.wrap (i+1)),()))),()))))))else(none)))else(none))else(some (.inr (.inr ((),()))))
def Pj(na:Nat)(a:Nat->(SlV NI))(nb:Nat)(b:Nat->(SlV NI)):Option (Bool):=bif (((na:Nat):Int) !=((nb:Nat):Int))then(some false)else(match(au lS (((na,a),((nb,b),(0,()))),()))with|none=>none|some y=>(match y with| .inl y1=>(let t:=y1.1.1;some t)| .inr y1=>(some true)))
def Nw:=veil Pj
theorem QI:Nw=Pj:=aj _
abbrev wX(t:Int)(nm:Nat)(m:Nat->(SlV NI))(i:Int)(s:Z0b):=((t,((nm,m),((),(i,())))),(s,()))
abbrev GN:Type:=(Z09⊕((Int×(Z0a×Unit))×Unit))
abbrev WO(t:Bool):GN:=(.inl ((t,()),()))
abbrev Ke(t:Int)(nm:Nat)(m:Nat->(SlV NI)):GN:=(.inr ((t,((nm,m),())),()))
abbrev QJ:Type:=((Int×(Z0a×Z06))×(Z0b×Unit))
def lF:QJ->Option (QJ⊕GN):=λx=>let t:=x.1.1;let nm:=x.1.2.1.1;let m:=x.1.2.1.2;let i:=x.1.2.2.2.1;let s:=x.2.1;bif (decide (i<((nm:Nat):Int)))then(bif (inb i nm)then(bif (SlV.isMs (m (Int.toNat i)))then(none)else(bif ((((SlV.len (m (Int.toNat i))):Nat):Int) !=(i64.wrap (t+1)))then(some (.inr (.inl ((false,()),()))))else(bif (inb i nm)then(bif (SlV.isMs (m (Int.toNat i)))then(none)else(match(Nt s (SlV.len (m (Int.toNat i))) (SlV.fn ((λ_=>0):NI) (m (Int.toNat i))))with|none=>none|some r=>(bif (!r)then(some (.inr (.inl ((false,()),()))))else(some (.inl ((t,((nm,m),((),((i64.wrap (i+1)),())))),(s,())))))))else(none))))else(none))else(some (.inr (.inr ((t,((nm,m),())),()))))
def Uw(s:Z0b)(t:Int)(nm:Nat)(m:Nat->(SlV NI)):Option (Bool):=match(au lF ((t,((nm,m),((),(0,())))),(s,())))with|none=>none|some y=>(match y with| .inl y1=>(let t1:=y1.1.1;some t1)| .inr y1=>(let t2:=y1.1.1;let nm1:=y1.1.2.1.1;let m1:=y1.1.2.1.2;bif (decide (t2>=1))then(bif (decide (t2<=2))then(bif (decide (((nm1:Nat):Int)>=1))then(some (decide (((nm1:Nat):Int)<=25)))else(some false))else(some false))else(some false)))
def Ny:=veil Uw
theorem Ux:Ny=Uw:=aj _
abbrev pW(nm:Nat)(m:Nat->(SlV NI))(i:Int):=(((nm,m),(i,())),())
abbrev Ec:Type:=(Z09⊕((Z0a×Unit)×Unit))
abbrev Uy(t:Bool):Ec:=(.inl ((t,()),()))
abbrev GQ(nm:Nat)(m:Nat->(SlV NI)):Ec:=(.inr (((nm,m),()),()))
abbrev Nz:Type:=((Z0a×Z02)×Unit)
def iT:Nz->Option (Nz⊕Ec):=λx=>let nm:=x.1.1.1;let m:=x.1.1.2;let i:=x.1.2.1;bif (decide (i<((nm:Nat):Int)))then(bif (inb i nm)then(bif (SlV.isMs (m (Int.toNat i)))then(none)else(bif (inb 0 nm)then(bif (SlV.isMs (m 0))then(none)else(bif ((((SlV.len (m (Int.toNat i))):Nat):Int) !=(((SlV.len (m 0)):Nat):Int))then(some (.inr (.inl ((false,()),()))))else(bif (inb i nm)then(bif (SlV.isMs (m (Int.toNat i)))then(none)else(bif (decide ((((SlV.len (m (Int.toNat i))):Nat):Int)<1))then(some (.inr (.inl ((false,()),()))))else(bif (inb i nm)then(bif (SlV.isMs (m (Int.toNat i)))then(none)else(bif (decide ((((SlV.len (m (Int.toNat i))):Nat):Int)>7))then(some (.inr (.inl ((false,()),()))))else(some (.inl (((nm,m),((i64.wrap (i+1)),())),())))))else(none))))else(none))))else(none)))else(none))else(some (.inr (.inr (((nm,m),()),()))))
def Pk(nm:Nat)(m:Nat->(SlV NI)):Option (Bool):=match(au iT (((nm,m),(0,())),()))with|none=>none|some y=>(match y with| .inl y1=>(let t:=y1.1.1;some t)| .inr y1=>(let nm1:=y1.1.1.1;let m1:=y1.1.1.2;bif (decide (((nm1:Nat):Int)>=1))then(some (decide (((nm1:Nat):Int)<=25)))else(some false)))
def NA:=veil Pk
theorem QK:NA=Pk:=aj _
abbrev BQ(nm:Nat)(m:Nat->(SlV NI))(s:ByteArray)(i:Int)(k:Int):=(((nm,m),(s,(i,(k,())))),())
abbrev EZ(nm:Nat)(m:Nat->(SlV NI))(s:ByteArray)(i:Int):=(((nm,m),(s,(i,()))),())
abbrev Kg:Type:=((Z0a×(ByteArray×(Int×Z02)))×Unit)
def ng:Kg->Option (Kg⊕((Z0a×(ByteArray×Z02))×Unit)):=λx=>let nm:=x.1.1.1;let m:=x.1.1.2;let s:=x.1.2.1;let i:=x.1.2.2.1;let k:=x.1.2.2.2.1;bif (inb i nm)then(bif (SlV.isMs (m (Int.toNat i)))then(none)else(bif (decide (k<(((SlV.len (m (Int.toNat i))):Nat):Int)))then(bif (inb i nm)then(bif (SlV.isMs (m (Int.toNat i)))then(none)else(bif (inb k (SlV.len (m (Int.toNat i))))then(match(IK ((SlV.fn ((λ_=>0):NI) (m (Int.toNat i))) (Int.toNat k)))with|none=>none|some r=>(bif (decide (((((ByteArray.size s)+(ByteArray.size (bytesOf 1 (λj=>(upd (λ_=>0) 0 (u8.wrap (((ByteArray.size r):Nat):Int))) (0+j))))):Nat):Int)>IntKind.i64.max))then(none)else(bif (decide (((((ByteArray.size (s++(bytesOf 1 (λj=>(upd (λ_=>0) 0 (u8.wrap (((ByteArray.size r):Nat):Int))) (0+j)))))+(ByteArray.size r)):Nat):Int)>IntKind.i64.max))then(none)else(let t:=((s++(bytesOf 1 (λj=>(upd (λ_=>0) 0 (u8.wrap (((ByteArray.size r):Nat):Int))) (0+j))))++r);some (.inl (((nm,m),(t,(i,((i64.wrap (k+1)),())))),()))))))else(none)))else(none))else(some (.inr (((nm,m),(s,(i,()))),())))))else(none)
abbrev BR(nm:Nat)(m:Nat->(SlV NI))(s:ByteArray)(i:Int):=(((nm,m),(s,(i,()))),())
abbrev F3(s:ByteArray):=((s,()),())
abbrev Kh:Type:=((Z0a×(ByteArray×Z02))×Unit)
def kE:Kh->Option (Kh⊕((ByteArray×Unit)×Unit)):=λx=>let nm:=x.1.1.1;let m:=x.1.1.2;let s:=x.1.2.1;let i:=x.1.2.2.1;bif (decide (i<((nm:Nat):Int)))then(match(au ng (((nm,m),(s,(i,(0,())))),()))with|none=>none|some y=>(let nm1:=y.1.1.1;let m1:=y.1.1.2;let s1:=y.1.2.1;let i1:=y.1.2.2.1;some (.inl (((nm1,m1),(s1,((i64.wrap (i1+1)),()))),()))))else(some (.inr ((s,()),())))
def LD(nm:Nat)(m:Nat->(SlV NI)):Option Z0E:=match(NA nm m)with|none=>none|some r=>(bif (!r)then(some (ByteArray.mk #[]))else(bif (inb 0 nm)then(bif (SlV.isMs (m 0))then(none)else(let t:=(bytesOf 2 (λj=>(upd (upd (λ_=>0) 0 (u8.wrap ((nm:Nat):Int))) 1 (u8.wrap (((SlV.len (m 0)):Nat):Int))) (0+j)));match(au kE (((nm,m),(t,(0,()))),()))with|none=>none|some y=>(let s:=y.1.1;some s)))else(none)))
def J3:=veil LD
theorem NC:J3=LD:=aj _
def GU(nm:Nat)(m:Nat->(SlV NI)):Option Z0E:=match(J3 nm m)with|none=>none|some r=>(match(yR r)with|none=>none|some r1=>(some r1))
def zM:=veil GU
theorem Ki:zM=GU:=aj _
abbrev wF(nm:Nat)(m:Nat->(SlV NI))(i:Int)(s:Z0b)(p:Int)(np:Nat)(p1:Nat->NI):=(((nm,m),((),((),(i,())))),(s,((p,(np,p1)),())))
abbrev BS:Type:=(Z09⊕Z07)
abbrev Rt(t:Bool):BS:=(.inl ((t,()),()))
abbrev Ru:BS:=(.inr ((),()))
abbrev Kj:Type:=((Z0a×Z0k)×(Z0b×((Int×Z0d)×Unit)))
def kF:Kj->Option (Kj⊕BS):=λx=>let nm:=x.1.1.1;let m:=x.1.1.2;let i:=x.1.2.2.2.1;let s:=x.2.1;let p:=x.2.2.1.1;let np:=x.2.2.1.2.1;let p1:=x.2.2.1.2.2;bif (decide (i<((nm:Nat):Int)))then(bif (decide (i<((np:Nat):Int)))then(bif (inb i nm)then(bif (SlV.isMs (m (Int.toNat i)))then(none)else(bif (inb i np)then(match(J2 s (SlV.len (m (Int.toNat i))) (SlV.fn ((λ_=>0):NI) (m (Int.toNat i))) (p,(p1 (Int.toNat i))))with|none=>none|some r=>(bif (!r)then(some (.inr (.inl ((false,()),()))))else(some (.inl (((nm,m),((),((),((i64.wrap (i+1)),())))),(s,((p,(np,p1)),())))))))else(none)))else(none))else(some (.inr (.inr ((),())))))else(some (.inr (.inr ((),()))))
def LH(s:Z0b)(nm:Nat)(m:Nat->(SlV NI))(p:(Int×Z0d)):Option (Bool):=bif (((p.2.1:Nat):Int) !=((nm:Nat):Int))then(some false)else(bif (decide (((nm:Nat):Int)<1))then(some false)else(bif (decide (((nm:Nat):Int)>25))then(some false)else(match(au kF (((nm,m),((),((),(0,())))),(s,((p.1,(p.2.1,p.2.2)),()))))with|none=>none|some y=>(match y with| .inl y1=>(let t:=y1.1.1;some t)| .inr y1=>(some true)))))
def vK:=veil LH
theorem ND:vK=LH:=aj _
open Go.IntKind (i64 u64 u32 u8)
def Uz(s:(Int×Int)):Option (Bool):=bif (decide (s.1>=1))then(bif (decide (s.1<=1099511627776))then(bif (decide (s.2>=1))then(some (decide (s.2<=4)))else(some false))else(some false))else(some false)
def NG:=veil Uz
theorem UA:NG=Uz:=aj _
open Go.IntKind (i64 u64 u32 u8)
def LJ(s:(Int×(Int×(Z0c×(Nat×NI)))))(end_:Int):Option (Int):=bif (decide (end_>=1))then(bif (decide (end_<=s.1))then(some (i64.wrap ((i64.wrap (s.2.1*s.1))*4)))else(bif (decide (end_>s.1))then(bif (decide (end_<=(i64.wrap (s.1+s.2.1))))then(some 4)else(some 0))else(some 0)))else(bif (decide (end_>s.1))then(bif (decide (end_<=(i64.wrap (s.1+s.2.1))))then(some 4)else(some 0))else(some 0))
def J4:=veil LJ
theorem NH:J4=LJ:=aj _
open Go.IntKind (i64 u64 u32 u8)
def BU(x:GA):Option (Bool):=bif (decide ((((ByteArray.size x.2.1):Nat):Int)<=40))then(match(RY x.2.2.1.1 x.2.2.1.2 4)with|none=>none|some r=>(bif r then(some (decide (((x.2.2.2.1.1:Nat):Int)<=6)))else(some false)))else(some false)
def lT:=veil BU
theorem F4:lT=BU:=aj _
abbrev wY(i:Int)(k:Int)(x1:Int)(x2:Int)(x3:Int)(nx:Nat)(x4:NI)(nx1:Nat)(x5:Nat->RE)(r:ByteArray)(r1:(Int×Int))(r2:ByteArray)(nr:Nat)(r3:Nat->(SlV NI))(nr1:Nat)(r4:Nat->NI)(r5:Int)(nr2:Nat)(r6:Nat->VO)(nr3:Nat)(r7:Nat->VO)(nr4:Nat)(r8:Nat->TO):=(((),(i,((),(k,())))),((x1,(x2,(x3,((nx,x4),(nx1,x5))))),((r,((r1,(r2,((nr,r3),((nr1,r4),r5)))),((nr2,r6),((nr3,r7),(nr4,r8))))),())))
abbrev GV:Type:=(Z09⊕((Unit×(Int×Z07))×(IM×(RA×Unit))))
abbrev Kk(t:Bool):GV:=(.inl ((t,()),()))
abbrev wG(i:Int)(x1:Int)(x2:Int)(x3:Int)(nx:Nat)(x4:NI)(nx1:Nat)(x5:Nat->RE)(r:ByteArray)(r1:(Int×Int))(r2:ByteArray)(nr:Nat)(r3:Nat->(SlV NI))(nr1:Nat)(r4:Nat->NI)(r5:Int)(nr2:Nat)(r6:Nat->VO)(nr3:Nat)(r7:Nat->VO)(nr4:Nat)(r8:Nat->TO):GV:=(.inr (((),(i,((),()))),((x1,(x2,(x3,((nx,x4),(nx1,x5))))),((r,((r1,(r2,((nr,r3),((nr1,r4),r5)))),((nr2,r6),((nr3,r7),(nr4,r8))))),()))))
abbrev QL:Type:=((Unit×(Int×Z06))×(IM×(RA×Unit)))
def oN:QL->Option (QL⊕GV):=λx=>let i:=x.1.2.1;let k:=x.1.2.2.2.1;let x1:=x.2.1.1;let x2:=x.2.1.2.1;let x3:=x.2.1.2.2.1;let nx:=x.2.1.2.2.2.1.1;let x4:=x.2.1.2.2.2.1.2;let nx1:=x.2.1.2.2.2.2.1;let x5:=x.2.1.2.2.2.2.2;let r:=x.2.2.1.1;let r1:=x.2.2.1.2.1.1;let r2:=x.2.2.1.2.1.2.1;let nr:=x.2.2.1.2.1.2.2.1.1;let r3:=x.2.2.1.2.1.2.2.1.2;let nr1:=x.2.2.1.2.1.2.2.2.1.1;let r4:=x.2.2.1.2.1.2.2.2.1.2;let r5:=x.2.2.1.2.1.2.2.2.2;let nr2:=x.2.2.1.2.2.1.1;let r6:=x.2.2.1.2.2.1.2;let nr3:=x.2.2.1.2.2.2.1.1;let r7:=x.2.2.1.2.2.2.1.2;let nr4:=x.2.2.1.2.2.2.2.1;let r8:=x.2.2.1.2.2.2.2.2;bif (decide (k<((nr2:Nat):Int)))then(bif (inb k nr2)then(bif (decide ((((ByteArray.size (r6 (Int.toNat k)).2.2):Nat):Int)>40))then(some (.inr (.inl ((false,()),()))))else(some (.inl (((),(i,((),((i64.wrap (k+1)),())))),((x1,(x2,(x3,((nx,x4),(nx1,x5))))),((r,((r1,(r2,((nr,r3),((nr1,r4),r5)))),((nr2,r6),((nr3,r7),(nr4,r8))))),()))))))else(none))else(some (.inr (.inr (((),(i,((),()))),((x1,(x2,(x3,((nx,x4),(nx1,x5))))),((r,((r1,(r2,((nr,r3),((nr1,r4),r5)))),((nr2,r6),((nr3,r7),(nr4,r8))))),()))))))
abbrev wZ(i:Int)(k:Int)(x1:Int)(x2:Int)(x3:Int)(nx:Nat)(x4:NI)(nx1:Nat)(x5:Nat->RE)(r:ByteArray)(r1:(Int×Int))(r2:ByteArray)(nr:Nat)(r3:Nat->(SlV NI))(nr1:Nat)(r4:Nat->NI)(r5:Int)(nr2:Nat)(r6:Nat->VO)(nr3:Nat)(r7:Nat->VO)(nr4:Nat)(r8:Nat->TO):=(((),(i,((),(k,())))),((x1,(x2,(x3,((nx,x4),(nx1,x5))))),((r,((r1,(r2,((nr,r3),((nr1,r4),r5)))),((nr2,r6),((nr3,r7),(nr4,r8))))),())))
abbrev GX:Type:=(Z09⊕((Unit×(Int×Z07))×(IM×(RA×Unit))))
abbrev Kl(t:Bool):GX:=(.inl ((t,()),()))
abbrev BX(i:Int)(x1:Int)(x2:Int)(x3:Int)(nx:Nat)(x4:NI)(nx1:Nat)(x5:Nat->RE)(r:ByteArray)(r1:(Int×Int))(r2:ByteArray)(nr:Nat)(r3:Nat->(SlV NI))(nr1:Nat)(r4:Nat->NI)(r5:Int)(nr2:Nat)(r6:Nat->VO)(nr3:Nat)(r7:Nat->VO)(nr4:Nat)(r8:Nat->TO):GX:=(.inr (((),(i,((),()))),((x1,(x2,(x3,((nx,x4),(nx1,x5))))),((r,((r1,(r2,((nr,r3),((nr1,r4),r5)))),((nr2,r6),((nr3,r7),(nr4,r8))))),()))))
abbrev QM:Type:=((Unit×(Int×Z06))×(IM×(RA×Unit)))
def oO:QM->Option (QM⊕GX):=λx=>let i:=x.1.2.1;let k:=x.1.2.2.2.1;let x1:=x.2.1.1;let x2:=x.2.1.2.1;let x3:=x.2.1.2.2.1;let nx:=x.2.1.2.2.2.1.1;let x4:=x.2.1.2.2.2.1.2;let nx1:=x.2.1.2.2.2.2.1;let x5:=x.2.1.2.2.2.2.2;let r:=x.2.2.1.1;let r1:=x.2.2.1.2.1.1;let r2:=x.2.2.1.2.1.2.1;let nr:=x.2.2.1.2.1.2.2.1.1;let r3:=x.2.2.1.2.1.2.2.1.2;let nr1:=x.2.2.1.2.1.2.2.2.1.1;let r4:=x.2.2.1.2.1.2.2.2.1.2;let r5:=x.2.2.1.2.1.2.2.2.2;let nr2:=x.2.2.1.2.2.1.1;let r6:=x.2.2.1.2.2.1.2;let nr3:=x.2.2.1.2.2.2.1.1;let r7:=x.2.2.1.2.2.2.1.2;let nr4:=x.2.2.1.2.2.2.2.1;let r8:=x.2.2.1.2.2.2.2.2;bif (decide (k<((nr3:Nat):Int)))then(bif (inb k nr3)then(bif (decide ((((ByteArray.size (r7 (Int.toNat k)).2.2):Nat):Int)>40))then(some (.inr (.inl ((false,()),()))))else(some (.inl (((),(i,((),((i64.wrap (k+1)),())))),((x1,(x2,(x3,((nx,x4),(nx1,x5))))),((r,((r1,(r2,((nr,r3),((nr1,r4),r5)))),((nr2,r6),((nr3,r7),(nr4,r8))))),()))))))else(none))else(some (.inr (.inr (((),(i,((),()))),((x1,(x2,(x3,((nx,x4),(nx1,x5))))),((r,((r1,(r2,((nr,r3),((nr1,r4),r5)))),((nr2,r6),((nr3,r7),(nr4,r8))))),()))))))
abbrev oP(i:Int)(k:Int)(x1:Int)(x2:Int)(x3:Int)(nx:Nat)(x4:NI)(nx1:Nat)(x5:Nat->RE)(r:ByteArray)(r1:(Int×Int))(r2:ByteArray)(nr:Nat)(r3:Nat->(SlV NI))(nr1:Nat)(r4:Nat->NI)(r5:Int)(nr2:Nat)(r6:Nat->VO)(nr3:Nat)(r7:Nat->VO)(nr4:Nat)(r8:Nat->TO):=(((),(i,((),(k,())))),((x1,(x2,(x3,((nx,x4),(nx1,x5))))),((r,((r1,(r2,((nr,r3),((nr1,r4),r5)))),((nr2,r6),((nr3,r7),(nr4,r8))))),())))
abbrev GY:Type:=(Z09⊕(Z06×(IM×Unit)))
abbrev Km(t:Bool):GY:=(.inl ((t,()),()))
abbrev Kn(i:Int)(x1:Int)(x2:Int)(x3:Int)(nx:Nat)(x4:NI)(nx1:Nat)(x5:Nat->RE):GY:=(.inr (((),(i,())),((x1,(x2,(x3,((nx,x4),(nx1,x5))))),())))
abbrev QN:Type:=((Unit×(Int×Z06))×(IM×(RA×Unit)))
def jO:QN->Option (QN⊕GY):=λx=>let i:=x.1.2.1;let k:=x.1.2.2.2.1;let x1:=x.2.1.1;let x2:=x.2.1.2.1;let x3:=x.2.1.2.2.1;let nx:=x.2.1.2.2.2.1.1;let x4:=x.2.1.2.2.2.1.2;let nx1:=x.2.1.2.2.2.2.1;let x5:=x.2.1.2.2.2.2.2;let r:=x.2.2.1.1;let r1:=x.2.2.1.2.1.1;let r2:=x.2.2.1.2.1.2.1;let nr:=x.2.2.1.2.1.2.2.1.1;let r3:=x.2.2.1.2.1.2.2.1.2;let nr1:=x.2.2.1.2.1.2.2.2.1.1;let r4:=x.2.2.1.2.1.2.2.2.1.2;let r5:=x.2.2.1.2.1.2.2.2.2;let nr2:=x.2.2.1.2.2.1.1;let r6:=x.2.2.1.2.2.1.2;let nr3:=x.2.2.1.2.2.2.1.1;let r7:=x.2.2.1.2.2.2.1.2;let nr4:=x.2.2.1.2.2.2.2.1;let r8:=x.2.2.1.2.2.2.2.2;bif (decide (k<((nr4:Nat):Int)))then(bif (inb k nr4)then(bif (SlV.isMs (r8 (Int.toNat k)).1.2.2.1)then(none)else(bif (SlV.isMs (r8 (Int.toNat k)).1.2.2.2.1)then(none)else(match(lT ((r8 (Int.toNat k)).1.1,((r8 (Int.toNat k)).1.2.1,(((SlV.len (r8 (Int.toNat k)).1.2.2.1),(SlV.fn (.nil:(SlV NI)) (r8 (Int.toNat k)).1.2.2.1)),(((SlV.len (r8 (Int.toNat k)).1.2.2.2.1),(SlV.fn ((λ_=>0):NI) (r8 (Int.toNat k)).1.2.2.2.1)),(r8 (Int.toNat k)).1.2.2.2.2)))))with|none=>none|some r9=>(bif (!r9)then(some (.inr (.inl ((false,()),()))))else(bif (inb k nr4)then(bif (SlV.isMs (r8 (Int.toNat k)).2.1.2.2.1)then(none)else(bif (SlV.isMs (r8 (Int.toNat k)).2.1.2.2.2.1)then(none)else(match(lT ((r8 (Int.toNat k)).2.1.1,((r8 (Int.toNat k)).2.1.2.1,(((SlV.len (r8 (Int.toNat k)).2.1.2.2.1),(SlV.fn (.nil:(SlV NI)) (r8 (Int.toNat k)).2.1.2.2.1)),(((SlV.len (r8 (Int.toNat k)).2.1.2.2.2.1),(SlV.fn ((λ_=>0):NI) (r8 (Int.toNat k)).2.1.2.2.2.1)),(r8 (Int.toNat k)).2.1.2.2.2.2)))))with|none=>none|some r10=>(bif (!r10)then(some (.inr (.inl ((false,()),()))))else(bif (inb k nr4)then(bif (SlV.isMs (r8 (Int.toNat k)).2.2.1.2.2.1)then(none)else(bif (SlV.isMs (r8 (Int.toNat k)).2.2.1.2.2.2.1)then(none)else(match(lT ((r8 (Int.toNat k)).2.2.1.1,((r8 (Int.toNat k)).2.2.1.2.1,(((SlV.len (r8 (Int.toNat k)).2.2.1.2.2.1),(SlV.fn (.nil:(SlV NI)) (r8 (Int.toNat k)).2.2.1.2.2.1)),(((SlV.len (r8 (Int.toNat k)).2.2.1.2.2.2.1),(SlV.fn ((λ_=>0):NI) (r8 (Int.toNat k)).2.2.1.2.2.2.1)),(r8 (Int.toNat k)).2.2.1.2.2.2.2)))))with|none=>none|some r11=>(bif (!r11)then(some (.inr (.inl ((false,()),()))))else(some (.inl (((),(i,((),((i64.wrap (k+1)),())))),((x1,(x2,(x3,((nx,x4),(nx1,x5))))),((r,((r1,(r2,((nr,r3),((nr1,r4),r5)))),((nr2,r6),((nr3,r7),(nr4,r8))))),())))))))))else(none))))))else(none))))))else(none))else(some (.inr (.inr (((),(i,())),((x1,(x2,(x3,((nx,x4),(nx1,x5))))),())))))
abbrev fH(i:Int)(x1:Int)(x2:Int)(x3:Int)(nx:Nat)(x4:NI)(nx1:Nat)(x5:Nat->RE):=(((),(i,())),((x1,(x2,(x3,((nx,x4),(nx1,x5))))),()))
abbrev GZ:Type:=(Z09⊕Z07)
abbrev WQ(t:Bool):GZ:=(.inl ((t,()),()))
abbrev WR:GZ:=(.inr ((),()))
abbrev QO:Type:=(Z06×(IM×Unit))
def dz:QO->Option (QO⊕GZ):=λx=>let i:=x.1.2.1;let x1:=x.2.1.1;let x2:=x.2.1.2.1;let x3:=x.2.1.2.2.1;let nx:=x.2.1.2.2.2.1.1;let x4:=x.2.1.2.2.2.1.2;let nx1:=x.2.1.2.2.2.2.1;let x5:=x.2.1.2.2.2.2.2;bif (decide (i<((nx1:Nat):Int)))then(bif (inb i nx1)then(bif (SlV.isMs (x5 (Int.toNat i)).2.1.2.2.1)then(none)else(bif (SlV.isMs (x5 (Int.toNat i)).2.1.2.2.2.1)then(none)else(bif (SlV.isMs (x5 (Int.toNat i)).2.2.1)then(none)else(bif (SlV.isMs (x5 (Int.toNat i)).2.2.2.1)then(none)else(bif (SlV.isMs (x5 (Int.toNat i)).2.2.2.2)then(none)else(bif (decide ((((ByteArray.size (x5 (Int.toNat i)).1):Nat):Int)>20))then(some (.inr (.inl ((false,()),()))))else(bif (decide ((((SlV.len (x5 (Int.toNat i)).2.2.1):Nat):Int)>20))then(some (.inr (.inl ((false,()),()))))else(bif (decide ((((SlV.len (x5 (Int.toNat i)).2.2.2.1):Nat):Int)>20))then(some (.inr (.inl ((false,()),()))))else(bif (decide ((((SlV.len (x5 (Int.toNat i)).2.2.2.2):Nat):Int)>5))then(some (.inr (.inl ((false,()),()))))else(match(lT ((x5 (Int.toNat i)).2.1.1,((x5 (Int.toNat i)).2.1.2.1,(((SlV.len (x5 (Int.toNat i)).2.1.2.2.1),(SlV.fn (.nil:(SlV NI)) (x5 (Int.toNat i)).2.1.2.2.1)),(((SlV.len (x5 (Int.toNat i)).2.1.2.2.2.1),(SlV.fn ((λ_=>0):NI) (x5 (Int.toNat i)).2.1.2.2.2.1)),(x5 (Int.toNat i)).2.1.2.2.2.2)))))with|none=>none|some r=>(bif (!r)then(some (.inr (.inl ((false,()),()))))else(match(au oN (((),(i,((),(0,())))),((x1,(x2,(x3,((nx,x4),(nx1,x5))))),(((x5 (Int.toNat i)).1,(((x5 (Int.toNat i)).2.1.1,((x5 (Int.toNat i)).2.1.2.1,(((SlV.len (x5 (Int.toNat i)).2.1.2.2.1),(SlV.fn (.nil:(SlV NI)) (x5 (Int.toNat i)).2.1.2.2.1)),(((SlV.len (x5 (Int.toNat i)).2.1.2.2.2.1),(SlV.fn ((λ_=>0):NI) (x5 (Int.toNat i)).2.1.2.2.2.1)),(x5 (Int.toNat i)).2.1.2.2.2.2)))),(((SlV.len (x5 (Int.toNat i)).2.2.1),(SlV.fn (zV:VO) (x5 (Int.toNat i)).2.2.1)),(((SlV.len (x5 (Int.toNat i)).2.2.2.1),(SlV.fn (zV:VO) (x5 (Int.toNat i)).2.2.2.1)),((SlV.len (x5 (Int.toNat i)).2.2.2.2),(SlV.fn (zT:TO) (x5 (Int.toNat i)).2.2.2.2)))))),()))))with|none=>none|some y=>(match y with| .inl y1=>(let t:=y1.1.1;some (.inr (.inl ((t,()),()))))| .inr y1=>(let i1:=y1.1.2.1;let x6:=y1.2.1.1;let x7:=y1.2.1.2.1;let x8:=y1.2.1.2.2.1;let nx2:=y1.2.1.2.2.2.1.1;let x9:=y1.2.1.2.2.2.1.2;let nx3:=y1.2.1.2.2.2.2.1;let x10:=y1.2.1.2.2.2.2.2;let r1:=y1.2.2.1.1;let r2:=y1.2.2.1.2.1.1;let r3:=y1.2.2.1.2.1.2.1;let nr:=y1.2.2.1.2.1.2.2.1.1;let r4:=y1.2.2.1.2.1.2.2.1.2;let nr1:=y1.2.2.1.2.1.2.2.2.1.1;let r5:=y1.2.2.1.2.1.2.2.2.1.2;let r6:=y1.2.2.1.2.1.2.2.2.2;let nr2:=y1.2.2.1.2.2.1.1;let r7:=y1.2.2.1.2.2.1.2;let nr3:=y1.2.2.1.2.2.2.1.1;let r8:=y1.2.2.1.2.2.2.1.2;let nr4:=y1.2.2.1.2.2.2.2.1;let r9:=y1.2.2.1.2.2.2.2.2;match(au oO (((),(i1,((),(0,())))),((x6,(x7,(x8,((nx2,x9),(nx3,x10))))),((r1,((r2,(r3,((nr,r4),((nr1,r5),r6)))),((nr2,r7),((nr3,r8),(nr4,r9))))),()))))with|none=>none|some y2=>(match y2 with| .inl y3=>(let t1:=y3.1.1;some (.inr (.inl ((t1,()),()))))| .inr y3=>(let i2:=y3.1.2.1;let x11:=y3.2.1.1;let x12:=y3.2.1.2.1;let x13:=y3.2.1.2.2.1;let nx4:=y3.2.1.2.2.2.1.1;let x14:=y3.2.1.2.2.2.1.2;let nx5:=y3.2.1.2.2.2.2.1;let x15:=y3.2.1.2.2.2.2.2;let r10:=y3.2.2.1.1;let r11:=y3.2.2.1.2.1.1;let r12:=y3.2.2.1.2.1.2.1;let nr5:=y3.2.2.1.2.1.2.2.1.1;let r13:=y3.2.2.1.2.1.2.2.1.2;let nr6:=y3.2.2.1.2.1.2.2.2.1.1;let r14:=y3.2.2.1.2.1.2.2.2.1.2;let r15:=y3.2.2.1.2.1.2.2.2.2;let nr7:=y3.2.2.1.2.2.1.1;let r16:=y3.2.2.1.2.2.1.2;let nr8:=y3.2.2.1.2.2.2.1.1;let r17:=y3.2.2.1.2.2.2.1.2;let nr9:=y3.2.2.1.2.2.2.2.1;let r18:=y3.2.2.1.2.2.2.2.2;match(au jO (((),(i2,((),(0,())))),((x11,(x12,(x13,((nx4,x14),(nx5,x15))))),((r10,((r11,(r12,((nr5,r13),((nr6,r14),r15)))),((nr7,r16),((nr8,r17),(nr9,r18))))),()))))with|none=>none|some y4=>(match y4 with| .inl y5=>(let t2:=y5.1.1;some (.inr (.inl ((t2,()),()))))| .inr y5=>(let i3:=y5.1.2.1;let x16:=y5.2.1.1;let x17:=y5.2.1.2.1;let x18:=y5.2.1.2.2.1;let nx6:=y5.2.1.2.2.2.1.1;let x19:=y5.2.1.2.2.2.1.2;let nx7:=y5.2.1.2.2.2.2.1;let x20:=y5.2.1.2.2.2.2.2;some (.inl (((),((i64.wrap (i3+1)),())),((x16,(x17,(x18,((nx6,x19),(nx7,x20))))),())))))))))))))))))))))else(none))else(some (.inr (.inr ((),()))))
def UC(x:IM):Option (Bool):=bif (decide (((x.2.2.2.1.1:Nat):Int)>12))then(some false)else(bif (decide (((x.2.2.2.2.1:Nat):Int)>3))then(some false)else(match(au dz (((),(0,())),((x.1,(x.2.1,(x.2.2.1,((x.2.2.2.1.1,x.2.2.2.1.2),(x.2.2.2.2.1,x.2.2.2.2.2))))),())))with|none=>none|some y=>(match y with| .inl y1=>(let t:=y1.1.1;some t)| .inr y1=>(some true))))
def RZ:=veil UC
theorem UD:RZ=UC:=aj _
def zN(a:GA)(b:GA):Option (Bool):=bif (eqF (.pair (.int .i64) (.int .i64)) a.1 b.1)then(bif (sEq a.2.1 b.2.1)then(match(Nw a.2.2.1.1 a.2.2.1.2 b.2.2.1.1 b.2.2.1.2)with|none=>none|some r=>(bif r then(match(Gs a.2.2.2.1.1 a.2.2.2.1.2 b.2.2.2.1.1 b.2.2.2.1.2)with|none=>none|some r1=>(bif r1 then(some (a.2.2.2.2==b.2.2.2.2))else(some false)))else(some false)))else(some false))else(some false)
def je:=veil zN
theorem Df:je=zN:=aj _
abbrev nM(na:Nat)(a:Nat->VO)(nb:Nat)(b:Nat->VO)(i:Int):=(((na,a),((nb,b),(i,()))),())
abbrev tX:Type:=(Z09⊕Z07)
abbrev Jl(t:Bool):tX:=(.inl ((t,()),()))
abbrev Jm:tX:=(.inr ((),()))
abbrev Bb:Type:=((Z0q×(Z0q×Z02))×Unit)
def fu:Bb->Option (Bb⊕tX):=λx=>let na:=x.1.1.1;let a:=x.1.1.2;let nb:=x.1.2.1.1;let b:=x.1.2.1.2;let i:=x.1.2.2.1;bif (decide (i<((na:Nat):Int)))then(bif (inb i na)then(bif (inb i nb)then(bif (!(eqF (.pair (.int .i64) (.pair (.pair (.int .i64) (.int .i64)) .str)) (a (Int.toNat i)) (b (Int.toNat i))))then(some (.inr (.inl ((false,()),()))))else(some (.inl (((na,a),((nb,b),((i64.wrap (i+1)),()))),()))))else(none))else(none))else(some (.inr (.inr ((),()))))
def zO(na:Nat)(a:Nat->VO)(nb:Nat)(b:Nat->VO):Option (Bool):=bif (((na:Nat):Int) !=((nb:Nat):Int))then(some false)else(match(au fu (((na,a),((nb,b),(0,()))),()))with|none=>none|some y=>(match y with| .inl y1=>(let t:=y1.1.1;some t)| .inr y1=>(some true)))
def qL:=veil zO
theorem Dg:qL=zO:=aj _
abbrev lU(i:Int)(a:ByteArray)(a1:(Int×Int))(a2:ByteArray)(na:Nat)(a3:Nat->(SlV NI))(na1:Nat)(a4:Nat->NI)(a5:Int)(na2:Nat)(a6:Nat->VO)(na3:Nat)(a7:Nat->VO)(na4:Nat)(a8:Nat->TO)(b:ByteArray)(b1:(Int×Int))(b2:ByteArray)(nb:Nat)(b3:Nat->(SlV NI))(nb1:Nat)(b4:Nat->NI)(b5:Int)(nb2:Nat)(b6:Nat->VO)(nb3:Nat)(b7:Nat->VO)(nb4:Nat)(b8:Nat->TO):=(((),((),(i,()))),((a,((a1,(a2,((na,a3),((na1,a4),a5)))),((na2,a6),((na3,a7),(na4,a8))))),((b,((b1,(b2,((nb,b3),((nb1,b4),b5)))),((nb2,b6),((nb3,b7),(nb4,b8))))),())))
abbrev rT:Type:=(Z09⊕Z07)
abbrev H6(t:Bool):rT:=(.inl ((t,()),()))
abbrev H7:rT:=(.inr ((),()))
abbrev zP:Type:=(Z0k×(RA×(RA×Unit)))
def jr:zP->Option (zP⊕rT):=λx=>let i:=x.1.2.2.1;let a:=x.2.1.1;let a1:=x.2.1.2.1.1;let a2:=x.2.1.2.1.2.1;let na:=x.2.1.2.1.2.2.1.1;let a3:=x.2.1.2.1.2.2.1.2;let na1:=x.2.1.2.1.2.2.2.1.1;let a4:=x.2.1.2.1.2.2.2.1.2;let a5:=x.2.1.2.1.2.2.2.2;let na2:=x.2.1.2.2.1.1;let a6:=x.2.1.2.2.1.2;let na3:=x.2.1.2.2.2.1.1;let a7:=x.2.1.2.2.2.1.2;let na4:=x.2.1.2.2.2.2.1;let a8:=x.2.1.2.2.2.2.2;let b:=x.2.2.1.1;let b1:=x.2.2.1.2.1.1;let b2:=x.2.2.1.2.1.2.1;let nb:=x.2.2.1.2.1.2.2.1.1;let b3:=x.2.2.1.2.1.2.2.1.2;let nb1:=x.2.2.1.2.1.2.2.2.1.1;let b4:=x.2.2.1.2.1.2.2.2.1.2;let b5:=x.2.2.1.2.1.2.2.2.2;let nb2:=x.2.2.1.2.2.1.1;let b6:=x.2.2.1.2.2.1.2;let nb3:=x.2.2.1.2.2.2.1.1;let b7:=x.2.2.1.2.2.2.1.2;let nb4:=x.2.2.1.2.2.2.2.1;let b8:=x.2.2.1.2.2.2.2.2;bif (decide (i<((na4:Nat):Int)))then(bif (inb i na4)then(bif (SlV.isMs (a8 (Int.toNat i)).1.2.2.1)then(none)else(bif (SlV.isMs (a8 (Int.toNat i)).1.2.2.2.1)then(none)else(bif (SlV.isMs (a8 (Int.toNat i)).2.1.2.2.1)then(none)else(bif (SlV.isMs (a8 (Int.toNat i)).2.1.2.2.2.1)then(none)else(bif (SlV.isMs (a8 (Int.toNat i)).2.2.1.2.2.1)then(none)else(bif (SlV.isMs (a8 (Int.toNat i)).2.2.1.2.2.2.1)then(none)else(bif (inb i nb4)then(bif (SlV.isMs (b8 (Int.toNat i)).1.2.2.1)then(none)else(bif (SlV.isMs (b8 (Int.toNat i)).1.2.2.2.1)then(none)else(bif (SlV.isMs (b8 (Int.toNat i)).2.1.2.2.1)then(none)else(bif (SlV.isMs (b8 (Int.toNat i)).2.1.2.2.2.1)then(none)else(bif (SlV.isMs (b8 (Int.toNat i)).2.2.1.2.2.1)then(none)else(bif (SlV.isMs (b8 (Int.toNat i)).2.2.1.2.2.2.1)then(none)else(match(je ((a8 (Int.toNat i)).1.1,((a8 (Int.toNat i)).1.2.1,(((SlV.len (a8 (Int.toNat i)).1.2.2.1),(SlV.fn (.nil:(SlV NI)) (a8 (Int.toNat i)).1.2.2.1)),(((SlV.len (a8 (Int.toNat i)).1.2.2.2.1),(SlV.fn ((λ_=>0):NI) (a8 (Int.toNat i)).1.2.2.2.1)),(a8 (Int.toNat i)).1.2.2.2.2)))) ((b8 (Int.toNat i)).1.1,((b8 (Int.toNat i)).1.2.1,(((SlV.len (b8 (Int.toNat i)).1.2.2.1),(SlV.fn (.nil:(SlV NI)) (b8 (Int.toNat i)).1.2.2.1)),(((SlV.len (b8 (Int.toNat i)).1.2.2.2.1),(SlV.fn ((λ_=>0):NI) (b8 (Int.toNat i)).1.2.2.2.1)),(b8 (Int.toNat i)).1.2.2.2.2)))))with|none=>none|some r=>(bif (!r)then(some (.inr (.inl ((false,()),()))))else(match(je ((a8 (Int.toNat i)).2.1.1,((a8 (Int.toNat i)).2.1.2.1,(((SlV.len (a8 (Int.toNat i)).2.1.2.2.1),(SlV.fn (.nil:(SlV NI)) (a8 (Int.toNat i)).2.1.2.2.1)),(((SlV.len (a8 (Int.toNat i)).2.1.2.2.2.1),(SlV.fn ((λ_=>0):NI) (a8 (Int.toNat i)).2.1.2.2.2.1)),(a8 (Int.toNat i)).2.1.2.2.2.2)))) ((b8 (Int.toNat i)).2.1.1,((b8 (Int.toNat i)).2.1.2.1,(((SlV.len (b8 (Int.toNat i)).2.1.2.2.1),(SlV.fn (.nil:(SlV NI)) (b8 (Int.toNat i)).2.1.2.2.1)),(((SlV.len (b8 (Int.toNat i)).2.1.2.2.2.1),(SlV.fn ((λ_=>0):NI) (b8 (Int.toNat i)).2.1.2.2.2.1)),(b8 (Int.toNat i)).2.1.2.2.2.2)))))with|none=>none|some r1=>(bif (!r1)then(some (.inr (.inl ((false,()),()))))else(match(je ((a8 (Int.toNat i)).2.2.1.1,((a8 (Int.toNat i)).2.2.1.2.1,(((SlV.len (a8 (Int.toNat i)).2.2.1.2.2.1),(SlV.fn (.nil:(SlV NI)) (a8 (Int.toNat i)).2.2.1.2.2.1)),(((SlV.len (a8 (Int.toNat i)).2.2.1.2.2.2.1),(SlV.fn ((λ_=>0):NI) (a8 (Int.toNat i)).2.2.1.2.2.2.1)),(a8 (Int.toNat i)).2.2.1.2.2.2.2)))) ((b8 (Int.toNat i)).2.2.1.1,((b8 (Int.toNat i)).2.2.1.2.1,(((SlV.len (b8 (Int.toNat i)).2.2.1.2.2.1),(SlV.fn (.nil:(SlV NI)) (b8 (Int.toNat i)).2.2.1.2.2.1)),(((SlV.len (b8 (Int.toNat i)).2.2.1.2.2.2.1),(SlV.fn ((λ_=>0):NI) (b8 (Int.toNat i)).2.2.1.2.2.2.1)),(b8 (Int.toNat i)).2.2.1.2.2.2.2)))))with|none=>none|some r2=>(bif (!r2)then(some (.inr (.inl ((false,()),()))))else(let t:=((a8 (Int.toNat i)).2.2.2.1 !=(b8 (Int.toNat i)).2.2.2.1);bif t then(some (.inr (.inl ((false,()),()))))else(let t1:=((a8 (Int.toNat i)).2.2.2.2 !=(b8 (Int.toNat i)).2.2.2.2);bif t1 then(some (.inr (.inl ((false,()),()))))else(some (.inl (((),((),((i64.wrap (i+1)),()))),((a,((a1,(a2,((na,a3),((na1,a4),a5)))),((na2,a6),((na3,a7),(na4,a8))))),((b,((b1,(b2,((nb,b3),((nb1,b4),b5)))),((nb2,b6),((nb3,b7),(nb4,b8))))),())))))))))))))))))))else(none))))))))else(none))else(some (.inr (.inr ((),()))))
def xQ(a:RA)(b:RA):Option (Bool):=bif (!(sEq a.1 b.1))then(some false)else(match(je (a.2.1.1,(a.2.1.2.1,((a.2.1.2.2.1.1,a.2.1.2.2.1.2),((a.2.1.2.2.2.1.1,a.2.1.2.2.2.1.2),a.2.1.2.2.2.2)))) (b.2.1.1,(b.2.1.2.1,((b.2.1.2.2.1.1,b.2.1.2.2.1.2),((b.2.1.2.2.2.1.1,b.2.1.2.2.2.1.2),b.2.1.2.2.2.2)))))with|none=>none|some r=>(bif (!r)then(some false)else(match(qL a.2.2.1.1 a.2.2.1.2 b.2.2.1.1 b.2.2.1.2)with|none=>none|some r1=>(bif (!r1)then(some false)else(match(qL a.2.2.2.1.1 a.2.2.2.1.2 b.2.2.2.1.1 b.2.2.2.1.2)with|none=>none|some r2=>(bif (!r2)then(some false)else(let t:=(((a.2.2.2.2.1:Nat):Int) !=((b.2.2.2.2.1:Nat):Int));bif t then(some false)else(match(au jr (((),((),(0,()))),((a.1,((a.2.1.1,(a.2.1.2.1,((a.2.1.2.2.1.1,a.2.1.2.2.1.2),((a.2.1.2.2.2.1.1,a.2.1.2.2.2.1.2),a.2.1.2.2.2.2)))),((a.2.2.1.1,a.2.2.1.2),((a.2.2.2.1.1,a.2.2.2.1.2),(a.2.2.2.2.1,a.2.2.2.2.2))))),((b.1,((b.2.1.1,(b.2.1.2.1,((b.2.1.2.2.1.1,b.2.1.2.2.1.2),((b.2.1.2.2.2.1.1,b.2.1.2.2.2.1.2),b.2.1.2.2.2.2)))),((b.2.2.1.1,b.2.2.1.2),((b.2.2.2.1.1,b.2.2.2.1.2),(b.2.2.2.2.1,b.2.2.2.2.2))))),()))))with|none=>none|some y=>(match y with| .inl y1=>(let t1:=y1.1.1;some t1)| .inr y1=>(some true))))))))))
def tY:=veil xQ
theorem Bc:tY=xQ:=aj _
abbrev jP(i:Int)(a:Int)(a1:Int)(a2:Int)(na:Nat)(a3:NI)(na1:Nat)(a4:Nat->RE)(b:Int)(b1:Int)(b2:Int)(nb:Nat)(b3:NI)(nb1:Nat)(b4:Nat->RE):=(((),((),(i,()))),((a,(a1,(a2,((na,a3),(na1,a4))))),((b,(b1,(b2,((nb,b3),(nb1,b4))))),())))
abbrev Ed:Type:=(Z09⊕(Z0h×(IM×(IM×Unit))))
abbrev H8(t:Bool):Ed:=(.inl ((t,()),()))
abbrev tZ(a:Int)(a1:Int)(a2:Int)(na:Nat)(a3:NI)(na1:Nat)(a4:Nat->RE)(b:Int)(b1:Int)(b2:Int)(nb:Nat)(b3:NI)(nb1:Nat)(b4:Nat->RE):Ed:=(.inr (((),((),())),((a,(a1,(a2,((na,a3),(na1,a4))))),((b,(b1,(b2,((nb,b3),(nb1,b4))))),()))))
abbrev NJ:Type:=(Z0k×(IM×(IM×Unit)))
def ig:NJ->Option (NJ⊕Ed):=λx=>let i:=x.1.2.2.1;let a:=x.2.1.1;let a1:=x.2.1.2.1;let a2:=x.2.1.2.2.1;let na:=x.2.1.2.2.2.1.1;let a3:=x.2.1.2.2.2.1.2;let na1:=x.2.1.2.2.2.2.1;let a4:=x.2.1.2.2.2.2.2;let b:=x.2.2.1.1;let b1:=x.2.2.1.2.1;let b2:=x.2.2.1.2.2.1;let nb:=x.2.2.1.2.2.2.1.1;let b3:=x.2.2.1.2.2.2.1.2;let nb1:=x.2.2.1.2.2.2.2.1;let b4:=x.2.2.1.2.2.2.2.2;bif (decide (i<((na:Nat):Int)))then(bif (inb i na)then(bif (inb i nb)then(bif ((a3 (Int.toNat i)) !=(b3 (Int.toNat i)))then(some (.inr (.inl ((false,()),()))))else(some (.inl (((),((),((i64.wrap (i+1)),()))),((a,(a1,(a2,((na,a3),(na1,a4))))),((b,(b1,(b2,((nb,b3),(nb1,b4))))),()))))))else(none))else(none))else(some (.inr (.inr (((),((),())),((a,(a1,(a2,((na,a3),(na1,a4))))),((b,(b1,(b2,((nb,b3),(nb1,b4))))),()))))))
abbrev lV(i:Int)(a:Int)(a1:Int)(a2:Int)(na:Nat)(a3:NI)(na1:Nat)(a4:Nat->RE)(b:Int)(b1:Int)(b2:Int)(nb:Nat)(b3:NI)(nb1:Nat)(b4:Nat->RE):=(((),((),(i,()))),((a,(a1,(a2,((na,a3),(na1,a4))))),((b,(b1,(b2,((nb,b3),(nb1,b4))))),())))
abbrev Ee:Type:=(Z09⊕Z07)
abbrev UE(t:Bool):Ee:=(.inl ((t,()),()))
abbrev zQ:Ee:=(.inr ((),()))
abbrev NK:Type:=(Z0k×(IM×(IM×Unit)))
def iU:NK->Option (NK⊕Ee):=λx=>let i:=x.1.2.2.1;let a:=x.2.1.1;let a1:=x.2.1.2.1;let a2:=x.2.1.2.2.1;let na:=x.2.1.2.2.2.1.1;let a3:=x.2.1.2.2.2.1.2;let na1:=x.2.1.2.2.2.2.1;let a4:=x.2.1.2.2.2.2.2;let b:=x.2.2.1.1;let b1:=x.2.2.1.2.1;let b2:=x.2.2.1.2.2.1;let nb:=x.2.2.1.2.2.2.1.1;let b3:=x.2.2.1.2.2.2.1.2;let nb1:=x.2.2.1.2.2.2.2.1;let b4:=x.2.2.1.2.2.2.2.2;bif (decide (i<((na1:Nat):Int)))then(bif (inb i na1)then(bif (SlV.isMs (a4 (Int.toNat i)).2.1.2.2.1)then(none)else(bif (SlV.isMs (a4 (Int.toNat i)).2.1.2.2.2.1)then(none)else(bif (SlV.isMs (a4 (Int.toNat i)).2.2.1)then(none)else(bif (SlV.isMs (a4 (Int.toNat i)).2.2.2.1)then(none)else(bif (SlV.isMs (a4 (Int.toNat i)).2.2.2.2)then(none)else(bif (inb i nb1)then(bif (SlV.isMs (b4 (Int.toNat i)).2.1.2.2.1)then(none)else(bif (SlV.isMs (b4 (Int.toNat i)).2.1.2.2.2.1)then(none)else(bif (SlV.isMs (b4 (Int.toNat i)).2.2.1)then(none)else(bif (SlV.isMs (b4 (Int.toNat i)).2.2.2.1)then(none)else(bif (SlV.isMs (b4 (Int.toNat i)).2.2.2.2)then(none)else(match(tY ((a4 (Int.toNat i)).1,(((a4 (Int.toNat i)).2.1.1,((a4 (Int.toNat i)).2.1.2.1,(((SlV.len (a4 (Int.toNat i)).2.1.2.2.1),(SlV.fn (.nil:(SlV NI)) (a4 (Int.toNat i)).2.1.2.2.1)),(((SlV.len (a4 (Int.toNat i)).2.1.2.2.2.1),(SlV.fn ((λ_=>0):NI) (a4 (Int.toNat i)).2.1.2.2.2.1)),(a4 (Int.toNat i)).2.1.2.2.2.2)))),(((SlV.len (a4 (Int.toNat i)).2.2.1),(SlV.fn (zV:VO) (a4 (Int.toNat i)).2.2.1)),(((SlV.len (a4 (Int.toNat i)).2.2.2.1),(SlV.fn (zV:VO) (a4 (Int.toNat i)).2.2.2.1)),((SlV.len (a4 (Int.toNat i)).2.2.2.2),(SlV.fn (zT:TO) (a4 (Int.toNat i)).2.2.2.2)))))) ((b4 (Int.toNat i)).1,(((b4 (Int.toNat i)).2.1.1,((b4 (Int.toNat i)).2.1.2.1,(((SlV.len (b4 (Int.toNat i)).2.1.2.2.1),(SlV.fn (.nil:(SlV NI)) (b4 (Int.toNat i)).2.1.2.2.1)),(((SlV.len (b4 (Int.toNat i)).2.1.2.2.2.1),(SlV.fn ((λ_=>0):NI) (b4 (Int.toNat i)).2.1.2.2.2.1)),(b4 (Int.toNat i)).2.1.2.2.2.2)))),(((SlV.len (b4 (Int.toNat i)).2.2.1),(SlV.fn (zV:VO) (b4 (Int.toNat i)).2.2.1)),(((SlV.len (b4 (Int.toNat i)).2.2.2.1),(SlV.fn (zV:VO) (b4 (Int.toNat i)).2.2.2.1)),((SlV.len (b4 (Int.toNat i)).2.2.2.2),(SlV.fn (zT:TO) (b4 (Int.toNat i)).2.2.2.2)))))))with|none=>none|some r=>(bif (!r)then(some (.inr (.inl ((false,()),()))))else(some (.inl (((),((),((i64.wrap (i+1)),()))),((a,(a1,(a2,((na,a3),(na1,a4))))),((b,(b1,(b2,((nb,b3),(nb1,b4))))),()))))))))))))else(none)))))))else(none))else(some (.inr (.inr ((),()))))
def J5(a:IM)(b:IM):Option (Bool):=bif (a.1 !=b.1)then(some false)else(bif (a.2.1 !=b.2.1)then(some false)else(bif (a.2.2.1 !=b.2.2.1)then(some false)else(let t:=(((a.2.2.2.1.1:Nat):Int) !=((b.2.2.2.1.1:Nat):Int));bif t then(some false)else(let t1:=(((a.2.2.2.2.1:Nat):Int) !=((b.2.2.2.2.1:Nat):Int));bif t1 then(some false)else(match(au ig (((),((),(0,()))),((a.1,(a.2.1,(a.2.2.1,((a.2.2.2.1.1,a.2.2.2.1.2),(a.2.2.2.2.1,a.2.2.2.2.2))))),((b.1,(b.2.1,(b.2.2.1,((b.2.2.2.1.1,b.2.2.2.1.2),(b.2.2.2.2.1,b.2.2.2.2.2))))),()))))with|none=>none|some y=>(match y with| .inl y1=>(let t2:=y1.1.1;some t2)| .inr y1=>(let a1:=y1.2.1.1;let a2:=y1.2.1.2.1;let a3:=y1.2.1.2.2.1;let na:=y1.2.1.2.2.2.1.1;let a4:=y1.2.1.2.2.2.1.2;let na1:=y1.2.1.2.2.2.2.1;let a5:=y1.2.1.2.2.2.2.2;let b1:=y1.2.2.1.1;let b2:=y1.2.2.1.2.1;let b3:=y1.2.2.1.2.2.1;let nb:=y1.2.2.1.2.2.2.1.1;let b4:=y1.2.2.1.2.2.2.1.2;let nb1:=y1.2.2.1.2.2.2.2.1;let b5:=y1.2.2.1.2.2.2.2.2;match(au iU (((),((),(0,()))),((a1,(a2,(a3,((na,a4),(na1,a5))))),((b1,(b2,(b3,((nb,b4),(nb1,b5))))),()))))with|none=>none|some y2=>(match y2 with| .inl y3=>(let t3:=y3.1.1;some t3)| .inr y3=>(some true)))))))))
def jQ:=veil J5
theorem H9:jQ=J5:=aj _
def Pm(x:GA):Option (Bool):=bif (eqF (.pair (.int .i64) (.int .i64)) x.1 (0,0))then(bif (sEq x.2.1 (ByteArray.mk #[]))then(bif (((x.2.2.1.1:Nat):Int)==0)then(bif (((x.2.2.2.1.1:Nat):Int)==0)then(some (x.2.2.2.2==0))else(some false))else(some false))else(some false))else(some false)
def jv:=veil Pm
theorem QS:jv=Pm:=aj _
def He(g:Z0b)(t:Int)(number:Int)(x:GA):Option (Bool):=match(jv (x.1,(x.2.1,((x.2.2.1.1,x.2.2.1.2),((x.2.2.2.1.1,x.2.2.2.1.2),x.2.2.2.2)))))with|none=>none|some r=>(bif r then(some true)else(match(NG x.1)with|none=>none|some r1=>(bif (!r1)then(some false)else(bif ((((ByteArray.size x.2.1):Nat):Int) !=32)then(some false)else(bif (decide (x.2.2.2.2<0))then(some false)else(bif (decide (x.2.2.2.2>1048576))then(some false)else(bif (((x.2.2.1.1:Nat):Int)==0)then(bif (((x.2.2.2.1.1:Nat):Int)==0)then(some true)else(match(Ny g t x.2.2.1.1 x.2.2.1.2)with|none=>none|some r2=>(bif r2 then(match(zM x.2.2.1.1 x.2.2.1.2)with|none=>none|some r3=>(bif (sEq r3 x.2.1)then(match(vK g x.2.2.1.1 x.2.2.1.2 (number,(x.2.2.2.1.1,x.2.2.2.1.2)))with|none=>none|some r4=>(some r4))else(some false)))else(some false))))else(match(Ny g t x.2.2.1.1 x.2.2.1.2)with|none=>none|some r5=>(bif r5 then(match(zM x.2.2.1.1 x.2.2.1.2)with|none=>none|some r6=>(bif (sEq r6 x.2.1)then(match(vK g x.2.2.1.1 x.2.2.1.2 (number,(x.2.2.2.1.1,x.2.2.2.1.2)))with|none=>none|some r7=>(some r7))else(some false)))else(some false))))))))))
def dM:=veil He
theorem Kq:dM=He:=aj _
def LK(a:VO)(b:VO):Option (Bool):=bif (a.1 !=b.1)then(some (decide (a.1<b.1)))else(bif (a.2.1.2 !=b.2.1.2)then(some (decide (a.2.1.2<b.2.1.2)))else(let t:=(decide ((ay .and .i64 a.2.1.1 1)<(ay .and .i64 b.2.1.1 1)));some t))
def J6:=veil LK
theorem NM:J6=LK:=aj _
abbrev dH(nl:Nat)(l:Nat->VO)(n:Int)(i:Int):=(((nl,l),(n,(i,()))),())
abbrev vM:Type:=(Z09⊕Z07)
abbrev LM(t:Bool):vM:=(.inl ((t,()),()))
abbrev LP:vM:=(.inr ((),()))
abbrev Dh:Type:=((Z0q×(Int×Z02))×Unit)
def bM:Dh->Option (Dh⊕vM):=λx=>let nl:=x.1.1.1;let l:=x.1.1.2;let n:=x.1.2.1;let i:=x.1.2.2.1;bif (decide (i<((nl:Nat):Int)))then(bif (inb i nl)then(bif (decide ((l (Int.toNat i)).1<1))then(some (.inr (.inl ((false,()),()))))else(bif (inb i nl)then(bif (decide ((l (Int.toNat i)).1>n))then(some (.inr (.inl ((false,()),()))))else(bif (inb i nl)then(match(NG (l (Int.toNat i)).2.1)with|none=>none|some r=>(bif (!r)then(some (.inr (.inl ((false,()),()))))else(bif (inb i nl)then(bif ((((ByteArray.size (l (Int.toNat i)).2.2):Nat):Int) !=32)then(some (.inr (.inl ((false,()),()))))else(bif (decide (i>0))then(bif (inb (i64.wrap (i-1)) nl)then(bif (inb i nl)then(match(J6 (l (Int.toNat (i64.wrap (i-1)))) (l (Int.toNat i)))with|none=>none|some r1=>(bif (!r1)then(some (.inr (.inl ((false,()),()))))else(some (.inl (((nl,l),(n,((i64.wrap (i+1)),()))),())))))else(none))else(none))else(some (.inl (((nl,l),(n,((i64.wrap (i+1)),()))),())))))else(none))))else(none)))else(none)))else(none))else(some (.inr (.inr ((),()))))
def BZ(nl:Nat)(l:Nat->VO)(n:Int):Option (Bool):=match(au bM (((nl,l),(n,(0,()))),()))with|none=>none|some y=>(match y with| .inl y1=>(let t:=y1.1.1;some t)| .inr y1=>(some true))
def lW:=veil BZ
theorem F5:lW=BZ:=aj _
abbrev sG(n:Int)(sum:Int)(i:Int)(g:Z0b)(x1:Int)(x2:Int)(x3:Int)(nx:Nat)(x4:NI)(nx1:Nat)(x5:Nat->RE):=(((),((),(n,(sum,(i,()))))),(g,((x1,(x2,(x3,((nx,x4),(nx1,x5))))),())))
abbrev Hf:Type:=(Z09⊕((Unit×Z0g)×(Z0b×(IM×Unit))))
abbrev WT(t:Bool):Hf:=(.inl ((t,()),()))
abbrev Kr(n:Int)(sum:Int)(g:Z0b)(x1:Int)(x2:Int)(x3:Int)(nx:Nat)(x4:NI)(nx1:Nat)(x5:Nat->RE):Hf:=(.inr (((),((),(n,(sum,())))),(g,((x1,(x2,(x3,((nx,x4),(nx1,x5))))),()))))
abbrev QT:Type:=((Unit×(Unit×(Int×(Int×Z02))))×(Z0b×(IM×Unit)))
def jR:QT->Option (QT⊕Hf):=λx=>let n:=x.1.2.2.1;let sum:=x.1.2.2.2.1;let i:=x.1.2.2.2.2.1;let g:=x.2.1;let x1:=x.2.2.1.1;let x2:=x.2.2.1.2.1;let x3:=x.2.2.1.2.2.1;let nx:=x.2.2.1.2.2.2.1.1;let x4:=x.2.2.1.2.2.2.1.2;let nx1:=x.2.2.1.2.2.2.2.1;let x5:=x.2.2.1.2.2.2.2.2;bif (decide (i<((nx:Nat):Int)))then(bif (inb i nx)then(bif (decide ((x4 (Int.toNat i))<0))then(some (.inr (.inl ((false,()),()))))else(bif (inb i nx)then(match(J4 (n,(x3,((0,(λ_=>ByteArray.empty)),(0,(λ_=>0))))) (i64.wrap (i+1)))with|none=>none|some r=>(bif (decide ((x4 (Int.toNat i))>r))then(some (.inr (.inl ((false,()),()))))else(bif (inb i nx)then(some (.inl (((),((),(n,((i64.wrap (sum+(x4 (Int.toNat i)))),((i64.wrap (i+1)),()))))),(g,((x1,(x2,(x3,((nx,x4),(nx1,x5))))),())))))else(none))))else(none)))else(none))else(some (.inr (.inr (((),((),(n,(sum,())))),(g,((x1,(x2,(x3,((nx,x4),(nx1,x5))))),()))))))
abbrev iw(n:Int)(i:Int)(k:Int)(g:Z0b)(x1:Int)(x2:Int)(x3:Int)(nx:Nat)(x4:NI)(nx1:Nat)(x5:Nat->RE)(r:ByteArray)(r1:(Int×Int))(r2:ByteArray)(nr:Nat)(r3:Nat->(SlV NI))(nr1:Nat)(r4:Nat->NI)(r5:Int)(nr2:Nat)(r6:Nat->VO)(nr3:Nat)(r7:Nat->VO)(nr4:Nat)(r8:Nat->TO):=(((),((),(n,(i,((),(k,())))))),(g,((x1,(x2,(x3,((nx,x4),(nx1,x5))))),((r,((r1,(r2,((nr,r3),((nr1,r4),r5)))),((nr2,r6),((nr3,r7),(nr4,r8))))),()))))
abbrev Bd:Type:=(Z09⊕((Unit×Z0g)×(Z0b×(IM×Unit))))
abbrev Kt(t:Bool):Bd:=(.inl ((t,()),()))
abbrev Ku(n:Int)(i:Int)(g:Z0b)(x1:Int)(x2:Int)(x3:Int)(nx:Nat)(x4:NI)(nx1:Nat)(x5:Nat->RE):Bd:=(.inr (((),((),(n,(i,())))),(g,((x1,(x2,(x3,((nx,x4),(nx1,x5))))),()))))
abbrev QU:Type:=((Unit×(Unit×(Int×(Int×Z06))))×(Z0b×(IM×(RA×Unit))))
def fI:QU->Option (QU⊕Bd):=λx=>let n:=x.1.2.2.1;let i:=x.1.2.2.2.1;let k:=x.1.2.2.2.2.2.1;let g:=x.2.1;let x1:=x.2.2.1.1;let x2:=x.2.2.1.2.1;let x3:=x.2.2.1.2.2.1;let nx:=x.2.2.1.2.2.2.1.1;let x4:=x.2.2.1.2.2.2.1.2;let nx1:=x.2.2.1.2.2.2.2.1;let x5:=x.2.2.1.2.2.2.2.2;let r:=x.2.2.2.1.1;let r1:=x.2.2.2.1.2.1.1;let r2:=x.2.2.2.1.2.1.2.1;let nr:=x.2.2.2.1.2.1.2.2.1.1;let r3:=x.2.2.2.1.2.1.2.2.1.2;let nr1:=x.2.2.2.1.2.1.2.2.2.1.1;let r4:=x.2.2.2.1.2.1.2.2.2.1.2;let r5:=x.2.2.2.1.2.1.2.2.2.2;let nr2:=x.2.2.2.1.2.2.1.1;let r6:=x.2.2.2.1.2.2.1.2;let nr3:=x.2.2.2.1.2.2.2.1.1;let r7:=x.2.2.2.1.2.2.2.1.2;let nr4:=x.2.2.2.1.2.2.2.2.1;let r8:=x.2.2.2.1.2.2.2.2.2;bif (decide (k<((nr4:Nat):Int)))then(bif (inb k nr4)then(bif (SlV.isMs (r8 (Int.toNat k)).1.2.2.1)then(none)else(bif (SlV.isMs (r8 (Int.toNat k)).1.2.2.2.1)then(none)else(bif (SlV.isMs (r8 (Int.toNat k)).2.1.2.2.1)then(none)else(bif (SlV.isMs (r8 (Int.toNat k)).2.1.2.2.2.1)then(none)else(bif (SlV.isMs (r8 (Int.toNat k)).2.2.1.2.2.1)then(none)else(bif (SlV.isMs (r8 (Int.toNat k)).2.2.1.2.2.2.1)then(none)else(bif (decide ((r8 (Int.toNat k)).2.2.2.1<0))then(some (.inr (.inl ((false,()),()))))else(bif (decide ((r8 (Int.toNat k)).2.2.2.1>1048576))then(some (.inr (.inl ((false,()),()))))else(bif (decide ((r8 (Int.toNat k)).2.2.2.2<0))then(some (.inr (.inl ((false,()),()))))else(bif (decide ((r8 (Int.toNat k)).2.2.2.2>1048576))then(some (.inr (.inl ((false,()),()))))else(match(dM g x1 x2 ((r8 (Int.toNat k)).1.1,((r8 (Int.toNat k)).1.2.1,(((SlV.len (r8 (Int.toNat k)).1.2.2.1),(SlV.fn (.nil:(SlV NI)) (r8 (Int.toNat k)).1.2.2.1)),(((SlV.len (r8 (Int.toNat k)).1.2.2.2.1),(SlV.fn ((λ_=>0):NI) (r8 (Int.toNat k)).1.2.2.2.1)),(r8 (Int.toNat k)).1.2.2.2.2)))))with|none=>none|some r9=>(bif (!r9)then(some (.inr (.inl ((false,()),()))))else(match(jv ((r8 (Int.toNat k)).1.1,((r8 (Int.toNat k)).1.2.1,(((SlV.len (r8 (Int.toNat k)).1.2.2.1),(SlV.fn (.nil:(SlV NI)) (r8 (Int.toNat k)).1.2.2.1)),(((SlV.len (r8 (Int.toNat k)).1.2.2.2.1),(SlV.fn ((λ_=>0):NI) (r8 (Int.toNat k)).1.2.2.2.1)),(r8 (Int.toNat k)).1.2.2.2.2)))))with|none=>none|some r10=>(bif (!r10)then(bif ((r8 (Int.toNat k)).1.1.2 !=(i64.wrap (k+1)))then(some (.inr (.inl ((false,()),()))))else(bif ((ay .and .i64 (r8 (Int.toNat k)).1.1.1 1) !=0)then(some (.inr (.inl ((false,()),()))))else(match(dM g x1 x2 ((r8 (Int.toNat k)).2.1.1,((r8 (Int.toNat k)).2.1.2.1,(((SlV.len (r8 (Int.toNat k)).2.1.2.2.1),(SlV.fn (.nil:(SlV NI)) (r8 (Int.toNat k)).2.1.2.2.1)),(((SlV.len (r8 (Int.toNat k)).2.1.2.2.2.1),(SlV.fn ((λ_=>0):NI) (r8 (Int.toNat k)).2.1.2.2.2.1)),(r8 (Int.toNat k)).2.1.2.2.2.2)))))with|none=>none|some r11=>(bif (!r11)then(some (.inr (.inl ((false,()),()))))else(match(jv ((r8 (Int.toNat k)).2.1.1,((r8 (Int.toNat k)).2.1.2.1,(((SlV.len (r8 (Int.toNat k)).2.1.2.2.1),(SlV.fn (.nil:(SlV NI)) (r8 (Int.toNat k)).2.1.2.2.1)),(((SlV.len (r8 (Int.toNat k)).2.1.2.2.2.1),(SlV.fn ((λ_=>0):NI) (r8 (Int.toNat k)).2.1.2.2.2.1)),(r8 (Int.toNat k)).2.1.2.2.2.2)))))with|none=>none|some r12=>(bif (!r12)then(bif ((r8 (Int.toNat k)).2.1.1.2 !=(i64.wrap (k+1)))then(some (.inr (.inl ((false,()),()))))else(bif ((ay .and .i64 (r8 (Int.toNat k)).2.1.1.1 1) !=1)then(some (.inr (.inl ((false,()),()))))else(match(dM g x1 x2 ((r8 (Int.toNat k)).2.2.1.1,((r8 (Int.toNat k)).2.2.1.2.1,(((SlV.len (r8 (Int.toNat k)).2.2.1.2.2.1),(SlV.fn (.nil:(SlV NI)) (r8 (Int.toNat k)).2.2.1.2.2.1)),(((SlV.len (r8 (Int.toNat k)).2.2.1.2.2.2.1),(SlV.fn ((λ_=>0):NI) (r8 (Int.toNat k)).2.2.1.2.2.2.1)),(r8 (Int.toNat k)).2.2.1.2.2.2.2)))))with|none=>none|some r13=>(bif (!r13)then(some (.inr (.inl ((false,()),()))))else(match(jv ((r8 (Int.toNat k)).2.2.1.1,((r8 (Int.toNat k)).2.2.1.2.1,(((SlV.len (r8 (Int.toNat k)).2.2.1.2.2.1),(SlV.fn (.nil:(SlV NI)) (r8 (Int.toNat k)).2.2.1.2.2.1)),(((SlV.len (r8 (Int.toNat k)).2.2.1.2.2.2.1),(SlV.fn ((λ_=>0):NI) (r8 (Int.toNat k)).2.2.1.2.2.2.1)),(r8 (Int.toNat k)).2.2.1.2.2.2.2)))))with|none=>none|some r14=>(bif (!r14)then(bif ((r8 (Int.toNat k)).2.2.1.1.2 !=(i64.wrap (k+1)))then(some (.inr (.inl ((false,()),()))))else(some (.inl (((),((),(n,(i,((),((i64.wrap (k+1)),())))))),(g,((x1,(x2,(x3,((nx,x4),(nx1,x5))))),((r,((r1,(r2,((nr,r3),((nr1,r4),r5)))),((nr2,r6),((nr3,r7),(nr4,r8))))),())))))))else(some (.inl (((),((),(n,(i,((),((i64.wrap (k+1)),())))))),(g,((x1,(x2,(x3,((nx,x4),(nx1,x5))))),((r,((r1,(r2,((nr,r3),((nr1,r4),r5)))),((nr2,r6),((nr3,r7),(nr4,r8))))),()))))))))))))else(match(dM g x1 x2 ((r8 (Int.toNat k)).2.2.1.1,((r8 (Int.toNat k)).2.2.1.2.1,(((SlV.len (r8 (Int.toNat k)).2.2.1.2.2.1),(SlV.fn (.nil:(SlV NI)) (r8 (Int.toNat k)).2.2.1.2.2.1)),(((SlV.len (r8 (Int.toNat k)).2.2.1.2.2.2.1),(SlV.fn ((λ_=>0):NI) (r8 (Int.toNat k)).2.2.1.2.2.2.1)),(r8 (Int.toNat k)).2.2.1.2.2.2.2)))))with|none=>none|some r15=>(bif (!r15)then(some (.inr (.inl ((false,()),()))))else(match(jv ((r8 (Int.toNat k)).2.2.1.1,((r8 (Int.toNat k)).2.2.1.2.1,(((SlV.len (r8 (Int.toNat k)).2.2.1.2.2.1),(SlV.fn (.nil:(SlV NI)) (r8 (Int.toNat k)).2.2.1.2.2.1)),(((SlV.len (r8 (Int.toNat k)).2.2.1.2.2.2.1),(SlV.fn ((λ_=>0):NI) (r8 (Int.toNat k)).2.2.1.2.2.2.1)),(r8 (Int.toNat k)).2.2.1.2.2.2.2)))))with|none=>none|some r16=>(bif (!r16)then(bif ((r8 (Int.toNat k)).2.2.1.1.2 !=(i64.wrap (k+1)))then(some (.inr (.inl ((false,()),()))))else(some (.inl (((),((),(n,(i,((),((i64.wrap (k+1)),())))))),(g,((x1,(x2,(x3,((nx,x4),(nx1,x5))))),((r,((r1,(r2,((nr,r3),((nr1,r4),r5)))),((nr2,r6),((nr3,r7),(nr4,r8))))),())))))))else(some (.inl (((),((),(n,(i,((),((i64.wrap (k+1)),())))))),(g,((x1,(x2,(x3,((nx,x4),(nx1,x5))))),((r,((r1,(r2,((nr,r3),((nr1,r4),r5)))),((nr2,r6),((nr3,r7),(nr4,r8))))),()))))))))))))))))else(match(dM g x1 x2 ((r8 (Int.toNat k)).2.1.1,((r8 (Int.toNat k)).2.1.2.1,(((SlV.len (r8 (Int.toNat k)).2.1.2.2.1),(SlV.fn (.nil:(SlV NI)) (r8 (Int.toNat k)).2.1.2.2.1)),(((SlV.len (r8 (Int.toNat k)).2.1.2.2.2.1),(SlV.fn ((λ_=>0):NI) (r8 (Int.toNat k)).2.1.2.2.2.1)),(r8 (Int.toNat k)).2.1.2.2.2.2)))))with|none=>none|some r17=>(bif (!r17)then(some (.inr (.inl ((false,()),()))))else(match(jv ((r8 (Int.toNat k)).2.1.1,((r8 (Int.toNat k)).2.1.2.1,(((SlV.len (r8 (Int.toNat k)).2.1.2.2.1),(SlV.fn (.nil:(SlV NI)) (r8 (Int.toNat k)).2.1.2.2.1)),(((SlV.len (r8 (Int.toNat k)).2.1.2.2.2.1),(SlV.fn ((λ_=>0):NI) (r8 (Int.toNat k)).2.1.2.2.2.1)),(r8 (Int.toNat k)).2.1.2.2.2.2)))))with|none=>none|some r18=>(bif (!r18)then(bif ((r8 (Int.toNat k)).2.1.1.2 !=(i64.wrap (k+1)))then(some (.inr (.inl ((false,()),()))))else(bif ((ay .and .i64 (r8 (Int.toNat k)).2.1.1.1 1) !=1)then(some (.inr (.inl ((false,()),()))))else(match(dM g x1 x2 ((r8 (Int.toNat k)).2.2.1.1,((r8 (Int.toNat k)).2.2.1.2.1,(((SlV.len (r8 (Int.toNat k)).2.2.1.2.2.1),(SlV.fn (.nil:(SlV NI)) (r8 (Int.toNat k)).2.2.1.2.2.1)),(((SlV.len (r8 (Int.toNat k)).2.2.1.2.2.2.1),(SlV.fn ((λ_=>0):NI) (r8 (Int.toNat k)).2.2.1.2.2.2.1)),(r8 (Int.toNat k)).2.2.1.2.2.2.2)))))with|none=>none|some r19=>(bif (!r19)then(some (.inr (.inl ((false,()),()))))else(match(jv ((r8 (Int.toNat k)).2.2.1.1,((r8 (Int.toNat k)).2.2.1.2.1,(((SlV.len (r8 (Int.toNat k)).2.2.1.2.2.1),(SlV.fn (.nil:(SlV NI)) (r8 (Int.toNat k)).2.2.1.2.2.1)),(((SlV.len (r8 (Int.toNat k)).2.2.1.2.2.2.1),(SlV.fn ((λ_=>0):NI) (r8 (Int.toNat k)).2.2.1.2.2.2.1)),(r8 (Int.toNat k)).2.2.1.2.2.2.2)))))with|none=>none|some r20=>(bif (!r20)then(bif ((r8 (Int.toNat k)).2.2.1.1.2 !=(i64.wrap (k+1)))then(some (.inr (.inl ((false,()),()))))else(some (.inl (((),((),(n,(i,((),((i64.wrap (k+1)),())))))),(g,((x1,(x2,(x3,((nx,x4),(nx1,x5))))),((r,((r1,(r2,((nr,r3),((nr1,r4),r5)))),((nr2,r6),((nr3,r7),(nr4,r8))))),())))))))else(some (.inl (((),((),(n,(i,((),((i64.wrap (k+1)),())))))),(g,((x1,(x2,(x3,((nx,x4),(nx1,x5))))),((r,((r1,(r2,((nr,r3),((nr1,r4),r5)))),((nr2,r6),((nr3,r7),(nr4,r8))))),()))))))))))))else(match(dM g x1 x2 ((r8 (Int.toNat k)).2.2.1.1,((r8 (Int.toNat k)).2.2.1.2.1,(((SlV.len (r8 (Int.toNat k)).2.2.1.2.2.1),(SlV.fn (.nil:(SlV NI)) (r8 (Int.toNat k)).2.2.1.2.2.1)),(((SlV.len (r8 (Int.toNat k)).2.2.1.2.2.2.1),(SlV.fn ((λ_=>0):NI) (r8 (Int.toNat k)).2.2.1.2.2.2.1)),(r8 (Int.toNat k)).2.2.1.2.2.2.2)))))with|none=>none|some r21=>(bif (!r21)then(some (.inr (.inl ((false,()),()))))else(match(jv ((r8 (Int.toNat k)).2.2.1.1,((r8 (Int.toNat k)).2.2.1.2.1,(((SlV.len (r8 (Int.toNat k)).2.2.1.2.2.1),(SlV.fn (.nil:(SlV NI)) (r8 (Int.toNat k)).2.2.1.2.2.1)),(((SlV.len (r8 (Int.toNat k)).2.2.1.2.2.2.1),(SlV.fn ((λ_=>0):NI) (r8 (Int.toNat k)).2.2.1.2.2.2.1)),(r8 (Int.toNat k)).2.2.1.2.2.2.2)))))with|none=>none|some r22=>(bif (!r22)then(bif ((r8 (Int.toNat k)).2.2.1.1.2 !=(i64.wrap (k+1)))then(some (.inr (.inl ((false,()),()))))else(some (.inl (((),((),(n,(i,((),((i64.wrap (k+1)),())))))),(g,((x1,(x2,(x3,((nx,x4),(nx1,x5))))),((r,((r1,(r2,((nr,r3),((nr1,r4),r5)))),((nr2,r6),((nr3,r7),(nr4,r8))))),())))))))else(some (.inl (((),((),(n,(i,((),((i64.wrap (k+1)),())))))),(g,((x1,(x2,(x3,((nx,x4),(nx1,x5))))),((r,((r1,(r2,((nr,r3),((nr1,r4),r5)))),((nr2,r6),((nr3,r7),(nr4,r8))))),()))))))))))))))))))))))))))))else(none))else(some (.inr (.inr (((),((),(n,(i,())))),(g,((x1,(x2,(x3,((nx,x4),(nx1,x5))))),()))))))
abbrev fJ(n:Int)(i:Int)(g:Z0b)(x1:Int)(x2:Int)(x3:Int)(nx:Nat)(x4:NI)(nx1:Nat)(x5:Nat->RE):=(((),((),(n,(i,())))),(g,((x1,(x2,(x3,((nx,x4),(nx1,x5))))),())))
abbrev sH:Type:=(Z09⊕Z07)
abbrev iq(t:Bool):sH:=(.inl ((t,()),()))
abbrev WU:sH:=(.inr ((),()))
abbrev xg:Type:=((Unit×Z0g)×(Z0b×(IM×Unit)))
def eD:xg->Option (xg⊕sH):=λx=>let n:=x.1.2.2.1;let i:=x.1.2.2.2.1;let g:=x.2.1;let x1:=x.2.2.1.1;let x2:=x.2.2.1.2.1;let x3:=x.2.2.1.2.2.1;let nx:=x.2.2.1.2.2.2.1.1;let x4:=x.2.2.1.2.2.2.1.2;let nx1:=x.2.2.1.2.2.2.2.1;let x5:=x.2.2.1.2.2.2.2.2;bif (decide (i<((nx1:Nat):Int)))then(bif (inb i nx1)then(bif (SlV.isMs (x5 (Int.toNat i)).2.1.2.2.1)then(none)else(bif (SlV.isMs (x5 (Int.toNat i)).2.1.2.2.2.1)then(none)else(bif (SlV.isMs (x5 (Int.toNat i)).2.2.1)then(none)else(bif (SlV.isMs (x5 (Int.toNat i)).2.2.2.1)then(none)else(bif (SlV.isMs (x5 (Int.toNat i)).2.2.2.2)then(none)else(bif (decide ((((ByteArray.size (x5 (Int.toNat i)).1):Nat):Int)<1))then(some (.inr (.inl ((false,()),()))))else(bif (decide ((((ByteArray.size (x5 (Int.toNat i)).1):Nat):Int)>8))then(some (.inr (.inl ((false,()),()))))else(bif (decide (i>0))then(bif (inb (i64.wrap (i-1)) nx1)then(let t:=(!(Op.bytesLess (ByteArray.toList (x5 (Int.toNat (i64.wrap (i-1)))).1) (ByteArray.toList (x5 (Int.toNat i)).1)));bif t then(some (.inr (.inl ((false,()),()))))else(match(dM g x1 x2 ((x5 (Int.toNat i)).2.1.1,((x5 (Int.toNat i)).2.1.2.1,(((SlV.len (x5 (Int.toNat i)).2.1.2.2.1),(SlV.fn (.nil:(SlV NI)) (x5 (Int.toNat i)).2.1.2.2.1)),(((SlV.len (x5 (Int.toNat i)).2.1.2.2.2.1),(SlV.fn ((λ_=>0):NI) (x5 (Int.toNat i)).2.1.2.2.2.1)),(x5 (Int.toNat i)).2.1.2.2.2.2)))))with|none=>none|some r=>(bif (!r)then(some (.inr (.inl ((false,()),()))))else(bif ((x5 (Int.toNat i)).2.1.2.2.2.2 !=0)then(some (.inr (.inl ((false,()),()))))else(match(lW (SlV.len (x5 (Int.toNat i)).2.2.1) (SlV.fn (zV:VO) (x5 (Int.toNat i)).2.2.1) n)with|none=>none|some r1=>(bif (!r1)then(some (.inr (.inl ((false,()),()))))else(match(lW (SlV.len (x5 (Int.toNat i)).2.2.2.1) (SlV.fn (zV:VO) (x5 (Int.toNat i)).2.2.2.1) n)with|none=>none|some r2=>(bif (!r2)then(some (.inr (.inl ((false,()),()))))else(bif ((((SlV.len (x5 (Int.toNat i)).2.2.2.2):Nat):Int) !=x3)then(some (.inr (.inl ((false,()),()))))else(match(au fI (((),((),(n,(i,((),(0,())))))),(g,((x1,(x2,(x3,((nx,x4),(nx1,x5))))),(((x5 (Int.toNat i)).1,(((x5 (Int.toNat i)).2.1.1,((x5 (Int.toNat i)).2.1.2.1,(((SlV.len (x5 (Int.toNat i)).2.1.2.2.1),(SlV.fn (.nil:(SlV NI)) (x5 (Int.toNat i)).2.1.2.2.1)),(((SlV.len (x5 (Int.toNat i)).2.1.2.2.2.1),(SlV.fn ((λ_=>0):NI) (x5 (Int.toNat i)).2.1.2.2.2.1)),(x5 (Int.toNat i)).2.1.2.2.2.2)))),(((SlV.len (x5 (Int.toNat i)).2.2.1),(SlV.fn (zV:VO) (x5 (Int.toNat i)).2.2.1)),(((SlV.len (x5 (Int.toNat i)).2.2.2.1),(SlV.fn (zV:VO) (x5 (Int.toNat i)).2.2.2.1)),((SlV.len (x5 (Int.toNat i)).2.2.2.2),(SlV.fn (zT:TO) (x5 (Int.toNat i)).2.2.2.2)))))),())))))with|none=>none|some y=>(match y with| .inl y1=>(let t1:=y1.1.1;some (.inr (.inl ((t1,()),()))))| .inr y1=>(let n1:=y1.1.2.2.1;let i1:=y1.1.2.2.2.1;let g1:=y1.2.1;let x6:=y1.2.2.1.1;let x7:=y1.2.2.1.2.1;let x8:=y1.2.2.1.2.2.1;let nx2:=y1.2.2.1.2.2.2.1.1;let x9:=y1.2.2.1.2.2.2.1.2;let nx3:=y1.2.2.1.2.2.2.2.1;let x10:=y1.2.2.1.2.2.2.2.2;some (.inl (((),((),(n1,((i64.wrap (i1+1)),())))),(g1,((x6,(x7,(x8,((nx2,x9),(nx3,x10))))),()))))))))))))))))else(none))else(match(dM g x1 x2 ((x5 (Int.toNat i)).2.1.1,((x5 (Int.toNat i)).2.1.2.1,(((SlV.len (x5 (Int.toNat i)).2.1.2.2.1),(SlV.fn (.nil:(SlV NI)) (x5 (Int.toNat i)).2.1.2.2.1)),(((SlV.len (x5 (Int.toNat i)).2.1.2.2.2.1),(SlV.fn ((λ_=>0):NI) (x5 (Int.toNat i)).2.1.2.2.2.1)),(x5 (Int.toNat i)).2.1.2.2.2.2)))))with|none=>none|some r3=>(bif (!r3)then(some (.inr (.inl ((false,()),()))))else(bif ((x5 (Int.toNat i)).2.1.2.2.2.2 !=0)then(some (.inr (.inl ((false,()),()))))else(match(lW (SlV.len (x5 (Int.toNat i)).2.2.1) (SlV.fn (zV:VO) (x5 (Int.toNat i)).2.2.1) n)with|none=>none|some r4=>(bif (!r4)then(some (.inr (.inl ((false,()),()))))else(match(lW (SlV.len (x5 (Int.toNat i)).2.2.2.1) (SlV.fn (zV:VO) (x5 (Int.toNat i)).2.2.2.1) n)with|none=>none|some r5=>(bif (!r5)then(some (.inr (.inl ((false,()),()))))else(bif ((((SlV.len (x5 (Int.toNat i)).2.2.2.2):Nat):Int) !=x3)then(some (.inr (.inl ((false,()),()))))else(match(au fI (((),((),(n,(i,((),(0,())))))),(g,((x1,(x2,(x3,((nx,x4),(nx1,x5))))),(((x5 (Int.toNat i)).1,(((x5 (Int.toNat i)).2.1.1,((x5 (Int.toNat i)).2.1.2.1,(((SlV.len (x5 (Int.toNat i)).2.1.2.2.1),(SlV.fn (.nil:(SlV NI)) (x5 (Int.toNat i)).2.1.2.2.1)),(((SlV.len (x5 (Int.toNat i)).2.1.2.2.2.1),(SlV.fn ((λ_=>0):NI) (x5 (Int.toNat i)).2.1.2.2.2.1)),(x5 (Int.toNat i)).2.1.2.2.2.2)))),(((SlV.len (x5 (Int.toNat i)).2.2.1),(SlV.fn (zV:VO) (x5 (Int.toNat i)).2.2.1)),(((SlV.len (x5 (Int.toNat i)).2.2.2.1),(SlV.fn (zV:VO) (x5 (Int.toNat i)).2.2.2.1)),((SlV.len (x5 (Int.toNat i)).2.2.2.2),(SlV.fn (zT:TO) (x5 (Int.toNat i)).2.2.2.2)))))),())))))with|none=>none|some y2=>(match y2 with| .inl y3=>(let t2:=y3.1.1;some (.inr (.inl ((t2,()),()))))| .inr y3=>(let n2:=y3.1.2.2.1;let i2:=y3.1.2.2.2.1;let g2:=y3.2.1;let x11:=y3.2.2.1.1;let x12:=y3.2.2.1.2.1;let x13:=y3.2.2.1.2.2.1;let nx4:=y3.2.2.1.2.2.2.1.1;let x14:=y3.2.2.1.2.2.2.1.2;let nx5:=y3.2.2.1.2.2.2.2.1;let x15:=y3.2.2.1.2.2.2.2.2;some (.inl (((),((),(n2,((i64.wrap (i2+1)),())))),(g2,((x11,(x12,(x13,((nx4,x14),(nx5,x15))))),())))))))))))))))))))))))else(none))else(some (.inr (.inr ((),()))))
def UF(g:Z0b)(x:IM):Option (Bool):=bif (decide (x.1<1))then(some false)else(bif (decide (x.1>2))then(some false)else(bif (decide (x.2.1<1))then(some false)else(bif (decide (x.2.1>(i64.wrap ((i64.wrap (3*x.1))+1))))then(some false)else(bif (decide (x.2.2.1<1))then(some false)else(bif (decide (x.2.2.1>4))then(some false)else(let t:=(((x.2.2.2.1.1:Nat):Int) !=(i64.wrap ((i64.wrap ((i64.wrap (3*x.1))+1))+x.2.2.1)));bif t then(some false)else(match(au jR (((),((),((i64.wrap ((i64.wrap (3*x.1))+1)),(0,(0,()))))),(g,((x.1,(x.2.1,(x.2.2.1,((x.2.2.2.1.1,x.2.2.2.1.2),(x.2.2.2.2.1,x.2.2.2.2.2))))),()))))with|none=>none|some y=>(match y with| .inl y1=>(let t1:=y1.1.1;some t1)| .inr y1=>(let n:=y1.1.2.2.1;let sum:=y1.1.2.2.2.1;let g1:=y1.2.1;let x1:=y1.2.2.1.1;let x2:=y1.2.2.1.2.1;let x3:=y1.2.2.1.2.2.1;let nx:=y1.2.2.1.2.2.2.1.1;let x4:=y1.2.2.1.2.2.2.1.2;let nx1:=y1.2.2.1.2.2.2.2.1;let x5:=y1.2.2.1.2.2.2.2.2;bif (sum !=((nx1:Nat):Int))then(some false)else(match(au eD (((),((),(n,(0,())))),(g1,((x1,(x2,(x3,((nx,x4),(nx1,x5))))),()))))with|none=>none|some y2=>(match y2 with| .inl y3=>(let t2:=y3.1.1;some t2)| .inr y3=>(some true))))))))))))
def J7:=veil UF
theorem UG:J7=UF:=aj _
open Go.IntKind (i64 u64 u32 u8)
def Pn(s:ByteArray):Option (Bool):=bif (decide ((((ByteArray.size s):Nat):Int)>=1))then(some (decide ((((ByteArray.size s):Nat):Int)<=8)))else(some false)
def Hg:=veil Pn
theorem QV:Hg=Pn:=aj _
open Go.IntKind (i64 u64 u32 u8)
abbrev Kv:Type:=Z0D
abbrev F6(clients:Int):Kv:=(.inl (((),(clients,())),()))
abbrev xR(clients:Int)(o:Int)(o1:Int)(no:Nat)(o2:Nat->ByteArray)(o3:List (Int×Int)):Kv:=(.inr (((),(clients,())),((o,(o1,((no,o2),o3))),())))
def yT(servers:Int)(clients:Int):Option (Z0D):=bif (decide (servers<1))then(some (.inl (((),(1,())),())))else(bif (decide (servers>7))then(some (.inl (((),(1,())),())))else(bif (decide (clients<1))then(some (.inl (((),(1,())),())))else(bif (decide (clients>4))then(some (.inl (((),(1,())),())))else(some (.inr (((),(0,())),((servers,(clients,((0,(λ_=>ByteArray.empty)),([]:List (Int×Int))))),())))))))
def oQ:=veil yT
theorem zS:oQ=yT:=aj _
def yh(end_:Int)(s:Int)(s1:Int)(ns:Nat)(s2:Nat->ByteArray)(s3:List (Int×Int)):Option ((Z02×(SP×Unit))):=some (((Option.getD (nH (.int .i64) (.int .i64) s3 end_) (0:Int)),()),((s,(s1,((ns,s2),s3))),()))
def lX:=veil yh
theorem uL:lX=yh:=aj _
def u6(s:(Option Z0i))(end_:Int):Option (Int):=match s with|none=>(some 0)|some s0=>(bif (Option.isSome s0.2.2.2)then(none)else(some 0))
def Di:=veil u6
theorem Jo:Di=u6:=aj _
def qA(s:Int)(s1:Int)(ns:Nat)(s2:Nat->ByteArray)(s3:List (Int×Int)):Option (((Z0c×Unit)×(SP×Unit))):=bif (Nat.ble (ns*16) 140737488355328)then(some (((ns,(λj=>s2 (0+j))),()),((s,(s1,((ns,s2),s3))),())))else(none)
def lY:=veil qA
theorem uM:lY=qA:=aj _
def u7(s:(Option Z0i)):Option (Z0c):=match s with|none=>(some (0,(λ_=>ByteArray.empty)))|some s0=>(bif (SlV.isMs s0.2.2.1)then(none)else(bif (Nat.ble ((SlV.len s0.2.2.1)*16) 140737488355328)then(some ((SlV.len s0.2.2.1),(λj=>(SlV.fn (ByteArray.empty:ByteArray) s0.2.2.1) (0+j))))else(none)))
def Dj:=veil u7
theorem Jp:Dj=u7:=aj _
abbrev UH:Type:=(Z0w⊕((Z0c×Z06)×Unit))
abbrev Hl:Type:=((Z0c×Z0B)×Unit)
def Ho:Hl->Option (Hl⊕UH):=λx=>let nkeys:=x.1.1.1;let keys:=x.1.1.2;let sum:=x.1.2.2.1;let nt:=x.1.2.2.2.1.1;let t:=x.1.2.2.2.1.2;let t1:=x.1.2.2.2.2.1;let t2:=x.1.2.2.2.2.2.1;bif (decide (t2<t1))then(bif (inb t2 nt)then(bif (decide ((t (Int.toNat t2))<0))then(some (.inr (.inl (((),(1,())),()))))else(bif (decide ((t (Int.toNat t2))>0))then(some (.inr (.inl (((),(1,())),()))))else(none)))else(none))else(some (.inr (.inr (((nkeys,keys),((),(sum,()))),()))))
abbrev UJ:Type:=(Z0w⊕((Z0c×Z06)×Unit))
abbrev Hq:Type:=((Z0c×(Unit×(Int×(Z0c×(Int×Z02)))))×Unit)
def Hr:Hq->Option (Hq⊕UJ):=λx=>let nkeys:=x.1.1.1;let keys:=x.1.1.2;let sum:=x.1.2.2.1;let nt:=x.1.2.2.2.1.1;let t:=x.1.2.2.2.1.2;let t1:=x.1.2.2.2.2.1;let t2:=x.1.2.2.2.2.2.1;bif (decide (t2<t1))then(bif (inb t2 nt)then(match(Hg (t (Int.toNat t2)))with|none=>none|some r=>(bif (!r)then(some (.inr (.inl (((),(1,())),()))))else(bif (decide (t2>0))then(bif (inb (i64.wrap (t2-1)) nkeys)then(let t3:=(!(Op.bytesLess (ByteArray.toList (keys (Int.toNat (i64.wrap (t2-1))))) (ByteArray.toList (t (Int.toNat t2)))));bif t3 then(some (.inr (.inl (((),(1,())),()))))else(some (.inl (((nkeys,keys),((),(sum,((nt,t),(t1,((i64.wrap (t2+1)),())))))),()))))else(none))else(some (.inl (((nkeys,keys),((),(sum,((nt,t),(t1,((i64.wrap (t2+1)),())))))),()))))))else(none))else(some (.inr (.inr (((nkeys,keys),((),(sum,()))),()))))
abbrev iH(nkeys:Nat)(keys:Nat->ByteArray)(sum:Int)(nt:Nat)(t:NI)(t1:Int)(t2:Int)(s:Int)(s1:Int)(ns:Nat)(s2:Nat->ByteArray)(s3:List (Int×Int)):=(((nkeys,keys),((),(sum,((nt,t),(t1,(t2,())))))),((s,(s1,((ns,s2),s3))),()))
abbrev uf:Type:=(Z0w⊕((Z0c×Z06)×(SP×Unit)))
abbrev Jq(t:Int):uf:=(.inl (((),(t,())),()))
abbrev yj(nkeys:Nat)(keys:Nat->ByteArray)(sum:Int)(s:Int)(s1:Int)(ns:Nat)(s2:Nat->ByteArray)(s3:List (Int×Int)):uf:=(.inr (((nkeys,keys),((),(sum,()))),((s,(s1,((ns,s2),s3))),())))
abbrev Bf:Type:=((Z0c×Z0B)×(SP×Unit))
def cO:Bf->Option (Bf⊕uf):=λx=>let nkeys:=x.1.1.1;let keys:=x.1.1.2;let sum:=x.1.2.2.1;let nt:=x.1.2.2.2.1.1;let t:=x.1.2.2.2.1.2;let t1:=x.1.2.2.2.2.1;let t2:=x.1.2.2.2.2.2.1;let s:=x.2.1.1;let s1:=x.2.1.2.1;let ns:=x.2.1.2.2.1.1;let s2:=x.2.1.2.2.1.2;let s3:=x.2.1.2.2.2;bif (decide (t2<t1))then(bif (inb t2 nt)then(bif (decide ((t (Int.toNat t2))<0))then(some (.inr (.inl (((),(1,())),()))))else(bif (decide ((t (Int.toNat t2))>(iR s s1 (i64.wrap (t2+1)))))then(some (.inr (.inl (((),(1,())),()))))else(some (.inl (((nkeys,keys),((),((i64.wrap (sum+(t (Int.toNat t2)))),((nt,t),(t1,((i64.wrap (t2+1)),())))))),((s,(s1,((ns,s2),(M8 (.int .i64) (.int .i64) s3 (i64.wrap (t2+1)) (t (Int.toNat t2)))))),()))))))else(none))else(some (.inr (.inr (((nkeys,keys),((),(sum,()))),((s,(s1,((ns,s2),s3))),())))))
abbrev fA(nkeys:Nat)(keys:Nat->ByteArray)(sum:Int)(nt:Nat)(t:Nat->ByteArray)(t1:Int)(t2:Int)(s:Int)(s1:Int)(ns:Nat)(s2:Nat->ByteArray)(s3:List (Int×Int)):=(((nkeys,keys),((),(sum,((nt,t),(t1,(t2,())))))),((s,(s1,((ns,s2),s3))),()))
abbrev ug:Type:=(Z0w⊕((Z0c×Z06)×(SP×Unit)))
abbrev Jr(t:Int):ug:=(.inl (((),(t,())),()))
abbrev yt(nkeys:Nat)(keys:Nat->ByteArray)(sum:Int)(s:Int)(s1:Int)(ns:Nat)(s2:Nat->ByteArray)(s3:List (Int×Int)):ug:=(.inr (((nkeys,keys),((),(sum,()))),((s,(s1,((ns,s2),s3))),())))
abbrev Bg:Type:=((Z0c×(Unit×(Int×(Z0c×(Int×Z02)))))×(SP×Unit))
def bU:Bg->Option (Bg⊕ug):=λx=>let nkeys:=x.1.1.1;let keys:=x.1.1.2;let sum:=x.1.2.2.1;let nt:=x.1.2.2.2.1.1;let t:=x.1.2.2.2.1.2;let t1:=x.1.2.2.2.2.1;let t2:=x.1.2.2.2.2.2.1;let s:=x.2.1.1;let s1:=x.2.1.2.1;let ns:=x.2.1.2.2.1.1;let s2:=x.2.1.2.2.1.2;let s3:=x.2.1.2.2.2;bif (decide (t2<t1))then(bif (inb t2 nt)then(match(Hg (t (Int.toNat t2)))with|none=>none|some r=>(bif (!r)then(some (.inr (.inl (((),(1,())),()))))else(bif (decide (t2>0))then(bif (inb (i64.wrap (t2-1)) nkeys)then(let t3:=(!(Op.bytesLess (ByteArray.toList (keys (Int.toNat (i64.wrap (t2-1))))) (ByteArray.toList (t (Int.toNat t2)))));bif t3 then(some (.inr (.inl (((),(1,())),()))))else(some (.inl (((nkeys,keys),((),(sum,((nt,t),(t1,((i64.wrap (t2+1)),())))))),((s,(s1,((ns,s2),s3))),())))))else(none))else(some (.inl (((nkeys,keys),((),(sum,((nt,t),(t1,((i64.wrap (t2+1)),())))))),((s,(s1,((ns,s2),s3))),())))))))else(none))else(some (.inr (.inr (((nkeys,keys),((),(sum,()))),((s,(s1,((ns,s2),s3))),())))))
abbrev NN:Type:=Z0D
abbrev Ht(clients:Int):NN:=(.inl (((),(clients,())),()))
abbrev Hu(clients:Int)(s:Int)(s1:Int)(ns:Nat)(s2:Nat->ByteArray)(s3:List (Int×Int)):NN:=(.inr (((),(clients,())),((s,(s1,((ns,s2),s3))),())))
def Hw(servers:Int)(clients:Int)(nkeys:Nat)(keys:Nat->ByteArray)(nused:Nat)(used:NI):Option (Z0D):=match(oQ servers clients)with|none=>none|some y=>(match y with| .inl y1=>(let r:=y1.1.2.1;bif (r !=0)then(some (.inl (((),(1,())),())))else(bif (((nused:Nat):Int) !=(i64.wrap (servers+clients)))then(some (.inl (((),(1,())),())))else(match(au Ho (((nkeys,keys),((),(0,((nused,used),(((nused:Nat):Int),(0,())))))),()))with|none=>none|some y2=>(match y2 with| .inl y3=>(let t:=y3.1.2.1;some (.inl (((),(t,())),())))| .inr y3=>(let nkeys1:=y3.1.1.1;let keys1:=y3.1.1.2;let sum:=y3.1.2.2.1;match(au Hr (((nkeys1,keys1),((),(sum,((nkeys1,keys1),(((nkeys1:Nat):Int),(0,())))))),()))with|none=>none|some y4=>(match y4 with| .inl y5=>(let t1:=y5.1.2.1;some (.inl (((),(t1,())),())))| .inr y5=>(let nkeys2:=y5.1.1.1;let keys2:=y5.1.1.2;let sum1:=y5.1.2.2.1;bif (sum1 !=((nkeys2:Nat):Int))then(some (.inl (((),(1,())),())))else(bif (Nat.ble (nkeys2*16) 140737488355328)then(none)else(none)))))))))| .inr y1=>(let r1:=y1.1.2.1;let o:=y1.2.1.1;let o1:=y1.2.1.2.1;let no:=y1.2.1.2.2.1.1;let o2:=y1.2.1.2.2.1.2;let o3:=y1.2.1.2.2.2;bif (r1 !=0)then(some (.inl (((),(1,())),())))else(bif (((nused:Nat):Int) !=(i64.wrap (servers+clients)))then(some (.inl (((),(1,())),())))else(match(au cO (((nkeys,keys),((),(0,((nused,used),(((nused:Nat):Int),(0,())))))),((o,(o1,((no,o2),o3))),())))with|none=>none|some y6=>(match y6 with| .inl y7=>(let t2:=y7.1.2.1;some (.inl (((),(t2,())),())))| .inr y7=>(let nkeys3:=y7.1.1.1;let keys3:=y7.1.1.2;let sum2:=y7.1.2.2.1;let s:=y7.2.1.1;let s1:=y7.2.1.2.1;let ns:=y7.2.1.2.2.1.1;let s2:=y7.2.1.2.2.1.2;let s3:=y7.2.1.2.2.2;match(au bU (((nkeys3,keys3),((),(sum2,((nkeys3,keys3),(((nkeys3:Nat):Int),(0,())))))),((s,(s1,((ns,s2),s3))),())))with|none=>none|some y8=>(match y8 with| .inl y9=>(let t3:=y9.1.2.1;some (.inl (((),(t3,())),())))| .inr y9=>(let nkeys4:=y9.1.1.1;let keys4:=y9.1.1.2;let sum3:=y9.1.2.2.1;let s4:=y9.2.1.1;let s5:=y9.2.1.2.1;let ns1:=y9.2.1.2.2.1.1;let s6:=y9.2.1.2.2.1.2;let s7:=y9.2.1.2.2.2;bif (sum3 !=((nkeys4:Nat):Int))then(some (.inl (((),(1,())),())))else(bif (Nat.ble (nkeys4*16) 140737488355328)then(some (.inr (((),(0,())),((s4,(s5,((nkeys4,keys4),s7))),()))))else(none))))))))))
def zU:=veil Hw
theorem Kw:zU=Hw:=aj _
open Go.IntKind (i64 u64 u32 u8)
open Go.IntKind (i64 u64 u32 u8)
def C8(c:Int):Option (Bool):=bif (decide (c>=1))then(some (decide (c<=4)))else(some false)
def Ef:=veil C8
theorem F7:Ef=C8:=aj _
def LQ(s:(Int×Int)):Option (Bool):=bif (decide (s.1>=1))then(bif (decide (s.1<=1099511627776))then(match(Ef s.2)with|none=>none|some r=>(some r))else(some false))else(some false)
def vN:=veil LQ
theorem NP:vN=LQ:=aj _
open Go.IntKind (i64 u64 u32 u8)
def rU(server:Int)(s:(Int×Int))(digest:ByteArray)(v:VT):Option (((Bool×Unit)×(VT×Unit))):=match(vN s)with|none=>none|some r=>(bif (!r)then(some ((false,()),(v,())))else(bif (decide (server<1))then(some ((false,()),(v,())))else(bif (decide (server>v.1))then(some ((false,()),(v,())))else(bif (decide (s.2<1))then(some ((false,()),(v,())))else(bif (decide (s.2>4))then(some ((false,()),(v,())))else(bif (decide ((ay .and .i64 s.1 1)<0))then(some ((false,()),(v,())))else(bif (decide ((ay .and .i64 s.1 1)>1))then(some ((false,()),(v,())))else(bif (inb (i64.wrap (server-1)) 7)then(bif (inb (i64.wrap (s.2-1)) 4)then(bif (inb (ay .and .i64 s.1 1) 2)then(let t:=(((v.2 (Int.toNat (i64.wrap (server-1)))) (Int.toNat (i64.wrap (s.2-1)))) (Int.toNat (ay .and .i64 s.1 1))).1.1;bif (decide (t>=s.1))then(some ((false,()),(v,())))else(some ((true,()),((v.1,(upd v.2 (Int.toNat (i64.wrap (server-1))) (upd (v.2 (Int.toNat (i64.wrap (server-1)))) (Int.toNat (i64.wrap (s.2-1))) (upd ((v.2 (Int.toNat (i64.wrap (server-1)))) (Int.toNat (i64.wrap (s.2-1)))) (Int.toNat (ay .and .i64 s.1 1)) (s,digest))))),()))))else(none))else(none))else(none)))))))))
def nN:=veil rU
theorem xk:nN=rU:=aj _
def vO(v:(Option VT))(server:Int)(s:(Int×Int))(digest:ByteArray):Option (Bool):=match v with|none=>(match(vN s)with|none=>none|some r1=>(bif (!r1)then(some false)else(some false)))|some v0=>(match(vN s)with|none=>none|some r=>(bif (!r)then(some false)else(bif (decide (server<1))then(some false)else(bif (decide (server>v0.1))then(some false)else(bif (decide (s.2<1))then(some false)else(bif (decide (s.2>4))then(some false)else(bif (decide ((ay .and .i64 s.1 1)<0))then(some false)else(bif (decide ((ay .and .i64 s.1 1)>1))then(some false)else(bif (inb (i64.wrap (server-1)) 7)then(bif (inb (i64.wrap (s.2-1)) 4)then(bif (inb (ay .and .i64 s.1 1) 2)then(let t:=(((v0.2 (Int.toNat (i64.wrap (server-1)))) (Int.toNat (i64.wrap (s.2-1)))) (Int.toNat (ay .and .i64 s.1 1))).1.1;bif (decide (t>=s.1))then(some false)else(none))else(none))else(none))else(none))))))))))
def F8:=veil vO
theorem LU:F8=vO:=aj _
def rz(v:(Option VT))(server:Int)(client:Int)(odd:Int):Option ((Int×Int)×ByteArray):=match v with|none=>(some ((0,0),(ByteArray.mk #[])))|some v0=>(bif (decide (server<1))then(some ((0,0),(ByteArray.mk #[])))else(bif (decide (server>v0.1))then(some ((0,0),(ByteArray.mk #[])))else(bif (decide (client<1))then(some ((0,0),(ByteArray.mk #[])))else(bif (decide (client>4))then(some ((0,0),(ByteArray.mk #[])))else(bif (decide (odd<0))then(some ((0,0),(ByteArray.mk #[])))else(bif (decide (odd>1))then(some ((0,0),(ByteArray.mk #[])))else(bif (inb (i64.wrap (server-1)) 7)then(bif (inb (i64.wrap (client-1)) 4)then(bif (inb odd 2)then(let t:=(((v0.2 (Int.toNat (i64.wrap (server-1)))) (Int.toNat (i64.wrap (client-1)))) (Int.toNat odd)).2;some ((((v0.2 (Int.toNat (i64.wrap (server-1)))) (Int.toNat (i64.wrap (client-1)))) (Int.toNat odd)).1,t))else(none))else(none))else(none))))))))
def jw:=veil rz
theorem Bh:jw=rz:=aj _
def C9(n:Int):Option ((Z06×(VT×Unit))):=bif (decide (n<1))then(none)else(bif (decide (n>7))then(none)else(some (((),(0,())),((n,(λ_=>(λ_=>(λ_=>((0,0),ByteArray.empty))))),()))))
def pX:=veil C9
theorem F9:pX=C9:=aj _
open Go.IntKind (i64 u64 u32 u8)
abbrev Hy:Type:=(Z0w⊕(Z06×(SP×(SN×Unit))))
abbrev Dk(t:Int):Hy:=(.inl (((),(t,())),()))
abbrev vP(t:Int)(o:Int)(o1:Int)(no:Nat)(o2:Nat->ByteArray)(o3:List (Int×Int))(o4:GR)(o5:Int)(o6:Int)(o7:Int)(o8:Int)(o9:BG)(no1:Nat)(o10:Nat->OU):Hy:=(.inr (((),(t,())),((o,(o1,((no,o2),o3))),((o4,(o5,(o6,(o7,(o8,((),(o9,(no1,o10)))))))),()))))
def qM(g:Z0r)(t:Int)(number:Int)(clients:Int):Option ((Z0w⊕(Z06×(SP×(SN×Unit))))):=match g with|none=>(match(bT none)with|none=>none|some r3=>(match r3 with|none=>(some (.inl (((),(1,())),())))|some p1=>(bif (decide (t<1))then(some (.inl (((),(1,())),())))else(bif (decide (t>2))then(some (.inl (((),(1,())),())))else(bif (decide (number<1))then(some (.inl (((),(1,())),())))else(bif (decide (number>(i64.wrap ((i64.wrap (3*t))+1))))then(some (.inl (((),(1,())),())))else(match(oQ (i64.wrap ((i64.wrap (3*t))+1)) clients)with|none=>none|some y2=>(match y2 with| .inl y3=>(let r4:=y3.1.2.1;bif (r4 !=0)then(some (.inl (((),(r4,())),())))else(none))| .inr y3=>(let r5:=y3.1.2.1;let o4:=y3.2.1.1;let o5:=y3.2.1.2.1;let no1:=y3.2.1.2.2.1.1;let o6:=y3.2.1.2.2.1.2;let o7:=y3.2.1.2.2.2;bif (r5 !=0)then(some (.inl (((),(r5,())),())))else(none))))))))))|some g0=>(match(bT (some g0))with|none=>none|some r=>(match r with|none=>(some (.inl (((),(1,())),())))|some p=>(bif (decide (t<1))then(some (.inl (((),(1,())),())))else(bif (decide (t>2))then(some (.inl (((),(1,())),())))else(bif (decide (number<1))then(some (.inl (((),(1,())),())))else(bif (decide (number>(i64.wrap ((i64.wrap (3*t))+1))))then(some (.inl (((),(1,())),())))else(match(oQ (i64.wrap ((i64.wrap (3*t))+1)) clients)with|none=>none|some y=>(match y with| .inl y1=>(let r1:=y1.1.2.1;bif (r1 !=0)then(some (.inl (((),(r1,())),())))else(none))| .inr y1=>(let r2:=y1.1.2.1;let o:=y1.2.1.1;let o1:=y1.2.1.2.1;let no:=y1.2.1.2.2.1.1;let o2:=y1.2.1.2.2.1.2;let o3:=y1.2.1.2.2.2;bif (r2 !=0)then(some (.inl (((),(r2,())),())))else(some (.inr (((),(0,())),((o,(o1,((no,o2),o3))),((g0,(t,(number,((i64.wrap ((i64.wrap (3*t))+1)),(clients,((),(([]:BG),zNO))))))),()))))))))))))))
def uh:=veil qM
theorem xS:uh=qM:=aj _
def Eh(x:GA):Option (Bool):=bif (eqF (.pair (.int .i64) (.int .i64)) x.1 (0,0))then(bif (sEq x.2.1 (ByteArray.mk #[]))then(let t:=(i64.wrap (((x.2.2.1.1:Nat):Int)+((x.2.2.2.1.1:Nat):Int)));bif (t==0)then(some (x.2.2.2.2==0))else(some false))else(some false))else(some false)
def bP:=veil Eh
theorem Hz:bP=Eh:=aj _
def uj(op:Int):Option (Bool):=bif (decide (op>=0))then(some (decide (op<=1048576)))else(some false)
def jl:=veil uj
theorem yu:jl=uj:=aj _
def kZ(x1:(Int×Int))(x2:ByteArray)(nx:Nat)(x3:Nat->(SlV NI))(nx1:Nat)(x4:Nat->NI)(x5:Int)(o:SS):Option (((PR×(Bool×Unit))×SS)):=match(bP (x1,(x2,((nx,x3),((nx1,x4),x5)))))with|none=>none|some r=>(bif r then(some ((((x1,(x2,((nx,x3),(nx1,x4)))),x5),(true,())),o))else(match(vN x1)with|none=>none|some r1=>(bif (!r1)then(some ((((x1,(x2,((nx,x3),(nx1,x4)))),x5),(false,())),o))else(bif ((((ByteArray.size x2):Nat):Int) !=32)then(some ((((x1,(x2,((nx,x3),(nx1,x4)))),x5),(false,())),o))else(match(jl x5)with|none=>none|some r2=>(let t:=(!r2);bif t then(some ((((x1,(x2,((nx,x3),(nx1,x4)))),x5),(false,())),o))else(bif ((i64.wrap (((nx:Nat):Int)+((nx1:Nat):Int)))==0)then(some ((((x1,(x2,((nx,x3),(nx1,x4)))),x5),(true,())),o))else(match(E8 (some o.1.1) o.1.2.1 nx x3)with|none=>none|some r3=>(bif r3 then(match(wD nx x3)with|none=>none|some r4=>(bif (sEq r4 x2)then(match(tQ (some o.1.1) nx x3 (o.1.2.2.1,(nx1,x4)))with|none=>none|some r5=>(some ((((x1,(x2,((nx,x3),(nx1,x4)))),x5),(r5,())),o)))else(some ((((x1,(x2,((nx,x3),(nx1,x4)))),x5),(false,())),o))))else(some ((((x1,(x2,((nx,x3),(nx1,x4)))),x5),(false,())),o)))))))))))
def aS:=veil kZ
theorem qh:aS=kZ:=aj _
abbrev fB(nl:Nat)(l:Nat->VO)(ok:Bool)(nt:Nat)(t:Nat->VO)(t1:Int)(t2:Int)(o:Z0n):=(((),((nl,l),((),(ok,((nt,t),(t1,(t2,()))))))),o)
abbrev qN(nl:Nat)(l:Nat->VO)(ok:Bool)(o:Z0n):=(((),((nl,l),((),(ok,())))),o)
abbrev um:Type:=((Unit×(Z0q×(Unit×(Bool×(Z0q×(Int×Z02))))))×Z0n)
def bE:um->Option (um⊕((Unit×(Z0q×Z0s))×Z0n)):=λx=>let nl:=x.1.2.1.1;let l:=x.1.2.1.2;let ok:=x.1.2.2.2.1;let nt:=x.1.2.2.2.2.1.1;let t:=x.1.2.2.2.2.1.2;let t1:=x.1.2.2.2.2.2.1;let t2:=x.1.2.2.2.2.2.2.1;bif (decide (t2<t1))then(bif (inb t2 nt)then(bif ok then(bif ((((ByteArray.size (t (Int.toNat t2)).2.2):Nat):Int)==32)then(match(nN (t (Int.toNat t2)).1 (t (Int.toNat t2)).2.1 (t (Int.toNat t2)).2.2 x.2.2.2.1)with|none=>none|some y=>(let r:=y.1.1;let o:=y.2.1;some (.inl (((),((nl,l),((),(r,((nt,t),(t1,((i64.wrap (t2+1)),()))))))),(x.2.1,(x.2.2.1,(o,())))))))else(some (.inl (((),((nl,l),((),(false,((nt,t),(t1,((i64.wrap (t2+1)),()))))))),(x.2.1,(x.2.2.1,x.2.2.2))))))else(some (.inl (((),((nl,l),((),(false,((nt,t),(t1,((i64.wrap (t2+1)),()))))))),(x.2.1,(x.2.2.1,x.2.2.2))))))else(none))else(some (.inr (((),((nl,l),((),(ok,())))),x.2)))
abbrev dK(server:Int)(client:Int)(t:Int)(t1:Int)(t2:Int)(t3:Int)(o:Z04):=(((),(server,(client,(t,(t1,(t2,(t3,()))))))),o)
abbrev iV(server:Int)(t:Int)(t1:Int)(t2:Int)(o:Z04):=(((),(server,(t,(t1,(t2,()))))),o)
abbrev qj:Type:=((Unit×Z0z)×Z04)
def bC:qj->Option (qj⊕((Unit×Z0e)×Z04)):=λx=>let server:=x.1.2.1;let client:=x.1.2.2.1;let t:=x.1.2.2.2.1;let t1:=x.1.2.2.2.2.1;let t2:=x.1.2.2.2.2.2.1;let t3:=x.1.2.2.2.2.2.2.1;bif (decide (t3<2))then(match(jw (some x.2.2.2.1) (i64.wrap (server+1)) (i64.wrap (client+1)) t3)with|none=>none|some r=>(bif (decide (r.1.1>0))then(bif ((Nat.ble ((x.2.2.2.2.2.1.1+1)*40) 140737488355328)&&(Nat.ble (x.2.2.2.2.2.1.1+1) 9223372036854775807))then(some (.inl (((),(server,(client,(t,(t1,(t2,((i64.wrap (t3+1)),()))))))),(x.2.1,(x.2.2.1,(x.2.2.2.1,((),(((x.2.2.2.2.2.1.1+1),(glue x.2.2.2.2.2.1.1 x.2.2.2.2.2.1.2 (λj=>(upd (λ_=>zV) 0 ((i64.wrap (server+1)),(r.1,r.2))) (0+j)))),()))))))))else(none))else(some (.inl (((),(server,(client,(t,(t1,(t2,((i64.wrap (t3+1)),()))))))),(x.2.1,(x.2.2.1,(x.2.2.2.1,x.2.2.2.2))))))))else(some (.inr (((),(server,(t,(t1,(t2,()))))),x.2)))
abbrev fP(server:Int)(t:Int)(t1:Int)(t2:Int)(o:Z04):=(((),(server,(t,(t1,(t2,()))))),o)
abbrev iW(t:Int)(t1:Int)(o:Z04):=(((),(t,(t1,()))),o)
abbrev ql:Type:=((Unit×Z0e)×Z04)
def bD:ql->Option (ql⊕(Z0g×Z04)):=λx=>let server:=x.1.2.1;let t:=x.1.2.2.1;let t1:=x.1.2.2.2.1;let t2:=x.1.2.2.2.2.1;bif (decide (t2<4))then(match(au bC (((),(server,(t2,(t,(t1,(t2,(0,()))))))),x.2))with|none=>none|some y=>(let server1:=y.1.2.1;let t3:=y.1.2.2.1;let t4:=y.1.2.2.2.1;let t5:=y.1.2.2.2.2.1;some (.inl (((),(server1,(t3,(t4,((i64.wrap (t5+1)),()))))),y.2))))else(some (.inr (((),(t,(t1,()))),x.2)))
abbrev fQ(t:Int)(t1:Int)(o:Z04):=(((),(t,(t1,()))),o)
abbrev eG(o:Z04):=((),o)
abbrev qm:Type:=(Z0g×Z04)
def aZ:qm->Option (qm⊕(Unit×Z04)):=λx=>let t:=x.1.2.1;let t1:=x.1.2.2.1;bif (decide (t1<t))then(match(au bD (((),(t1,(t,(t1,(0,()))))),x.2))with|none=>none|some y=>(let t2:=y.1.2.1;let t3:=y.1.2.2.1;some (.inl (((),(t2,((i64.wrap (t3+1)),()))),y.2))))else(some (.inr ((),x.2)))
abbrev iX(nl:Nat)(l:Nat->VO)(ok:Bool)(nback:Nat)(back:Nat->VO)(t:Int)(t1:Int)(o:Z0n):=(((),((nl,l),((),(ok,((nback,back),(t,(t1,()))))))),o)
abbrev Ca(ok:Bool)(o:Z0n):=(((),((),(ok,()))),o)
abbrev uo:Type:=((Unit×(Z0q×(Unit×(Bool×(Z0q×(Int×Z02))))))×Z0n)
def bZ:uo->Option (uo⊕((Unit×Z0s)×Z0n)):=λx=>let nl:=x.1.2.1.1;let l:=x.1.2.1.2;let ok:=x.1.2.2.2.1;let nback:=x.1.2.2.2.2.1.1;let back:=x.1.2.2.2.2.1.2;let t:=x.1.2.2.2.2.2.1;let t1:=x.1.2.2.2.2.2.2.1;bif (decide (t1<t))then(bif ok then(bif (inb t1 nback)then(bif (inb t1 nl)then(let ok1:=(eqF (.pair (.int .i64) (.pair (.pair (.int .i64) (.int .i64)) .str)) (back (0+(Int.toNat t1))) (l (Int.toNat t1)));some (.inl (((),((nl,l),((),(ok1,((nback,back),(t,((i64.wrap (t1+1)),()))))))),x.2)))else(none))else(none))else(some (.inl (((),((nl,l),((),(false,((nback,back),(t,((i64.wrap (t1+1)),()))))))),x.2))))else(some (.inr (((),((),(ok,()))),x.2)))
def qB(nl:Nat)(l:Nat->VO)(o:SS):Option ((Z0s×Z0n)):=
 match(pX o.1.2.2.2.1)with
 |none=>none
 |some y=>(
 let r:=y.1.2.1;let o1:=y.2.1
 match(au bE (((),((nl,l),((),((r==0),((nl,l),(((nl:Nat):Int),(0,()))))))),(o.1,(o.2.1,(o1,())))))with
 |none=>none
 |some y1=>(
 let nl1:=y1.1.2.1.1;let l1:=y1.1.2.1.2;let ok:=y1.1.2.2.2.1
 match(au aZ (((),(y1.2.1.2.2.2.1,(0,()))),(y1.2.1,(y1.2.2.1,(y1.2.2.2.1,((),((0,(λ_=>zV)),())))))))with
 |none=>none
 |some y2=>(
 let k:Z09->Option ((Z0s×Z0n)):=λx1=>(
 let ok1:=x1.1.1
 match(au bZ (((),((nl1,l1),((),(ok1,(y2.2.2.2.2.2.1,((if((nl1:Nat):Int)<((y2.2.2.2.2.2.1.1:Nat):Int)then((nl1:Nat):Int)else((y2.2.2.2.2.2.1.1:Nat):Int)),(0,()))))))),(y2.2.1,(y2.2.2.1,(y2.2.2.2.1,())))))with
 |none=>none
 |some y3=>(
 let ok2:=y3.1.2.2.1
 some (((),(ok2,())),y3.2)))
 bif ok then(
 k (((((y2.2.2.2.2.2.1.1:Nat):Int)==((nl1:Nat):Int)),()),()))
 else(
 k ((false,()),())))))
def jy:=veil qB
theorem uN:jy=qB:=aj _
def jE(number:Int)(x1:(Int×Int))(x2:ByteArray)(nx:Nat)(x3:Nat->(SlV NI))(nx1:Nat)(x4:Nat->NI)(x5:Int)(x6:(Int×Int))(x7:ByteArray)(nx2:Nat)(x8:Nat->(SlV NI))(nx3:Nat)(x9:Nat->NI)(x10:Int)(x11:(Int×Int))(x12:ByteArray)(nx4:Nat)(x13:Nat->(SlV NI))(nx5:Nat)(x14:Nat->NI)(x15:Int)(x16:(Int×Int))(o:SS):Option (((CL×(Bool×Unit))×SS)):=
 let k:Z09->Option (((CL×(Bool×Unit))×SS)):=λx17=>(
 let ok:=x17.1.1
 match(aS x1 x2 nx x3 nx1 x4 x5 o)with
 |none=>none
 |some y=>(
 let r2:=y.1.1;let r3:=y.1.2.1;let k1:Z09->Option (((CL×(Bool×Unit))×SS)):=λx18=>(
 let ok1:=x18.1.1;let u:=(upd zPS 0 r2)
 match(aS x6 x7 nx2 x8 nx3 x9 x10 y.2)with
 |none=>none
 |some y1=>(
 let r7:=y1.1.1;let r8:=y1.1.2.1
 bif ok1 then(
 bif r8 then(
 match(bP (x6,(x7,((nx2,x8),((nx3,x9),x10)))))with
 |none=>none
 |some r9=>(
 bif r9 then(
 match(bP (x6,(x7,((nx2,x8),((nx3,x9),x10)))))with
 |none=>none
 |some r10=>(
 bif r10 then(
 match(aS x11 x12 nx4 x13 nx5 x14 x15 y1.2)with
 |none=>none
 |some y2=>(
 bif y2.1.2.1 then(
 match(bP (x11,(x12,((nx4,x13),((nx5,x14),x15)))))with
 |none=>none
 |some r14=>(
 bif r14 then(
 some ((((upd u 1 r7),(y2.1.1,(x16.1,x16.2))),(true,())),(y2.2.1,(y2.2.2.1,()))))
 else(
 bif (x11.2==number)then(
 some ((((upd u 1 r7),(y2.1.1,(x16.1,x16.2))),(true,())),(y2.2.1,(y2.2.2.1,()))))
 else(
 some ((((upd u 1 r7),(y2.1.1,(x16.1,x16.2))),(false,())),(y2.2.1,(y2.2.2.1,())))))))
 else(
 some ((((upd u 1 r7),(y2.1.1,(x16.1,x16.2))),(false,())),(y2.2.1,(y2.2.2.1,()))))))
 else(
 let ok2:=((ay .and .i64 x6.1 1)==1)
 match(aS x11 x12 nx4 x13 nx5 x14 x15 y1.2)with
 |none=>none
 |some y3=>(
 bif ok2 then(
 bif y3.1.2.1 then(
 match(bP (x11,(x12,((nx4,x13),((nx5,x14),x15)))))with
 |none=>none
 |some r17=>(
 bif r17 then(
 some ((((upd u 1 r7),(y3.1.1,(x16.1,x16.2))),(true,())),(y3.2.1,(y3.2.2.1,()))))
 else(
 bif (x11.2==number)then(
 some ((((upd u 1 r7),(y3.1.1,(x16.1,x16.2))),(true,())),(y3.2.1,(y3.2.2.1,()))))
 else(
 some ((((upd u 1 r7),(y3.1.1,(x16.1,x16.2))),(false,())),(y3.2.1,(y3.2.2.1,())))))))
 else(
 some ((((upd u 1 r7),(y3.1.1,(x16.1,x16.2))),(false,())),(y3.2.1,(y3.2.2.1,())))))
 else(
 some ((((upd u 1 r7),(y3.1.1,(x16.1,x16.2))),(false,())),(y3.2.1,(y3.2.2.1,()))))))))
 else(
 bif (x6.2==number)then(
 match(bP (x6,(x7,((nx2,x8),((nx3,x9),x10)))))with
 |none=>none
 |some r11=>(
 bif r11 then(
 match(aS x11 x12 nx4 x13 nx5 x14 x15 y1.2)with
 |none=>none
 |some y4=>(
 bif y4.1.2.1 then(
 match(bP (x11,(x12,((nx4,x13),((nx5,x14),x15)))))with
 |none=>none
 |some r20=>(
 bif r20 then(
 some ((((upd u 1 r7),(y4.1.1,(x16.1,x16.2))),(true,())),(y4.2.1,(y4.2.2.1,()))))
 else(
 bif (x11.2==number)then(
 some ((((upd u 1 r7),(y4.1.1,(x16.1,x16.2))),(true,())),(y4.2.1,(y4.2.2.1,()))))
 else(
 some ((((upd u 1 r7),(y4.1.1,(x16.1,x16.2))),(false,())),(y4.2.1,(y4.2.2.1,())))))))
 else(
 some ((((upd u 1 r7),(y4.1.1,(x16.1,x16.2))),(false,())),(y4.2.1,(y4.2.2.1,()))))))
 else(
 let ok2:=((ay .and .i64 x6.1 1)==1)
 match(aS x11 x12 nx4 x13 nx5 x14 x15 y1.2)with
 |none=>none
 |some y5=>(
 bif ok2 then(
 bif y5.1.2.1 then(
 match(bP (x11,(x12,((nx4,x13),((nx5,x14),x15)))))with
 |none=>none
 |some r23=>(
 bif r23 then(
 some ((((upd u 1 r7),(y5.1.1,(x16.1,x16.2))),(true,())),(y5.2.1,(y5.2.2.1,()))))
 else(
 bif (x11.2==number)then(
 some ((((upd u 1 r7),(y5.1.1,(x16.1,x16.2))),(true,())),(y5.2.1,(y5.2.2.1,()))))
 else(
 some ((((upd u 1 r7),(y5.1.1,(x16.1,x16.2))),(false,())),(y5.2.1,(y5.2.2.1,())))))))
 else(
 some ((((upd u 1 r7),(y5.1.1,(x16.1,x16.2))),(false,())),(y5.2.1,(y5.2.2.1,())))))
 else(
 some ((((upd u 1 r7),(y5.1.1,(x16.1,x16.2))),(false,())),(y5.2.1,(y5.2.2.1,()))))))))
 else(
 match(aS x11 x12 nx4 x13 nx5 x14 x15 y1.2)with
 |none=>none
 |some y6=>(
 some ((((upd u 1 r7),(y6.1.1,(x16.1,x16.2))),(false,())),(y6.2.1,(y6.2.2.1,()))))))))
 else(
 match(aS x11 x12 nx4 x13 nx5 x14 x15 y1.2)with
 |none=>none
 |some y7=>(
 some ((((upd u 1 r7),(y7.1.1,(x16.1,x16.2))),(false,())),(y7.2.1,(y7.2.2.1,()))))))
 else(
 match(aS x11 x12 nx4 x13 nx5 x14 x15 y1.2)with
 |none=>none
 |some y8=>(
 some ((((upd u 1 r7),(y8.1.1,(x16.1,x16.2))),(false,())),(y8.2.1,(y8.2.2.1,())))))))
 bif ok then(
 bif r3 then(
 match(bP (x1,(x2,((nx,x3),((nx1,x4),x5)))))with
 |none=>none
 |some r4=>(
 bif r4 then(
 match(bP (x1,(x2,((nx,x3),((nx1,x4),x5)))))with
 |none=>none
 |some r5=>(
 bif r5 then(
 k1 ((true,()),()))
 else(
 k1 ((((ay .and .i64 x1.1 1)==0),()),()))))
 else(
 bif (x1.2==number)then(
 match(bP (x1,(x2,((nx,x3),((nx1,x4),x5)))))with
 |none=>none
 |some r6=>(
 bif r6 then(
 k1 ((true,()),()))
 else(
 k1 ((((ay .and .i64 x1.1 1)==0),()),()))))
 else(
 k1 ((false,()),())))))
 else(
 k1 ((false,()),())))
 else(
 k1 ((false,()),()))))
 match(jl x16.1)with
 |none=>none
 |some r=>(
 bif r then(
 match(jl x16.2)with
 |none=>none
 |some r1=>(
 k ((r1,()),())))
 else(
 k ((false,()),())))
def dP:=veil jE
theorem nO:dP=jE:=aj _
abbrev dV(nt:Nat)(t:Nat->TO)(t1:Int)(t2:Int)(o:Z0j):=(((),((),((nt,t),(t1,(t2,()))))),o)
abbrev iL:Type:=((Z0h×Z0j)⊕((Unit×Z0s)×SS))
abbrev vQ(o:Z0j):iL:=(.inl (((),((),())),o))
abbrev vR(t:Bool)(o:SS):iL:=(.inr (((),((),(t,()))),o))
abbrev mG:Type:=((Unit×(Unit×((Nat×(Nat->TO))×(Int×Z02))))×Z0j)
def bA:mG->Option (mG⊕iL):=λx=>let nt:=x.1.2.2.1.1;let t:=x.1.2.2.1.2;let t1:=x.1.2.2.2.1;let t2:=x.1.2.2.2.2.1;bif (decide (t2<t1))then(bif (inb t2 nt)then(bif (SlV.isMs (t (Int.toNat t2)).1.2.2.1)then(none)else(bif (SlV.isMs (t (Int.toNat t2)).1.2.2.2.1)then(none)else(bif (SlV.isMs (t (Int.toNat t2)).2.1.2.2.1)then(none)else(bif (SlV.isMs (t (Int.toNat t2)).2.1.2.2.2.1)then(none)else(bif (SlV.isMs (t (Int.toNat t2)).2.2.1.2.2.1)then(none)else(bif (SlV.isMs (t (Int.toNat t2)).2.2.1.2.2.2.1)then(none)else(match(dP (i64.wrap (t2+1)) (t (Int.toNat t2)).1.1 (t (Int.toNat t2)).1.2.1 (SlV.len (t (Int.toNat t2)).1.2.2.1) (SlV.fn (.nil:(SlV NI)) (t (Int.toNat t2)).1.2.2.1) (SlV.len (t (Int.toNat t2)).1.2.2.2.1) (SlV.fn ((λ_=>0):NI) (t (Int.toNat t2)).1.2.2.2.1) (t (Int.toNat t2)).1.2.2.2.2 (t (Int.toNat t2)).2.1.1 (t (Int.toNat t2)).2.1.2.1 (SlV.len (t (Int.toNat t2)).2.1.2.2.1) (SlV.fn (.nil:(SlV NI)) (t (Int.toNat t2)).2.1.2.2.1) (SlV.len (t (Int.toNat t2)).2.1.2.2.2.1) (SlV.fn ((λ_=>0):NI) (t (Int.toNat t2)).2.1.2.2.2.1) (t (Int.toNat t2)).2.1.2.2.2.2 (t (Int.toNat t2)).2.2.1.1 (t (Int.toNat t2)).2.2.1.2.1 (SlV.len (t (Int.toNat t2)).2.2.1.2.2.1) (SlV.fn (.nil:(SlV NI)) (t (Int.toNat t2)).2.2.1.2.2.1) (SlV.len (t (Int.toNat t2)).2.2.1.2.2.2.1) (SlV.fn ((λ_=>0):NI) (t (Int.toNat t2)).2.2.1.2.2.2.1) (t (Int.toNat t2)).2.2.1.2.2.2.2 (t (Int.toNat t2)).2.2.2 (x.2.1,(x.2.2.1,())))with|none=>none|some y=>(let r:=y.1.1;let r1:=y.1.2.1;bif (!r1)then(some (.inr (.inr (((),((),(false,()))),y.2))))else(bif (inb t2 4)then(some (.inl (((),((),((nt,t),(t1,((i64.wrap (t2+1)),()))))),(y.2.1,(y.2.2.1,(x.2.2.2.1,(x.2.2.2.2.1,((x.2.2.2.2.2.1.1,(x.2.2.2.2.2.1.2.1,((),((),(upd x.2.2.2.2.2.1.2.2.2.2 (Int.toNat t2) r))))),()))))))))else(none))))))))))else(none))else(some (.inr (.inl (((),((),())),x.2))))
abbrev oU:Type:=((Z0s×SS)⊕(Z0s×Z0j))
abbrev mH(x1:Bool)(o:SS):oU:=(.inl (((),(x1,())),o))
abbrev mI(x1:Bool)(o:Z0j):oU:=(.inr (((),(x1,())),o))
def jF(x1:ByteArray)(x2:(Int×Int))(x3:ByteArray)(nx:Nat)(x4:Nat->(SlV NI))(nx1:Nat)(x5:Nat->NI)(x6:Int)(nx2:Nat)(x7:Nat->VO)(nx3:Nat)(x8:Nat->VO)(nx4:Nat)(x9:Nat->TO)(o:SS):Option (((Z0s×SS)⊕(Z0s×Z0j))):=match(aS x2 x3 nx x4 nx1 x5 x6 o)with|none=>none|some y=>(let r:=y.1.1;let r1:=y.1.2.1;match(jy nx2 x7 y.2)with|none=>none|some y1=>(let r2:=y1.1.2.1;match(jy nx3 x8 (y1.2.1,(y1.2.2.1,())))with|none=>none|some y2=>(let r3:=y2.1.2.1;bif (!r1)then(some (.inl (((),(false,())),(y2.2.1,(y2.2.2.1,())))))else(bif (!r2)then(some (.inl (((),(false,())),(y2.2.1,(y2.2.2.1,())))))else(bif (!r3)then(some (.inl (((),(false,())),(y2.2.1,(y2.2.2.1,())))))else(bif (x6 !=0)then(some (.inl (((),(false,())),(y2.2.1,(y2.2.2.1,())))))else(let t:=(((nx4:Nat):Int) !=y2.2.1.2.2.2.2.1);bif t then(some (.inl (((),(false,())),(y2.2.1,(y2.2.2.1,())))))else(match(au bA (((),((),((nx4,x9),(((nx4:Nat):Int),(0,()))))),(y2.2.1,(y2.2.2.1,(y1.2.2.2.1,(y2.2.2.2.1,((r.1,(x1,((),((),zCS)))),())))))))with|none=>none|some y3=>(match y3 with| .inl y4=>(some (.inr (((),(true,())),(y4.2.1,(y4.2.2.1,(y4.2.2.2.1,(y4.2.2.2.2.1,((y4.2.2.2.2.2.1.1,(y4.2.2.2.2.2.1.2.1,((),((),y4.2.2.2.2.2.1.2.2.2.2)))),()))))))))| .inr y4=>(some (.inl (((),(y4.1.2.2.1,())),y4.2))))))))))))
def dQ:=veil jF
theorem nP:dQ=jF:=aj _
abbrev Fa:Type:=((Unit×(Unit×(Z0c×((Nat×(Nat->RE))×(Int×Z02)))))×(IM×Unit))
def Fb:Fa->Option (Fa⊕((Unit×(Unit×(Z0c×Unit)))×(IM×Unit))):=λx=>let nkeys:=x.1.2.2.1.1;let keys:=x.1.2.2.1.2;let nt:=x.1.2.2.2.1.1;let t:=x.1.2.2.2.1.2;let t1:=x.1.2.2.2.2.1;let t2:=x.1.2.2.2.2.2.1;let x1:=x.2.1.1;let x2:=x.2.1.2.1;let x3:=x.2.1.2.2.1;let nx:=x.2.1.2.2.2.1.1;let x4:=x.2.1.2.2.2.1.2;let nx1:=x.2.1.2.2.2.2.1;let x5:=x.2.1.2.2.2.2.2;bif (decide (t2<t1))then(bif (inb t2 nt)then(bif (SlV.isMs (t (Int.toNat t2)).2.1.2.2.1)then(none)else(bif (SlV.isMs (t (Int.toNat t2)).2.1.2.2.2.1)then(none)else(bif (SlV.isMs (t (Int.toNat t2)).2.2.1)then(none)else(bif (SlV.isMs (t (Int.toNat t2)).2.2.2.1)then(none)else(bif (SlV.isMs (t (Int.toNat t2)).2.2.2.2)then(none)else(bif ((Nat.ble ((nkeys+1)*16) 140737488355328)&&(Nat.ble (nkeys+1) 9223372036854775807))then(some (.inl (((),((),(((nkeys+1),(glue nkeys keys (λj=>(upd (λ_=>ByteArray.empty) 0 (t (Int.toNat t2)).1) (0+j)))),((nt,t),(t1,((i64.wrap (t2+1)),())))))),((x1,(x2,(x3,((nx,x4),(nx1,x5))))),()))))else(none)))))))else(none))else(some (.inr (((),((),((nkeys,keys),()))),((x1,(x2,(x3,((nx,x4),(nx1,x5))))),()))))
abbrev rV(nkeys:Nat)(keys:Nat->ByteArray)(nt:Nat)(t:Nat->RE)(t1:Int)(t2:Int)(x1:Int)(x2:Int)(x3:Int)(nx:Nat)(x4:NI)(nx1:Nat)(x5:Nat->RE)(o:Int)(o1:Int)(no:Nat)(o2:Nat->ByteArray)(o3:List (Int×Int))(s:GR)(s1:Int)(s2:Int)(s3:Int)(s4:Int)(s5:BG)(ns:Nat)(s6:Nat->OU):=(((),((),((nkeys,keys),((nt,t),(t1,(t2,())))))),((x1,(x2,(x3,((nx,x4),(nx1,x5))))),((o,(o1,((no,o2),o3))),((s,(s1,(s2,(s3,(s4,((),(s5,(ns,s6)))))))),()))))
abbrev xq(nkeys:Nat)(keys:Nat->ByteArray)(x1:Int)(x2:Int)(x3:Int)(nx:Nat)(x4:NI)(nx1:Nat)(x5:Nat->RE)(o:Int)(o1:Int)(no:Nat)(o2:Nat->ByteArray)(o3:List (Int×Int))(s:GR)(s1:Int)(s2:Int)(s3:Int)(s4:Int)(s5:BG)(ns:Nat)(s6:Nat->OU):=(((),((),((nkeys,keys),()))),((x1,(x2,(x3,((nx,x4),(nx1,x5))))),((o,(o1,((no,o2),o3))),((s,(s1,(s2,(s3,(s4,((),(s5,(ns,s6)))))))),()))))
abbrev zW:Type:=((Unit×(Unit×(Z0c×((Nat×(Nat->RE))×(Int×Z02)))))×(IM×(SP×(SN×Unit))))
def gQ:zW->Option (zW⊕((Unit×(Unit×(Z0c×Unit)))×(IM×(SP×(SN×Unit))))):=λx=>let nkeys:=x.1.2.2.1.1;let keys:=x.1.2.2.1.2;let nt:=x.1.2.2.2.1.1;let t:=x.1.2.2.2.1.2;let t1:=x.1.2.2.2.2.1;let t2:=x.1.2.2.2.2.2.1;let x1:=x.2.1.1;let x2:=x.2.1.2.1;let x3:=x.2.1.2.2.1;let nx:=x.2.1.2.2.2.1.1;let x4:=x.2.1.2.2.2.1.2;let nx1:=x.2.1.2.2.2.2.1;let x5:=x.2.1.2.2.2.2.2;let o:=x.2.2.1.1;let o1:=x.2.2.1.2.1;let no:=x.2.2.1.2.2.1.1;let o2:=x.2.2.1.2.2.1.2;let o3:=x.2.2.1.2.2.2;let s:=x.2.2.2.1.1;let s1:=x.2.2.2.1.2.1;let s2:=x.2.2.2.1.2.2.1;let s3:=x.2.2.2.1.2.2.2.1;let s4:=x.2.2.2.1.2.2.2.2.1;let s5:=x.2.2.2.1.2.2.2.2.2.2.1;let ns:=x.2.2.2.1.2.2.2.2.2.2.2.1;let s6:=x.2.2.2.1.2.2.2.2.2.2.2.2;bif (decide (t2<t1))then(bif (inb t2 nt)then(bif (SlV.isMs (t (Int.toNat t2)).2.1.2.2.1)then(none)else(bif (SlV.isMs (t (Int.toNat t2)).2.1.2.2.2.1)then(none)else(bif (SlV.isMs (t (Int.toNat t2)).2.2.1)then(none)else(bif (SlV.isMs (t (Int.toNat t2)).2.2.2.1)then(none)else(bif (SlV.isMs (t (Int.toNat t2)).2.2.2.2)then(none)else(bif ((Nat.ble ((nkeys+1)*16) 140737488355328)&&(Nat.ble (nkeys+1) 9223372036854775807))then(some (.inl (((),((),(((nkeys+1),(glue nkeys keys (λj=>(upd (λ_=>ByteArray.empty) 0 (t (Int.toNat t2)).1) (0+j)))),((nt,t),(t1,((i64.wrap (t2+1)),())))))),((x1,(x2,(x3,((nx,x4),(nx1,x5))))),((o,(o1,((no,o2),o3))),((s,(s1,(s2,(s3,(s4,((),(s5,(ns,s6)))))))),()))))))else(none)))))))else(none))else(some (.inr (((),((),((nkeys,keys),()))),((x1,(x2,(x3,((nx,x4),(nx1,x5))))),((o,(o1,((no,o2),o3))),((s,(s1,(s2,(s3,(s4,((),(s5,(ns,s6)))))))),()))))))
abbrev Fe:Type:=((Unit×((Nat×(Nat->RE))×(Int×Z02)))×(SN×Unit))
def Fg:Fe->Option (Fe⊕(Z07×(SN×Unit))):=λx=>let nt:=x.1.2.1.1;let t:=x.1.2.1.2;let t1:=x.1.2.2.1;let t2:=x.1.2.2.2.1;let s:=x.2.1.1;let s1:=x.2.1.2.1;let s2:=x.2.1.2.2.1;let s3:=x.2.1.2.2.2.1;let s4:=x.2.1.2.2.2.2.1;let s5:=x.2.1.2.2.2.2.2.2.1;let ns:=x.2.1.2.2.2.2.2.2.2.1;let s6:=x.2.1.2.2.2.2.2.2.2.2;bif (decide (t2<t1))then(bif (inb t2 nt)then(bif (SlV.isMs (t (Int.toNat t2)).2.1.2.2.1)then(none)else(bif (SlV.isMs (t (Int.toNat t2)).2.1.2.2.2.1)then(none)else(bif (SlV.isMs (t (Int.toNat t2)).2.2.1)then(none)else(bif (SlV.isMs (t (Int.toNat t2)).2.2.2.1)then(none)else(bif (SlV.isMs (t (Int.toNat t2)).2.2.2.2)then(none)else(none))))))else(none))else(some (.inr (((),()),((s,(s1,(s2,(s3,(s4,((),(s5,(ns,s6)))))))),()))))
abbrev gT(nt:Nat)(t:Nat->RE)(t1:Int)(t2:Int)(s:GR)(s1:Int)(s2:Int)(s3:Int)(s4:Int)(s5:BG)(ns:Nat)(s6:Nat->OU)(t3:Int)(t4:Int)(nt1:Nat)(t5:Nat->ByteArray)(t6:List (Int×Int)):=(((),((nt,t),(t1,(t2,())))),((s,(s1,(s2,(s3,(s4,((),(s5,(ns,s6)))))))),((t3,(t4,((nt1,t5),t6))),())))
abbrev rW:Type:=(Z0w⊕(Z07×SS))
abbrev HV(t:Int):rW:=(.inl (((),(t,())),()))
abbrev HY(s:GR)(s1:Int)(s2:Int)(s3:Int)(s4:Int)(s5:BG)(ns:Nat)(s6:Nat->OU)(t:Int)(t1:Int)(nt:Nat)(t2:Nat->ByteArray)(t3:List (Int×Int)):rW:=(.inr (((),()),((s,(s1,(s2,(s3,(s4,((),(s5,(ns,s6)))))))),((t,(t1,((nt,t2),t3))),()))))
abbrev zX:Type:=((Unit×((Nat×(Nat->RE))×(Int×Z02)))×SS)
def dA:zX->Option (zX⊕rW):=λx=>let nt:=x.1.2.1.1;let t:=x.1.2.1.2;let t1:=x.1.2.2.1;let t2:=x.1.2.2.2.1;let s:=x.2.1.1;let s1:=x.2.1.2.1;let s2:=x.2.1.2.2.1;let s3:=x.2.1.2.2.2.1;let s4:=x.2.1.2.2.2.2.1;let s5:=x.2.1.2.2.2.2.2.2.1;let ns:=x.2.1.2.2.2.2.2.2.2.1;let s6:=x.2.1.2.2.2.2.2.2.2.2;let t3:=x.2.2.1.1;let t4:=x.2.2.1.2.1;let nt1:=x.2.2.1.2.2.1.1;let t5:=x.2.2.1.2.2.1.2;let t6:=x.2.2.1.2.2.2;bif (decide (t2<t1))then(bif (inb t2 nt)then(bif (SlV.isMs (t (Int.toNat t2)).2.1.2.2.1)then(none)else(bif (SlV.isMs (t (Int.toNat t2)).2.1.2.2.2.1)then(none)else(bif (SlV.isMs (t (Int.toNat t2)).2.2.1)then(none)else(bif (SlV.isMs (t (Int.toNat t2)).2.2.2.1)then(none)else(bif (SlV.isMs (t (Int.toNat t2)).2.2.2.2)then(none)else(match(dQ (t (Int.toNat t2)).1 (t (Int.toNat t2)).2.1.1 (t (Int.toNat t2)).2.1.2.1 (SlV.len (t (Int.toNat t2)).2.1.2.2.1) (SlV.fn (.nil:(SlV NI)) (t (Int.toNat t2)).2.1.2.2.1) (SlV.len (t (Int.toNat t2)).2.1.2.2.2.1) (SlV.fn ((λ_=>0):NI) (t (Int.toNat t2)).2.1.2.2.2.1) (t (Int.toNat t2)).2.1.2.2.2.2 (SlV.len (t (Int.toNat t2)).2.2.1) (SlV.fn (zV:VO) (t (Int.toNat t2)).2.2.1) (SlV.len (t (Int.toNat t2)).2.2.2.1) (SlV.fn (zV:VO) (t (Int.toNat t2)).2.2.2.1) (SlV.len (t (Int.toNat t2)).2.2.2.2) (SlV.fn (zT:TO) (t (Int.toNat t2)).2.2.2.2) ((s,(s1,(s2,(s3,(s4,((),(s5,(ns,s6)))))))),((t3,(t4,((nt1,t5),t6))),())))with|none=>none|some y=>(match y with| .inl y1=>(let r:=y1.1.2.1;bif (!r)then(some (.inr (.inl (((),(1,())),()))))else(none))| .inr y1=>(let r1:=y1.1.2.1;bif (!r1)then(some (.inr (.inl (((),(1,())),()))))else(some (.inl (((),((nt,t),(t1,((i64.wrap (t2+1)),())))),((y1.2.1.1,(y1.2.1.2.1,(y1.2.1.2.2.1,(y1.2.1.2.2.2.1,(y1.2.1.2.2.2.2.1,((),((List.modify (R9 .str tRC y1.2.1.2.2.2.2.2.2.1 (t (Int.toNat t2)).1) (bidx .str y1.2.1.2.2.2.2.2.2.1 (t (Int.toNat t2)).1) λe=>(e.1,((y1.2.2.2.2.2.1.1,(y1.2.2.2.2.2.1.2.1,(.nil,(.nil,y1.2.2.2.2.2.1.2.2.2.2)))),(y1.2.2.2.1,(y1.2.2.2.2.1,()))))),(y1.2.1.2.2.2.2.2.2.2.1,y1.2.1.2.2.2.2.2.2.2.2)))))))),((y1.2.2.1.1,(y1.2.2.1.2.1,((y1.2.2.1.2.2.1.1,y1.2.2.1.2.2.1.2),y1.2.2.1.2.2.2))),())))))))))))))else(none))else(some (.inr (.inr (((),()),((s,(s1,(s2,(s3,(s4,((),(s5,(ns,s6)))))))),((t3,(t4,((nt1,t5),t6))),()))))))
abbrev Ky:Type:=(Z0w⊕(Z06×SS))
abbrev Fh(x1:Int):Ky:=(.inl (((),(x1,())),()))
abbrev xU(x1:Int)(s:GR)(s1:Int)(s2:Int)(s3:Int)(s4:Int)(s5:BG)(ns:Nat)(s6:Nat->OU)(t:Int)(t1:Int)(nt:Nat)(t2:Nat->ByteArray)(t3:List (Int×Int)):Ky:=(.inr (((),(x1,())),((s,(s1,(s2,(s3,(s4,((),(s5,(ns,s6)))))))),((t,(t1,((nt,t2),t3))),()))))
def Ei(g:GR)(x1:Int)(x2:Int)(x3:Int)(nx:Nat)(x4:NI)(nx1:Nat)(x5:Nat->RE):Option ((Z0w⊕(Z06×SS))):=match(uh (some g) x1 x2 x3)with|none=>none|some y=>(match y with| .inl y1=>(let r:=y1.1.2.1;bif (r !=0)then(some (.inl (((),(r,())),())))else(match(au Fb (((),((),((0,(λ_=>ByteArray.empty)),((nx1,x5),(((nx1:Nat):Int),(0,())))))),((x1,(x2,(x3,((nx,x4),(nx1,x5))))),())))with|none=>none|some y2=>(let nkeys:=y2.1.2.2.1.1;let keys:=y2.1.2.2.1.2;let x6:=y2.2.1.1;let x7:=y2.2.1.2.1;let x8:=y2.2.1.2.2.1;let nx2:=y2.2.1.2.2.2.1.1;let x9:=y2.2.1.2.2.2.1.2;let nx3:=y2.2.1.2.2.2.2.1;let x10:=y2.2.1.2.2.2.2.2;none)))| .inr y1=>(let r1:=y1.1.2.1;let o:=y1.2.1.1;let o1:=y1.2.1.2.1;let no:=y1.2.1.2.2.1.1;let o2:=y1.2.1.2.2.1.2;let o3:=y1.2.1.2.2.2;let o4:=y1.2.2.1.1;let o5:=y1.2.2.1.2.1;let o6:=y1.2.2.1.2.2.1;let o7:=y1.2.2.1.2.2.2.1;let o8:=y1.2.2.1.2.2.2.2.1;let o9:=y1.2.2.1.2.2.2.2.2.2.1;let no1:=y1.2.2.1.2.2.2.2.2.2.2.1;let o10:=y1.2.2.1.2.2.2.2.2.2.2.2;bif (r1 !=0)then(some (.inl (((),(r1,())),())))else(match(au gQ (((),((),((0,(λ_=>ByteArray.empty)),((nx1,x5),(((nx1:Nat):Int),(0,())))))),((x1,(x2,(x3,((nx,x4),(nx1,x5))))),((o,(o1,((no,o2),o3))),((o4,(o5,(o6,(o7,(o8,((),(o9,(no1,o10)))))))),())))))with|none=>none|some y3=>(let nkeys1:=y3.1.2.2.1.1;let keys1:=y3.1.2.2.1.2;let x11:=y3.2.1.1;let x12:=y3.2.1.2.1;let x13:=y3.2.1.2.2.1;let nx4:=y3.2.1.2.2.2.1.1;let x14:=y3.2.1.2.2.2.1.2;let nx5:=y3.2.1.2.2.2.2.1;let x15:=y3.2.1.2.2.2.2.2;let o11:=y3.2.2.1.1;let o12:=y3.2.2.1.2.1;let no2:=y3.2.2.1.2.2.1.1;let o13:=y3.2.2.1.2.2.1.2;let o14:=y3.2.2.1.2.2.2;let s:=y3.2.2.2.1.1;let s1:=y3.2.2.2.1.2.1;let s2:=y3.2.2.2.1.2.2.1;let s3:=y3.2.2.2.1.2.2.2.1;let s4:=y3.2.2.2.1.2.2.2.2.1;let s5:=y3.2.2.2.1.2.2.2.2.2.2.1;let ns:=y3.2.2.2.1.2.2.2.2.2.2.2.1;let s6:=y3.2.2.2.1.2.2.2.2.2.2.2.2;match(zU s3 s4 nkeys1 (λj=>keys1 (0+j)) nx4 x14)with|none=>none|some y4=>(match y4 with| .inl y5=>(let r2:=y5.1.2.1;bif (r2 !=0)then(some (.inl (((),(1,())),())))else(match(au Fg (((),((nx5,x15),(((nx5:Nat):Int),(0,())))),((s,(s1,(s2,(s3,(s4,((),(s5,(ns,s6)))))))),())))with|none=>none|some y6=>(let s7:=y6.2.1.1;let s8:=y6.2.1.2.1;let s9:=y6.2.1.2.2.1;let s10:=y6.2.1.2.2.2.1;let s11:=y6.2.1.2.2.2.2.1;let s12:=y6.2.1.2.2.2.2.2.2.1;let ns1:=y6.2.1.2.2.2.2.2.2.2.1;let s13:=y6.2.1.2.2.2.2.2.2.2.2;none)))| .inr y5=>(let r3:=y5.1.2.1;let o15:=y5.2.1.1;let o16:=y5.2.1.2.1;let no3:=y5.2.1.2.2.1.1;let o17:=y5.2.1.2.2.1.2;let o18:=y5.2.1.2.2.2;bif (r3 !=0)then(some (.inl (((),(1,())),())))else(match(au dA (((),((nx5,x15),(((nx5:Nat):Int),(0,())))),((s,(s1,(s2,(s3,(s4,((),(s5,(ns,s6)))))))),((o15,(o16,((no3,o17),o18))),()))))with|none=>none|some y7=>(match y7 with| .inl y8=>(let t:=y8.1.2.1;some (.inl (((),(t,())),())))| .inr y8=>(let s14:=y8.2.1.1;let s15:=y8.2.1.2.1;let s16:=y8.2.1.2.2.1;let s17:=y8.2.1.2.2.2.1;let s18:=y8.2.1.2.2.2.2.1;let s19:=y8.2.1.2.2.2.2.2.2.1;let ns2:=y8.2.1.2.2.2.2.2.2.2.1;let s20:=y8.2.1.2.2.2.2.2.2.2.2;let t1:=y8.2.2.1.1;let t2:=y8.2.2.1.2.1;let nt:=y8.2.2.1.2.2.1.1;let t3:=y8.2.2.1.2.2.1.2;let t4:=y8.2.2.1.2.2.2;some (.inr (((),(0,())),((s14,(s15,(s16,(s17,(s18,((),(s19,(ns2,s20)))))))),((t1,(t2,((nt,t3),t4))),())))))))))))))
def oV:=veil Ei
theorem HZ:oV=Ei:=aj _
def Kz(v:VA)(op:Int):Option (GA):=some (v.1,(v.2.1,((v.2.2.1.1,v.2.2.1.2),((v.2.2.2.1,v.2.2.2.2),op))))
def iY:=veil Kz
theorem xV:iY=Kz:=aj _
abbrev cZ(server:Int)(client:Int)(t:Int)(t1:Int)(t2:Int)(t3:Int)(o:Z01):=(((),(server,(client,(t,(t1,(t2,(t3,()))))))),o)
abbrev iy(server:Int)(t:Int)(t1:Int)(t2:Int)(o:Z01):=(((),(server,(t,(t1,(t2,()))))),o)
abbrev nQ:Type:=((Unit×Z0z)×Z01)
def bf:nQ->Option (nQ⊕((Unit×Z0e)×Z01)):=λx=>let server:=x.1.2.1;let client:=x.1.2.2.1;let t:=x.1.2.2.2.1;let t1:=x.1.2.2.2.2.1;let t2:=x.1.2.2.2.2.2.1;let t3:=x.1.2.2.2.2.2.2.1;bif (decide (t3<2))then(match(jw (some x.2.2.2.1) (i64.wrap (server+1)) (i64.wrap (client+1)) t3)with|none=>none|some r=>(bif (decide (r.1.1>0))then(bif ((Nat.ble ((x.2.2.2.2.2.2.2.1.1+1)*40) 140737488355328)&&(Nat.ble (x.2.2.2.2.2.2.2.1.1+1) 9223372036854775807))then(some (.inl (((),(server,(client,(t,(t1,(t2,((i64.wrap (t3+1)),()))))))),(x.2.1,(x.2.2.1,(x.2.2.2.1,(x.2.2.2.2.1,(x.2.2.2.2.2.1,((),(((x.2.2.2.2.2.2.2.1.1+1),(glue x.2.2.2.2.2.2.2.1.1 x.2.2.2.2.2.2.2.1.2 (λj=>(upd (λ_=>zV) 0 ((i64.wrap (server+1)),(r.1,r.2))) (0+j)))),()))))))))))else(none))else(some (.inl (((),(server,(client,(t,(t1,(t2,((i64.wrap (t3+1)),()))))))),(x.2.1,(x.2.2.1,(x.2.2.2.1,(x.2.2.2.2.1,(x.2.2.2.2.2.1,x.2.2.2.2.2.2))))))))))else(some (.inr (((),(server,(t,(t1,(t2,()))))),x.2)))
abbrev eH(server:Int)(t:Int)(t1:Int)(t2:Int)(o:Z01):=(((),(server,(t,(t1,(t2,()))))),o)
abbrev iA(t:Int)(t1:Int)(o:Z01):=(((),(t,(t1,()))),o)
abbrev nR:Type:=((Unit×Z0e)×Z01)
def bn:nR->Option (nR⊕(Z0g×Z01)):=λx=>let server:=x.1.2.1;let t:=x.1.2.2.1;let t1:=x.1.2.2.2.1;let t2:=x.1.2.2.2.2.1;bif (decide (t2<4))then(match(au bf (((),(server,(t2,(t,(t1,(t2,(0,()))))))),x.2))with|none=>none|some y=>(let server1:=y.1.2.1;let t3:=y.1.2.2.1;let t4:=y.1.2.2.2.1;let t5:=y.1.2.2.2.2.1;some (.inl (((),(server1,(t3,(t4,((i64.wrap (t5+1)),()))))),y.2))))else(some (.inr (((),(t,(t1,()))),x.2)))
abbrev eO(t:Int)(t1:Int)(o:Z01):=(((),(t,(t1,()))),o)
abbrev iB(o:Z01):=((),o)
abbrev nS:Type:=(Z0g×Z01)
def bq:nS->Option (nS⊕(Unit×Z01)):=λx=>let t:=x.1.2.1;let t1:=x.1.2.2.1;bif (decide (t1<t))then(match(au bn (((),(t1,(t,(t1,(0,()))))),x.2))with|none=>none|some y=>(let t2:=y.1.2.1;let t3:=y.1.2.2.1;some (.inl (((),(t2,((i64.wrap (t3+1)),()))),y.2))))else(some (.inr ((),x.2)))
def jC(o:SR):Option (((Z0q×Unit)×SR)):=match(au bq (((),(o.1.2.2.2.1,(0,()))),(o.1,(o.2.1,(o.2.2.1,(o.2.2.2.1,(o.2.2.2.2.1,((),((0,(λ_=>zV)),())))))))))with|none=>none|some y=>(some (((y.2.2.2.2.2.2.2.1.1,(λj=>y.2.2.2.2.2.2.2.1.2 (0+j))),()),(y.2.1,(y.2.2.1,(y.2.2.2.1,(y.2.2.2.2.1,(y.2.2.2.2.2.1,())))))))
def xu:=veil jC
theorem sI:xu=jC:=aj _
def nD(o:SR):Option (((Z0q×Unit)×SR)):=OP (xu o) λy=>y.2.2.1=o.2.1
def iC:=veil nD
theorem l8:iC=nD:=aj _
abbrev cu(server:Int)(client:Int)(t:Int)(t1:Int)(t2:Int)(t3:Int)(o:Z01):=(((),(server,(client,(t,(t1,(t2,(t3,()))))))),o)
abbrev gU(server:Int)(t:Int)(t1:Int)(t2:Int)(o:Z01):=(((),(server,(t,(t1,(t2,()))))),o)
abbrev mJ:Type:=((Unit×Z0z)×Z01)
def aU:mJ->Option (mJ⊕((Unit×Z0e)×Z01)):=λx=>let server:=x.1.2.1;let client:=x.1.2.2.1;let t:=x.1.2.2.2.1;let t1:=x.1.2.2.2.2.1;let t2:=x.1.2.2.2.2.2.1;let t3:=x.1.2.2.2.2.2.2.1;bif (decide (t3<2))then(match(jw (some x.2.2.2.2.1) (i64.wrap (server+1)) (i64.wrap (client+1)) t3)with|none=>none|some r=>(bif (decide (r.1.1>0))then(bif ((Nat.ble ((x.2.2.2.2.2.2.2.1.1+1)*40) 140737488355328)&&(Nat.ble (x.2.2.2.2.2.2.2.1.1+1) 9223372036854775807))then(some (.inl (((),(server,(client,(t,(t1,(t2,((i64.wrap (t3+1)),()))))))),(x.2.1,(x.2.2.1,(x.2.2.2.1,(x.2.2.2.2.1,(x.2.2.2.2.2.1,((),(((x.2.2.2.2.2.2.2.1.1+1),(glue x.2.2.2.2.2.2.2.1.1 x.2.2.2.2.2.2.2.1.2 (λj=>(upd (λ_=>zV) 0 ((i64.wrap (server+1)),(r.1,r.2))) (0+j)))),()))))))))))else(none))else(some (.inl (((),(server,(client,(t,(t1,(t2,((i64.wrap (t3+1)),()))))))),(x.2.1,(x.2.2.1,(x.2.2.2.1,(x.2.2.2.2.1,(x.2.2.2.2.2.1,x.2.2.2.2.2.2))))))))))else(some (.inr (((),(server,(t,(t1,(t2,()))))),x.2)))
abbrev dW(server:Int)(t:Int)(t1:Int)(t2:Int)(o:Z01):=(((),(server,(t,(t1,(t2,()))))),o)
abbrev gV(t:Int)(t1:Int)(o:Z01):=(((),(t,(t1,()))),o)
abbrev mK:Type:=((Unit×Z0e)×Z01)
def aV:mK->Option (mK⊕(Z0g×Z01)):=λx=>let server:=x.1.2.1;let t:=x.1.2.2.1;let t1:=x.1.2.2.2.1;let t2:=x.1.2.2.2.2.1;bif (decide (t2<4))then(match(au aU (((),(server,(t2,(t,(t1,(t2,(0,()))))))),x.2))with|none=>none|some y=>(let server1:=y.1.2.1;let t3:=y.1.2.2.1;let t4:=y.1.2.2.2.1;let t5:=y.1.2.2.2.2.1;some (.inl (((),(server1,(t3,(t4,((i64.wrap (t5+1)),()))))),y.2))))else(some (.inr (((),(t,(t1,()))),x.2)))
abbrev dX(t:Int)(t1:Int)(o:Z01):=(((),(t,(t1,()))),o)
abbrev gW(o:Z01):=((),o)
abbrev mM:Type:=(Z0g×Z01)
def aW:mM->Option (mM⊕(Unit×Z01)):=λx=>let t:=x.1.2.1;let t1:=x.1.2.2.1;bif (decide (t1<t))then(match(au aV (((),(t1,(t,(t1,(0,()))))),x.2))with|none=>none|some y=>(let t2:=y.1.2.1;let t3:=y.1.2.2.1;some (.inl (((),(t2,((i64.wrap (t3+1)),()))),y.2))))else(some (.inr ((),x.2)))
def iZ(o:SR):Option (((Z0q×Unit)×SR)):=match(au aW (((),(o.1.2.2.2.1,(0,()))),(o.1,(o.2.1,(o.2.2.1,(o.2.2.2.1,(o.2.2.2.2.1,((),((0,(λ_=>zV)),())))))))))with|none=>none|some y=>(some (((y.2.2.2.2.2.2.2.1.1,(λj=>y.2.2.2.2.2.2.2.1.2 (0+j))),()),(y.2.1,(y.2.2.1,(y.2.2.2.1,(y.2.2.2.2.1,(y.2.2.2.2.2.1,())))))))
def uO:=veil iZ
theorem qO:uO=iZ:=aj _
def lZ(o:SR):Option (((Z0q×Unit)×SR)):=OP (uO o) λy=>y.2.2.1=o.2.1
def fV:=veil lZ
theorem kG:fV=lZ:=aj _
abbrev fT(t:Int)(t1:Int)(o:Z0f):=(((),((),((),(t,(t1,()))))),o)
abbrev j4(o:Z0f):=(((),((),((),()))),o)
abbrev qo:Type:=((Unit×(Unit×Z0g))×Z0f)
def bJ:qo->Option (qo⊕((Unit×Z0h)×Z0f)):=λx=>let t:=x.1.2.2.2.1;let t1:=x.1.2.2.2.2.1;bif (decide (t1<t))then(match(lX (i64.wrap (t1+1)) x.2.2.1.1 x.2.2.1.2.1 x.2.2.1.2.2.1.1 x.2.2.1.2.2.1.2 x.2.2.1.2.2.2)with|none=>none|some y=>(let r:=y.1.1;let o:=y.2.1.1;let o1:=y.2.1.2.1;let no:=y.2.1.2.2.1.1;let o2:=y.2.1.2.2.1.2;let o3:=y.2.1.2.2.2;bif ((Nat.ble ((x.2.2.2.2.1.2.2.2.1.1+1)*8) 140737488355328)&&(Nat.ble (x.2.2.2.2.1.2.2.2.1.1+1) 9223372036854775807))then(some (.inl (((),((),((),(t,((i64.wrap (t1+1)),()))))),(x.2.1,((o,(o1,((no,o2),o3))),((x.2.2.2.1.1,(x.2.2.2.1.2.1,(x.2.2.2.1.2.2.1,((),())))),((x.2.2.2.2.1.1,(x.2.2.2.2.1.2.1,(x.2.2.2.2.1.2.2.1,(((x.2.2.2.2.1.2.2.2.1.1+1),(glue x.2.2.2.2.1.2.2.2.1.1 x.2.2.2.2.1.2.2.2.1.2 (λj=>(upd (λ_=>0) 0 r) (0+j)))),())))),())))))))else(none)))else(some (.inr (((),((),((),()))),(x.2.1,(x.2.2.1,((x.2.2.2.1.1,(x.2.2.2.1.2.1,(x.2.2.2.1.2.2.1,((),())))),x.2.2.2.2))))))
abbrev dY(t:Int)(t1:Int)(o:(SO×(SP×(IM×(IM×(RC×(VT×(VT×(RA×Unit))))))))):=(((),((),(t,(t1,())))),o)
abbrev gX(o:(SO×(SP×(IM×(IM×(RC×(VT×(VT×(RA×Unit))))))))):=((),o)
abbrev mO:Type:=((Unit×Z0g)×(SO×(SP×(IM×(IM×(RC×(VT×(VT×(RA×Unit)))))))))
def bB:mO->Option (mO⊕(Unit×(SO×(SP×(IM×(IM×(RC×(VT×(VT×(RA×Unit)))))))))):=λx=>let t:=x.1.2.2.1;let t1:=x.1.2.2.2.1;bif (decide (t1<t))then(bif (inb t1 4)then(match(iY (((x.2.2.2.2.2.1.2.2.2.2 (Int.toNat t1)).1 0).1.1,(((x.2.2.2.2.2.1.2.2.2.2 (Int.toNat t1)).1 0).1.2.1,(((x.2.2.2.2.2.1.2.2.2.2 (Int.toNat t1)).1 0).1.2.2.1,((x.2.2.2.2.2.1.2.2.2.2 (Int.toNat t1)).1 0).1.2.2.2))) ((x.2.2.2.2.2.1.2.2.2.2 (Int.toNat t1)).1 0).2)with|none=>none|some r=>(match(iY (((x.2.2.2.2.2.1.2.2.2.2 (Int.toNat t1)).1 1).1.1,(((x.2.2.2.2.2.1.2.2.2.2 (Int.toNat t1)).1 1).1.2.1,(((x.2.2.2.2.2.1.2.2.2.2 (Int.toNat t1)).1 1).1.2.2.1,((x.2.2.2.2.2.1.2.2.2.2 (Int.toNat t1)).1 1).1.2.2.2))) ((x.2.2.2.2.2.1.2.2.2.2 (Int.toNat t1)).1 1).2)with|none=>none|some r1=>(match(iY ((x.2.2.2.2.2.1.2.2.2.2 (Int.toNat t1)).2.1.1.1,((x.2.2.2.2.2.1.2.2.2.2 (Int.toNat t1)).2.1.1.2.1,((x.2.2.2.2.2.1.2.2.2.2 (Int.toNat t1)).2.1.1.2.2.1,(x.2.2.2.2.2.1.2.2.2.2 (Int.toNat t1)).2.1.1.2.2.2))) (x.2.2.2.2.2.1.2.2.2.2 (Int.toNat t1)).2.1.2)with|none=>none|some r2=>(bif ((Nat.ble ((x.2.2.2.2.2.2.2.2.1.2.2.2.2.1+1)*280) 140737488355328)&&(Nat.ble (x.2.2.2.2.2.2.2.2.1.2.2.2.2.1+1) 9223372036854775807))then(some (.inl (((),((),(t,((i64.wrap (t1+1)),())))),(x.2.1,(x.2.2.1,(x.2.2.2.1,(x.2.2.2.2.1,(x.2.2.2.2.2.1,(x.2.2.2.2.2.2.1,(x.2.2.2.2.2.2.2.1,((x.2.2.2.2.2.2.2.2.1.1,(x.2.2.2.2.2.2.2.2.1.2.1,(x.2.2.2.2.2.2.2.2.1.2.2.1,(x.2.2.2.2.2.2.2.2.1.2.2.2.1,((x.2.2.2.2.2.2.2.2.1.2.2.2.2.1+1),(glue x.2.2.2.2.2.2.2.2.1.2.2.2.2.1 x.2.2.2.2.2.2.2.2.1.2.2.2.2.2 (λj=>(upd (λ_=>zT) 0 ((r.1,(r.2.1,((.fz r.2.2.1.1 r.2.2.1.2),((.fz r.2.2.2.1.1 r.2.2.2.1.2),r.2.2.2.2)))),((r1.1,(r1.2.1,((.fz r1.2.2.1.1 r1.2.2.1.2),((.fz r1.2.2.2.1.1 r1.2.2.2.1.2),r1.2.2.2.2)))),((r2.1,(r2.2.1,((.fz r2.2.2.1.1 r2.2.2.1.2),((.fz r2.2.2.2.1.1 r2.2.2.2.1.2),r2.2.2.2.2)))),((x.2.2.2.2.2.1.2.2.2.2 (Int.toNat t1)).2.2.1,(x.2.2.2.2.2.1.2.2.2.2 (Int.toNat t1)).2.2.2))))) (0+j)))))))),())))))))))))else(none)))))else(none))else(some (.inr ((),x.2)))
abbrev dL(nt:Nat)(t:Nat->ByteArray)(t1:Int)(t2:Int)(o:(SN×(SP×(IM×(IM×Unit))))):=(((),((),((),((nt,t),(t1,(t2,())))))),o)
abbrev j5(o:(SN×(SP×(IM×(IM×Unit))))):=(((),((),((),()))),o)
abbrev qp:Type:=((Unit×(Unit×(Unit×(Z0c×(Int×Z02)))))×(SN×(SP×(IM×(IM×Unit)))))
def bK:qp->Option (qp⊕((Unit×Z0h)×(SN×(SP×(IM×(IM×Unit)))))):=λx=>let nt:=x.1.2.2.2.1.1;let t:=x.1.2.2.2.1.2;let t1:=x.1.2.2.2.2.1;let t2:=x.1.2.2.2.2.2.1;bif (decide (t2<t1))then(bif (inb t2 nt)then(match(x.2.1.2.2.2.2.2.2.1[(bidx .str x.2.1.2.2.2.2.2.2.1 (t (Int.toNat t2)))]?)with|none=>(match(pX x.2.1.2.2.2.1)with|none=>none|some y=>(let r:=y.1.2.1;let o:=y.2.1;match(pX x.2.1.2.2.2.1)with|none=>none|some y1=>(let r1:=y1.1.2.1;let o1:=y1.2.1;match(iY zVA 0)with|none=>none|some r2=>(match(iC ((x.2.1.1,(x.2.1.2.1,(x.2.1.2.2.1,(x.2.1.2.2.2.1,(x.2.1.2.2.2.2.1,((),(((R9 .str tRC x.2.1.2.2.2.2.2.2.1 (t (Int.toNat t2))),(bidx .str x.2.1.2.2.2.2.2.2.1 (t (Int.toNat t2)))),x.2.1.2.2.2.2.2.2.2))))))),((zVA,((t (Int.toNat t2)),((),((),zCS)))),(o,(o1,(x.2.2.1,()))))))with|none=>none|some y2=>(let nr:=y2.1.1.1;let r3:=y2.1.1.2;match(fV (y2.2.1,((zVA,((t (Int.toNat t2)),((),((),zCS)))),y2.2.2.2)))with|none=>none|some y3=>(let nr1:=y3.1.1.1;let r4:=y3.1.1.2;none))))))|some q=>(match(iY (q.2.1.1.1,(q.2.1.1.2.1,(q.2.1.1.2.2.1,q.2.1.1.2.2.2))) 0)with|none=>none|some r5=>(match(iC ((x.2.1.1,(x.2.1.2.1,(x.2.1.2.2.1,(x.2.1.2.2.2.1,(x.2.1.2.2.2.2.1,((),((x.2.1.2.2.2.2.2.2.1,(bidx .str x.2.1.2.2.2.2.2.2.1 (t (Int.toNat t2)))),x.2.1.2.2.2.2.2.2.2))))))),((q.2.1.1,(q.2.1.2.1,((),((),q.2.1.2.2.2.2)))),(q.2.2.1,(q.2.2.2.1,(x.2.2.1,()))))))with|none=>none|some y4=>(let nr2:=y4.1.1.1;let r6:=y4.1.1.2;match(fV (y4.2.1,((q.2.1.1,(q.2.1.2.1,((),((),q.2.1.2.2.2.2)))),y4.2.2.2)))with|none=>none|some y5=>(let nr3:=y5.1.1.1;let r7:=y5.1.1.2;match(au bB (((),((),(y5.2.1.2.2.2.2.1,(0,())))),(y5.2.1,(y5.2.2.2.2.2.1,(x.2.2.2.1,(x.2.2.2.2.1,((q.2.1.1,(q.2.1.2.1,((),((),q.2.1.2.2.2.2)))),(y5.2.2.2.1,(y5.2.2.2.2.1,(((t (Int.toNat t2)),((r5.1,(r5.2.1,((r5.2.2.1.1,r5.2.2.1.2),((r5.2.2.2.1.1,r5.2.2.2.1.2),r5.2.2.2.2)))),((nr2,r6),((nr3,r7),(0,(λ_=>zT)))))),()))))))))))with|none=>none|some y6=>(bif ((Nat.ble ((y6.2.2.2.2.1.2.2.2.2.1+1)*176) 140737488355328)&&(Nat.ble (y6.2.2.2.2.1.2.2.2.2.1+1) 9223372036854775807))then(some (.inl (((),((),((),((nt,t),(t1,((i64.wrap (t2+1)),())))))),((y6.2.1.1,(y6.2.1.2.1,(y6.2.1.2.2.1,(y6.2.1.2.2.2.1,(y6.2.1.2.2.2.2.1,((),((List.modify y6.2.1.2.2.2.2.2.2.1.1 y6.2.1.2.2.2.2.2.2.1.2 λe=>(e.1,((y6.2.2.2.2.2.1.1,(y6.2.2.2.2.2.1.2.1,(.nil,(.nil,y6.2.2.2.2.2.1.2.2.2.2)))),(y6.2.2.2.2.2.2.1,(y6.2.2.2.2.2.2.2.1,()))))),y6.2.1.2.2.2.2.2.2.2))))))),(y6.2.2.1,(y6.2.2.2.1,((y6.2.2.2.2.1.1,(y6.2.2.2.2.1.2.1,(y6.2.2.2.2.1.2.2.1,(y6.2.2.2.2.1.2.2.2.1,((y6.2.2.2.2.1.2.2.2.2.1+1),(glue y6.2.2.2.2.1.2.2.2.2.1 y6.2.2.2.2.1.2.2.2.2.2 (λj=>(upd (λ_=>zR) 0 (y6.2.2.2.2.2.2.2.2.1.1,((y6.2.2.2.2.2.2.2.2.1.2.1.1,(y6.2.2.2.2.2.2.2.2.1.2.1.2.1,((.fz y6.2.2.2.2.2.2.2.2.1.2.1.2.2.1.1 y6.2.2.2.2.2.2.2.2.1.2.1.2.2.1.2),((.fz y6.2.2.2.2.2.2.2.2.1.2.1.2.2.2.1.1 y6.2.2.2.2.2.2.2.2.1.2.1.2.2.2.1.2),y6.2.2.2.2.2.2.2.2.1.2.1.2.2.2.2)))),((.fz y6.2.2.2.2.2.2.2.2.1.2.2.1.1 y6.2.2.2.2.2.2.2.2.1.2.2.1.2),((.fz y6.2.2.2.2.2.2.2.2.1.2.2.2.1.1 y6.2.2.2.2.2.2.2.2.1.2.2.2.1.2),(.fz y6.2.2.2.2.2.2.2.2.1.2.2.2.2.1 (λj=>y6.2.2.2.2.2.2.2.2.1.2.2.2.2.2 (0+j)))))))) (0+j)))))))),())))))))else(none)))))))else(none))else(some (.inr (((),((),((),()))),x.2)))
def mg(o:SS):Option (((IM×Unit)×SS)):=match(au bJ (((),((),((),((i64.wrap (o.1.2.2.2.1+o.1.2.2.2.2.1)),(0,()))))),(o.1,(o.2.1,((0,(0,(0,((),())))),((o.1.2.1,(o.1.2.2.1,(o.1.2.2.2.2.1,((0,(λ_=>0)),())))),()))))))with|none=>none|some y=>(match(lY y.2.2.1.1 y.2.2.1.2.1 y.2.2.1.2.2.1.1 y.2.2.1.2.2.1.2 y.2.2.1.2.2.2)with|none=>none|some y1=>(let nr:=y1.1.1.1;let r:=y1.1.1.2;let o1:=y1.2.1.1;let o2:=y1.2.1.2.1;let no:=y1.2.1.2.2.1.1;let o3:=y1.2.1.2.2.1.2;let o4:=y1.2.1.2.2.2;match(au bK (((),((),((),((nr,r),(((nr:Nat):Int),(0,())))))),(y.2.1,((o1,(o2,((no,o3),o4))),((y.2.2.2.1.1,(y.2.2.2.1.2.1,(y.2.2.2.1.2.2.1,((0,(λ_=>0)),(0,(λ_=>zR)))))),((y.2.2.2.2.1.1,(y.2.2.2.2.1.2.1,(y.2.2.2.2.1.2.2.1,(y.2.2.2.2.1.2.2.2.1,(0,(λ_=>zR)))))),()))))))with|none=>none|some y2=>(some (y2.2.2.2.2,(y2.2.1,(y2.2.2.1,()))))))
def bQ:=veil mg
theorem qP:bQ=mg:=aj _
def oW(s:Z0A):Option (IM):=match s with|none=>(some zI)|some s0=>(bif (Option.isSome s0.2.2.2.2.2.2.1)then(none)else(some zI))
def iO:=veil oW
theorem Ej:iO=oW:=aj _
open Go.IntKind (i64 u64 u32 u8)
open Go.IntKind (i64 u64 u32 u8)
open Go.IntKind (i64 u64 u32 u8)
open Go.IntKind (i64 u64 u32 u8)
open Go.IntKind (i64 u64 u32 u8)
open Go.IntKind (i64 u64 u32 u8)
open Go.IntKind (i64 u64 u32 u8)
end
end Go.Pl
