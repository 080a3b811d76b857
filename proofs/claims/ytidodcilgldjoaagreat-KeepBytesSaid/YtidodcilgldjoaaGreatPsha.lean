/-
  The functions of a package, plainly.
-/
import Derived.Test.YtidodcilgldjoaaGreatDenI
import Derived.Test.YtidodcilgldjoaaGreatPlA
set_option linter.unusedVariables false
set_option linter.unusedSimpArgs false
set_option maxRecDepth 100000
set_option maxHeartbeats 0
namespace Go.Pl
end Go.Pl
open Go Go.Den Go.Pl
namespace Go.Pl
open Go.IntKind (i64 u64 u32 u8)
noncomputable def JU:Option (NI):=
 some (upd (upd (upd (upd (upd (upd (upd (upd (fun _=>0) 0 1779033703) 1 3144134277) 2 1013904242) 3 2773480762) 4 1359893119) 5 2600822924) 6 528734635) 7 1541459225)
noncomputable def Ct:=veil JU
theorem DN:Ct=JU:=ak _
noncomputable def DR:Option (((Unit×Unit)×((Bool×(NI×(NI×Int)))×Unit))):=
 match Ct with
 |none=>none
 |some r=>(
 some (((),()),((true,(r,((fun _=>0),0))),())))
noncomputable def MS:=veil DR
theorem L6:MS=DR:=ak _
noncomputable def zF:Option (NI):=
 some (upd (upd (upd (upd (upd (upd (upd (upd (upd (upd (upd (upd (upd (upd (upd (upd (upd (upd (upd (upd (upd (upd (upd (upd (upd (upd (upd (upd (upd (upd (upd (upd (upd (upd (upd (upd (upd (upd (upd (upd (upd (upd (upd (upd (upd (upd (upd (upd (upd (upd (upd (upd (upd (upd (upd (upd (upd (upd (upd (upd (upd (upd (upd (upd (fun _=>0) 0 1116352408) 1 1899447441) 2 3049323471) 3 3921009573) 4 961987163) 5 1508970993) 6 2453635748) 7 2870763221) 8 3624381080) 9 310598401) 10 607225278) 11 1426881987) 12 1925078388) 13 2162078206) 14 2614888103) 15 3248222580) 16 3835390401) 17 4022224774) 18 264347078) 19 604807628) 20 770255983) 21 1249150122) 22 1555081692) 23 1996064986) 24 2554220882) 25 2821834349) 26 2952996808) 27 3210313671) 28 3336571891) 29 3584528711) 30 113926993) 31 338241895) 32 666307205) 33 773529912) 34 1294757372) 35 1396182291) 36 1695183700) 37 1986661051) 38 2177026350) 39 2456956037) 40 2730485921) 41 2820302411) 42 3259730800) 43 3345764771) 44 3516065817) 45 3600352804) 46 4094571909) 47 275423344) 48 430227734) 49 506948616) 50 659060556) 51 883997877) 52 958139571) 53 1322822218) 54 1537002063) 55 1747873779) 56 1955562222) 57 2024104815) 58 2227730452) 59 2361852424) 60 2428436474) 61 2756734187) 62 3204031479) 63 3329325298)
noncomputable def qB:=veil zF
theorem vE:qB=zF:=ak _
noncomputable def AU(x:Int)(n:Int):Option (Int):=
 match(sW x (i64.wrap (0-n)))with
 |none=>none
 |some r=>(
 some r)
noncomputable def gB:=veil AU
theorem J3:gB=AU:=ak _
abbrev gV(t:Int)(b:NI)(t1:NI)(w:NI):=(((),((),((),(t,())))),(b,(t1,(w,()))))
abbrev rA(t:NI)(w:NI):=(((),((),())),(t,(w,())))
abbrev Cu:Type:=((Unit×(Unit×(Unit×(Int×Unit))))×(NI×(NI×(NI×Unit))))
noncomputable def eF:Cu→Option (Cu⊕((Unit×(Unit×Unit))×(NI×(NI×Unit)))):=fun x=>
 let t:=x.1.2.2.2.1
 let b:=x.2.1
 let t1:=x.2.2.1
 let w:=x.2.2.2.1
 bif (decide (t<16))then(
 bif (inb (i64.wrap (4*t)) 64)then(
 bif (inb (i64.wrap ((i64.wrap (4*t))+1)) 64)then(
 let t2:=(aA .or .u32 (iK .u32 (u32.wrap (b (Int.toNat (i64.wrap (4*t))))) 24) (iK .u32 (u32.wrap (b (Int.toNat (i64.wrap ((i64.wrap (4*t))+1))))) 16))
 bif (inb (i64.wrap ((i64.wrap (4*t))+2)) 64)then(
 let t3:=(aA .or .u32 t2 (iK .u32 (u32.wrap (b (Int.toNat (i64.wrap ((i64.wrap (4*t))+2))))) 8))
 bif (inb (i64.wrap ((i64.wrap (4*t))+3)) 64)then(
 let t4:=(aA .or .u32 t3 (u32.wrap (b (Int.toNat (i64.wrap ((i64.wrap (4*t))+3))))))
 bif (inb t 64)then(
 some (.inl (((),((),((),((i64.wrap (t+1)),())))),(b,(t1,((upd w (Int.toNat t) t4),()))))))
 else(
 none))
 else(
 none))
 else(
 none))
 else(
 none))
 else(
 none))
 else(
 some (.inr (((),((),())),(t1,(w,())))))
abbrev gW(k:Int)(t:NI)(w:NI):=(((),((),(k,()))),(t,(w,())))
abbrev rC(t:NI)(w:NI):=(((),((),())),(t,(w,())))
abbrev Cv:Type:=((Unit×(Unit×(Int×Unit)))×(NI×(NI×Unit)))
noncomputable def eG:Cv→Option (Cv⊕((Unit×(Unit×Unit))×(NI×(NI×Unit)))):=fun x=>
 let k:=x.1.2.2.1
 let t:=x.2.1
 let w:=x.2.2.1
 bif (decide (k<64))then(
 bif (inb (i64.wrap (k-15)) 64)then(
 bif (inb (i64.wrap (k-2)) 64)then(
 match(gB (w (Int.toNat (i64.wrap (k-15)))) 7)with
 |none=>none
 |some r=>(
 match(gB (w (Int.toNat (i64.wrap (k-15)))) 18)with
 |none=>none
 |some r1=>(
 let t1:=(aA .xor .u32 (aA .xor .u32 r r1) (bX .u32 (w (Int.toNat (i64.wrap (k-15)))) 3))
 match(gB (w (Int.toNat (i64.wrap (k-2)))) 17)with
 |none=>none
 |some r2=>(
 match(gB (w (Int.toNat (i64.wrap (k-2)))) 19)with
 |none=>none
 |some r3=>(
 let t2:=(aA .xor .u32 (aA .xor .u32 r2 r3) (bX .u32 (w (Int.toNat (i64.wrap (k-2)))) 10))
 bif (inb (i64.wrap (k-16)) 64)then(
 bif (inb (i64.wrap (k-7)) 64)then(
 let t3:=(u32.wrap ((u32.wrap ((w (Int.toNat (i64.wrap (k-16))))+t1))+(w (Int.toNat (i64.wrap (k-7))))))
 bif (inb k 64)then(
 some (.inl (((),((),((i64.wrap (k+1)),()))),(t,((upd w (Int.toNat k) (u32.wrap (t3+t2))),())))))
 else(
 none))
 else(
 none))
 else(
 none))))))
 else(
 none))
 else(
 none))
 else(
 some (.inr (((),((),())),(t,(w,())))))
noncomputable def vU(b:NI):Option (NI):=
 match(aj eF (((),((),((),(0,())))),(b,((fun _=>0),((fun _=>0),())))))with
 |none=>none
 |some y=>(
 let t:=y.2.1
 let w:=y.2.2.1
 match(aj eG (((),((),(16,()))),(t,(w,()))))with
 |none=>none
 |some y1=>(
 let t1:=y1.2.1
 let w1:=y1.2.2.1
 some w1))
noncomputable def yJ:=veil vU
theorem EJ:yJ=vU:=ak _
abbrev kW(t:Int)(v:NI)(t1:NI)(k:NI)(w:NI)(x1:NI):=(((),((),((),((),((),(t,())))))),(v,(t1,(k,(w,(x1,()))))))
abbrev xD(v:NI)(t:NI)(x1:NI):=(((),((),((),()))),(v,(t,(x1,()))))
abbrev J4:Type:=((Unit×(Unit×(Unit×(Unit×(Unit×(Int×Unit))))))×(NI×(NI×(NI×(NI×(NI×Unit))))))
noncomputable def iD:J4→Option (J4⊕((Unit×(Unit×(Unit×Unit)))×(NI×(NI×(NI×Unit))))):=fun x=>
 let t:=x.1.2.2.2.2.2.1
 let v:=x.2.1
 let t1:=x.2.2.1
 let k:=x.2.2.2.1
 let w:=x.2.2.2.2.1
 let x1:=x.2.2.2.2.2.1
 bif (decide (t<64))then(
 let t2:=(aA .and .u32 (x1 4) (aA .xor .u32 (x1 5) (x1 6)))
 let t3:=(aA .and .u32 (x1 2) (aA .or .u32 (x1 0) (x1 1)))
 match(gB (x1 4) 6)with
 |none=>none
 |some r=>(
 match(gB (x1 4) 11)with
 |none=>none
 |some r1=>(
 match(gB (x1 4) 25)with
 |none=>none
 |some r2=>(
 let t4:=(u32.wrap ((u32.wrap ((x1 7)+(aA .xor .u32 (aA .xor .u32 r r1) r2)))+(aA .xor .u32 (x1 6) t2)))
 bif (inb t 64)then(
 bif (inb t 64)then(
 match(gB (x1 0) 2)with
 |none=>none
 |some r3=>(
 match(gB (x1 0) 13)with
 |none=>none
 |some r4=>(
 match(gB (x1 0) 22)with
 |none=>none
 |some r5=>(
 let t5:=(u32.wrap ((aA .xor .u32 (aA .xor .u32 r3 r4) r5)+(aA .or .u32 (aA .and .u32 (x1 0) (x1 1)) t3)))
 let t6:=(u32.wrap ((x1 3)+(u32.wrap ((u32.wrap (t4+(k (Int.toNat t))))+(w (Int.toNat t))))))
 let t7:=(u32.wrap ((u32.wrap ((u32.wrap (t4+(k (Int.toNat t))))+(w (Int.toNat t))))+t5))
 some (.inl (((),((),((),((),((),((i64.wrap (t+1)),())))))),(v,(t1,(k,(w,((upd (upd (sM x1 1 7 (fun j=>x1 (0+j))) 4 t6) 0 t7),())))))))))))
 else(
 none))
 else(
 none)))))
 else(
 some (.inr (((),((),((),()))),(v,(t1,(x1,()))))))
abbrev qC(t:Int)(v:NI)(t1:NI)(x1:NI):=(((),((),((),(t,())))),(v,(t1,(x1,()))))
abbrev xE(t:NI)(x1:NI):=(((),((),())),(t,(x1,())))
abbrev J5:Type:=((Unit×(Unit×(Unit×(Int×Unit))))×(NI×(NI×(NI×Unit))))
noncomputable def jo:J5→Option (J5⊕((Unit×(Unit×Unit))×(NI×(NI×Unit)))):=fun x=>
 let t:=x.1.2.2.2.1
 let v:=x.2.1
 let t1:=x.2.2.1
 let x1:=x.2.2.2.1
 bif (decide (t<8))then(
 bif (inb t 8)then(
 bif (inb t 8)then(
 bif (inb t 8)then(
 some (.inl (((),((),((),((i64.wrap (t+1)),())))),(v,(t1,((upd x1 (Int.toNat t) (u32.wrap ((x1 (Int.toNat t))+(v (Int.toNat t))))),()))))))
 else(
 none))
 else(
 none))
 else(
 none))
 else(
 some (.inr (((),((),())),(t1,(x1,())))))
noncomputable def DT(v:NI)(b:NI):Option (NI):=
 match qB with
 |none=>none
 |some r=>(
 match(yJ b)with
 |none=>none
 |some r1=>(
 match(aj iD (((),((),((),((),((),(0,())))))),(v,((fun _=>0),(r,(r1,(v,())))))))with
 |none=>none
 |some y=>(
 let v1:=y.2.1
 let t:=y.2.2.1
 let x:=y.2.2.2.1
 match(aj jo (((),((),((),(0,())))),(v1,(t,(x,())))))with
 |none=>none
 |some y1=>(
 let t1:=y1.2.1
 let x1:=y1.2.2.1
 some x1))))
noncomputable def Cw:=veil DT
theorem L8:Cw=DT:=ak _
abbrev dV(s:ByteArray)(h:(Bool×(NI×(NI×Int)))):=(((),(s,())),(h,()))
abbrev wH(h:(Bool×(NI×(NI×Int)))):=(((),()),(h,()))
abbrev zH:Type:=((Unit×(ByteArray×Unit))×((Bool×(NI×(NI×Int)))×Unit))
noncomputable def cu:zH→Option (zH⊕((Unit×Unit)×((Bool×(NI×(NI×Int)))×Unit))):=fun x=>
 let s:=x.1.2.1
 let h:=x.2.1
 bif (!(sEq s (ByteArray.mk #[])))then(
 bif ((decide (0≤(Int.tmod h.2.2.2 64)))&&(decide ((Int.tmod h.2.2.2 64)≤64)))then(
 bif ((Nat.ble (64-(Int.toNat (Int.tmod h.2.2.2 64))) 0)||(Nat.ble (ByteArray.size s) 0))then(
 bif (decide (0≤(((ByteArray.size s):Nat):Int)))then(
 bif ((Int.tmod (i64.wrap (h.2.2.2+0)) 64)==0)then(
 match(Cw h.2.1 h.2.2.1)with
 |none=>none
 |some r=>(
 some (.inl (((),((ByteArray.extract s 0 (ByteArray.size s)),())),((h.1,(r,(h.2.2.1,(i64.wrap (h.2.2.2+0))))),())))))
 else(
 some (.inl (((),((ByteArray.extract s 0 (ByteArray.size s)),())),((h.1,(h.2.1,(h.2.2.1,(i64.wrap (h.2.2.2+0))))),())))))
 else(
 none))
 else(
 bif ((decide (0≤(((min (ByteArray.size s) (64-(Int.toNat (Int.tmod h.2.2.2 64)))):Nat):Int)))&&(decide ((((min (ByteArray.size s) (64-(Int.toNat (Int.tmod h.2.2.2 64)))):Nat):Int)≤(((ByteArray.size s):Nat):Int))))then(
 let t:=(ByteArray.extract s (Int.toNat (((min (ByteArray.size s) (64-(Int.toNat (Int.tmod h.2.2.2 64)))):Nat):Int)) (ByteArray.size s))
 let t1:=(i64.wrap (h.2.2.2+(((min (ByteArray.size s) (64-(Int.toNat (Int.tmod h.2.2.2 64)))):Nat):Int)))
 bif ((Int.tmod t1 64)==0)then(
 match(Cw h.2.1 (sM h.2.2.1 (Int.toNat (Int.tmod h.2.2.2 64)) (min (ByteArray.size s) (64-(Int.toNat (Int.tmod h.2.2.2 64)))) (fun i=>(((s).data.toList.getD i 0).toNat:Int))))with
 |none=>none
 |some r1=>(
 some (.inl (((),(t,())),((h.1,(r1,((sM h.2.2.1 (Int.toNat (Int.tmod h.2.2.2 64)) (min (ByteArray.size s) (64-(Int.toNat (Int.tmod h.2.2.2 64)))) (fun i=>(((s).data.toList.getD i 0).toNat:Int))),t1))),())))))
 else(
 some (.inl (((),(t,())),((h.1,(h.2.1,((sM h.2.2.1 (Int.toNat (Int.tmod h.2.2.2 64)) (min (ByteArray.size s) (64-(Int.toNat (Int.tmod h.2.2.2 64)))) (fun i=>(((s).data.toList.getD i 0).toNat:Int))),t1))),())))))
 else(
 none)))
 else(
 none))
 else(
 some (.inr (((),()),(h,()))))
abbrev rD(h:(Bool×(NI×(NI×Int)))):=((),(h,()))
noncomputable def qR(s:ByteArray)(h:(Bool×(NI×(NI×Int)))):Option ((Unit×((Bool×(NI×(NI×Int)))×Unit))):=
 bif (!h.1)then(
 some ((),(h,())))
 else(
 match(aj cu (((),(s,())),(h,())))with
 |none=>none
 |some y=>(
 let h1:=y.2.1
 some ((),(h1,()))))
noncomputable def jD:=veil qR
theorem AV:jD=qR:=ak _
abbrev lT(h:(Bool×(NI×(NI×Int))))(c:(Bool×(NI×(NI×Int)))):=((h,((),())),(c,()))
abbrev rE(h:(Bool×(NI×(NI×Int))))(c:(Bool×(NI×(NI×Int)))):=((h,((),())),(c,()))
abbrev Cy:Type:=(((Bool×(NI×(NI×Int)))×(Unit×Unit))×((Bool×(NI×(NI×Int)))×Unit))
noncomputable def fI:Cy→Option (Cy⊕(((Bool×(NI×(NI×Int)))×(Unit×Unit))×((Bool×(NI×(NI×Int)))×Unit))):=fun x=>
 let h:=x.1.1
 let c:=x.2.1
 bif ((Int.tmod c.2.2.2 64) !=56)then(
 match(jD (ByteArray.mk #[0]) c)with
 |none=>none
 |some y=>(
 let o:=y.2.1
 some (.inl ((h,((),())),(o,())))))
 else(
 some (.inr ((h,((),())),(c,()))))
abbrev lU(h:(Bool×(NI×(NI×Int))))(t:Int)(c:(Bool×(NI×(NI×Int))))(last:NI):=((h,((),((),(t,())))),(c,(last,())))
abbrev rF(c:(Bool×(NI×(NI×Int))))(last:NI):=(((),((),())),(c,(last,())))
abbrev Cz:Type:=(((Bool×(NI×(NI×Int)))×(Unit×(Unit×(Int×Unit))))×((Bool×(NI×(NI×Int)))×(NI×Unit)))
noncomputable def fJ:Cz→Option (Cz⊕((Unit×(Unit×Unit))×((Bool×(NI×(NI×Int)))×(NI×Unit)))):=fun x=>
 let h:=x.1.1
 let t:=x.1.2.2.2.1
 let c:=x.2.1
 let last:=x.2.2.1
 bif (decide (t<8))then(
 bif (decide ((i64.wrap (56-(i64.wrap (8*t))))<0))then(
 none)
 else(
 let t1:=(bX .i64 (i64.wrap (8*h.2.2.2)) (i64.wrap (56-(i64.wrap (8*t)))))
 bif (inb t 8)then(
 some (.inl ((h,((),((),((i64.wrap (t+1)),())))),(c,((upd last (Int.toNat t) (u8.wrap t1)),())))))
 else(
 none)))
 else(
 some (.inr (((),((),())),(c,(last,())))))
abbrev lV(nout:Nat)(out:Nat→Int)(t:NI)(t1:Int):=(((nout,out),(t,(t1,()))),())
abbrev rG(nout:Nat)(out:Nat→Int):=(((nout,out),()),())
abbrev CB:Type:=(((Nat×NI)×(NI×(Int×Unit)))×Unit)
noncomputable def fK:CB→Option (CB⊕(((Nat×NI)×Unit)×Unit)):=fun x=>
 let nout:=x.1.1.1
 let out:=x.1.1.2
 let t:=x.1.2.1
 let t1:=x.1.2.2.1
 bif (decide (t1<8))then(
 bif (inb t1 8)then(
 bif ((Nat.ble ((nout+4)*1) 140737488355328)&&(Nat.ble (nout+4) 9223372036854775807))then(
 some (.inl ((((nout+4),(glue nout out (fun j=>(upd (upd (upd (upd (fun _=>0) 0 (u8.wrap (bX .u32 (t (Int.toNat t1)) 24))) 1 (u8.wrap (bX .u32 (t (Int.toNat t1)) 16))) 2 (u8.wrap (bX .u32 (t (Int.toNat t1)) 8))) 3 (u8.wrap (t (Int.toNat t1)))) (0+j)))),(t,((i64.wrap (t1+1)),()))),())))
 else(
 none))
 else(
 none))
 else(
 some (.inr (((nout,out),()),())))
noncomputable def vV(h:(Option (Bool×(NI×(NI×Int))))):Option (ByteArray):=
 match h with
 |none=>(
 some (ByteArray.mk #[]))
 |some h0=>(
 bif (!h0.1)then(
 some (ByteArray.mk #[]))
 else(
 match(jD (ByteArray.mk #[128]) h0)with
 |none=>none
 |some y=>(
 let o:=y.2.1
 match(aj fI ((h0,((),())),(o,())))with
 |none=>none
 |some y1=>(
 let h1:=y1.1.1
 let c:=y1.2.1
 match(aj fJ ((h1,((),((),(0,())))),(c,((fun _=>0),()))))with
 |none=>none
 |some y2=>(
 let c1:=y2.2.1
 let last:=y2.2.2.1
 match(jD (bytesOf 8 (fun j=>last (0+j))) c1)with
 |none=>none
 |some y3=>(
 let o1:=y3.2.1
 match(aj fK (((0,(fun _=>0)),(o1.2.1,(0,()))),()))with
 |none=>none
 |some y4=>(
 let nout:=y4.1.1.1
 let out:=y4.1.1.2
 some (bytesOf nout (fun j=>out (0+j))))))))))
noncomputable def yK:=veil vV
theorem EK:yK=vV:=ak _
noncomputable def L9(s:ByteArray):Option (ByteArray):=
 match MS with
 |none=>none
 |some y=>(
 let o:=y.2.1
 match(jD s o)with
 |none=>none
 |some y1=>(
 let o1:=y1.2.1
 match(yK (some o1))with
 |none=>none
 |some r=>(
 some r)))
noncomputable def yL:=veil L9
theorem QW:yL=L9:=ak _
end Go.Pl
