/-
  The functions of a package, plainly.
-/
import Derived.Test.YtidodcilgldjoaaGreatDenI
set_option linter.unusedVariables false
set_option linter.unusedSimpArgs false
set_option maxRecDepth 100000
set_option maxHeartbeats 0
namespace Go.Pl
end Go.Pl
open Go Go.Den Go.Pl
namespace Go.Pl
open Go.IntKind (i64 u64 u32 u8)
abbrev p8(s:ByteArray)(nb:Nat)(b:Nat→Int):=((s,((nb,b),())),())
abbrev vH(s:ByteArray)(nb:Nat)(b:Nat→Int):=((s,((nb,b),())),())
abbrev G9:Type:=((ByteArray×((Nat×NI)×Unit))×Unit)
noncomputable def iL:G9→Option (G9⊕((ByteArray×((Nat×NI)×Unit))×Unit)):=fun x=>
 let s:=x.1.1
 let nb:=x.1.2.1.1
 let b:=x.1.2.1.2
 bif ((Int.tmod ((nb:Nat):Int) 64) !=56)then(
 bif ((Nat.ble ((nb+1)*1) 140737488355328)&&(Nat.ble (nb+1) 9223372036854775807))then(
 some (.inl ((s,(((nb+1),(glue nb b (fun j=>(upd (fun _=>0) 0 0) (0+j)))),())),())))
 else(
 none))
 else(
 some (.inr ((s,((nb,b),())),())))
abbrev p9(s:ByteArray)(nb:Nat)(b:Nat→Int)(k:Int):=((s,((nb,b),(k,()))),())
abbrev vI(nb:Nat)(b:Nat→Int):=(((nb,b),()),())
abbrev Ga:Type:=((ByteArray×((Nat×NI)×(Int×Unit)))×Unit)
noncomputable def iM:Ga→Option (Ga⊕(((Nat×NI)×Unit)×Unit)):=fun x=>
 let s:=x.1.1
 let nb:=x.1.2.1.1
 let b:=x.1.2.1.2
 let k:=x.1.2.2.1
 bif (decide (k≥0))then(
 bif (decide ((i64.wrap (8*k))<0))then(
 none)
 else(
 let t:=(aA .and .i64 (bX .i64 (i64.wrap (8*(((ByteArray.size s):Nat):Int))) (i64.wrap (8*k))) 255)
 bif ((Nat.ble ((nb+1)*1) 140737488355328)&&(Nat.ble (nb+1) 9223372036854775807))then(
 some (.inl ((s,(((nb+1),(glue nb b (fun j=>(upd (fun _=>0) 0 (u8.wrap t)) (0+j)))),((i64.wrap (k-1)),()))),())))
 else(
 none)))
 else(
 some (.inr (((nb,b),()),())))
noncomputable def Bc(s:ByteArray):Option ((Nat×NI)):=
 bif (Nat.ble (ByteArray.size s) 9223372036854775807)then(
 bif ((Nat.ble (((ByteArray.size s)+1)*1) 140737488355328)&&(Nat.ble ((ByteArray.size s)+1) 9223372036854775807))then(
 match(aj iL ((s,((((ByteArray.size s)+1),(glue (ByteArray.size s) (fun i=>(((s).data.toList.getD i 0).toNat:Int)) (fun j=>(upd (fun _=>0) 0 128) (0+j)))),())),()))with
 |none=>none
 |some y=>(
 let s1:=y.1.1
 let nb:=y.1.2.1.1
 let b:=y.1.2.1.2
 match(aj iM ((s1,((nb,b),(7,()))),()))with
 |none=>none
 |some y1=>(
 let nb1:=y1.1.1.1
 let b1:=y1.1.1.2
 some (nb1,(fun j=>b1 (0+j))))))
 else(
 none))
 else(
 none)
noncomputable def DZ:=veil Bc
theorem J6:DZ=Bc:=ak _
noncomputable def JV:Option (NI):=
 some (upd (upd (upd (upd (upd (upd (upd (upd (fun _=>0) 0 1779033703) 1 3144134277) 2 1013904242) 3 2773480762) 4 1359893119) 5 2600822924) 6 528734635) 7 1541459225)
noncomputable def Hz:=veil JV
theorem Lf:Hz=JV:=ak _
noncomputable def HV(x:Int)(n:Int):Option (Int):=
 bif (decide (n<0))then(
 none)
 else(
 bif (decide ((i64.wrap (32-n))<0))then(
 none)
 else(
 let t:=(aA .and .i64 (aA .or .i64 (bX .i64 x n) (iK .i64 x (i64.wrap (32-n)))) 4294967295)
 some t))
noncomputable def kJ:=veil HV
theorem Oe:kJ=HV:=ak _
abbrev gY(nb:Nat)(b:Nat→Int)(t:Int)(t1:NI)(w:NI):=(((nb,b),((),((),(t,())))),(t1,(w,())))
abbrev rM(t:NI)(w:NI):=(((),((),())),(t,(w,())))
abbrev CP:Type:=(((Nat×NI)×(Unit×(Unit×(Int×Unit))))×(NI×(NI×Unit)))
noncomputable def eO:CP→Option (CP⊕((Unit×(Unit×Unit))×(NI×(NI×Unit)))):=fun x=>
 let nb:=x.1.1.1
 let b:=x.1.1.2
 let t:=x.1.2.2.2.1
 let t1:=x.2.1
 let w:=x.2.2.1
 bif (decide (t<16))then(
 bif (inb (i64.wrap (4*t)) nb)then(
 bif (inb (i64.wrap ((i64.wrap (4*t))+1)) nb)then(
 let t2:=(aA .or .i64 (iK .i64 (i64.wrap (b (Int.toNat (i64.wrap (4*t))))) 24) (iK .i64 (i64.wrap (b (Int.toNat (i64.wrap ((i64.wrap (4*t))+1))))) 16))
 bif (inb (i64.wrap ((i64.wrap (4*t))+2)) nb)then(
 let t3:=(aA .or .i64 t2 (iK .i64 (i64.wrap (b (Int.toNat (i64.wrap ((i64.wrap (4*t))+2))))) 8))
 bif (inb (i64.wrap ((i64.wrap (4*t))+3)) nb)then(
 let t4:=(aA .or .i64 t3 (i64.wrap (b (Int.toNat (i64.wrap ((i64.wrap (4*t))+3))))))
 bif (inb t 64)then(
 some (.inl (((nb,b),((),((),((i64.wrap (t+1)),())))),(t1,((upd w (Int.toNat t) t4),())))))
 else(
 none))
 else(
 none))
 else(
 none))
 else(
 none))
 else(
 none))
 else(
 some (.inr (((),((),())),(t1,(w,())))))
abbrev gZ(t:Int)(t1:NI)(w:NI):=(((),((),(t,()))),(t1,(w,())))
abbrev rO(t:NI)(w:NI):=(((),((),())),(t,(w,())))
abbrev CQ:Type:=((Unit×(Unit×(Int×Unit)))×(NI×(NI×Unit)))
noncomputable def eP:CQ→Option (CQ⊕((Unit×(Unit×Unit))×(NI×(NI×Unit)))):=fun x=>
 let t:=x.1.2.2.1
 let t1:=x.2.1
 let w:=x.2.2.1
 bif (decide (t<64))then(
 bif (inb (i64.wrap (t-15)) 64)then(
 bif (inb (i64.wrap (t-2)) 64)then(
 match(kJ (w (Int.toNat (i64.wrap (t-15)))) 7)with
 |none=>none
 |some r=>(
 match(kJ (w (Int.toNat (i64.wrap (t-15)))) 18)with
 |none=>none
 |some r1=>(
 let t2:=(aA .xor .i64 (aA .xor .i64 r r1) (bX .i64 (w (Int.toNat (i64.wrap (t-15)))) 3))
 match(kJ (w (Int.toNat (i64.wrap (t-2)))) 17)with
 |none=>none
 |some r2=>(
 match(kJ (w (Int.toNat (i64.wrap (t-2)))) 19)with
 |none=>none
 |some r3=>(
 let t3:=(aA .xor .i64 (aA .xor .i64 r2 r3) (bX .i64 (w (Int.toNat (i64.wrap (t-2)))) 10))
 bif (inb (i64.wrap (t-7)) 64)then(
 bif (inb (i64.wrap (t-16)) 64)then(
 let t4:=(i64.wrap ((i64.wrap ((i64.wrap (t3+(w (Int.toNat (i64.wrap (t-7))))))+t2))+(w (Int.toNat (i64.wrap (t-16))))))
 bif (inb t 64)then(
 some (.inl (((),((),((i64.wrap (t+1)),()))),(t1,((upd w (Int.toNat t) (aA .and .i64 t4 4294967295)),())))))
 else(
 none))
 else(
 none))
 else(
 none))))))
 else(
 none))
 else(
 none))
 else(
 some (.inr (((),((),())),(t1,(w,())))))
noncomputable def vX(nb:Nat)(b:Nat→Int):Option (NI):=
 match(aj eO (((nb,b),((),((),(0,())))),((fun _=>0),((fun _=>0),()))))with
 |none=>none
 |some y=>(
 let t:=y.2.1
 let w:=y.2.2.1
 match(aj eP (((),((),(16,()))),(t,(w,()))))with
 |none=>none
 |some y1=>(
 let t1:=y1.2.1
 let w1:=y1.2.2.1
 some w1))
noncomputable def yS:=veil vX
theorem EO:yS=vX:=ak _
noncomputable def zN:Option (NI):=
 some (upd (upd (upd (upd (upd (upd (upd (upd (upd (upd (upd (upd (upd (upd (upd (upd (upd (upd (upd (upd (upd (upd (upd (upd (upd (upd (upd (upd (upd (upd (upd (upd (upd (upd (upd (upd (upd (upd (upd (upd (upd (upd (upd (upd (upd (upd (upd (upd (upd (upd (upd (upd (upd (upd (upd (upd (upd (upd (upd (upd (upd (upd (upd (upd (fun _=>0) 0 1116352408) 1 1899447441) 2 3049323471) 3 3921009573) 4 961987163) 5 1508970993) 6 2453635748) 7 2870763221) 8 3624381080) 9 310598401) 10 607225278) 11 1426881987) 12 1925078388) 13 2162078206) 14 2614888103) 15 3248222580) 16 3835390401) 17 4022224774) 18 264347078) 19 604807628) 20 770255983) 21 1249150122) 22 1555081692) 23 1996064986) 24 2554220882) 25 2821834349) 26 2952996808) 27 3210313671) 28 3336571891) 29 3584528711) 30 113926993) 31 338241895) 32 666307205) 33 773529912) 34 1294757372) 35 1396182291) 36 1695183700) 37 1986661051) 38 2177026350) 39 2456956037) 40 2730485921) 41 2820302411) 42 3259730800) 43 3345764771) 44 3516065817) 45 3600352804) 46 4094571909) 47 275423344) 48 430227734) 49 506948616) 50 659060556) 51 883997877) 52 958139571) 53 1322822218) 54 1537002063) 55 1747873779) 56 1955562222) 57 2024104815) 58 2227730452) 59 2361852424) 60 2428436474) 61 2756734187) 62 3204031479) 63 3329325298)
noncomputable def vY:=veil zN
theorem CR:vY=zN:=ak _
abbrev kY(t:Int)(v:NI)(t1:NI)(w:NI)(k:NI)(x1:NI):=(((),((),((),((),((),(t,())))))),(v,(t1,(w,(k,(x1,()))))))
abbrev xL(v:NI)(t:NI)(x1:NI):=(((),((),((),()))),(v,(t,(x1,()))))
abbrev J7:Type:=((Unit×(Unit×(Unit×(Unit×(Unit×(Int×Unit))))))×(NI×(NI×(NI×(NI×(NI×Unit))))))
noncomputable def iE:J7→Option (J7⊕((Unit×(Unit×(Unit×Unit)))×(NI×(NI×(NI×Unit))))):=fun x=>
 let t:=x.1.2.2.2.2.2.1
 let v:=x.2.1
 let t1:=x.2.2.1
 let w:=x.2.2.2.1
 let k:=x.2.2.2.2.1
 let x1:=x.2.2.2.2.2.1
 bif (decide (t<64))then(
 match(kJ (x1 4) 6)with
 |none=>none
 |some r=>(
 match(kJ (x1 4) 11)with
 |none=>none
 |some r1=>(
 match(kJ (x1 4) 25)with
 |none=>none
 |some r2=>(
 let t2:=(aA .xor .i64 (aA .and .i64 (x1 4) (x1 5)) (aA .and .i64 (aA .xor .i64 4294967295 (x1 4)) (x1 6)))
 let t3:=(i64.wrap ((i64.wrap ((x1 7)+(aA .xor .i64 (aA .xor .i64 r r1) r2)))+t2))
 bif (inb t 64)then(
 bif (inb t 64)then(
 match(kJ (x1 0) 2)with
 |none=>none
 |some r3=>(
 match(kJ (x1 0) 13)with
 |none=>none
 |some r4=>(
 match(kJ (x1 0) 22)with
 |none=>none
 |some r5=>(
 let t4:=(aA .xor .i64 (aA .and .i64 (x1 0) (x1 1)) (aA .and .i64 (x1 0) (x1 2)))
 let t5:=(i64.wrap ((i64.wrap ((i64.wrap (t3+(k (Int.toNat t))))+(w (Int.toNat t))))+(aA .xor .i64 (aA .xor .i64 r3 r4) r5)))
 let t6:=(i64.wrap (t5+(aA .xor .i64 t4 (aA .and .i64 (x1 1) (x1 2)))))
 let t7:=(i64.wrap ((x1 3)+(i64.wrap ((i64.wrap (t3+(k (Int.toNat t))))+(w (Int.toNat t))))))
 some (.inl (((),((),((),((),((),((i64.wrap (t+1)),())))))),(v,(t1,(w,(k,((upd (upd (upd (upd (upd (upd (upd (upd (fun _=>0) 0 (aA .and .i64 t6 4294967295)) 1 (x1 0)) 2 (x1 1)) 3 (x1 2)) 4 (aA .and .i64 t7 4294967295)) 5 (x1 4)) 6 (x1 5)) 7 (x1 6)),())))))))))))
 else(
 none))
 else(
 none)))))
 else(
 some (.inr (((),((),((),()))),(v,(t1,(x1,()))))))
abbrev qF(i:Int)(v:NI)(t:NI)(x1:NI)(out:NI):=(((),((),((),((),(i,()))))),(v,(t,(x1,(out,())))))
abbrev xM(t:NI)(out:NI):=(((),((),())),(t,(out,())))
abbrev J8:Type:=((Unit×(Unit×(Unit×(Unit×(Int×Unit)))))×(NI×(NI×(NI×(NI×Unit)))))
noncomputable def jq:J8→Option (J8⊕((Unit×(Unit×Unit))×(NI×(NI×Unit)))):=fun x=>
 let i:=x.1.2.2.2.2.1
 let v:=x.2.1
 let t:=x.2.2.1
 let x1:=x.2.2.2.1
 let out:=x.2.2.2.2.1
 bif (decide (i<8))then(
 bif (inb i 8)then(
 bif (inb i 8)then(
 bif (inb i 8)then(
 some (.inl (((),((),((),((),((i64.wrap (i+1)),()))))),(v,(t,(x1,((upd out (Int.toNat i) (aA .and .i64 (i64.wrap ((v (Int.toNat i))+(x1 (Int.toNat i)))) 4294967295)),())))))))
 else(
 none))
 else(
 none))
 else(
 none))
 else(
 some (.inr (((),((),())),(t,(out,())))))
noncomputable def E5(v:NI)(nb:Nat)(b:Nat→Int):Option (NI):=
 match(yS nb b)with
 |none=>none
 |some r=>(
 match vY with
 |none=>none
 |some r1=>(
 match(aj iE (((),((),((),((),((),(0,())))))),(v,((fun _=>0),(r,(r1,(v,())))))))with
 |none=>none
 |some y=>(
 let v1:=y.2.1
 let t:=y.2.2.1
 let x:=y.2.2.2.1
 match(aj jq (((),((),((),((),(0,()))))),(v1,(t,(x,((fun _=>0),()))))))with
 |none=>none
 |some y1=>(
 let t1:=y1.2.1
 let out:=y1.2.2.1
 some out))))
noncomputable def HY:=veil E5
theorem Lg:HY=E5:=ak _
abbrev Gb(nb:Nat)(b:Nat→Int)(at_:Int)(v:NI):=(((nb,b),((),(at_,()))),(v,()))
abbrev J9(v:NI):=(((),()),(v,()))
abbrev Og:Type:=(((Nat×NI)×(Unit×(Int×Unit)))×(NI×Unit))
noncomputable def mE:Og→Option (Og⊕((Unit×Unit)×(NI×Unit))):=fun x=>
 let nb:=x.1.1.1
 let b:=x.1.1.2
 let at_:=x.1.2.2.1
 let v:=x.2.1
 bif (decide (at_<((nb:Nat):Int)))then(
 bif ((decide (0≤(i64.wrap (at_+64))))&&(decide ((i64.wrap (at_+64))≤((nb:Nat):Int))))then(
 bif ((decide (0≤at_))&&(decide (at_≤(((Int.toNat (i64.wrap (at_+64))):Nat):Int))))then(
 match(HY v ((Int.toNat (i64.wrap (at_+64)))-(Int.toNat at_)) (fun j=>b ((Int.toNat at_)+j)))with
 |none=>none
 |some r=>(
 some (.inl (((nb,b),((),((i64.wrap (at_+64)),()))),(r,())))))
 else(
 none))
 else(
 none))
 else(
 some (.inr (((),()),(v,()))))
abbrev Gc(nout:Nat)(out:Nat→Int)(i:Int)(v:NI):=(((),((nout,out),(i,()))),(v,()))
abbrev Ja(nout:Nat)(out:Nat→Int):=(((nout,out),()),())
abbrev Oh:Type:=((Unit×((Nat×NI)×(Int×Unit)))×(NI×Unit))
noncomputable def mF:Oh→Option (Oh⊕(((Nat×NI)×Unit)×Unit)):=fun x=>
 let nout:=x.1.2.1.1
 let out:=x.1.2.1.2
 let i:=x.1.2.2.1
 let v:=x.2.1
 bif (decide (i<8))then(
 bif (inb i 8)then(
 bif ((Nat.ble ((nout+1)*1) 140737488355328)&&(Nat.ble (nout+1) 9223372036854775807))then(
 bif (inb i 8)then(
 bif ((Nat.ble (((nout+1)+1)*1) 140737488355328)&&(Nat.ble ((nout+1)+1) 9223372036854775807))then(
 bif (inb i 8)then(
 bif ((Nat.ble ((((nout+1)+1)+1)*1) 140737488355328)&&(Nat.ble (((nout+1)+1)+1) 9223372036854775807))then(
 bif (inb i 8)then(
 bif ((Nat.ble (((((nout+1)+1)+1)+1)*1) 140737488355328)&&(Nat.ble ((((nout+1)+1)+1)+1) 9223372036854775807))then(
 some (.inl (((),((((((nout+1)+1)+1)+1),(glue (((nout+1)+1)+1) (glue ((nout+1)+1) (glue (nout+1) (glue nout out (fun j=>(upd (fun _=>0) 0 (u8.wrap (aA .and .i64 (bX .i64 (v (Int.toNat i)) 24) 255))) (0+j))) (fun j=>(upd (fun _=>0) 0 (u8.wrap (aA .and .i64 (bX .i64 (v (Int.toNat i)) 16) 255))) (0+j))) (fun j=>(upd (fun _=>0) 0 (u8.wrap (aA .and .i64 (bX .i64 (v (Int.toNat i)) 8) 255))) (0+j))) (fun j=>(upd (fun _=>0) 0 (u8.wrap (aA .and .i64 (bX .i64 (v (Int.toNat i)) 0) 255))) (0+j)))),((i64.wrap (i+1)),()))),(v,()))))
 else(
 none))
 else(
 none))
 else(
 none))
 else(
 none))
 else(
 none))
 else(
 none))
 else(
 none))
 else(
 none))
 else(
 some (.inr (((nout,out),()),())))
noncomputable def Lh(s:ByteArray):Option (ByteArray):=
 match(DZ s)with
 |none=>none
 |some r=>(
 match Hz with
 |none=>none
 |some r1=>(
 match(aj mE (((r.1,r.2),((),(0,()))),(r1,())))with
 |none=>none
 |some y=>(
 let v:=y.2.1
 match(aj mF (((),((0,(fun _=>0)),(0,()))),(v,())))with
 |none=>none
 |some y1=>(
 let nout:=y1.1.1.1
 let out:=y1.1.1.2
 some (bytesOf nout (fun j=>out (0+j)))))))
noncomputable def tY:=veil Lh
theorem R7:tY=Lh:=ak _
end Go.Pl
