/-
  The functions of more packages, plainly.
-/
import Derived.Test.YtldlihheppdhnaaGreatDenI
import Derived.Test.YtldlihheppdhnaaGreatPlA
import Derived.Test.YtldlihheppdhnaaGreatDenM
import Derived.Test.YtldlihheppdhnaaGreatDenL
set_option linter.unusedVariables false
set_option linter.unusedSimpArgs false
set_option maxRecDepth 100000
set_option maxHeartbeats 0
namespace Go.Pl
open Go.Den
abbrev Z01:Type:=Option ((aM GR)×(Int×(Int×(Int×(Int×((aM (Int×(Int×((SlV ByteArray)×(Option Nat)))))×((Option Nat)×(SlV OU))))))))
abbrev Z03:Type:=((Unit×(Unit×(Int×(Int×Unit))))×(SO×(RC×(VT×(VT×(SP×(Unit×(Unit×((Int×Int)×Unit)))))))))⊕(Unit×(SO×(RC×(VT×(VT×(SP×(Unit×(Unit×((Int×Int)×Unit)))))))))
abbrev Z0f:Type:=Int×(Int×(ByteArray×VA))
abbrev Z0g:Type:=ByteArray×(GI×((SlV VO)×((SlV VO)×(Nat→((Nat→GI)×(GI×(Int×Int)))))))
abbrev Z0h:Type:=SO×(SP×(Unit×(RC×(VT×(VT×Z05)))))
abbrev Z0n:Type:=(Unit×SR)
abbrev Z0p:Type:=Z0j×(Int×(Int×(Int×(Int×((Int×(Int×((SlV ByteArray)×(SlV Int))))×((SlV Z0g)×(SlV (Int×(Int×(Int×(ByteArray×((Int×Int)×(ByteArray×((SlV (SlV NI))×(SlV NI)))))))))))))))
abbrev Z0q:Type:=SO×(RC×(VT×(VT×(SP×(Unit×(Unit×((Int×Int)×Unit)))))))
abbrev Z0B:Type:=Z0j×(Int×(Int×(Int×(Int×((Int×(Int×((SlV ByteArray)×(SlV Int))))×((SlV Z0g)×(SlV OU)))))))
abbrev Z0C:Type:=Nat×(Nat→OU)
abbrev Z0F:Type:=SO×(RC×(VT×(VT×(SP×Z0k))))
abbrev Z0M:Type:=((Unit×Z0o)×Z0h)⊕(Unit×Z0h)
end Go.Pl
namespace Go.Pl
end Go.Pl
open Go Go.Den Go.Pl
namespace Go.Pl
noncomputable section
open Go.IntKind (i64 u64 u32 u8)
abbrev nI(s:ByteArray)(nb:Nat)(b:Nat→Int):=((s,((nb,b),())),())
abbrev uV(s:ByteArray)(nb:Nat)(b:Nat→Int):=((s,((nb,b),())),())
abbrev GH:Type:=((ByteArray×((Nat×NI)×Unit))×Unit)
def jZ:GH→Option (GH⊕((ByteArray×((Nat×NI)×Unit))×Unit)):=fun x=>
 let s:=x.1.1
 let nb:=x.1.2.1.1
 let b:=x.1.2.1.2
 bif ((Int.tmod ((nb:Nat):Int) 64) !=56)then(
 bif ((Nat.ble ((nb+1)*1) 140737488355328)&&(Nat.ble (nb+1) 9223372036854775807))then(
 some (.inl ((s,(((nb+1),(glue nb b (fun j=>(upd (fun _=>0) 0 0) (0+j)))),())),())))
 else(
 none))
 else(
 some (.inr ((s,((nb,b),())),())))
abbrev nJ(s:ByteArray)(nb:Nat)(b:Nat→Int)(k:Int):=((s,((nb,b),(k,()))),())
abbrev uW(nb:Nat)(b:Nat→Int):=(((nb,b),()),())
abbrev GJ:Type:=((ByteArray×((Nat×NI)×Z04))×Unit)
def kg:GJ→Option (GJ⊕Z0y):=fun x=>
 let s:=x.1.1
 let nb:=x.1.2.1.1
 let b:=x.1.2.1.2
 let k:=x.1.2.2.1
 bif (decide (k≥0))then(
 bif (decide ((i64.wrap (8*k))<0))then(
 none)
 else(
 let t:=(ak .and .i64 (bH .i64 (i64.wrap (8*(((ByteArray.size s):Nat):Int))) (i64.wrap (8*k))) 255)
 bif ((Nat.ble ((nb+1)*1) 140737488355328)&&(Nat.ble (nb+1) 9223372036854775807))then(
 some (.inl ((s,(((nb+1),(glue nb b (fun j=>(upd (fun _=>0) 0 (u8.wrap t)) (0+j)))),((i64.wrap (k-1)),()))),())))
 else(
 none)))
 else(
 some (.inr (((nb,b),()),())))
def GK(s:ByteArray):Option ((Nat×NI)):=
 bif (Nat.ble (ByteArray.size s) 9223372036854775807)then(
 bif ((Nat.ble (((ByteArray.size s)+1)*1) 140737488355328)&&(Nat.ble ((ByteArray.size s)+1) 9223372036854775807))then(
 match(aB jZ ((s,((((ByteArray.size s)+1),(glue (ByteArray.size s) (fun i=>(((s).data.toList.getD i 0).toNat:Int)) (fun j=>(upd (fun _=>0) 0 128) (0+j)))),())),()))with
 |none=>none
 |some y=>(
 let s1:=y.1.1
 let nb:=y.1.2.1.1
 let b:=y.1.2.1.2
 match(aB kg ((s1,((nb,b),(7,()))),()))with
 |none=>none
 |some y1=>(
 let nb1:=y1.1.1.1
 let b1:=y1.1.1.2
 some (nb1,(fun j=>b1 (0+j))))))
 else(
 none))
 else(
 none)
def DX:=veil GK
theorem JK:DX=GK:=aj _
def Ul:Option (NI):=
 some (upd (upd (upd (upd (upd (upd (upd (upd (fun _=>0) 0 1779033703) 1 3144134277) 2 1013904242) 3 2773480762) 4 1359893119) 5 2600822924) 6 528734635) 7 1541459225)
def IC:=veil Ul
theorem N7:IC=Ul:=aj _
def OD(x:Int)(n:Int):Option (Int):=
 bif (decide (n<0))then(
 none)
 else(
 bif (decide ((i64.wrap (32-n))<0))then(
 none)
 else(
 let t:=(ak .and .i64 (ak .or .i64 (bH .i64 x n) (ig .i64 x (i64.wrap (32-n)))) 4294967295)
 some t))
def jq:=veil OD
theorem Qv:jq=OD:=aj _
abbrev gH(nb:Nat)(b:Nat→Int)(t:Int)(t1:NI)(w:NI):=(((nb,b),((),((),(t,())))),(t1,(w,())))
abbrev qM(t:NI)(w:NI):=(((),((),())),(t,(w,())))
abbrev CF:Type:=(((Nat×NI)×Z0e)×Z06)
def gI:CF→Option (CF⊕(Z0k×Z06)):=fun x=>
 let nb:=x.1.1.1
 let b:=x.1.1.2
 let t:=x.1.2.2.2.1
 let t1:=x.2.1
 let w:=x.2.2.1
 bif (decide (t<16))then(
 bif (inb (i64.wrap (4*t)) nb)then(
 bif (inb (i64.wrap ((i64.wrap (4*t))+1)) nb)then(
 let t2:=(ak .or .i64 (ig .i64 (i64.wrap (b (Int.toNat (i64.wrap (4*t))))) 24) (ig .i64 (i64.wrap (b (Int.toNat (i64.wrap ((i64.wrap (4*t))+1))))) 16))
 bif (inb (i64.wrap ((i64.wrap (4*t))+2)) nb)then(
 let t3:=(ak .or .i64 t2 (ig .i64 (i64.wrap (b (Int.toNat (i64.wrap ((i64.wrap (4*t))+2))))) 8))
 bif (inb (i64.wrap ((i64.wrap (4*t))+3)) nb)then(
 let t4:=(ak .or .i64 t3 (i64.wrap (b (Int.toNat (i64.wrap ((i64.wrap (4*t))+3))))))
 bif (inb t 64)then(
 some (.inl (((nb,b),((),((),((i64.wrap (t+1)),())))),(t1,((upd w (Int.toNat t) t4),())))))
 else(
 none))
 else(
 none))
 else(
 none))
 else(
 none))
 else(
 none))
 else(
 some (.inr (((),((),())),(t1,(w,())))))
abbrev gJ(t:Int)(t1:NI)(w:NI):=(((),((),(t,()))),(t1,(w,())))
abbrev qN(t:NI)(w:NI):=(((),((),())),(t,(w,())))
abbrev CG:Type:=(Z0e×Z06)
def gK:CG→Option (CG⊕(Z0k×Z06)):=fun x=>
 let t:=x.1.2.2.1
 let t1:=x.2.1
 let w:=x.2.2.1
 bif (decide (t<64))then(
 bif (inb (i64.wrap (t-15)) 64)then(
 bif (inb (i64.wrap (t-2)) 64)then(
 match(jq (w (Int.toNat (i64.wrap (t-15)))) 7)with
 |none=>none
 |some r=>(
 match(jq (w (Int.toNat (i64.wrap (t-15)))) 18)with
 |none=>none
 |some r1=>(
 let t2:=(ak .xor .i64 (ak .xor .i64 r r1) (bH .i64 (w (Int.toNat (i64.wrap (t-15)))) 3))
 match(jq (w (Int.toNat (i64.wrap (t-2)))) 17)with
 |none=>none
 |some r2=>(
 match(jq (w (Int.toNat (i64.wrap (t-2)))) 19)with
 |none=>none
 |some r3=>(
 let t3:=(ak .xor .i64 (ak .xor .i64 r2 r3) (bH .i64 (w (Int.toNat (i64.wrap (t-2)))) 10))
 bif (inb (i64.wrap (t-7)) 64)then(
 bif (inb (i64.wrap (t-16)) 64)then(
 let t4:=(i64.wrap ((i64.wrap ((i64.wrap (t3+(w (Int.toNat (i64.wrap (t-7))))))+t2))+(w (Int.toNat (i64.wrap (t-16))))))
 bif (inb t 64)then(
 some (.inl (((),((),((i64.wrap (t+1)),()))),(t1,((upd w (Int.toNat t) (ak .and .i64 t4 4294967295)),())))))
 else(
 none))
 else(
 none))
 else(
 none))))))
 else(
 none))
 else(
 none))
 else(
 some (.inr (((),((),())),(t1,(w,())))))
def BJ(nb:Nat)(b:Nat→Int):Option (NI):=
 match(aB gI (((nb,b),((),((),(0,())))),((fun _=>0),((fun _=>0),()))))with
 |none=>none
 |some y=>(
 let t:=y.2.1
 let w:=y.2.2.1
 match(aB gK (((),((),(16,()))),(t,(w,()))))with
 |none=>none
 |some y1=>(
 let t1:=y1.2.1
 let w1:=y1.2.2.1
 some w1))
def yM:=veil BJ
theorem EL:yM=BJ:=aj _
def GL:Option (NI):=
 some (upd (upd (upd (upd (upd (upd (upd (upd (upd (upd (upd (upd (upd (upd (upd (upd (upd (upd (upd (upd (upd (upd (upd (upd (upd (upd (upd (upd (upd (upd (upd (upd (upd (upd (upd (upd (upd (upd (upd (upd (upd (upd (upd (upd (upd (upd (upd (upd (upd (upd (upd (upd (upd (upd (upd (upd (upd (upd (upd (upd (upd (upd (upd (upd (fun _=>0) 0 1116352408) 1 1899447441) 2 3049323471) 3 3921009573) 4 961987163) 5 1508970993) 6 2453635748) 7 2870763221) 8 3624381080) 9 310598401) 10 607225278) 11 1426881987) 12 1925078388) 13 2162078206) 14 2614888103) 15 3248222580) 16 3835390401) 17 4022224774) 18 264347078) 19 604807628) 20 770255983) 21 1249150122) 22 1555081692) 23 1996064986) 24 2554220882) 25 2821834349) 26 2952996808) 27 3210313671) 28 3336571891) 29 3584528711) 30 113926993) 31 338241895) 32 666307205) 33 773529912) 34 1294757372) 35 1396182291) 36 1695183700) 37 1986661051) 38 2177026350) 39 2456956037) 40 2730485921) 41 2820302411) 42 3259730800) 43 3345764771) 44 3516065817) 45 3600352804) 46 4094571909) 47 275423344) 48 430227734) 49 506948616) 50 659060556) 51 883997877) 52 958139571) 53 1322822218) 54 1537002063) 55 1747873779) 56 1955562222) 57 2024104815) 58 2227730452) 59 2361852424) 60 2428436474) 61 2756734187) 62 3204031479) 63 3329325298)
def wo:=veil GL
theorem CJ:wo=GL:=aj _
abbrev jG(t:Int)(v:NI)(t1:NI)(w:NI)(k:NI)(x1:NI):=(((),((),((),((),((),(t,())))))),(v,(t1,(w,(k,(x1,()))))))
abbrev xI(v:NI)(t:NI)(x1:NI):=(((),((),((),()))),(v,(t,(x1,()))))
abbrev JL:Type:=(Z0K×(NI×Z0w))
def jH:JL→Option (JL⊕((Unit×Z0k)×(NI×Z06))):=fun x=>
 let t:=x.1.2.2.2.2.2.1
 let v:=x.2.1
 let t1:=x.2.2.1
 let w:=x.2.2.2.1
 let k:=x.2.2.2.2.1
 let x1:=x.2.2.2.2.2.1
 bif (decide (t<64))then(
 match(jq (x1 4) 6)with
 |none=>none
 |some r=>(
 match(jq (x1 4) 11)with
 |none=>none
 |some r1=>(
 match(jq (x1 4) 25)with
 |none=>none
 |some r2=>(
 let t2:=(ak .xor .i64 (ak .and .i64 (x1 4) (x1 5)) (ak .and .i64 (ak .xor .i64 4294967295 (x1 4)) (x1 6)))
 let t3:=(i64.wrap ((i64.wrap ((x1 7)+(ak .xor .i64 (ak .xor .i64 r r1) r2)))+t2))
 bif (inb t 64)then(
 bif (inb t 64)then(
 match(jq (x1 0) 2)with
 |none=>none
 |some r3=>(
 match(jq (x1 0) 13)with
 |none=>none
 |some r4=>(
 match(jq (x1 0) 22)with
 |none=>none
 |some r5=>(
 let t4:=(ak .xor .i64 (ak .and .i64 (x1 0) (x1 1)) (ak .and .i64 (x1 0) (x1 2)))
 let t5:=(i64.wrap ((i64.wrap ((i64.wrap (t3+(k (Int.toNat t))))+(w (Int.toNat t))))+(ak .xor .i64 (ak .xor .i64 r3 r4) r5)))
 let t6:=(i64.wrap (t5+(ak .xor .i64 t4 (ak .and .i64 (x1 1) (x1 2)))))
 let t7:=(i64.wrap ((x1 3)+(i64.wrap ((i64.wrap (t3+(k (Int.toNat t))))+(w (Int.toNat t))))))
 some (.inl (((),((),((),((),((),((i64.wrap (t+1)),())))))),(v,(t1,(w,(k,((upd (upd (upd (upd (upd (upd (upd (upd (fun _=>0) 0 (ak .and .i64 t6 4294967295)) 1 (x1 0)) 2 (x1 1)) 3 (x1 2)) 4 (ak .and .i64 t7 4294967295)) 5 (x1 4)) 6 (x1 5)) 7 (x1 6)),())))))))))))
 else(
 none))
 else(
 none)))))
 else(
 some (.inr (((),((),((),()))),(v,(t1,(x1,()))))))
abbrev qd(i:Int)(v:NI)(t:NI)(x1:NI)(out:NI):=(((),((),((),((),(i,()))))),(v,(t,(x1,(out,())))))
abbrev xJ(t:NI)(out:NI):=(((),((),())),(t,(out,())))
abbrev JM:Type:=((Unit×Z0D)×Z0w)
def lY:JM→Option (JM⊕(Z0k×Z06)):=fun x=>
 let i:=x.1.2.2.2.2.1
 let v:=x.2.1
 let t:=x.2.2.1
 let x1:=x.2.2.2.1
 let out:=x.2.2.2.2.1
 bif (decide (i<8))then(
 bif (inb i 8)then(
 bif (inb i 8)then(
 bif (inb i 8)then(
 some (.inl (((),((),((),((),((i64.wrap (i+1)),()))))),(v,(t,(x1,((upd out (Int.toNat i) (ak .and .i64 (i64.wrap ((v (Int.toNat i))+(x1 (Int.toNat i)))) 4294967295)),())))))))
 else(
 none))
 else(
 none))
 else(
 none))
 else(
 some (.inr (((),((),())),(t,(out,())))))
def KU(v:NI)(nb:Nat)(b:Nat→Int):Option (NI):=
 match(yM nb b)with
 |none=>none
 |some r=>(
 match wo with
 |none=>none
 |some r1=>(
 match(aB jH (((),((),((),((),((),(0,())))))),(v,((fun _=>0),(r,(r1,(v,())))))))with
 |none=>none
 |some y=>(
 let v1:=y.2.1
 let t:=y.2.2.1
 let x:=y.2.2.2.1
 match(aB lY (((),((),((),((),(0,()))))),(v1,(t,(x,((fun _=>0),()))))))with
 |none=>none
 |some y1=>(
 let t1:=y1.2.1
 let out:=y1.2.2.1
 some out))))
def IE:=veil KU
theorem N8:IE=KU:=aj _
abbrev GN(nb:Nat)(b:Nat→Int)(at_:Int)(v:NI):=(((nb,b),((),(at_,()))),(v,()))
abbrev JN(v:NI):=(((),()),(v,()))
abbrev Qw:Type:=(((Nat×NI)×Z0E)×(NI×Unit))
def rQ:Qw→Option (Qw⊕(Z05×(NI×Unit))):=fun x=>
 let nb:=x.1.1.1
 let b:=x.1.1.2
 let at_:=x.1.2.2.1
 let v:=x.2.1
 bif (decide (at_<((nb:Nat):Int)))then(
 bif ((decide (0≤(i64.wrap (at_+64))))&&(decide ((i64.wrap (at_+64))≤((nb:Nat):Int))))then(
 bif ((decide (0≤at_))&&(decide (at_≤(((Int.toNat (i64.wrap (at_+64))):Nat):Int))))then(
 match(IE v ((Int.toNat (i64.wrap (at_+64)))-(Int.toNat at_)) (fun j=>b ((Int.toNat at_)+j)))with
 |none=>none
 |some r=>(
 some (.inl (((nb,b),((),((i64.wrap (at_+64)),()))),(r,())))))
 else(
 none))
 else(
 none))
 else(
 some (.inr (((),()),(v,()))))
abbrev GQ(nout:Nat)(out:Nat→Int)(i:Int)(v:NI):=(((),((nout,out),(i,()))),(v,()))
abbrev JO(nout:Nat)(out:Nat→Int):=(((nout,out),()),())
abbrev Qx:Type:=((Unit×((Nat×NI)×Z04))×(NI×Unit))
def rR:Qx→Option (Qx⊕Z0y):=fun x=>
 let nout:=x.1.2.1.1
 let out:=x.1.2.1.2
 let i:=x.1.2.2.1
 let v:=x.2.1
 bif (decide (i<8))then(
 bif (inb i 8)then(
 bif ((Nat.ble ((nout+1)*1) 140737488355328)&&(Nat.ble (nout+1) 9223372036854775807))then(
 bif (inb i 8)then(
 bif ((Nat.ble (((nout+1)+1)*1) 140737488355328)&&(Nat.ble ((nout+1)+1) 9223372036854775807))then(
 bif (inb i 8)then(
 bif ((Nat.ble ((((nout+1)+1)+1)*1) 140737488355328)&&(Nat.ble (((nout+1)+1)+1) 9223372036854775807))then(
 bif (inb i 8)then(
 bif ((Nat.ble (((((nout+1)+1)+1)+1)*1) 140737488355328)&&(Nat.ble ((((nout+1)+1)+1)+1) 9223372036854775807))then(
 some (.inl (((),((((((nout+1)+1)+1)+1),(glue (((nout+1)+1)+1) (glue ((nout+1)+1) (glue (nout+1) (glue nout out (fun j=>(upd (fun _=>0) 0 (u8.wrap (ak .and .i64 (bH .i64 (v (Int.toNat i)) 24) 255))) (0+j))) (fun j=>(upd (fun _=>0) 0 (u8.wrap (ak .and .i64 (bH .i64 (v (Int.toNat i)) 16) 255))) (0+j))) (fun j=>(upd (fun _=>0) 0 (u8.wrap (ak .and .i64 (bH .i64 (v (Int.toNat i)) 8) 255))) (0+j))) (fun j=>(upd (fun _=>0) 0 (u8.wrap (ak .and .i64 (bH .i64 (v (Int.toNat i)) 0) 255))) (0+j)))),((i64.wrap (i+1)),()))),(v,()))))
 else(
 none))
 else(
 none))
 else(
 none))
 else(
 none))
 else(
 none))
 else(
 none))
 else(
 none))
 else(
 none))
 else(
 some (.inr (((nout,out),()),())))
def Um(s:ByteArray):Option Z0v:=
 match(DX s)with
 |none=>none
 |some r=>(
 match IC with
 |none=>none
 |some r1=>(
 match(aB rQ (((r.1,r.2),((),(0,()))),(r1,())))with
 |none=>none
 |some y=>(
 let v:=y.2.1
 match(aB rR (((),((0,(fun _=>0)),(0,()))),(v,())))with
 |none=>none
 |some y1=>(
 let nout:=y1.1.1.1
 let out:=y1.1.1.2
 some (bytesOf nout (fun j=>out (0+j)))))))
def N9:=veil Um
theorem Un:N9=Um:=aj _
open Go.IntKind (i64 u64 u32 u8)
abbrev Z4(nf:Nat)(f:Nat→Int)(x1:Int)(q:Int)(out:Int)(p:Int)(i:Int):=(((nf,f),(x1,(q,(out,(p,(i,())))))),())
abbrev GU(out:Int):=((out,()),())
abbrev Na:Type:=(((Nat×NI)×(Int×(Int×Z0u)))×Unit)
def oz:Na→Option (Na⊕Z0L):=fun x=>
 let nf:=x.1.1.1
 let f:=x.1.1.2
 let x1:=x.1.2.1
 let q:=x.1.2.2.1
 let out:=x.1.2.2.2.1
 let p:=x.1.2.2.2.2.1
 let i:=x.1.2.2.2.2.2.1
 bif (decide (i<((nf:Nat):Int)))then(
 bif (inb i nf)then(
 match(MR (f (Int.toNat i)) p q)with
 |none=>none
 |some r=>(
 match(RL out r q)with
 |none=>none
 |some r1=>(
 match(MR p x1 q)with
 |none=>none
 |some r2=>(
 some (.inl (((nf,f),(x1,(q,(r1,(r2,((i64.wrap (i+1)),())))))),()))))))
 else(
 none))
 else(
 some (.inr ((out,()),())))
def OE(nf:Nat)(f:Nat→Int)(x:Int)(q:Int):Option (Int):=
 match(aB oz (((nf,f),(x,(q,(0,(1,(0,())))))),()))with
 |none=>none
 |some y=>(
 let out:=y.1.1
 some out)
def bq:=veil OE
theorem Qy:bq=OE:=aj _
open Go.IntKind (i64 u64 u32 u8)
abbrev KV(nf:Nat)(f:Nat→Int)(n:Int)(nout:Nat)(out:Nat→NI)(j:Int)(s:Z0j):=(((nf,f),(n,((),((nout,out),(j,()))))),(s,()))
abbrev DY(nout:Nat)(out:Nat→NI):=(((nout,out),()),())
abbrev Uo:Type:=(((Nat×NI)×(Int×(Unit×(Z0d×Z04))))×(Z0j×Unit))
def uX:Uo→Option (Uo⊕((Z0d×Unit)×Unit)):=fun x=>
 let nf:=x.1.1.1
 let f:=x.1.1.2
 let n:=x.1.2.1
 let nout:=x.1.2.2.2.1.1
 let out:=x.1.2.2.2.1.2
 let j:=x.1.2.2.2.2.1
 let s:=x.2.1
 bif (decide (j<n))then(
 bif (decide (j<((nf:Nat):Int)))then(
 bif (inb j nf)then(
 match(aU (f (Int.toNat j)))with
 |none=>none
 |some r=>(
 match(MV s s.2.2 r)with
 |none=>none
 |some r1=>(
 match(aU r1)with
 |none=>none
 |some r2=>(
 bif ((Nat.ble ((nout+1)*32) 140737488355328)&&(Nat.ble (nout+1) 9223372036854775807))then(
 some (.inl (((nf,f),(n,((),(((nout+1),(glue nout out (fun j=>(upd (fun _=>(fun _=>0)) 0 r2) (0+j)))),((i64.wrap (j+1)),()))))),(s,()))))
 else(
 none)))))
 else(
 none))
 else(
 match(aU 0)with
 |none=>none
 |some r3=>(
 match(MV s s.2.2 r3)with
 |none=>none
 |some r4=>(
 match(aU r4)with
 |none=>none
 |some r5=>(
 bif ((Nat.ble ((nout+1)*32) 140737488355328)&&(Nat.ble (nout+1) 9223372036854775807))then(
 some (.inl (((nf,f),(n,((),(((nout+1),(glue nout out (fun j=>(upd (fun _=>(fun _=>0)) 0 r5) (0+j)))),((i64.wrap (j+1)),()))))),(s,()))))
 else(
 none))))))
 else(
 some (.inr (((nout,out),()),())))
def Z5(s:Z0j)(nf:Nat)(f:Nat→Int)(n:Int):Option (Z0d):=
 match(aB uX (((nf,f),(n,((),((0,(fun _=>(fun _=>0))),(0,()))))),(s,())))with
 |none=>none
 |some y=>(
 let nout:=y.1.1.1
 let out:=y.1.1.2
 some (nout,(fun j=>out (0+j))))
def oZ:=veil Z5
theorem XE:oZ=Z5:=aj _
open Go.IntKind (i64 u64 u32 u8)
abbrev yN(na:Nat)(a:Nat→(SlV NI))(nb:Nat)(b:Nat→(SlV NI))(i:Int):=(((na,a),((nb,b),(i,()))),())
abbrev DZ:Type:=(Z0t⊕Z05)
abbrev Uq(t:Bool):DZ:=(.inl ((t,()),()))
abbrev Ur:DZ:=(.inr ((),()))
abbrev Nb:Type:=((Z09×(Z09×Z04))×Unit)
def lg:Nb→Option (Nb⊕DZ):=fun x=>
 let na:=x.1.1.1
 let a:=x.1.1.2
 let nb:=x.1.2.1.1
 let b:=x.1.2.1.2
 let i:=x.1.2.2.1
 bif (decide (i<((na:Nat):Int)))then(
 bif (inb i na)then(
 bif (SlV.isMs (a (Int.toNat i)))then(
 none)
 else(
 bif (inb i nb)then(
 bif (SlV.isMs (b (Int.toNat i)))then(
 none)
 else(
 match(Gx (SlV.len (a (Int.toNat i))) (SlV.fn ((fun _=>0):NI) (a (Int.toNat i))) (SlV.len (b (Int.toNat i))) (SlV.fn ((fun _=>0):NI) (b (Int.toNat i))))with
 |none=>none
 |some r=>(
 bif (!r)then(
 some (.inr (.inl ((false,()),()))))
 else(
 some (.inl (((na,a),((nb,b),((i64.wrap (i+1)),()))),()))))))
 else(
 none)))
 else(
 none))
 else(
 some (.inr (.inr ((),()))))
def OG(na:Nat)(a:Nat→(SlV NI))(nb:Nat)(b:Nat→(SlV NI)):Option (Bool):=
 bif (((na:Nat):Int) !=((nb:Nat):Int))then(
 some false)
 else(
 match(aB lg (((na,a),((nb,b),(0,()))),()))with
 |none=>none
 |some y=>(
 match y with
 | .inl y1=>(
 let t:=y1.1.1
 some t)
 | .inr y1=>(
 some true)))
def Nc:=veil OG
theorem Qz:Nc=OG:=aj _
abbrev oD(nm:Nat)(m:Nat→(SlV NI))(i:Int):=(((nm,m),(i,())),())
abbrev E5:Type:=(Z0t⊕((Z09×Unit)×Unit))
abbrev Us(t:Bool):E5:=(.inl ((t,()),()))
abbrev GV(nm:Nat)(m:Nat→(SlV NI)):E5:=(.inr (((nm,m),()),()))
abbrev Nf:Type:=((Z09×Z04)×Unit)
def iI:Nf→Option (Nf⊕E5):=fun x=>
 let nm:=x.1.1.1
 let m:=x.1.1.2
 let i:=x.1.2.1
 bif (decide (i<((nm:Nat):Int)))then(
 bif (inb i nm)then(
 bif (SlV.isMs (m (Int.toNat i)))then(
 none)
 else(
 bif (inb 0 nm)then(
 bif (SlV.isMs (m 0))then(
 none)
 else(
 bif ((((SlV.len (m (Int.toNat i))):Nat):Int) !=(((SlV.len (m 0)):Nat):Int))then(
 some (.inr (.inl ((false,()),()))))
 else(
 bif (inb i nm)then(
 bif (SlV.isMs (m (Int.toNat i)))then(
 none)
 else(
 bif (decide ((((SlV.len (m (Int.toNat i))):Nat):Int)<1))then(
 some (.inr (.inl ((false,()),()))))
 else(
 bif (inb i nm)then(
 bif (SlV.isMs (m (Int.toNat i)))then(
 none)
 else(
 bif (decide ((((SlV.len (m (Int.toNat i))):Nat):Int)>7))then(
 some (.inr (.inl ((false,()),()))))
 else(
 some (.inl (((nm,m),((i64.wrap (i+1)),())),())))))
 else(
 none))))
 else(
 none))))
 else(
 none)))
 else(
 none))
 else(
 some (.inr (.inr (((nm,m),()),()))))
def OH(nm:Nat)(m:Nat→(SlV NI)):Option (Bool):=
 match(aB iI (((nm,m),(0,())),()))with
 |none=>none
 |some y=>(
 match y with
 | .inl y1=>(
 let t:=y1.1.1
 some t)
 | .inr y1=>(
 let nm1:=y1.1.1.1
 let m1:=y1.1.1.2
 bif (decide (((nm1:Nat):Int)≥1))then(
 some (decide (((nm1:Nat):Int)≤25)))
 else(
 some false)))
def Ng:=veil OH
theorem QA:Ng=OH:=aj _
abbrev BK(nm:Nat)(m:Nat→(SlV NI))(s:ByteArray)(i:Int)(k:Int):=(((nm,m),(s,(i,(k,())))),())
abbrev EM(nm:Nat)(m:Nat→(SlV NI))(s:ByteArray)(i:Int):=(((nm,m),(s,(i,()))),())
abbrev JQ:Type:=((Z09×(ByteArray×(Int×Z04)))×Unit)
def lZ:JQ→Option (JQ⊕((Z09×(ByteArray×Z04))×Unit)):=fun x=>
 let nm:=x.1.1.1
 let m:=x.1.1.2
 let s:=x.1.2.1
 let i:=x.1.2.2.1
 let k:=x.1.2.2.2.1
 bif (inb i nm)then(
 bif (SlV.isMs (m (Int.toNat i)))then(
 none)
 else(
 bif (decide (k<(((SlV.len (m (Int.toNat i))):Nat):Int)))then(
 bif (inb i nm)then(
 bif (SlV.isMs (m (Int.toNat i)))then(
 none)
 else(
 bif (inb k (SlV.len (m (Int.toNat i))))then(
 match(Io ((SlV.fn ((fun _=>0):NI) (m (Int.toNat i))) (Int.toNat k)))with
 |none=>none
 |some r=>(
 bif (decide (((((ByteArray.size s)+(ByteArray.size (bytesOf 1 (fun j=>(upd (fun _=>0) 0 (u8.wrap (((ByteArray.size r):Nat):Int))) (0+j))))):Nat):Int)>IntKind.i64.max))then(
 none)
 else(
 bif (decide (((((ByteArray.size (s++(bytesOf 1 (fun j=>(upd (fun _=>0) 0 (u8.wrap (((ByteArray.size r):Nat):Int))) (0+j)))))+(ByteArray.size r)):Nat):Int)>IntKind.i64.max))then(
 none)
 else(
 let t:=((s++(bytesOf 1 (fun j=>(upd (fun _=>0) 0 (u8.wrap (((ByteArray.size r):Nat):Int))) (0+j))))++r)
 some (.inl (((nm,m),(t,(i,((i64.wrap (k+1)),())))),()))))))
 else(
 none)))
 else(
 none))
 else(
 some (.inr (((nm,m),(s,(i,()))),())))))
 else(
 none)
abbrev BL(nm:Nat)(m:Nat→(SlV NI))(s:ByteArray)(i:Int):=(((nm,m),(s,(i,()))),())
abbrev EN(s:ByteArray):=((s,()),())
abbrev JR:Type:=((Z09×(ByteArray×Z04))×Unit)
def jI:JR→Option (JR⊕((ByteArray×Unit)×Unit)):=fun x=>
 let nm:=x.1.1.1
 let m:=x.1.1.2
 let s:=x.1.2.1
 let i:=x.1.2.2.1
 bif (decide (i<((nm:Nat):Int)))then(
 match(aB lZ (((nm,m),(s,(i,(0,())))),()))with
 |none=>none
 |some y=>(
 let nm1:=y.1.1.1
 let m1:=y.1.1.2
 let s1:=y.1.2.1
 let i1:=y.1.2.2.1
 some (.inl (((nm1,m1),(s1,((i64.wrap (i1+1)),()))),()))))
 else(
 some (.inr ((s,()),())))
def KW(nm:Nat)(m:Nat→(SlV NI)):Option Z0v:=
 match(Ng nm m)with
 |none=>none
 |some r=>(
 bif (!r)then(
 some (ByteArray.mk #[]))
 else(
 bif (inb 0 nm)then(
 bif (SlV.isMs (m 0))then(
 none)
 else(
 let t:=(bytesOf 2 (fun j=>(upd (upd (fun _=>0) 0 (u8.wrap ((nm:Nat):Int))) 1 (u8.wrap (((SlV.len (m 0)):Nat):Int))) (0+j)))
 match(aB jI (((nm,m),(t,(0,()))),()))with
 |none=>none
 |some y=>(
 let s:=y.1.1
 some s)))
 else(
 none)))
def IG:=veil KW
theorem Nh:IG=KW:=aj _
abbrev KX(nl:Nat)(l:Nat→NI)(q:Int)(i:Int):=(((nl,l),(q,(i,()))),())
abbrev Ut:Type:=(Z0t⊕Z05)
abbrev E8:Ut:=(.inr ((),()))
abbrev Uu:Type:=((Z0d×(Int×Z04))×Unit)
def uY:Uu→Option (Uu⊕Ut):=fun x=>
 let nl:=x.1.1.1
 let l:=x.1.1.2
 let q:=x.1.2.1
 let i:=x.1.2.2.1
 bif (decide (i<((nl:Nat):Int)))then(
 bif (inb i nl)then(
 match(aU q)with
 |none=>none
 |some r=>(
 match(RJ (l (Int.toNat i)) r)with
 |none=>none
 |some r1=>(
 bif (decide (r1≥0))then(
 some (.inr (.inl ((false,()),()))))
 else(
 some (.inl (((nl,l),(q,((i64.wrap (i+1)),()))),()))))))
 else(
 none))
 else(
 some (.inr (.inr ((),()))))
def Z6(nl:Nat)(l:Nat→NI)(q:Int):Option (Bool):=
 match(aB uY (((nl,l),(q,(0,()))),()))with
 |none=>none
 |some y=>(
 match y with
 | .inl y1=>(
 let t:=y1.1.1
 some t)
 | .inr y1=>(
 some true))
def zF:=veil Z6
theorem XF:zF=Z6:=aj _
def wu(s:Z0j)(numbers:Nat→NI)(nrandom:Nat)(random:Nat→NI):Option Z0m:=
 bif (((nrandom:Nat):Int) !=1)then(
 some (((0,(fun _=>.nil)),((0,(fun _=>(0,.nil))),(1,()))),()))
 else(
 match(zF 1 numbers s.2.1)with
 |none=>none
 |some r=>(
 bif (!r)then(
 some (((0,(fun _=>.nil)),((0,(fun _=>(0,.nil))),(1,()))),()))
 else(
 match(zF nrandom random s.2.1)with
 |none=>none
 |some r1=>(
 bif (!r1)then(
 some (((0,(fun _=>.nil)),((0,(fun _=>(0,.nil))),(1,()))),()))
 else(
 bif (decide (1≤((nrandom:Nat):Int)))then(
 match(wm 2 (fun j=>(glue 1 (upd zNN 0 (numbers 0)) (fun j=>random (0+j))) (0+j)) s.2.1)with
 |none=>none
 |some r2=>(
 match(oZ s r2.1 r2.2 2)with
 |none=>none
 |some r3=>(
 match(bq r2.1 r2.2 1 s.2.1)with
 |none=>none
 |some r4=>(
 match(aU r4)with
 |none=>none
 |some r5=>(
 match(bq r2.1 r2.2 2 s.2.1)with
 |none=>none
 |some r6=>(
 match(aU r6)with
 |none=>none
 |some r7=>(
 match(bq r2.1 r2.2 3 s.2.1)with
 |none=>none
 |some r8=>(
 match(aU r8)with
 |none=>none
 |some r9=>(
 match(bq r2.1 r2.2 4 s.2.1)with
 |none=>none
 |some r10=>(
 match(aU r10)with
 |none=>none
 |some r11=>(
 some (((1,(fun j=>(glue 0 (fun _=>.nil) (fun j=>(upd (fun _=>.nil) 0 (.fz r3.1 r3.2)) (0+j))) (0+j))),((4,(fun j=>(upd (upd (upd (upd (upd (upd (upd (upd (upd (upd (upd (upd (fun(_:Nat)=>((0,.nil):Z0N)) 0 (1,.nil)) 0 (1,(.ms 7 [] 0 1))) 1 (2,.nil)) 1 (2,(.ms 9 [] 0 1))) 2 (3,.nil)) 2 (3,(.ms 11 [] 0 1))) 3 (4,.nil)) 3 (4,(.ms 13 [] 0 1))) 3 (4,(.fz 1 (fun j=>(glue 0 zNN (fun j=>(upd zNN 0 r11) (0+j))) (0+j))))) 2 (3,(.fz 1 (fun j=>(glue 0 zNN (fun j=>(upd zNN 0 r9) (0+j))) (0+j))))) 1 (2,(.fz 1 (fun j=>(glue 0 zNN (fun j=>(upd zNN 0 r7) (0+j))) (0+j))))) 0 (1,(.fz 1 (fun j=>(glue 0 zNN (fun j=>(upd zNN 0 r5) (0+j))) (0+j))))) (0+j))),(0,()))),()))))))))))))
 else(
 none))))))
def wz(s:Z0j)(numbers:Nat→NI)(nrandom:Nat)(random:Nat→NI):Option Z0m:=
 bif (((nrandom:Nat):Int) !=2)then(
 some (((0,(fun _=>.nil)),((0,(fun _=>(0,.nil))),(1,()))),()))
 else(
 match(zF 2 numbers s.2.1)with
 |none=>none
 |some r=>(
 bif (!r)then(
 some (((0,(fun _=>.nil)),((0,(fun _=>(0,.nil))),(1,()))),()))
 else(
 match(zF nrandom random s.2.1)with
 |none=>none
 |some r1=>(
 bif (!r1)then(
 some (((0,(fun _=>.nil)),((0,(fun _=>(0,.nil))),(1,()))),()))
 else(
 bif (decide (1≤((nrandom:Nat):Int)))then(
 match(wm 2 (fun j=>(glue 1 (upd zNN 0 (numbers 0)) (fun j=>random (0+j))) (0+j)) s.2.1)with
 |none=>none
 |some r2=>(
 match(oZ s r2.1 r2.2 2)with
 |none=>none
 |some r3=>(
 match(bq r2.1 r2.2 1 s.2.1)with
 |none=>none
 |some r4=>(
 match(aU r4)with
 |none=>none
 |some r5=>(
 match(bq r2.1 r2.2 2 s.2.1)with
 |none=>none
 |some r6=>(
 match(aU r6)with
 |none=>none
 |some r7=>(
 match(bq r2.1 r2.2 3 s.2.1)with
 |none=>none
 |some r8=>(
 match(aU r8)with
 |none=>none
 |some r9=>(
 match(bq r2.1 r2.2 4 s.2.1)with
 |none=>none
 |some r10=>(
 match(aU r10)with
 |none=>none
 |some r11=>(
 bif (decide (2≤((nrandom:Nat):Int)))then(
 match(wm 2 (fun j=>(glue 1 (upd zNN 0 (numbers 1)) (fun j=>random (1+j))) (0+j)) s.2.1)with
 |none=>none
 |some r12=>(
 match(oZ s r12.1 r12.2 2)with
 |none=>none
 |some r13=>(
 match(bq r12.1 r12.2 1 s.2.1)with
 |none=>none
 |some r14=>(
 match(aU r14)with
 |none=>none
 |some r15=>(
 match(bq r12.1 r12.2 2 s.2.1)with
 |none=>none
 |some r16=>(
 match(aU r16)with
 |none=>none
 |some r17=>(
 match(bq r12.1 r12.2 3 s.2.1)with
 |none=>none
 |some r18=>(
 match(aU r18)with
 |none=>none
 |some r19=>(
 match(bq r12.1 r12.2 4 s.2.1)with
 |none=>none
 |some r20=>(
 match(aU r20)with
 |none=>none
 |some r21=>(
 some (((2,(fun j=>(glue 1 (glue 0 (fun _=>.nil) (fun j=>(upd (fun _=>.nil) 0 (.fz r3.1 r3.2)) (0+j))) (fun j=>(upd (fun _=>.nil) 0 (.fz r13.1 r13.2)) (0+j))) (0+j))),((4,(fun j=>(upd (upd (upd (upd (upd (upd (upd (upd (upd (upd (upd (upd (upd (upd (upd (upd (upd (upd (upd (upd (fun(_:Nat)=>((0,.nil):Z0N)) 0 (1,.nil)) 0 (1,(.ms 7 [] 0 1))) 1 (2,.nil)) 1 (2,(.ms 9 [] 0 1))) 2 (3,.nil)) 2 (3,(.ms 11 [] 0 1))) 3 (4,.nil)) 3 (4,(.ms 13 [] 0 1))) 0 (1,(.ms 7 [] 0 1))) 0 (1,(.ms 19 [] 0 2))) 1 (2,(.ms 9 [] 0 1))) 1 (2,(.ms 21 [] 0 2))) 2 (3,(.ms 11 [] 0 1))) 2 (3,(.ms 23 [] 0 2))) 3 (4,(.ms 13 [] 0 1))) 3 (4,(.ms 25 [] 0 2))) 3 (4,(.fz 2 (fun j=>(glue 1 (glue 0 zNN (fun j=>(upd zNN 0 r11) (0+j))) (fun j=>(upd zNN 0 r21) (0+j))) (0+j))))) 2 (3,(.fz 2 (fun j=>(glue 1 (glue 0 zNN (fun j=>(upd zNN 0 r9) (0+j))) (fun j=>(upd zNN 0 r19) (0+j))) (0+j))))) 1 (2,(.fz 2 (fun j=>(glue 1 (glue 0 zNN (fun j=>(upd zNN 0 r7) (0+j))) (fun j=>(upd zNN 0 r17) (0+j))) (0+j))))) 0 (1,(.fz 2 (fun j=>(glue 1 (glue 0 zNN (fun j=>(upd zNN 0 r5) (0+j))) (fun j=>(upd zNN 0 r15) (0+j))) (0+j))))) (0+j))),(0,()))),()))))))))))))
 else(
 none))))))))))))
 else(
 none))))))
def wB(s:Z0j)(numbers:Nat→NI)(nrandom:Nat)(random:Nat→NI):Option Z0m:=
 bif (((nrandom:Nat):Int) !=2)then(
 some (((0,(fun _=>.nil)),((0,(fun _=>(0,.nil))),(1,()))),()))
 else(
 match(zF 1 numbers s.2.1)with
 |none=>none
 |some r=>(
 bif (!r)then(
 some (((0,(fun _=>.nil)),((0,(fun _=>(0,.nil))),(1,()))),()))
 else(
 match(zF nrandom random s.2.1)with
 |none=>none
 |some r1=>(
 bif (!r1)then(
 some (((0,(fun _=>.nil)),((0,(fun _=>(0,.nil))),(1,()))),()))
 else(
 bif (decide (2≤((nrandom:Nat):Int)))then(
 match(wm 3 (fun j=>(glue 1 (upd zNN 0 (numbers 0)) (fun j=>random (0+j))) (0+j)) s.2.1)with
 |none=>none
 |some r2=>(
 match(oZ s r2.1 r2.2 3)with
 |none=>none
 |some r3=>(
 match(bq r2.1 r2.2 1 s.2.1)with
 |none=>none
 |some r4=>(
 match(aU r4)with
 |none=>none
 |some r5=>(
 match(bq r2.1 r2.2 2 s.2.1)with
 |none=>none
 |some r6=>(
 match(aU r6)with
 |none=>none
 |some r7=>(
 match(bq r2.1 r2.2 3 s.2.1)with
 |none=>none
 |some r8=>(
 match(aU r8)with
 |none=>none
 |some r9=>(
 match(bq r2.1 r2.2 4 s.2.1)with
 |none=>none
 |some r10=>(
 match(aU r10)with
 |none=>none
 |some r11=>(
 match(bq r2.1 r2.2 5 s.2.1)with
 |none=>none
 |some r12=>(
 match(aU r12)with
 |none=>none
 |some r13=>(
 match(bq r2.1 r2.2 6 s.2.1)with
 |none=>none
 |some r14=>(
 match(aU r14)with
 |none=>none
 |some r15=>(
 match(bq r2.1 r2.2 7 s.2.1)with
 |none=>none
 |some r16=>(
 match(aU r16)with
 |none=>none
 |some r17=>(
 some (((1,(fun j=>(glue 0 (fun _=>.nil) (fun j=>(upd (fun _=>.nil) 0 (.fz r3.1 r3.2)) (0+j))) (0+j))),((7,(fun j=>(upd (upd (upd (upd (upd (upd (upd (upd (upd (upd (upd (upd (upd (upd (upd (upd (upd (upd (upd (upd (upd (fun(_:Nat)=>((0,.nil):Z0N)) 0 (1,.nil)) 0 (1,(.ms 7 [] 0 1))) 1 (2,.nil)) 1 (2,(.ms 9 [] 0 1))) 2 (3,.nil)) 2 (3,(.ms 11 [] 0 1))) 3 (4,.nil)) 3 (4,(.ms 13 [] 0 1))) 4 (5,.nil)) 4 (5,(.ms 15 [] 0 1))) 5 (6,.nil)) 5 (6,(.ms 17 [] 0 1))) 6 (7,.nil)) 6 (7,(.ms 19 [] 0 1))) 6 (7,(.fz 1 (fun j=>(glue 0 zNN (fun j=>(upd zNN 0 r17) (0+j))) (0+j))))) 5 (6,(.fz 1 (fun j=>(glue 0 zNN (fun j=>(upd zNN 0 r15) (0+j))) (0+j))))) 4 (5,(.fz 1 (fun j=>(glue 0 zNN (fun j=>(upd zNN 0 r13) (0+j))) (0+j))))) 3 (4,(.fz 1 (fun j=>(glue 0 zNN (fun j=>(upd zNN 0 r11) (0+j))) (0+j))))) 2 (3,(.fz 1 (fun j=>(glue 0 zNN (fun j=>(upd zNN 0 r9) (0+j))) (0+j))))) 1 (2,(.fz 1 (fun j=>(glue 0 zNN (fun j=>(upd zNN 0 r7) (0+j))) (0+j))))) 0 (1,(.fz 1 (fun j=>(glue 0 zNN (fun j=>(upd zNN 0 r5) (0+j))) (0+j))))) (0+j))),(0,()))),()))))))))))))))))))
 else(
 none))))))
def wC(s:Z0j)(numbers:Nat→NI)(nrandom:Nat)(random:Nat→NI):Option Z0m:=
 bif (((nrandom:Nat):Int) !=4)then(
 some (((0,(fun _=>.nil)),((0,(fun _=>(0,.nil))),(1,()))),()))
 else(
 match(zF 2 numbers s.2.1)with
 |none=>none
 |some r=>(
 bif (!r)then(
 some (((0,(fun _=>.nil)),((0,(fun _=>(0,.nil))),(1,()))),()))
 else(
 match(zF nrandom random s.2.1)with
 |none=>none
 |some r1=>(
 bif (!r1)then(
 some (((0,(fun _=>.nil)),((0,(fun _=>(0,.nil))),(1,()))),()))
 else(
 bif (decide (2≤((nrandom:Nat):Int)))then(
 match(wm 3 (fun j=>(glue 1 (upd zNN 0 (numbers 0)) (fun j=>random (0+j))) (0+j)) s.2.1)with
 |none=>none
 |some r2=>(
 match(oZ s r2.1 r2.2 3)with
 |none=>none
 |some r3=>(
 match(bq r2.1 r2.2 1 s.2.1)with
 |none=>none
 |some r4=>(
 match(aU r4)with
 |none=>none
 |some r5=>(
 match(bq r2.1 r2.2 2 s.2.1)with
 |none=>none
 |some r6=>(
 match(aU r6)with
 |none=>none
 |some r7=>(
 match(bq r2.1 r2.2 3 s.2.1)with
 |none=>none
 |some r8=>(
 match(aU r8)with
 |none=>none
 |some r9=>(
 match(bq r2.1 r2.2 4 s.2.1)with
 |none=>none
 |some r10=>(
 match(aU r10)with
 |none=>none
 |some r11=>(
 match(bq r2.1 r2.2 5 s.2.1)with
 |none=>none
 |some r12=>(
 match(aU r12)with
 |none=>none
 |some r13=>(
 match(bq r2.1 r2.2 6 s.2.1)with
 |none=>none
 |some r14=>(
 match(aU r14)with
 |none=>none
 |some r15=>(
 match(bq r2.1 r2.2 7 s.2.1)with
 |none=>none
 |some r16=>(
 match(aU r16)with
 |none=>none
 |some r17=>(
 bif (decide (4≤((nrandom:Nat):Int)))then(
 match(wm 3 (fun j=>(glue 1 (upd zNN 0 (numbers 1)) (fun j=>random (2+j))) (0+j)) s.2.1)with
 |none=>none
 |some r18=>(
 match(oZ s r18.1 r18.2 3)with
 |none=>none
 |some r19=>(
 match(bq r18.1 r18.2 1 s.2.1)with
 |none=>none
 |some r20=>(
 match(aU r20)with
 |none=>none
 |some r21=>(
 match(bq r18.1 r18.2 2 s.2.1)with
 |none=>none
 |some r22=>(
 match(aU r22)with
 |none=>none
 |some r23=>(
 match(bq r18.1 r18.2 3 s.2.1)with
 |none=>none
 |some r24=>(
 match(aU r24)with
 |none=>none
 |some r25=>(
 match(bq r18.1 r18.2 4 s.2.1)with
 |none=>none
 |some r26=>(
 match(aU r26)with
 |none=>none
 |some r27=>(
 match(bq r18.1 r18.2 5 s.2.1)with
 |none=>none
 |some r28=>(
 match(aU r28)with
 |none=>none
 |some r29=>(
 match(bq r18.1 r18.2 6 s.2.1)with
 |none=>none
 |some r30=>(
 match(aU r30)with
 |none=>none
 |some r31=>(
 match(bq r18.1 r18.2 7 s.2.1)with
 |none=>none
 |some r32=>(
 match(aU r32)with
 |none=>none
 |some r33=>(
 some (((2,(fun j=>(glue 1 (glue 0 (fun _=>.nil) (fun j=>(upd (fun _=>.nil) 0 (.fz r3.1 r3.2)) (0+j))) (fun j=>(upd (fun _=>.nil) 0 (.fz r19.1 r19.2)) (0+j))) (0+j))),((7,(fun j=>(upd (upd (upd (upd (upd (upd (upd (upd (upd (upd (upd (upd (upd (upd (upd (upd (upd (upd (upd (upd (upd (upd (upd (upd (upd (upd (upd (upd (upd (upd (upd (upd (upd (upd (upd (fun(_:Nat)=>((0,.nil):Z0N)) 0 (1,.nil)) 0 (1,(.ms 7 [] 0 1))) 1 (2,.nil)) 1 (2,(.ms 9 [] 0 1))) 2 (3,.nil)) 2 (3,(.ms 11 [] 0 1))) 3 (4,.nil)) 3 (4,(.ms 13 [] 0 1))) 4 (5,.nil)) 4 (5,(.ms 15 [] 0 1))) 5 (6,.nil)) 5 (6,(.ms 17 [] 0 1))) 6 (7,.nil)) 6 (7,(.ms 19 [] 0 1))) 0 (1,(.ms 7 [] 0 1))) 0 (1,(.ms 25 [] 0 2))) 1 (2,(.ms 9 [] 0 1))) 1 (2,(.ms 27 [] 0 2))) 2 (3,(.ms 11 [] 0 1))) 2 (3,(.ms 29 [] 0 2))) 3 (4,(.ms 13 [] 0 1))) 3 (4,(.ms 31 [] 0 2))) 4 (5,(.ms 15 [] 0 1))) 4 (5,(.ms 33 [] 0 2))) 5 (6,(.ms 17 [] 0 1))) 5 (6,(.ms 35 [] 0 2))) 6 (7,(.ms 19 [] 0 1))) 6 (7,(.ms 37 [] 0 2))) 6 (7,(.fz 2 (fun j=>(glue 1 (glue 0 zNN (fun j=>(upd zNN 0 r17) (0+j))) (fun j=>(upd zNN 0 r33) (0+j))) (0+j))))) 5 (6,(.fz 2 (fun j=>(glue 1 (glue 0 zNN (fun j=>(upd zNN 0 r15) (0+j))) (fun j=>(upd zNN 0 r31) (0+j))) (0+j))))) 4 (5,(.fz 2 (fun j=>(glue 1 (glue 0 zNN (fun j=>(upd zNN 0 r13) (0+j))) (fun j=>(upd zNN 0 r29) (0+j))) (0+j))))) 3 (4,(.fz 2 (fun j=>(glue 1 (glue 0 zNN (fun j=>(upd zNN 0 r11) (0+j))) (fun j=>(upd zNN 0 r27) (0+j))) (0+j))))) 2 (3,(.fz 2 (fun j=>(glue 1 (glue 0 zNN (fun j=>(upd zNN 0 r9) (0+j))) (fun j=>(upd zNN 0 r25) (0+j))) (0+j))))) 1 (2,(.fz 2 (fun j=>(glue 1 (glue 0 zNN (fun j=>(upd zNN 0 r7) (0+j))) (fun j=>(upd zNN 0 r23) (0+j))) (0+j))))) 0 (1,(.fz 2 (fun j=>(glue 1 (glue 0 zNN (fun j=>(upd zNN 0 r5) (0+j))) (fun j=>(upd zNN 0 r21) (0+j))) (0+j))))) (0+j))),(0,()))),()))))))))))))))))))
 else(
 none))))))))))))))))))
 else(
 none))))))
def GX(s:Z0j)(t:Int)(nnumbers:Nat)(numbers:Nat→NI)(nrandom:Nat)(random:Nat→NI):Option Z0m:=
 bif ((t==1)&&(Nat.beq nnumbers 1))then(
 (wu s numbers nrandom random))
 else(
 bif ((t==1)&&(Nat.beq nnumbers 2))then(
 (wz s numbers nrandom random))
 else(
 bif ((t==2)&&(Nat.beq nnumbers 1))then(
 (wB s numbers nrandom random))
 else(
 bif ((t==2)&&(Nat.beq nnumbers 2))then(
 (wC s numbers nrandom random))
 else(
 none))))
def E9:=veil GX
theorem JU:E9=GX:=aj _
def GY(nm:Nat)(m:Nat→(SlV NI)):Option Z0v:=
 match(IG nm m)with
 |none=>none
 |some r=>(
 match(N9 r)with
 |none=>none
 |some r1=>(
 some r1))
def qO:=veil GY
theorem JV:qO=GY:=aj _
open Go.IntKind (i64 u64 u32 u8)
abbrev Ea(na:Nat)(a:Nat→ByteArray)(nb:Nat)(b:Nat→ByteArray)(i:Int):=(((na,a),((nb,b),(i,()))),())
abbrev Ni:Type:=(Z0t⊕Z05)
abbrev GZ:Ni:=(.inr ((),()))
abbrev Nj:Type:=((Z0r×(Z0r×Z04))×Unit)
def oF:Nj→Option (Nj⊕Ni):=fun x=>
 let na:=x.1.1.1
 let a:=x.1.1.2
 let nb:=x.1.2.1.1
 let b:=x.1.2.1.2
 let i:=x.1.2.2.1
 bif (decide (i<((na:Nat):Int)))then(
 bif (inb i na)then(
 bif (inb i nb)then(
 bif (!(sEq (a (Int.toNat i)) (b (Int.toNat i))))then(
 some (.inr (.inl ((false,()),()))))
 else(
 some (.inl (((na,a),((nb,b),((i64.wrap (i+1)),()))),()))))
 else(
 none))
 else(
 none))
 else(
 some (.inr (.inr ((),()))))
def OI(na:Nat)(a:Nat→ByteArray)(nb:Nat)(b:Nat→ByteArray):Option (Bool):=
 bif (((na:Nat):Int) !=((nb:Nat):Int))then(
 some false)
 else(
 match(aB oF (((na,a),((nb,b),(0,()))),()))with
 |none=>none
 |some y=>(
 match y with
 | .inl y1=>(
 let t:=y1.1.1
 some t)
 | .inr y1=>(
 some true)))
def wW:=veil OI
theorem QB:wW=OI:=aj _
open Go.IntKind (i64 u64 u32 u8)
def OJ(a:Z0f)(b:Z0f):Option (Bool):=
 bif (a.1==b.1)then(
 bif (a.2.1==b.2.1)then(
 bif (sEq a.2.2.1 b.2.2.1)then(
 bif (eqF (.pair (.int .i64) (.int .i64)) a.2.2.2.1 b.2.2.2.1)then(
 bif (sEq a.2.2.2.2.1 b.2.2.2.2.1)then(
 match(Nc a.2.2.2.2.2.1.1 a.2.2.2.2.2.1.2 b.2.2.2.2.2.1.1 b.2.2.2.2.2.1.2)with
 |none=>none
 |some r=>(
 bif r then(
 match(Gx a.2.2.2.2.2.2.1 a.2.2.2.2.2.2.2 b.2.2.2.2.2.2.1 b.2.2.2.2.2.2.2)with
 |none=>none
 |some r1=>(
 some r1))
 else(
 some false)))
 else(
 some false))
 else(
 some false))
 else(
 some false))
 else(
 some false))
 else(
 some false)
def H6:=veil OJ
theorem QC:H6=OJ:=aj _
open Go.IntKind (i64 u64 u32 u8)
def Uv(g:Z0j)(t:Int)(number:Int)(clients:Int):Option ((Option Z0B)):=
 some (some (g,(t,(number,((i64.wrap ((i64.wrap (3*t))+1)),(clients,(((i64.wrap ((i64.wrap (3*t))+1)),(clients,(.nil,.nil))),(.nil,.nil))))))))
def Eb:=veil Uv
theorem Uw:Eb=Uv:=aj _
abbrev uZ(na:Nat)(a:Nat→OU)(nb:Nat)(b:Nat→OU)(i:Int):=(((na,a),((nb,b),(i,()))),())
abbrev CK:Type:=(Z0t⊕Z05)
abbrev qP:CK:=(.inr ((),()))
abbrev CO:Type:=((Z0C×(Z0C×Z04))×Unit)
def iO:CO→Option (CO⊕CK):=fun x=>
 let na:=x.1.1.1
 let a:=x.1.1.2
 let nb:=x.1.2.1.1
 let b:=x.1.2.1.2
 let i:=x.1.2.2.1
 bif (decide (i<((na:Nat):Int)))then(
 bif (inb i na)then(
 bif (inb i nb)then(
 bif ((a (Int.toNat i)).1 !=(b (Int.toNat i)).1)then(
 some (.inr (.inl ((false,()),()))))
 else(
 bif (inb i na)then(
 bif (SlV.isMs (a (Int.toNat i)).2.2.2.2.2.2.1)then(
 none)
 else(
 bif (SlV.isMs (a (Int.toNat i)).2.2.2.2.2.2.2)then(
 none)
 else(
 bif (inb i nb)then(
 bif (SlV.isMs (b (Int.toNat i)).2.2.2.2.2.2.1)then(
 none)
 else(
 bif (SlV.isMs (b (Int.toNat i)).2.2.2.2.2.2.2)then(
 none)
 else(
 match(H6 ((a (Int.toNat i)).2.1,((a (Int.toNat i)).2.2.1,((a (Int.toNat i)).2.2.2.1,((a (Int.toNat i)).2.2.2.2.1,((a (Int.toNat i)).2.2.2.2.2.1,(((SlV.len (a (Int.toNat i)).2.2.2.2.2.2.1),(SlV.fn (.nil:(SlV NI)) (a (Int.toNat i)).2.2.2.2.2.2.1)),((SlV.len (a (Int.toNat i)).2.2.2.2.2.2.2),(SlV.fn ((fun _=>0):NI) (a (Int.toNat i)).2.2.2.2.2.2.2)))))))) ((b (Int.toNat i)).2.1,((b (Int.toNat i)).2.2.1,((b (Int.toNat i)).2.2.2.1,((b (Int.toNat i)).2.2.2.2.1,((b (Int.toNat i)).2.2.2.2.2.1,(((SlV.len (b (Int.toNat i)).2.2.2.2.2.2.1),(SlV.fn (.nil:(SlV NI)) (b (Int.toNat i)).2.2.2.2.2.2.1)),((SlV.len (b (Int.toNat i)).2.2.2.2.2.2.2),(SlV.fn ((fun _=>0):NI) (b (Int.toNat i)).2.2.2.2.2.2.2)))))))))with
 |none=>none
 |some r=>(
 bif (!r)then(
 some (.inr (.inl ((false,()),()))))
 else(
 some (.inl (((na,a),((nb,b),((i64.wrap (i+1)),()))),())))))))
 else(
 none))))
 else(
 none)))
 else(
 none))
 else(
 none))
 else(
 some (.inr (.inr ((),()))))
def BM(na:Nat)(a:Nat→OU)(nb:Nat)(b:Nat→OU):Option (Bool):=
 bif (((na:Nat):Int) !=((nb:Nat):Int))then(
 some false)
 else(
 match(aB iO (((na,a),((nb,b),(0,()))),()))with
 |none=>none
 |some y=>(
 match y with
 | .inl y1=>(
 let t:=y1.1.1
 some t)
 | .inr y1=>(
 some true)))
def lq:=veil BM
theorem EO:lq=BM:=aj _
open Go.IntKind (i64 u64 u32 u8)
open Classical in
open Go.IntKind (i64 u64 u32 u8)
open Go.IntKind (i64 u64 u32 u8)
abbrev mK(ns:Nat)(s:Nat→NI)(t:Int)(t1:Int)(o:Z07):=(((ns,s),((),(t,(t1,())))),(o,()))
abbrev sQ:Type:=((Z04×(Z07×(NI×Unit)))⊕(Unit×(Z07×Unit)))
abbrev p8(t:Int)(o:Z07)(o1:NI):sQ:=(.inl ((t,()),(o,(o1,()))))
abbrev p9(o:Z07):sQ:=(.inr ((),(o,())))
abbrev AP:Type:=((Z0d×Z0o)×(Z07×Unit))
def fD:AP→Option (AP⊕sQ):=fun x=>
 let ns:=x.1.1.1
 let s:=x.1.1.2
 let t:=x.1.2.2.1
 let t1:=x.1.2.2.2.1
 let o:=x.2.1
 bif (decide (t1<t))then(
 bif (inb t1 ns)then(
 match(MX (some o) (s (Int.toNat t1)))with
 |none=>none
 |some r=>(
 bif (!r)then(
 some (.inr (.inl ((t1,()),(o,((s (Int.toNat t1)),()))))))
 else(
 some (.inl (((ns,s),((),(t,((i64.wrap (t1+1)),())))),(o,()))))))
 else(
 none))
 else(
 some (.inr (.inr ((),(o,())))))
def AQ(g:Z0z)(nc:Nat)(c:Nat→NI):Option (Bool):=
 match g with
 |none=>(
 bif (decide (((nc:Nat):Int)≥1))then(
 bif (decide (((nc:Nat):Int)≤7))then(
 none)
 else(
 some false))
 else(
 some false))
 |some g0=>(
 bif (decide (((nc:Nat):Int)≥1))then(
 bif (decide (((nc:Nat):Int)≤7))then(
 match(aB fD (((nc,c),((),(((nc:Nat):Int),(0,())))),(g0,())))with
 |none=>none
 |some y=>(
 match y with
 | .inl y1=>(
 let t:=y1.1.1
 let o:=y1.2.1
 let o1:=y1.2.2.1
 some (!(decide (t≥0))))
 | .inr y1=>(
 let o2:=y1.2.1
 some true)))
 else(
 some false))
 else(
 some false))
def vg:=veil AQ
theorem JW:vg=AQ:=aj _
abbrev BN(g:Z07)(nc:Nat)(c:Nat→NI)(i:Int)(nexps:Nat)(exps:Nat→NI)(p:Int)(t:Int)(t1:Int)(t2:NI):=((g,((nc,c),(i,((),((nexps,exps),(p,(t,(t1,())))))))),(t2,()))
abbrev xK(g:Z07)(nc:Nat)(c:Nat→NI)(nexps:Nat)(exps:Nat→NI)(t:NI):=((g,((nc,c),((),((nexps,exps),())))),(t,()))
abbrev JX:Type:=((Z07×(Z0d×(Int×(Unit×(Z0d×Z0u)))))×(NI×Unit))
def mg:JX→Option (JX⊕((Z07×(Z0d×(Unit×(Z0d×Unit))))×(NI×Unit))):=fun x=>
 let g:=x.1.1
 let nc:=x.1.2.1.1
 let c:=x.1.2.1.2
 let i:=x.1.2.2.1
 let nexps:=x.1.2.2.2.2.1.1
 let exps:=x.1.2.2.2.2.1.2
 let p:=x.1.2.2.2.2.2.1
 let t:=x.1.2.2.2.2.2.2.1
 let t1:=x.1.2.2.2.2.2.2.2.1
 let t2:=x.2.1
 bif (decide (t1<t))then(
 match(bZ p)with
 |none=>none
 |some r=>(
 bif ((Nat.ble ((nexps+1)*32) 140737488355328)&&(Nat.ble (nexps+1) 9223372036854775807))then(
 some (.inl ((g,((nc,c),(i,((),(((nexps+1),(glue nexps exps (fun j=>(upd (fun _=>(fun _=>0)) 0 r) (0+j)))),((i64.wrap (p*i)),(t,((i64.wrap (t1+1)),())))))))),(t2,()))))
 else(
 none)))
 else(
 some (.inr ((g,((nc,c),((),((nexps,exps),())))),(t2,()))))
def Ec(g:Z0z)(nc:Nat)(c:Nat→NI)(i:Int):Option (NI):=
 match g with
 |none=>(
 bif (decide (i<0))then(
 some (fun _=>0))
 else(
 bif (decide (i>7))then(
 some (fun _=>0))
 else(
 bif (decide (((nc:Nat):Int)>7))then(
 some (fun _=>0))
 else(
 none))))
 |some g0=>(
 bif (decide (i<0))then(
 some (fun _=>0))
 else(
 bif (decide (i>7))then(
 some (fun _=>0))
 else(
 bif (decide (((nc:Nat):Int)>7))then(
 some (fun _=>0))
 else(
 match(aB mg ((g0,((nc,c),(i,((),((0,(fun _=>(fun _=>0))),(1,(((nc:Nat):Int),(0,())))))))),((fun _=>0),())))with
 |none=>none
 |some y=>(
 let g1:=y.1.1
 let nc1:=y.1.2.1.1
 let c1:=y.1.2.1.2
 let nexps:=y.1.2.2.2.1.1
 let exps:=y.1.2.2.2.1.2
 let t:=y.2.1
 match(AO (some g1) nc1 c1 nexps (fun j=>exps (0+j)))with
 |none=>none
 |some r=>(
 some r.1))))))
def CP:=veil Ec
theorem Nk:CP=Ec:=aj _
def wD(g:Z0z)(nc:Nat)(c:Nat→NI)(s:(Int×NI)):Option (Bool):=
 match g with
 |none=>(
 bif (decide (s.1≥1))then(
 bif (decide (s.1≤7))then(
 match(Gy none s.2)with
 |none=>none
 |some r4=>(
 bif r4 then(
 match(vg none nc c)with
 |none=>none
 |some r5=>(
 bif r5 then(
 match(GD none s.2)with
 |none=>none
 |some r6=>(
 match(CP none nc c s.1)with
 |none=>none
 |some r7=>(
 some (eqF (.arr 4 (.int .u64)) r6 r7))))
 else(
 some false)))
 else(
 some false)))
 else(
 some false))
 else(
 some false))
 |some g0=>(
 bif (decide (s.1≥1))then(
 bif (decide (s.1≤7))then(
 match(Gy (some g0) s.2)with
 |none=>none
 |some r=>(
 bif r then(
 match(vg (some g0) nc c)with
 |none=>none
 |some r1=>(
 bif r1 then(
 match(GD (some g0) s.2)with
 |none=>none
 |some r2=>(
 match(CP (some g0) nc c s.1)with
 |none=>none
 |some r3=>(
 some (eqF (.arr 4 (.int .u64)) r2 r3))))
 else(
 some false)))
 else(
 some false)))
 else(
 some false))
 else(
 some false))
def yO:=veil wD
theorem EP:yO=wD:=aj _
open Go.IntKind (i64 u64 u32 u8)
def Ux:Option (NI):=
 some (upd (upd (upd (upd (upd (upd (upd (upd (fun _=>0) 0 1779033703) 1 3144134277) 2 1013904242) 3 2773480762) 4 1359893119) 5 2600822924) 6 528734635) 7 1541459225)
def CQ:=veil Ux
theorem Ed:CQ=Ux:=aj _
def KY:Option ((Z05×(Z0a×Unit))):=
 match CQ with
 |none=>none
 |some r=>(
 some (((),()),((true,(r,((fun _=>0),0))),())))
def OL:=veil KY
theorem Nl:OL=KY:=aj _
def H7:Option (NI):=
 some (upd (upd (upd (upd (upd (upd (upd (upd (upd (upd (upd (upd (upd (upd (upd (upd (upd (upd (upd (upd (upd (upd (upd (upd (upd (upd (upd (upd (upd (upd (upd (upd (upd (upd (upd (upd (upd (upd (upd (upd (upd (upd (upd (upd (upd (upd (upd (upd (upd (upd (upd (upd (upd (upd (upd (upd (upd (upd (upd (upd (upd (upd (upd (upd (fun _=>0) 0 1116352408) 1 1899447441) 2 3049323471) 3 3921009573) 4 961987163) 5 1508970993) 6 2453635748) 7 2870763221) 8 3624381080) 9 310598401) 10 607225278) 11 1426881987) 12 1925078388) 13 2162078206) 14 2614888103) 15 3248222580) 16 3835390401) 17 4022224774) 18 264347078) 19 604807628) 20 770255983) 21 1249150122) 22 1555081692) 23 1996064986) 24 2554220882) 25 2821834349) 26 2952996808) 27 3210313671) 28 3336571891) 29 3584528711) 30 113926993) 31 338241895) 32 666307205) 33 773529912) 34 1294757372) 35 1396182291) 36 1695183700) 37 1986661051) 38 2177026350) 39 2456956037) 40 2730485921) 41 2820302411) 42 3259730800) 43 3345764771) 44 3516065817) 45 3600352804) 46 4094571909) 47 275423344) 48 430227734) 49 506948616) 50 659060556) 51 883997877) 52 958139571) 53 1322822218) 54 1537002063) 55 1747873779) 56 1955562222) 57 2024104815) 58 2227730452) 59 2361852424) 60 2428436474) 61 2756734187) 62 3204031479) 63 3329325298)
def qg:=veil H7
theorem vk:qg=H7:=aj _
def H8(x:Int)(n:Int):Option (Int):=
 match(sI x (i64.wrap (0-n)))with
 |none=>none
 |some r=>(
 some r)
def fE:=veil H8
theorem JY:fE=H8:=aj _
abbrev gL(t:Int)(b:NI)(t1:NI)(w:NI):=(((),((),((),(t,())))),(b,(t1,(w,()))))
abbrev qQ(t:NI)(w:NI):=(((),((),())),(t,(w,())))
abbrev CS:Type:=(Z0D×(NI×Z06))
def gM:CS→Option (CS⊕(Z0k×Z06)):=fun x=>
 let t:=x.1.2.2.2.1
 let b:=x.2.1
 let t1:=x.2.2.1
 let w:=x.2.2.2.1
 bif (decide (t<16))then(
 bif (inb (i64.wrap (4*t)) 64)then(
 bif (inb (i64.wrap ((i64.wrap (4*t))+1)) 64)then(
 let t2:=(ak .or .u32 (ig .u32 (u32.wrap (b (Int.toNat (i64.wrap (4*t))))) 24) (ig .u32 (u32.wrap (b (Int.toNat (i64.wrap ((i64.wrap (4*t))+1))))) 16))
 bif (inb (i64.wrap ((i64.wrap (4*t))+2)) 64)then(
 let t3:=(ak .or .u32 t2 (ig .u32 (u32.wrap (b (Int.toNat (i64.wrap ((i64.wrap (4*t))+2))))) 8))
 bif (inb (i64.wrap ((i64.wrap (4*t))+3)) 64)then(
 let t4:=(ak .or .u32 t3 (u32.wrap (b (Int.toNat (i64.wrap ((i64.wrap (4*t))+3))))))
 bif (inb t 64)then(
 some (.inl (((),((),((),((i64.wrap (t+1)),())))),(b,(t1,((upd w (Int.toNat t) t4),()))))))
 else(
 none))
 else(
 none))
 else(
 none))
 else(
 none))
 else(
 none))
 else(
 some (.inr (((),((),())),(t1,(w,())))))
abbrev gN(k:Int)(t:NI)(w:NI):=(((),((),(k,()))),(t,(w,())))
abbrev qR(t:NI)(w:NI):=(((),((),())),(t,(w,())))
abbrev CU:Type:=(Z0e×Z06)
def gQ:CU→Option (CU⊕(Z0k×Z06)):=fun x=>
 let k:=x.1.2.2.1
 let t:=x.2.1
 let w:=x.2.2.1
 bif (decide (k<64))then(
 bif (inb (i64.wrap (k-15)) 64)then(
 bif (inb (i64.wrap (k-2)) 64)then(
 match(fE (w (Int.toNat (i64.wrap (k-15)))) 7)with
 |none=>none
 |some r=>(
 match(fE (w (Int.toNat (i64.wrap (k-15)))) 18)with
 |none=>none
 |some r1=>(
 let t1:=(ak .xor .u32 (ak .xor .u32 r r1) (bH .u32 (w (Int.toNat (i64.wrap (k-15)))) 3))
 match(fE (w (Int.toNat (i64.wrap (k-2)))) 17)with
 |none=>none
 |some r2=>(
 match(fE (w (Int.toNat (i64.wrap (k-2)))) 19)with
 |none=>none
 |some r3=>(
 let t2:=(ak .xor .u32 (ak .xor .u32 r2 r3) (bH .u32 (w (Int.toNat (i64.wrap (k-2)))) 10))
 bif (inb (i64.wrap (k-16)) 64)then(
 bif (inb (i64.wrap (k-7)) 64)then(
 let t3:=(u32.wrap ((u32.wrap ((w (Int.toNat (i64.wrap (k-16))))+t1))+(w (Int.toNat (i64.wrap (k-7))))))
 bif (inb k 64)then(
 some (.inl (((),((),((i64.wrap (k+1)),()))),(t,((upd w (Int.toNat k) (u32.wrap (t3+t2))),())))))
 else(
 none))
 else(
 none))
 else(
 none))))))
 else(
 none))
 else(
 none))
 else(
 some (.inr (((),((),())),(t,(w,())))))
def BO(b:NI):Option (NI):=
 match(aB gM (((),((),((),(0,())))),(b,((fun _=>0),((fun _=>0),())))))with
 |none=>none
 |some y=>(
 let t:=y.2.1
 let w:=y.2.2.1
 match(aB gQ (((),((),(16,()))),(t,(w,()))))with
 |none=>none
 |some y1=>(
 let t1:=y1.2.1
 let w1:=y1.2.2.1
 some w1))
def yP:=veil BO
theorem ER:yP=BO:=aj _
abbrev jJ(t:Int)(v:NI)(t1:NI)(k:NI)(w:NI)(x1:NI):=(((),((),((),((),((),(t,())))))),(v,(t1,(k,(w,(x1,()))))))
abbrev xL(v:NI)(t:NI)(x1:NI):=(((),((),((),()))),(v,(t,(x1,()))))
abbrev JZ:Type:=(Z0K×(NI×Z0w))
def jK:JZ→Option (JZ⊕((Unit×Z0k)×(NI×Z06))):=fun x=>
 let t:=x.1.2.2.2.2.2.1
 let v:=x.2.1
 let t1:=x.2.2.1
 let k:=x.2.2.2.1
 let w:=x.2.2.2.2.1
 let x1:=x.2.2.2.2.2.1
 bif (decide (t<64))then(
 let t2:=(ak .and .u32 (x1 4) (ak .xor .u32 (x1 5) (x1 6)))
 let t3:=(ak .and .u32 (x1 2) (ak .or .u32 (x1 0) (x1 1)))
 match(fE (x1 4) 6)with
 |none=>none
 |some r=>(
 match(fE (x1 4) 11)with
 |none=>none
 |some r1=>(
 match(fE (x1 4) 25)with
 |none=>none
 |some r2=>(
 let t4:=(u32.wrap ((u32.wrap ((x1 7)+(ak .xor .u32 (ak .xor .u32 r r1) r2)))+(ak .xor .u32 (x1 6) t2)))
 bif (inb t 64)then(
 bif (inb t 64)then(
 match(fE (x1 0) 2)with
 |none=>none
 |some r3=>(
 match(fE (x1 0) 13)with
 |none=>none
 |some r4=>(
 match(fE (x1 0) 22)with
 |none=>none
 |some r5=>(
 let t5:=(u32.wrap ((ak .xor .u32 (ak .xor .u32 r3 r4) r5)+(ak .or .u32 (ak .and .u32 (x1 0) (x1 1)) t3)))
 let t6:=(u32.wrap ((x1 3)+(u32.wrap ((u32.wrap (t4+(k (Int.toNat t))))+(w (Int.toNat t))))))
 let t7:=(u32.wrap ((u32.wrap ((u32.wrap (t4+(k (Int.toNat t))))+(w (Int.toNat t))))+t5))
 some (.inl (((),((),((),((),((),((i64.wrap (t+1)),())))))),(v,(t1,(k,(w,((upd (upd (sj x1 1 7 (fun j=>x1 (0+j))) 4 t6) 0 t7),())))))))))))
 else(
 none))
 else(
 none)))))
 else(
 some (.inr (((),((),((),()))),(v,(t1,(x1,()))))))
abbrev qh(t:Int)(v:NI)(t1:NI)(x1:NI):=(((),((),((),(t,())))),(v,(t1,(x1,()))))
abbrev xM(t:NI)(x1:NI):=(((),((),())),(t,(x1,())))
abbrev K4:Type:=(Z0D×(NI×Z06))
def mh:K4→Option (K4⊕(Z0k×Z06)):=fun x=>
 let t:=x.1.2.2.2.1
 let v:=x.2.1
 let t1:=x.2.2.1
 let x1:=x.2.2.2.1
 bif (decide (t<8))then(
 bif (inb t 8)then(
 bif (inb t 8)then(
 bif (inb t 8)then(
 some (.inl (((),((),((),((i64.wrap (t+1)),())))),(v,(t1,((upd x1 (Int.toNat t) (u32.wrap ((x1 (Int.toNat t))+(v (Int.toNat t))))),()))))))
 else(
 none))
 else(
 none))
 else(
 none))
 else(
 some (.inr (((),((),())),(t1,(x1,())))))
def KZ(v:NI)(b:NI):Option (NI):=
 match qg with
 |none=>none
 |some r=>(
 match(yP b)with
 |none=>none
 |some r1=>(
 match(aB jK (((),((),((),((),((),(0,())))))),(v,((fun _=>0),(r,(r1,(v,())))))))with
 |none=>none
 |some y=>(
 let v1:=y.2.1
 let t:=y.2.2.1
 let x:=y.2.2.2.1
 match(aB mh (((),((),((),(0,())))),(v1,(t,(x,())))))with
 |none=>none
 |some y1=>(
 let t1:=y1.2.1
 let x1:=y1.2.2.1
 some x1))))
def CV:=veil KZ
theorem Nn:CV=KZ:=aj _
abbrev dJ(s:ByteArray)(h:Z0a):=(((),(s,())),(h,()))
abbrev wX(h:Z0a):=(((),()),(h,()))
abbrev zH:Type:=((Unit×(ByteArray×Unit))×(Z0a×Unit))
def dK:zH→Option (zH⊕(Z05×(Z0a×Unit))):=fun x=>
 let s:=x.1.2.1
 let h:=x.2.1
 bif (!(sEq s (ByteArray.mk #[])))then(
 bif ((decide (0≤(Int.tmod h.2.2.2 64)))&&(decide ((Int.tmod h.2.2.2 64)≤64)))then(
 bif ((Nat.ble (64-(Int.toNat (Int.tmod h.2.2.2 64))) 0)||(Nat.ble (ByteArray.size s) 0))then(
 bif (decide (0≤(((ByteArray.size s):Nat):Int)))then(
 bif ((Int.tmod (i64.wrap (h.2.2.2+0)) 64)==0)then(
 match(CV h.2.1 h.2.2.1)with
 |none=>none
 |some r=>(
 some (.inl (((),((ByteArray.extract s 0 (ByteArray.size s)),())),((h.1,(r,(h.2.2.1,(i64.wrap (h.2.2.2+0))))),())))))
 else(
 some (.inl (((),((ByteArray.extract s 0 (ByteArray.size s)),())),((h.1,(h.2.1,(h.2.2.1,(i64.wrap (h.2.2.2+0))))),())))))
 else(
 none))
 else(
 bif ((decide (0≤(((min (ByteArray.size s) (64-(Int.toNat (Int.tmod h.2.2.2 64)))):Nat):Int)))&&(decide ((((min (ByteArray.size s) (64-(Int.toNat (Int.tmod h.2.2.2 64)))):Nat):Int)≤(((ByteArray.size s):Nat):Int))))then(
 let t:=(ByteArray.extract s (Int.toNat (((min (ByteArray.size s) (64-(Int.toNat (Int.tmod h.2.2.2 64)))):Nat):Int)) (ByteArray.size s))
 let t1:=(i64.wrap (h.2.2.2+(((min (ByteArray.size s) (64-(Int.toNat (Int.tmod h.2.2.2 64)))):Nat):Int)))
 bif ((Int.tmod t1 64)==0)then(
 match(CV h.2.1 (sj h.2.2.1 (Int.toNat (Int.tmod h.2.2.2 64)) (min (ByteArray.size s) (64-(Int.toNat (Int.tmod h.2.2.2 64)))) (fun i=>(((s).data.toList.getD i 0).toNat:Int))))with
 |none=>none
 |some r1=>(
 some (.inl (((),(t,())),((h.1,(r1,((sj h.2.2.1 (Int.toNat (Int.tmod h.2.2.2 64)) (min (ByteArray.size s) (64-(Int.toNat (Int.tmod h.2.2.2 64)))) (fun i=>(((s).data.toList.getD i 0).toNat:Int))),t1))),())))))
 else(
 some (.inl (((),(t,())),((h.1,(h.2.1,((sj h.2.2.1 (Int.toNat (Int.tmod h.2.2.2 64)) (min (ByteArray.size s) (64-(Int.toNat (Int.tmod h.2.2.2 64)))) (fun i=>(((s).data.toList.getD i 0).toNat:Int))),t1))),())))))
 else(
 none)))
 else(
 none))
 else(
 some (.inr (((),()),(h,()))))
abbrev qU(h:Z0a):=((),(h,()))
def xO(s:ByteArray)(h:Z0a):Option ((Unit×(Z0a×Unit))):=
 bif (!h.1)then(
 some ((),(h,())))
 else(
 match(aB dK (((),(s,())),(h,())))with
 |none=>none
 |some y=>(
 let h1:=y.2.1
 some ((),(h1,()))))
def iV:=veil xO
theorem AR:iV=xO:=aj _
abbrev ko(h:Z0a)(c:Z0a):=((h,((),())),(c,()))
abbrev qV(h:Z0a)(c:Z0a):=((h,((),())),(c,()))
abbrev CW:Type:=((Z0a×Z05)×(Z0a×Unit))
def iP:CW→Option (CW⊕((Z0a×Z05)×(Z0a×Unit))):=fun x=>
 let h:=x.1.1
 let c:=x.2.1
 bif ((Int.tmod c.2.2.2 64) !=56)then(
 match(iV (ByteArray.mk #[0]) c)with
 |none=>none
 |some y=>(
 let o:=y.2.1
 some (.inl ((h,((),())),(o,())))))
 else(
 some (.inr ((h,((),())),(c,()))))
abbrev kr(h:Z0a)(t:Int)(c:Z0a)(last:NI):=((h,((),((),(t,())))),(c,(last,())))
abbrev qW(c:Z0a)(last:NI):=(((),((),())),(c,(last,())))
abbrev CX:Type:=((Z0a×Z0e)×(Z0a×(NI×Unit)))
def iQ:CX→Option (CX⊕(Z0k×(Z0a×(NI×Unit)))):=fun x=>
 let h:=x.1.1
 let t:=x.1.2.2.2.1
 let c:=x.2.1
 let last:=x.2.2.1
 bif (decide (t<8))then(
 bif (decide ((i64.wrap (56-(i64.wrap (8*t))))<0))then(
 none)
 else(
 let t1:=(bH .i64 (i64.wrap (8*h.2.2.2)) (i64.wrap (56-(i64.wrap (8*t)))))
 bif (inb t 8)then(
 some (.inl ((h,((),((),((i64.wrap (t+1)),())))),(c,((upd last (Int.toNat t) (u8.wrap t1)),())))))
 else(
 none)))
 else(
 some (.inr (((),((),())),(c,(last,())))))
abbrev ku(nout:Nat)(out:Nat→Int)(t:NI)(t1:Int):=(((nout,out),(t,(t1,()))),())
abbrev qX(nout:Nat)(out:Nat→Int):=(((nout,out),()),())
abbrev CY:Type:=(((Nat×NI)×(NI×Z04))×Unit)
def iR:CY→Option (CY⊕Z0y):=fun x=>
 let nout:=x.1.1.1
 let out:=x.1.1.2
 let t:=x.1.2.1
 let t1:=x.1.2.2.1
 bif (decide (t1<8))then(
 bif (inb t1 8)then(
 bif ((Nat.ble ((nout+4)*1) 140737488355328)&&(Nat.ble (nout+4) 9223372036854775807))then(
 some (.inl ((((nout+4),(glue nout out (fun j=>(upd (upd (upd (upd (fun _=>0) 0 (u8.wrap (bH .u32 (t (Int.toNat t1)) 24))) 1 (u8.wrap (bH .u32 (t (Int.toNat t1)) 16))) 2 (u8.wrap (bH .u32 (t (Int.toNat t1)) 8))) 3 (u8.wrap (t (Int.toNat t1)))) (0+j)))),(t,((i64.wrap (t1+1)),()))),())))
 else(
 none))
 else(
 none))
 else(
 some (.inr (((nout,out),()),())))
def wE(h:(Option Z0a)):Option Z0v:=
 match h with
 |none=>(
 some (ByteArray.mk #[]))
 |some h0=>(
 bif (!h0.1)then(
 some (ByteArray.mk #[]))
 else(
 match(iV (ByteArray.mk #[128]) h0)with
 |none=>none
 |some y=>(
 let o:=y.2.1
 match(aB iP ((h0,((),())),(o,())))with
 |none=>none
 |some y1=>(
 let h1:=y1.1.1
 let c:=y1.2.1
 match(aB iQ ((h1,((),((),(0,())))),(c,((fun _=>0),()))))with
 |none=>none
 |some y2=>(
 let c1:=y2.2.1
 let last:=y2.2.2.1
 match(iV (bytesOf 8 (fun j=>last (0+j))) c1)with
 |none=>none
 |some y3=>(
 let o1:=y3.2.1
 match(aB iR (((0,(fun _=>0)),(o1.2.1,(0,()))),()))with
 |none=>none
 |some y4=>(
 let nout:=y4.1.1.1
 let out:=y4.1.1.2
 some (bytesOf nout (fun j=>out (0+j))))))))))
def yQ:=veil wE
theorem ES:yQ=wE:=aj _
def Uy(s:ByteArray):Option Z0v:=
 match OL with
 |none=>none
 |some y=>(
 let o:=y.2.1
 match(iV s o)with
 |none=>none
 |some y1=>(
 let o1:=y1.2.1
 match(yQ (some o1))with
 |none=>none
 |some r=>(
 some r)))
def Np:=veil Uy
theorem Uz:Np=Uy:=aj _
open Go.IntKind (i64 u64 u32 u8)
abbrev gT(ns:Nat)(s:Nat→(SlV NI))(t:Int)(t1:Int)(no:Nat)(o:Nat→(SlV NI)):=(((ns,s),((),(t,(t1,())))),((no,o),()))
abbrev qY:Type:=((Z04×(Z09×Unit))⊕(Unit×(Z09×Unit)))
abbrev jr(t:Int)(no:Nat)(o:Nat→(SlV NI)):qY:=(.inl ((t,()),((no,o),())))
abbrev wY(no:Nat)(o:Nat→(SlV NI)):qY:=(.inr ((),((no,o),())))
abbrev zI:Type:=((Z09×Z0o)×(Z09×Unit))
def cZ:zI→Option (zI⊕qY):=fun x=>
 let ns:=x.1.1.1
 let s:=x.1.1.2
 let t:=x.1.2.2.1
 let t1:=x.1.2.2.2.1
 let no:=x.2.1.1
 let o:=x.2.1.2
 bif (decide (t1<t))then(
 bif (inb t1 ns)then(
 bif (SlV.isMs (s (Int.toNat t1)))then(
 none)
 else(
 bif (inb 0 no)then(
 bif (SlV.isMs (o 0))then(
 none)
 else(
 bif ((((SlV.len (s (Int.toNat t1))):Nat):Int) !=(((SlV.len (o 0)):Nat):Int))then(
 some (.inr (.inl ((t1,()),((no,o),())))))
 else(
 bif (decide ((((SlV.len (s (Int.toNat t1))):Nat):Int)<1))then(
 some (.inr (.inl ((t1,()),((no,o),())))))
 else(
 bif (decide ((((SlV.len (s (Int.toNat t1))):Nat):Int)>7))then(
 some (.inr (.inl ((t1,()),((no,o),())))))
 else(
 some (.inl (((ns,s),((),(t,((i64.wrap (t1+1)),())))),((no,o),()))))))))
 else(
 none)))
 else(
 none))
 else(
 some (.inr (.inr ((),((no,o),())))))
def Ee(nm:Nat)(m:Nat→(SlV NI)):Option (Bool):=
 match(aB cZ (((nm,m),((),(((nm:Nat):Int),(0,())))),((nm,m),())))with
 |none=>none
 |some y=>(
 match y with
 | .inl y1=>(
 let t:=y1.1.1
 let no:=y1.2.1.1
 let o:=y1.2.1.2
 bif (!(decide (t≥0)))then(
 bif (decide (((no:Nat):Int)≥1))then(
 some (decide (((no:Nat):Int)≤25)))
 else(
 some false))
 else(
 some false))
 | .inr y1=>(
 let no1:=y1.2.1.1
 let o1:=y1.2.1.2
 bif (decide (((no1:Nat):Int)≥1))then(
 some (decide (((no1:Nat):Int)≤25)))
 else(
 some false)))
def AU:=veil Ee
theorem H9:AU=Ee:=aj _
abbrev vo(nt:Nat)(t:Nat→(SlV NI))(t1:Int)(t2:Int)(nt1:Nat)(t3:Nat→NI)(t4:Int)(t5:Int)(b:Unit)(nb:Nat)(b1:NI):=(((),((nt,t),(t1,(t2,((nt1,t3),(t4,(t5,()))))))),((b,(nb,b1)),()))
abbrev zJ(nt:Nat)(t:Nat→(SlV NI))(t1:Int)(t2:Int)(b:Unit)(nb:Nat)(b1:NI):=(((),((nt,t),(t1,(t2,())))),((b,(nb,b1)),()))
abbrev CZ:Type:=((Unit×(Z09×(Int×(Int×(Z0d×(Int×Z04))))))×Z0J)
def iT:CZ→Option (CZ⊕((Unit×(Z09×(Int×Z04)))×Z0J)):=fun x=>
 let nt:=x.1.2.1.1
 let t:=x.1.2.1.2
 let t1:=x.1.2.2.1
 let t2:=x.1.2.2.2.1
 let nt1:=x.1.2.2.2.2.1.1
 let t3:=x.1.2.2.2.2.1.2
 let t4:=x.1.2.2.2.2.2.1
 let t5:=x.1.2.2.2.2.2.2.1
 let b:=x.2.1.1
 let nb:=x.2.1.2.1
 let b1:=x.2.1.2.2
 bif (decide (t5<t4))then(
 bif (inb t5 nt1)then(
 match(Il (t3 (Int.toNat t5)))with
 |none=>none
 |some r=>(
 bif ((Nat.ble ((nb+1)*1) 140737488355328)&&(Nat.ble (nb+1) 9223372036854775807))then(
 bif ((Nat.ble (((nb+1)+(ByteArray.size r))*1) 140737488355328)&&(Nat.ble ((nb+1)+(ByteArray.size r)) 9223372036854775807))then(
 some (.inl (((),((nt,t),(t1,(t2,((nt1,t3),(t4,((i64.wrap (t5+1)),()))))))),((b,(((nb+1)+(ByteArray.size r)),(glue (nb+1) (glue nb b1 (fun j=>(upd (fun _=>0) 0 (u8.wrap (((ByteArray.size r):Nat):Int))) (0+j))) (fun i=>(((r).data.toList.getD i 0).toNat:Int))))),()))))
 else(
 none))
 else(
 none)))
 else(
 none))
 else(
 some (.inr (((),((nt,t),(t1,(t2,())))),((b,(nb,b1)),()))))
abbrev vw(nt:Nat)(t:Nat→(SlV NI))(t1:Int)(t2:Int)(b:Unit)(nb:Nat)(b1:NI):=(((),((nt,t),(t1,(t2,())))),((b,(nb,b1)),()))
abbrev zK(b:Unit)(nb:Nat)(b1:NI):=(((),()),((b,(nb,b1)),()))
abbrev D5:Type:=((Unit×(Z09×(Int×Z04)))×Z0J)
def gU:D5→Option (D5⊕(Z05×Z0J)):=fun x=>
 let nt:=x.1.2.1.1
 let t:=x.1.2.1.2
 let t1:=x.1.2.2.1
 let t2:=x.1.2.2.2.1
 let b:=x.2.1.1
 let nb:=x.2.1.2.1
 let b1:=x.2.1.2.2
 bif (decide (t2<t1))then(
 bif (inb t2 nt)then(
 bif (SlV.isMs (t (Int.toNat t2)))then(
 none)
 else(
 match(aB iT (((),((nt,t),(t1,(t2,(((SlV.len (t (Int.toNat t2))),(SlV.fn ((fun _=>0):NI) (t (Int.toNat t2)))),((((SlV.len (t (Int.toNat t2))):Nat):Int),(0,()))))))),((b,(nb,b1)),())))with
 |none=>none
 |some y=>(
 let nt1:=y.1.2.1.1
 let t3:=y.1.2.1.2
 let t4:=y.1.2.2.1
 let t5:=y.1.2.2.2.1
 let b2:=y.2.1.1
 let nb1:=y.2.1.2.1
 let b3:=y.2.1.2.2
 some (.inl (((),((nt1,t3),(t4,((i64.wrap (t5+1)),())))),((b2,(nb1,b3)),()))))))
 else(
 none))
 else(
 some (.inr (((),()),((b,(nb,b1)),()))))
def BP(nm:Nat)(m:Nat→(SlV NI)):Option Z0v:=
 match(AU nm m)with
 |none=>none
 |some r=>(
 bif (!r)then(
 some (ByteArray.mk #[]))
 else(
 bif (inb 0 nm)then(
 bif (SlV.isMs (m 0))then(
 none)
 else(
 match(aB gU (((),((nm,m),(((nm:Nat):Int),(0,())))),(((),(2,(glue 1 (glue 0 (fun _=>0) (fun j=>(upd (fun _=>0) 0 (u8.wrap ((nm:Nat):Int))) (0+j))) (fun j=>(upd (fun _=>0) 0 (u8.wrap (((SlV.len (m 0)):Nat):Int))) (0+j))))),())))with
 |none=>none
 |some y=>(
 let b:=y.2.1.1
 let nb:=y.2.1.2.1
 let b1:=y.2.1.2.2
 bif ((decide (((nb:Nat):Int)=((nb:Nat):Int)))&&(Nat.ble nb 9223372036854775807))then(
 some (bytesOf nb b1))
 else(
 none))))
 else(
 none)))
def sS:=veil BP
theorem ET:sS=BP:=aj _
def BQ(t:Int):Option (Bool):=
 bif (decide (t≥1))then(
 some (decide (t≤2)))
 else(
 some false)
def sU:=veil BQ
theorem EU:sU=BQ:=aj _
abbrev jv(ns:Nat)(s:Nat→(SlV NI))(t:Int)(t1:Int)(o:GR)(o1:Int):=(((ns,s),((),(t,(t1,())))),(o,(o1,())))
abbrev sV:Type:=((Z04×(GR×Z04))⊕(Unit×(GR×Z04)))
abbrev yc(t:Int)(o:GR)(o1:Int):sV:=(.inl ((t,()),(o,(o1,()))))
abbrev yg(o:GR)(o1:Int):sV:=(.inr ((),(o,(o1,()))))
abbrev AV:Type:=((Z09×Z0o)×(GR×Z04))
def dQ:AV→Option (AV⊕sV):=fun x=>
 let ns:=x.1.1.1
 let s:=x.1.1.2
 let t:=x.1.2.2.1
 let t1:=x.1.2.2.2.1
 let o:=x.2.1
 let o1:=x.2.2.1
 bif (decide (t1<t))then(
 bif (inb t1 ns)then(
 bif (SlV.isMs (s (Int.toNat t1)))then(
 none)
 else(
 bif ((((SlV.len (s (Int.toNat t1))):Nat):Int) !=(i64.wrap (o1+1)))then(
 some (.inr (.inl ((t1,()),(o,(o1,()))))))
 else(
 match(vg (some o) (SlV.len (s (Int.toNat t1))) (SlV.fn ((fun _=>0):NI) (s (Int.toNat t1))))with
 |none=>none
 |some r=>(
 bif (!r)then(
 some (.inr (.inl ((t1,()),(o,(o1,()))))))
 else(
 some (.inl (((ns,s),((),(t,((i64.wrap (t1+1)),())))),(o,(o1,())))))))))
 else(
 none))
 else(
 some (.inr (.inr ((),(o,(o1,()))))))
def AX(g:(Option GR))(t:Int)(nm:Nat)(m:Nat→(SlV NI)):Option (Bool):=
 match g with
 |none=>(
 none)
 |some g0=>(
 match(aB dQ (((nm,m),((),(((nm:Nat):Int),(0,())))),(g0,(t,()))))with
 |none=>none
 |some y=>(
 match y with
 | .inl y1=>(
 let t1:=y1.1.1
 let o:=y1.2.1
 let o1:=y1.2.2.1
 bif (!(decide (t1≥0)))then(
 match(sU o1)with
 |none=>none
 |some r=>(
 bif r then(
 bif (decide (((nm:Nat):Int)≥1))then(
 some (decide (((nm:Nat):Int)≤25)))
 else(
 some false))
 else(
 some false)))
 else(
 some false))
 | .inr y1=>(
 let o2:=y1.2.1
 let o3:=y1.2.2.1
 match(sU o3)with
 |none=>none
 |some r1=>(
 bif r1 then(
 bif (decide (((nm:Nat):Int)≥1))then(
 some (decide (((nm:Nat):Int)≤25)))
 else(
 some false))
 else(
 some false)))))
def nK:=veil AX
theorem K5:nK=AX:=aj _
abbrev oG(g:GR)(nt:Nat)(t:Nat→(SlV NI))(t1:Int)(t2:Int)(p:Int)(np:Nat)(p1:Nat→NI):=((g,((),((nt,t),(t1,(t2,()))))),((p,(np,p1)),()))
abbrev vB:Type:=(Z0t⊕Z05)
abbrev L6(t:Bool):vB:=(.inl ((t,()),()))
abbrev L8:vB:=(.inr ((),()))
abbrev D6:Type:=((GR×(Unit×(Z09×(Int×Z04))))×((Int×Z0d)×Unit))
def gV:D6→Option (D6⊕vB):=fun x=>
 let g:=x.1.1
 let nt:=x.1.2.2.1.1
 let t:=x.1.2.2.1.2
 let t1:=x.1.2.2.2.1
 let t2:=x.1.2.2.2.2.1
 let p:=x.2.1.1
 let np:=x.2.1.2.1
 let p1:=x.2.1.2.2
 bif (decide (t2<t1))then(
 bif (inb t2 nt)then(
 bif (SlV.isMs (t (Int.toNat t2)))then(
 none)
 else(
 bif (inb t2 np)then(
 match(yO (some g) (SlV.len (t (Int.toNat t2))) (SlV.fn ((fun _=>0):NI) (t (Int.toNat t2))) (p,(p1 (Int.toNat t2))))with
 |none=>none
 |some r=>(
 bif (!r)then(
 some (.inr (.inl ((false,()),()))))
 else(
 some (.inl ((g,((),((nt,t),(t1,((i64.wrap (t2+1)),()))))),((p,(np,p1)),()))))))
 else(
 none)))
 else(
 none))
 else(
 some (.inr (.inr ((),()))))
def wF(g:(Option GR))(nm:Nat)(m:Nat→(SlV NI))(p:(Int×Z0d)):Option (Bool):=
 match g with
 |none=>(
 bif (decide (((nm:Nat):Int)<1))then(
 some false)
 else(
 bif (decide (((nm:Nat):Int)>25))then(
 some false)
 else(
 bif (((p.2.1:Nat):Int) !=((nm:Nat):Int))then(
 some false)
 else(
 none))))
 |some g0=>(
 bif (decide (((nm:Nat):Int)<1))then(
 some false)
 else(
 bif (decide (((nm:Nat):Int)>25))then(
 some false)
 else(
 bif (((p.2.1:Nat):Int) !=((nm:Nat):Int))then(
 some false)
 else(
 match(aB gV ((g0,((),((nm,m),(((nm:Nat):Int),(0,()))))),((p.1,(p.2.1,p.2.2)),())))with
 |none=>none
 |some y=>(
 match y with
 | .inl y1=>(
 let t:=y1.1.1
 some t)
 | .inr y1=>(
 some true))))))
def eB:=veil wF
theorem EW:eB=wF:=aj _
def zL(nm:Nat)(m:Nat→(SlV NI)):Option Z0v:=
 match(sS nm m)with
 |none=>none
 |some r=>(
 match(Np r)with
 |none=>none
 |some r1=>(
 some r1))
def qj:=veil zL
theorem D7:qj=zL:=aj _
open Go.IntKind (i64 u64 u32 u8)
def OM(s:ByteArray):Option (Bool):=
 bif (decide ((((ByteArray.size s):Nat):Int)≥1))then(
 some (decide ((((ByteArray.size s):Nat):Int)≤8)))
 else(
 some false)
def bM:=veil OM
theorem QD:bM=OM:=aj _
def BR(s:(Int×Int)):Option (Bool):=
 bif (decide (s.1≥1))then(
 bif (decide (s.1≤1099511627776))then(
 bif (decide (s.2≥1))then(
 some (decide (s.2≤4)))
 else(
 some false))
 else(
 some false))
 else(
 some false)
def yR:=veil BR
theorem EX:yR=BR:=aj _
def sW(what:Int)(is_:Bool)(may:Bool)(o:Int)(o1:Bool):Option ((Unit×(Int×Z0c))):=
 bif is_ then(
 bif o1 then(
 some ((),((ak .or .i64 o what),(may,()))))
 else(
 some ((),((ak .or .i64 o what),(false,())))))
 else(
 some ((),(o,(o1,()))))
def cB:=veil sW
theorem yh:cB=sW:=aj _
def BS(m:Z0f):Option (Int×Bool):=
 match(yR m.2.2.2.1)with
 |none=>none
 |some r=>(
 match(cB 1 (!(eqF (.pair (.int .i64) (.int .i64)) m.2.2.2.1 (0,0))) r 0 true)with
 |none=>none
 |some y=>(
 let o:=y.2.1
 let o1:=y.2.2.1
 match(cB 2 (!(sEq m.2.2.2.2.1 (ByteArray.mk #[]))) ((((ByteArray.size m.2.2.2.2.1):Nat):Int)==32) o o1)with
 |none=>none
 |some y1=>(
 let o2:=y1.2.1
 let o3:=y1.2.2.1
 let t:=(i64.wrap (((m.2.2.2.2.2.1.1:Nat):Int)+((m.2.2.2.2.2.2.1:Nat):Int)))
 let t1:=(((m.2.2.2.2.2.2.1:Nat):Int)==((m.2.2.2.2.2.1.1:Nat):Int))
 bif t1 then(
 match(sS m.2.2.2.2.2.1.1 m.2.2.2.2.2.1.2)with
 |none=>none
 |some r1=>(
 match(cB 4 (decide (t>0)) (!(sEq r1 (ByteArray.mk #[]))) o2 o3)with
 |none=>none
 |some y2=>(
 let o4:=y2.2.1
 let o5:=y2.2.2.1
 bif (decide (m.2.1≥1))then(
 match(cB 8 (m.2.1 !=0) (decide (m.2.1≤1048576)) o4 o5)with
 |none=>none
 |some y3=>(
 let o6:=y3.2.1
 let o7:=y3.2.2.1
 some (o6,o7)))
 else(
 match(cB 8 (m.2.1 !=0) false o4 o5)with
 |none=>none
 |some y4=>(
 let o8:=y4.2.1
 let o9:=y4.2.2.1
 some (o8,o9))))))
 else(
 match(cB 4 (decide (t>0)) false o2 o3)with
 |none=>none
 |some y5=>(
 let o10:=y5.2.1
 let o11:=y5.2.2.1
 bif (decide (m.2.1≥1))then(
 match(cB 8 (m.2.1 !=0) (decide (m.2.1≤1048576)) o10 o11)with
 |none=>none
 |some y6=>(
 let o12:=y6.2.1
 let o13:=y6.2.2.1
 some (o12,o13)))
 else(
 match(cB 8 (m.2.1 !=0) false o10 o11)with
 |none=>none
 |some y7=>(
 let o14:=y7.2.1
 let o15:=y7.2.2.1
 some (o14,o15))))))))
def sZ:=veil BS
theorem EY:sZ=BS:=aj _
def He(m:Z0f):Option (Int):=
 match(sZ (m.1,(m.2.1,(m.2.2.1,(m.2.2.2.1,(m.2.2.2.2.1,((m.2.2.2.2.2.1.1,m.2.2.2.2.2.1.2),(m.2.2.2.2.2.2.1,m.2.2.2.2.2.2.2))))))))with
 |none=>none
 |some r=>(
 bif (m.1==1)then(
 bif (m.1==1)then(
 bif r.2 then(
 bif (!(r.1==8))then(
 some 1)
 else(
 match(bM m.2.2.1)with
 |none=>none
 |some r1=>(
 bif (!r1)then(
 some 1)
 else(
 some 0))))
 else(
 some 1))
 else(
 bif (m.1==3)then(
 bif r.2 then(
 bif (r.1==8)then(
 match(bM m.2.2.1)with
 |none=>none
 |some r2=>(
 bif (!r2)then(
 some 1)
 else(
 some 0)))
 else(
 bif (!((ak .andNot .i64 r.1 4)==11))then(
 some 1)
 else(
 match(bM m.2.2.1)with
 |none=>none
 |some r3=>(
 bif (!r3)then(
 some 1)
 else(
 some 0)))))
 else(
 some 1))
 else(
 bif (m.1==4)then(
 bif (m.1==4)then(
 bif r.2 then(
 bif (!(r.1==13))then(
 some 1)
 else(
 match(bM m.2.2.1)with
 |none=>none
 |some r4=>(
 bif (!r4)then(
 some 1)
 else(
 some 0))))
 else(
 some 1))
 else(
 bif (m.1==5)then(
 bif (m.1==5)then(
 bif r.2 then(
 bif (!(r.1==3))then(
 some 1)
 else(
 match(bM m.2.2.1)with
 |none=>none
 |some r5=>(
 bif (!r5)then(
 some 1)
 else(
 some 0))))
 else(
 some 1))
 else(
 bif (m.1==7)then(
 bif r.2 then(
 bif (!(r.1==9))then(
 some 1)
 else(
 match(bM m.2.2.1)with
 |none=>none
 |some r6=>(
 bif (!r6)then(
 some 1)
 else(
 some 0))))
 else(
 some 1))
 else(
 some 1)))
 else(
 bif (m.1==6)then(
 bif r.2 then(
 bif (!(r.1==3))then(
 some 1)
 else(
 match(bM m.2.2.1)with
 |none=>none
 |some r7=>(
 bif (!r7)then(
 some 1)
 else(
 some 0))))
 else(
 some 1))
 else(
 bif (m.1==7)then(
 bif r.2 then(
 bif (!(r.1==9))then(
 some 1)
 else(
 match(bM m.2.2.1)with
 |none=>none
 |some r8=>(
 bif (!r8)then(
 some 1)
 else(
 some 0))))
 else(
 some 1))
 else(
 some 1)))))
 else(
 bif (m.1==8)then(
 bif r.2 then(
 bif (!(r.1==13))then(
 some 1)
 else(
 match(bM m.2.2.1)with
 |none=>none
 |some r9=>(
 bif (!r9)then(
 some 1)
 else(
 some 0))))
 else(
 some 1))
 else(
 bif (m.1==5)then(
 bif (m.1==5)then(
 bif r.2 then(
 bif (!(r.1==3))then(
 some 1)
 else(
 match(bM m.2.2.1)with
 |none=>none
 |some r10=>(
 bif (!r10)then(
 some 1)
 else(
 some 0))))
 else(
 some 1))
 else(
 bif (m.1==7)then(
 bif r.2 then(
 bif (!(r.1==9))then(
 some 1)
 else(
 match(bM m.2.2.1)with
 |none=>none
 |some r11=>(
 bif (!r11)then(
 some 1)
 else(
 some 0))))
 else(
 some 1))
 else(
 some 1)))
 else(
 bif (m.1==6)then(
 bif r.2 then(
 bif (!(r.1==3))then(
 some 1)
 else(
 match(bM m.2.2.1)with
 |none=>none
 |some r12=>(
 bif (!r12)then(
 some 1)
 else(
 some 0))))
 else(
 some 1))
 else(
 bif (m.1==7)then(
 bif r.2 then(
 bif (!(r.1==9))then(
 some 1)
 else(
 match(bM m.2.2.1)with
 |none=>none
 |some r13=>(
 bif (!r13)then(
 some 1)
 else(
 some 0))))
 else(
 some 1))
 else(
 some 1))))))))
 else(
 bif (m.1==2)then(
 bif r.2 then(
 bif (!(r.1==8))then(
 some 1)
 else(
 match(bM m.2.2.1)with
 |none=>none
 |some r14=>(
 bif (!r14)then(
 some 1)
 else(
 some 0))))
 else(
 some 1))
 else(
 bif (m.1==3)then(
 bif r.2 then(
 bif (r.1==8)then(
 match(bM m.2.2.1)with
 |none=>none
 |some r15=>(
 bif (!r15)then(
 some 1)
 else(
 some 0)))
 else(
 bif (!((ak .andNot .i64 r.1 4)==11))then(
 some 1)
 else(
 match(bM m.2.2.1)with
 |none=>none
 |some r16=>(
 bif (!r16)then(
 some 1)
 else(
 some 0)))))
 else(
 some 1))
 else(
 bif (m.1==4)then(
 bif (m.1==4)then(
 bif r.2 then(
 bif (!(r.1==13))then(
 some 1)
 else(
 match(bM m.2.2.1)with
 |none=>none
 |some r17=>(
 bif (!r17)then(
 some 1)
 else(
 some 0))))
 else(
 some 1))
 else(
 bif (m.1==5)then(
 bif (m.1==5)then(
 bif r.2 then(
 bif (!(r.1==3))then(
 some 1)
 else(
 match(bM m.2.2.1)with
 |none=>none
 |some r18=>(
 bif (!r18)then(
 some 1)
 else(
 some 0))))
 else(
 some 1))
 else(
 bif (m.1==7)then(
 bif r.2 then(
 bif (!(r.1==9))then(
 some 1)
 else(
 match(bM m.2.2.1)with
 |none=>none
 |some r19=>(
 bif (!r19)then(
 some 1)
 else(
 some 0))))
 else(
 some 1))
 else(
 some 1)))
 else(
 bif (m.1==6)then(
 bif r.2 then(
 bif (!(r.1==3))then(
 some 1)
 else(
 match(bM m.2.2.1)with
 |none=>none
 |some r20=>(
 bif (!r20)then(
 some 1)
 else(
 some 0))))
 else(
 some 1))
 else(
 bif (m.1==7)then(
 bif r.2 then(
 bif (!(r.1==9))then(
 some 1)
 else(
 match(bM m.2.2.1)with
 |none=>none
 |some r21=>(
 bif (!r21)then(
 some 1)
 else(
 some 0))))
 else(
 some 1))
 else(
 some 1)))))
 else(
 bif (m.1==8)then(
 bif r.2 then(
 bif (!(r.1==13))then(
 some 1)
 else(
 match(bM m.2.2.1)with
 |none=>none
 |some r22=>(
 bif (!r22)then(
 some 1)
 else(
 some 0))))
 else(
 some 1))
 else(
 bif (m.1==5)then(
 bif (m.1==5)then(
 bif r.2 then(
 bif (!(r.1==3))then(
 some 1)
 else(
 match(bM m.2.2.1)with
 |none=>none
 |some r23=>(
 bif (!r23)then(
 some 1)
 else(
 some 0))))
 else(
 some 1))
 else(
 bif (m.1==7)then(
 bif r.2 then(
 bif (!(r.1==9))then(
 some 1)
 else(
 match(bM m.2.2.1)with
 |none=>none
 |some r24=>(
 bif (!r24)then(
 some 1)
 else(
 some 0))))
 else(
 some 1))
 else(
 some 1)))
 else(
 bif (m.1==6)then(
 bif r.2 then(
 bif (!(r.1==3))then(
 some 1)
 else(
 match(bM m.2.2.1)with
 |none=>none
 |some r25=>(
 bif (!r25)then(
 some 1)
 else(
 some 0))))
 else(
 some 1))
 else(
 bif (m.1==7)then(
 bif r.2 then(
 bif (!(r.1==9))then(
 some 1)
 else(
 match(bM m.2.2.1)with
 |none=>none
 |some r26=>(
 bif (!r26)then(
 some 1)
 else(
 some 0))))
 else(
 some 1))
 else(
 some 1)))))))))
def vC:=veil He
theorem K6:vC=He:=aj _
open Go.IntKind (i64 u64 u32 u8)
abbrev WH:Type:=((Z0E×Unit)⊕(Z0E×(SP×Unit)))
abbrev EZ(clients:Int)(o:Int)(o1:Int)(no:Nat)(o2:Nat→ByteArray)(o3:List (Int×Int)):WH:=(.inr (((),(clients,())),((o,(o1,((no,o2),o3))),())))
def Ef(servers:Int)(clients:Int):Option (((Z0E×Unit)⊕(Z0E×(SP×Unit)))):=
 bif (decide (servers<1))then(
 some (.inl (((),(1,())),())))
 else(
 bif (decide (servers>7))then(
 some (.inl (((),(1,())),())))
 else(
 bif (decide (clients<1))then(
 some (.inl (((),(1,())),())))
 else(
 bif (decide (clients>4))then(
 some (.inl (((),(1,())),())))
 else(
 some (.inr (((),(0,())),((servers,(clients,((0,(fun _=>ByteArray.empty)),([]:List (Int×Int))))),())))))))
def wZ:=veil Ef
theorem Hf:wZ=Ef:=aj _
def pE(a:ByteArray)(b:ByteArray):Option (Int):=
 match(zq a b)with
 |none=>none
 |some r=>(
 some r)
def iW:=veil pE
theorem uo:iW=pE:=aj _
abbrev aH(nx:Nat)(x1:Nat→ByteArray)(target:ByteArray)(n:Int)(i:Int)(j:Int):=(((nx,x1),(target,((),(n,(i,(j,())))))),())
abbrev aT(nx:Nat)(x1:Nat→ByteArray)(target:ByteArray)(n:Int)(i:Int):=(((nx,x1),(target,((),(n,(i,()))))),())
abbrev dG:Type:=((Z0r×(ByteArray×(Unit×Z0u)))×Unit)
def aI:dG→Option (dG⊕((Z0r×(ByteArray×Z0o))×Unit)):=fun x=>
 let nx:=x.1.1.1
 let x1:=x.1.1.2
 let target:=x.1.2.1
 let n:=x.1.2.2.2.1
 let i:=x.1.2.2.2.2.1
 let j:=x.1.2.2.2.2.2.1
 bif (decide (i<j))then(
 bif (inb (i64.wrap (bH .u64 (u64.wrap (i64.wrap (i+j))) 1)) nx)then(
 match(iW (x1 (Int.toNat (i64.wrap (bH .u64 (u64.wrap (i64.wrap (i+j))) 1)))) target)with
 |none=>none
 |some r=>(
 bif (decide (r<0))then(
 some (.inl (((nx,x1),(target,((),(n,((i64.wrap ((i64.wrap (bH .u64 (u64.wrap (i64.wrap (i+j))) 1))+1)),(j,())))))),())))
 else(
 some (.inl (((nx,x1),(target,((),(n,(i,((i64.wrap (bH .u64 (u64.wrap (i64.wrap (i+j))) 1)),())))))),())))))
 else(
 none))
 else(
 some (.inr (((nx,x1),(target,((),(n,(i,()))))),())))
def bE(nx:Nat)(x:Nat→ByteArray)(target:ByteArray):Option (Int×Bool):=
 match(aB aI (((nx,x),(target,((),(((nx:Nat):Int),(0,(((nx:Nat):Int),())))))),()))with
 |none=>none
 |some y=>(
 let nx1:=y.1.1.1
 let x1:=y.1.1.2
 let target1:=y.1.2.1
 let n:=y.1.2.2.2.1
 let i:=y.1.2.2.2.2.1
 bif (decide (i<n))then(
 bif (inb i nx1)then(
 match(iW (x1 (Int.toNat i)) target1)with
 |none=>none
 |some r=>(
 some (i,(r==0))))
 else(
 none))
 else(
 some (i,false)))
def bn:=veil bE
theorem dL:bn=bE:=aj _
def pF(key:ByteArray)(s:Int)(s1:Int)(ns:Nat)(s2:Nat→ByteArray)(s3:List (Int×Int)):Option (((Int×Z0c)×(SP×Unit))):=
 match(bn ns (fun j=>s2 (0+j)) key)with
 |none=>none
 |some r=>(
 some ((r.1,(r.2,())),((s,(s1,((ns,s2),s3))),())))
def lu:=veil pF
theorem uq:lu=pF:=aj _
def tu(s:(Option Z08))(key:ByteArray):Option (Int×Bool):=
 match s with
 |none=>(
 none)
 |some s0=>(
 bif (SlV.isMs s0.2.2.1)then(
 none)
 else(
 match(bn (SlV.len s0.2.2.1) (SlV.fn (ByteArray.empty:ByteArray) s0.2.2.1) key)with
 |none=>none
 |some r=>(
 some (r.1,r.2))))
def vD:=veil tu
theorem Jb:vD=tu:=aj _
def pG(key:ByteArray)(end_:Int)(s:Int)(s1:Int)(ns:Nat)(s2:Nat→ByteArray)(s3:List (Int×Int)):Option (((Int×(Bool×Z04))×(SP×Unit))):=
 match(bM key)with
 |none=>none
 |some r=>(
 bif (!r)then(
 some ((0,(false,(1,()))),((s,(s1,((ns,s2),s3))),())))
 else(
 bif ((kW s s1 end_)==0)then(
 some ((0,(false,(1,()))),((s,(s1,((ns,s2),s3))),())))
 else(
 match(lu key s s1 ns s2 s3)with
 |none=>none
 |some y=>(
 let r1:=y.1.1
 let r2:=y.1.2.1
 let o:=y.2.1.1
 let o1:=y.2.1.2.1
 let no:=y.2.1.2.2.1.1
 let o2:=y.2.1.2.2.1.2
 let o3:=y.2.1.2.2.2
 bif r2 then(
 some ((r1,(false,(0,()))),((o,(o1,((no,o2),o3))),())))
 else(
 bif (decide ((Option.getD (pW (.int .i64) (.int .i64) o3 end_) (0:Int))≥(kW o o1 end_)))then(
 some ((0,(false,(7,()))),((o,(o1,((no,o2),o3))),())))
 else(
 bif (((decide (0≤r1))&&(decide (r1≤((no:Nat):Int))))&&(Nat.ble ((no+1)*16) 140737488355328))then(
 some ((r1,(true,(0,()))),((o,(o1,(((no+1),(Af o2 (Int.toNat r1) key)),(VQ (.int .i64) (.int .i64) o3 end_ (i64.wrap ((Option.getD (pW (.int .i64) (.int .i64) o3 end_) (0:Int))+1)))))),())))
 else(
 none)))))))
def lD:=veil pG
theorem uw:lD=pG:=aj _
def tF(s:(Option Z08))(key:ByteArray)(end_:Int):Option (Int×Bool×Int):=
 match s with
 |none=>(
 match(bM key)with
 |none=>none
 |some r2=>(
 bif (!r2)then(
 some (0,false,1))
 else(
 some (0,false,1))))
 |some s0=>(
 match(bM key)with
 |none=>none
 |some r=>(
 bif (!r)then(
 some (0,false,1))
 else(
 bif ((kW s0.1 s0.2.1 end_)==0)then(
 some (0,false,1))
 else(
 match(vD (some s0) key)with
 |none=>none
 |some r1=>(
 bif r1.2 then(
 some (r1.1,false,0))
 else(
 bif (Option.isSome s0.2.2.2)then(
 none)
 else(
 bif (decide (0≥(kW s0.1 s0.2.1 end_)))then(
 some (0,false,7))
 else(
 bif (Option.isSome s0.2.2.2)then(
 none)
 else(
 none)))))))))
def aX:=veil tF
theorem Jc:aX=tF:=aj _
def jU(s:Int)(s1:Int)(ns:Nat)(s2:Nat→ByteArray)(s3:List (Int×Int)):Option (((Z0r×Unit)×(SP×Unit))):=
 bif (Nat.ble (ns*16) 140737488355328)then(
 some (((ns,(fun j=>s2 (0+j))),()),((s,(s1,((ns,s2),s3))),())))
 else(
 none)
def eG:=veil jU
theorem j5:eG=jU:=aj _
def tH(s:(Option Z08)):Option (Z0r):=
 match s with
 |none=>(
 some (0,(fun _=>ByteArray.empty)))
 |some s0=>(
 bif (SlV.isMs s0.2.2.1)then(
 none)
 else(
 bif (Nat.ble ((SlV.len s0.2.2.1)*16) 140737488355328)then(
 some ((SlV.len s0.2.2.1),(fun j=>(SlV.fn (ByteArray.empty:ByteArray) s0.2.2.1) (0+j))))
 else(
 none)))
def oH:=veil tH
theorem Jd:oH=tH:=aj _
open Go.IntKind (i64 u64 u32 u8)
def xP(x:Int):Option (Bool):=
 some (x !=x)
def tJ:=veil xP
theorem AY:tJ=xP:=aj _
def tK(x:Int)(y:Int):Option (Int):=
 match(tJ x)with
 |none=>none
 |some r=>(
 match(tJ y)with
 |none=>none
 |some r1=>(
 bif r then(
 bif r1 then(
 some 0)
 else(
 some (-1)))
 else(
 bif r1 then(
 some 1)
 else(
 bif (decide (x<y))then(
 some (-1))
 else(
 bif (decide (x>y))then(
 some 1)
 else(
 some 0))))))
def kC:=veil tK
theorem yj:kC=tK:=aj _
abbrev iE(zero:Int)(nt:Nat)(t:Nat→Int)(t1:Int)(t2:Int):=((zero,((nt,t),(t1,(t2,())))),())
abbrev xQ:Type:=(Z0L⊕Z0L)
abbrev mM(t:Int):xQ:=(.inl ((t,()),()))
abbrev tL(zero:Int):xQ:=(.inr ((zero,()),()))
abbrev F3:Type:=((Int×((Nat×NI)×(Int×Z04)))×Unit)
def eD:F3→Option (F3⊕xQ):=fun x=>
 let zero:=x.1.1
 let nt:=x.1.2.1.1
 let t:=x.1.2.1.2
 let t1:=x.1.2.2.1
 let t2:=x.1.2.2.2.1
 bif (decide (t2<t1))then(
 bif (inb t2 nt)then(
 bif ((t (Int.toNat t2)) !=zero)then(
 some (.inr (.inl (((t (Int.toNat t2)),()),()))))
 else(
 some (.inl ((zero,((nt,t),(t1,((i64.wrap (t2+1)),())))),()))))
 else(
 none))
 else(
 some (.inr (.inr ((zero,()),()))))
def Eh(nvals:Nat)(vals:Nat→Int):Option (Int):=
 match(aB eD ((0,((nvals,vals),(((nvals:Nat):Int),(0,())))),()))with
 |none=>none
 |some y=>(
 match y with
 | .inl y1=>(
 let t:=y1.1.1
 some t)
 | .inr y1=>(
 let zero:=y1.1.1
 some zero))
def AZ:=veil Eh
theorem Hg:AZ=Eh:=aj _
open Go.IntKind (i64 u64 u32 u8)
def BU(c:Int):Option (Bool):=
 bif (decide (c≥1))then(
 some (decide (c≤4)))
 else(
 some false)
def Ei:=veil BU
theorem F4:Ei=BU:=aj _
def L9(s:(Int×Int)):Option (Bool):=
 bif (decide (s.1≥1))then(
 bif (decide (s.1≤1099511627776))then(
 match(Ei s.2)with
 |none=>none
 |some r=>(
 some r))
 else(
 some false))
 else(
 some false)
def vE:=veil L9
theorem Nq:vE=L9:=aj _
def zM(a:(Int×Int))(b:(Int×Int)):Option (Int):=
 match(kC a.1 b.1)with
 |none=>none
 |some r=>(
 match(kC a.2 b.2)with
 |none=>none
 |some r1=>(
 match(AZ 2 (fun j=>(upd (upd (fun _=>0) 0 r) 1 r1) (0+j)))with
 |none=>none
 |some r2=>(
 some r2)))
def wG:=veil zM
theorem D8:wG=zM:=aj _
open Go.IntKind (i64 u64 u32 u8)
def qZ(server:Int)(s:(Int×Int))(digest:ByteArray)(v:VT):Option ((Z0c×(VT×Unit))):=
 match(vE s)with
 |none=>none
 |some r=>(
 bif (!r)then(
 some ((false,()),(v,())))
 else(
 bif (decide (server<1))then(
 some ((false,()),(v,())))
 else(
 bif (decide (server>v.1))then(
 some ((false,()),(v,())))
 else(
 bif (decide (s.2<1))then(
 some ((false,()),(v,())))
 else(
 bif (decide (s.2>4))then(
 some ((false,()),(v,())))
 else(
 bif (decide ((ak .and .i64 s.1 1)<0))then(
 some ((false,()),(v,())))
 else(
 bif (decide ((ak .and .i64 s.1 1)>1))then(
 some ((false,()),(v,())))
 else(
 bif (inb (i64.wrap (server-1)) 7)then(
 bif (inb (i64.wrap (s.2-1)) 4)then(
 bif (inb (ak .and .i64 s.1 1) 2)then(
 let t:=(((v.2 (Int.toNat (i64.wrap (server-1)))) (Int.toNat (i64.wrap (s.2-1)))) (Int.toNat (ak .and .i64 s.1 1))).1.1
 bif (decide (t≥s.1))then(
 some ((false,()),(v,())))
 else(
 some ((true,()),((v.1,(upd v.2 (Int.toNat (i64.wrap (server-1))) (upd (v.2 (Int.toNat (i64.wrap (server-1)))) (Int.toNat (i64.wrap (s.2-1))) (upd ((v.2 (Int.toNat (i64.wrap (server-1)))) (Int.toNat (i64.wrap (s.2-1)))) (Int.toNat (ak .and .i64 s.1 1)) (s,digest))))),()))))
 else(
 none))
 else(
 none))
 else(
 none)))))))))
def fF:=veil qZ
theorem x9:fF=qZ:=aj _
def vF(v:(Option VT))(server:Int)(s:(Int×Int))(digest:ByteArray):Option (Bool):=
 match v with
 |none=>(
 match(vE s)with
 |none=>none
 |some r1=>(
 bif (!r1)then(
 some false)
 else(
 some false)))
 |some v0=>(
 match(vE s)with
 |none=>none
 |some r=>(
 bif (!r)then(
 some false)
 else(
 bif (decide (server<1))then(
 some false)
 else(
 bif (decide (server>v0.1))then(
 some false)
 else(
 bif (decide (s.2<1))then(
 some false)
 else(
 bif (decide (s.2>4))then(
 some false)
 else(
 bif (decide ((ak .and .i64 s.1 1)<0))then(
 some false)
 else(
 bif (decide ((ak .and .i64 s.1 1)>1))then(
 some false)
 else(
 bif (inb (i64.wrap (server-1)) 7)then(
 bif (inb (i64.wrap (s.2-1)) 4)then(
 bif (inb (ak .and .i64 s.1 1) 2)then(
 let t:=(((v0.2 (Int.toNat (i64.wrap (server-1)))) (Int.toNat (i64.wrap (s.2-1)))) (Int.toNat (ak .and .i64 s.1 1))).1.1
 bif (decide (t≥s.1))then(
 some false)
 else(
 none))
 else(
 none))
 else(
 none))
 else(
 none))))))))))
def F5:=veil vF
theorem La:F5=vF:=aj _
abbrev Fq(v:VT)(digest:ByteArray)(n:Int)(t:Int)(t1:Int)(s:(Int×Int)):=((v,(digest,((),(n,(t,(t1,())))))),(s,()))
abbrev rT(n:Int):=((n,()),())
abbrev uy:Type:=((VT×(ByteArray×(Unit×Z0u)))×((Int×Int)×Unit))
def dx:uy→Option (uy⊕Z0L):=fun x=>
 let v:=x.1.1
 let digest:=x.1.2.1
 let n:=x.1.2.2.2.1
 let t:=x.1.2.2.2.2.1
 let t1:=x.1.2.2.2.2.2.1
 let s:=x.2.1
 bif (decide (t1<t))then(
 bif (inb t1 7)then(
 bif (inb (i64.wrap (s.2-1)) 4)then(
 bif (inb (ak .and .i64 s.1 1) 2)then(
 let t2:=(eqF (.pair (.pair (.int .i64) (.int .i64)) .str) (((v.2 (Int.toNat t1)) (Int.toNat (i64.wrap (s.2-1)))) (Int.toNat (ak .and .i64 s.1 1))) (s,digest))
 bif t2 then(
 some (.inl ((v,(digest,((),((i64.wrap (n+1)),(t,((i64.wrap (t1+1)),())))))),(s,()))))
 else(
 some (.inl ((v,(digest,((),(n,(t,((i64.wrap (t1+1)),())))))),(s,())))))
 else(
 none))
 else(
 none))
 else(
 none))
 else(
 some (.inr ((n,()),())))
def lF(v:(Option VT))(s:(Int×Int))(digest:ByteArray):Option (Int):=
 match v with
 |none=>(
 some 0)
 |some v0=>(
 match(vE s)with
 |none=>none
 |some r=>(
 bif (!r)then(
 some 0)
 else(
 match(aB dx ((v0,(digest,((),(0,(v0.1,(0,())))))),(s,())))with
 |none=>none
 |some y=>(
 let n:=y.1.1
 some n))))
def iy:=veil lF
theorem xg:iy=lF:=aj _
def qH(v:(Option VT))(server:Int)(client:Int)(odd:Int):Option ((Int×Int)×ByteArray):=
 match v with
 |none=>(
 some ((0,0),(ByteArray.mk #[])))
 |some v0=>(
 bif (decide (server<1))then(
 some ((0,0),(ByteArray.mk #[])))
 else(
 bif (decide (server>v0.1))then(
 some ((0,0),(ByteArray.mk #[])))
 else(
 bif (decide (client<1))then(
 some ((0,0),(ByteArray.mk #[])))
 else(
 bif (decide (client>4))then(
 some ((0,0),(ByteArray.mk #[])))
 else(
 bif (decide (odd<0))then(
 some ((0,0),(ByteArray.mk #[])))
 else(
 bif (decide (odd>1))then(
 some ((0,0),(ByteArray.mk #[])))
 else(
 bif (inb (i64.wrap (server-1)) 7)then(
 bif (inb (i64.wrap (client-1)) 4)then(
 bif (inb odd 2)then(
 let t:=(((v0.2 (Int.toNat (i64.wrap (server-1)))) (Int.toNat (i64.wrap (client-1)))) (Int.toNat odd)).2
 some ((((v0.2 (Int.toNat (i64.wrap (server-1)))) (Int.toNat (i64.wrap (client-1)))) (Int.toNat odd)).1,t))
 else(
 none))
 else(
 none))
 else(
 none))))))))
def iX:=veil qH
theorem Ba:iX=qH:=aj _
def BX(n:Int):Option ((Z0E×(VT×Unit))):=
 bif (decide (n<1))then(
 none)
 else(
 bif (decide (n>7))then(
 none)
 else(
 some (((),(0,())),((n,(fun _=>(fun _=>(fun _=>((0,0),ByteArray.empty))))),()))))
def lG:=veil BX
theorem F6:lG=BX:=aj _
open Go.IntKind (i64 u64 u32 u8)
abbrev UA:Type:=((Z0E×Unit)⊕(Z0E×(SP×(SN×Unit))))
abbrev vG(t:Int)(o:Int)(o1:Int)(no:Nat)(o2:Nat→ByteArray)(o3:List (Int×Int))(o4:GR)(o5:Int)(o6:Int)(o7:Int)(o8:Int)(o9:BG)(no1:Nat)(o10:Nat→OU):UA:=(.inr (((),(t,())),((o,(o1,((no,o2),o3))),((o4,(o5,(o6,(o7,(o8,((),(o9,(no1,o10)))))))),()))))
def wH(g:(Option GR))(t:Int)(number:Int)(clients:Int):Option (((Z0E×Unit)⊕(Z0E×(SP×(SN×Unit))))):=
 match g with
 |none=>(
 match(dB none)with
 |none=>none
 |some r3=>(
 match r3 with
 |none=>(
 some (.inl (((),(1,())),())))
 |some p1=>(
 bif (decide (t<1))then(
 some (.inl (((),(1,())),())))
 else(
 bif (decide (t>2))then(
 some (.inl (((),(1,())),())))
 else(
 bif (decide (number<1))then(
 some (.inl (((),(1,())),())))
 else(
 bif (decide (number>(i64.wrap ((i64.wrap (3*t))+1))))then(
 some (.inl (((),(1,())),())))
 else(
 match(wZ (i64.wrap ((i64.wrap (3*t))+1)) clients)with
 |none=>none
 |some y2=>(
 match y2 with
 | .inl y3=>(
 let r4:=y3.1.2.1
 bif (r4 !=0)then(
 some (.inl (((),(r4,())),())))
 else(
 none))
 | .inr y3=>(
 let r5:=y3.1.2.1
 let o4:=y3.2.1.1
 let o5:=y3.2.1.2.1
 let no1:=y3.2.1.2.2.1.1
 let o6:=y3.2.1.2.2.1.2
 let o7:=y3.2.1.2.2.2
 bif (r5 !=0)then(
 some (.inl (((),(r5,())),())))
 else(
 none))))))))))
 |some g0=>(
 match(dB (some g0))with
 |none=>none
 |some r=>(
 match r with
 |none=>(
 some (.inl (((),(1,())),())))
 |some p=>(
 bif (decide (t<1))then(
 some (.inl (((),(1,())),())))
 else(
 bif (decide (t>2))then(
 some (.inl (((),(1,())),())))
 else(
 bif (decide (number<1))then(
 some (.inl (((),(1,())),())))
 else(
 bif (decide (number>(i64.wrap ((i64.wrap (3*t))+1))))then(
 some (.inl (((),(1,())),())))
 else(
 match(wZ (i64.wrap ((i64.wrap (3*t))+1)) clients)with
 |none=>none
 |some y=>(
 match y with
 | .inl y1=>(
 let r1:=y1.1.2.1
 bif (r1 !=0)then(
 some (.inl (((),(r1,())),())))
 else(
 none))
 | .inr y1=>(
 let r2:=y1.1.2.1
 let o:=y1.2.1.1
 let o1:=y1.2.1.2.1
 let no:=y1.2.1.2.2.1.1
 let o2:=y1.2.1.2.2.1.2
 let o3:=y1.2.1.2.2.2
 bif (r2 !=0)then(
 some (.inl (((),(r2,())),())))
 else(
 some (.inr (((),(0,())),((o,(o1,((no,o2),o3))),((g0,(t,(number,((i64.wrap ((i64.wrap (3*t))+1)),(clients,((),(([]:BG),zNO))))))),()))))))))))))))
def tO:=veil wH
theorem F7:tO=wH:=aj _
def kD(from_:Int)(m:Int)(m1:Int)(m2:ByteArray)(m3:(Int×Int))(m4:ByteArray)(nm:Nat)(m5:Nat→(SlV NI))(nm1:Nat)(m6:Nat→NI)(o:SS):Option ((Z0c×SS)):=
 let k:Z0t→Option ((Z0c×SS)):=fun x1=>(
 let c:=x1.1.1
 let k1:Z0t→Option ((Z0c×SS)):=fun x2=>(
 let t:=x2.1.1
 bif t then(
 some ((c,()),o))
 else(
 bif (m==4)then(
 bif c then(
 let t1:=(m3.2==(i64.wrap (from_-o.1.2.2.2.1)))
 some ((t1,()),o))
 else(
 some ((false,()),o)))
 else(
 let k3:Z0t→Option ((Z0c×SS)):=fun x4=>(
 let t2:=x4.1.1
 bif t2 then(
 bif (decide (from_≥1))then(
 bif (decide (from_≤o.1.2.2.2.1))then(
 let t3:=(from_ !=o.1.2.2.1)
 some ((t3,()),o))
 else(
 some ((false,()),o)))
 else(
 some ((false,()),o)))
 else(
 some ((false,()),o)))
 bif (m==5)then(
 k3 (((m==5),()),()))
 else(
 k3 (((m==6),()),())))))
 bif (m==1)then(
 k1 (((m==1),()),()))
 else(
 bif (m==2)then(
 k1 (((m==2),()),()))
 else(
 k1 (((m==8),()),()))))
 bif (decide (from_>o.1.2.2.2.1))then(
 k (((decide (from_≤(i64.wrap (o.1.2.2.2.1+o.1.2.2.2.2.1)))),()),()))
 else(
 k ((false,()),()))
def iJ:=veil kD
theorem oQ:iJ=kD:=aj _
def mD(s:Z01)(from_:Int)(m:Z0f):Option (Bool):=
 match s with
 |none=>(
 none)
 |some s0=>(
 bif (decide (from_>s0.2.2.2.1))then(
 let t:=(decide (from_≤(i64.wrap (s0.2.2.2.1+s0.2.2.2.2.1))))
 bif (m.1==1)then(
 bif (m.1==1)then(
 some t)
 else(
 bif (m.1==4)then(
 bif t then(
 let t1:=(m.2.2.2.1.2==(i64.wrap (from_-s0.2.2.2.1)))
 some t1)
 else(
 some false))
 else(
 bif (m.1==5)then(
 bif (m.1==5)then(
 bif (decide (from_≥1))then(
 bif (decide (from_≤s0.2.2.2.1))then(
 some (from_ !=s0.2.2.1))
 else(
 some false))
 else(
 some false))
 else(
 some false))
 else(
 bif (m.1==6)then(
 bif (decide (from_≥1))then(
 bif (decide (from_≤s0.2.2.2.1))then(
 some (from_ !=s0.2.2.1))
 else(
 some false))
 else(
 some false))
 else(
 some false)))))
 else(
 bif (m.1==2)then(
 bif (m.1==2)then(
 some t)
 else(
 bif (m.1==4)then(
 bif t then(
 let t2:=(m.2.2.2.1.2==(i64.wrap (from_-s0.2.2.2.1)))
 some t2)
 else(
 some false))
 else(
 bif (m.1==5)then(
 bif (m.1==5)then(
 bif (decide (from_≥1))then(
 bif (decide (from_≤s0.2.2.2.1))then(
 some (from_ !=s0.2.2.1))
 else(
 some false))
 else(
 some false))
 else(
 some false))
 else(
 bif (m.1==6)then(
 bif (decide (from_≥1))then(
 bif (decide (from_≤s0.2.2.2.1))then(
 some (from_ !=s0.2.2.1))
 else(
 some false))
 else(
 some false))
 else(
 some false)))))
 else(
 bif (m.1==8)then(
 some t)
 else(
 bif (m.1==4)then(
 bif t then(
 let t3:=(m.2.2.2.1.2==(i64.wrap (from_-s0.2.2.2.1)))
 some t3)
 else(
 some false))
 else(
 bif (m.1==5)then(
 bif (m.1==5)then(
 bif (decide (from_≥1))then(
 bif (decide (from_≤s0.2.2.2.1))then(
 some (from_ !=s0.2.2.1))
 else(
 some false))
 else(
 some false))
 else(
 some false))
 else(
 bif (m.1==6)then(
 bif (decide (from_≥1))then(
 bif (decide (from_≤s0.2.2.2.1))then(
 some (from_ !=s0.2.2.1))
 else(
 some false))
 else(
 some false))
 else(
 some false)))))))
 else(
 bif (m.1==1)then(
 bif (m.1==1)then(
 some false)
 else(
 bif (m.1==4)then(
 some false)
 else(
 bif (m.1==5)then(
 bif (m.1==5)then(
 bif (decide (from_≥1))then(
 bif (decide (from_≤s0.2.2.2.1))then(
 some (from_ !=s0.2.2.1))
 else(
 some false))
 else(
 some false))
 else(
 some false))
 else(
 bif (m.1==6)then(
 bif (decide (from_≥1))then(
 bif (decide (from_≤s0.2.2.2.1))then(
 some (from_ !=s0.2.2.1))
 else(
 some false))
 else(
 some false))
 else(
 some false)))))
 else(
 bif (m.1==2)then(
 bif (m.1==2)then(
 some false)
 else(
 bif (m.1==4)then(
 some false)
 else(
 bif (m.1==5)then(
 bif (m.1==5)then(
 bif (decide (from_≥1))then(
 bif (decide (from_≤s0.2.2.2.1))then(
 some (from_ !=s0.2.2.1))
 else(
 some false))
 else(
 some false))
 else(
 some false))
 else(
 bif (m.1==6)then(
 bif (decide (from_≥1))then(
 bif (decide (from_≤s0.2.2.2.1))then(
 some (from_ !=s0.2.2.1))
 else(
 some false))
 else(
 some false))
 else(
 some false)))))
 else(
 bif (m.1==8)then(
 some false)
 else(
 bif (m.1==4)then(
 some false)
 else(
 bif (m.1==5)then(
 bif (m.1==5)then(
 bif (decide (from_≥1))then(
 bif (decide (from_≤s0.2.2.2.1))then(
 some (from_ !=s0.2.2.1))
 else(
 some false))
 else(
 some false))
 else(
 some false))
 else(
 bif (m.1==6)then(
 bif (decide (from_≥1))then(
 bif (decide (from_≤s0.2.2.2.1))then(
 some (from_ !=s0.2.2.1))
 else(
 some false))
 else(
 some false))
 else(
 some false))))))))
def jw:=veil mD
theorem D9:jw=mD:=aj _
def nL(from_:Int)(m:Int)(m1:Int)(m2:ByteArray)(m3:(Int×Int))(m4:ByteArray)(nm:Nat)(m5:Nat→(SlV NI))(nm1:Nat)(m6:Nat→NI)(o:SS):Option ((Z0c×SS)):=
 match(vC (m,(m1,(m2,(m3,(m4,((nm,m5),(nm1,m6))))))))with
 |none=>none
 |some r=>(
 bif (r !=0)then(
 some ((false,()),o))
 else(
 match(iJ from_ m m1 m2 m3 m4 nm m5 nm1 m6 o)with
 |none=>none
 |some y=>(
 let r1:=y.1.1
 let t:=(!r1)
 bif t then(
 some ((false,()),y.2))
 else(
 let k3:Z05→Option ((Z0c×SS)):=fun x4=>(
 match(lD m2 from_ y.2.2.1.1 y.2.2.1.2.1 y.2.2.1.2.2.1.1 y.2.2.1.2.2.1.2 y.2.2.1.2.2.2)with
 |none=>none
 |some y1=>(
 some (((y1.1.2.2.1==0),()),(y.2.1,((y1.2.1.1,(y1.2.1.2.1,((y1.2.1.2.2.1.1,y1.2.1.2.2.1.2),y1.2.1.2.2.2))),())))))
 let k1:Z0t→Option ((Z0c×SS)):=fun x2=>(
 bif x2.1.1 then(
 match(nK (some y.2.1.1) y.2.1.2.1 nm m5)with
 |none=>none
 |some r2=>(
 bif (!r2)then(
 some ((false,()),y.2))
 else(
 match(eB (some y.2.1.1) nm m5 (y.2.1.2.2.1,(nm1,m6)))with
 |none=>none
 |some r3=>(
 let t2:=(!r3)
 bif t2 then(
 some ((false,()),y.2))
 else(
 k3 ((),()))))))
 else(
 k3 ((),())))
 bif (m==4)then(
 k1 ((true,()),()))
 else(
 k1 (((m==8),()),()))))))
def jV:=veil nL
theorem tQ:jV=nL:=aj _
def ru(s:Z01)(from_:Int)(m:Z0f):Option (Bool):=
 match s with
 |none=>(
 match(vC (m.1,(m.2.1,(m.2.2.1,(m.2.2.2.1,(m.2.2.2.2.1,((m.2.2.2.2.2.1.1,m.2.2.2.2.2.1.2),(m.2.2.2.2.2.2.1,m.2.2.2.2.2.2.2))))))))with
 |none=>none
 |some r32=>(
 bif (r32 !=0)then(
 some false)
 else(
 match(jw none from_ (m.1,(m.2.1,(m.2.2.1,(m.2.2.2.1,(m.2.2.2.2.1,((m.2.2.2.2.2.1.1,m.2.2.2.2.2.1.2),(m.2.2.2.2.2.2.1,m.2.2.2.2.2.2.2))))))))with
 |none=>none
 |some r33=>(
 bif (!r33)then(
 some false)
 else(
 bif (m.1==4)then(
 none)
 else(
 bif (m.1==8)then(
 none)
 else(
 none)))))))
 |some s0=>(
 match(vC (m.1,(m.2.1,(m.2.2.1,(m.2.2.2.1,(m.2.2.2.2.1,((m.2.2.2.2.2.1.1,m.2.2.2.2.2.1.2),(m.2.2.2.2.2.2.1,m.2.2.2.2.2.2.2))))))))with
 |none=>none
 |some r=>(
 bif (r !=0)then(
 some false)
 else(
 match(jw (some s0) from_ (m.1,(m.2.1,(m.2.2.1,(m.2.2.2.1,(m.2.2.2.2.1,((m.2.2.2.2.2.1.1,m.2.2.2.2.2.1.2),(m.2.2.2.2.2.2.1,m.2.2.2.2.2.2.2))))))))with
 |none=>none
 |some r1=>(
 bif (!r1)then(
 some false)
 else(
 bif (m.1==4)then(
 bif (aM.uQ s0.1)then(
 none)
 else(
 bif (aM.isNil s0.1)then(
 match(nK none s0.2.1 m.2.2.2.2.2.1.1 m.2.2.2.2.2.1.2)with
 |none=>none
 |some r2=>(
 bif (!r2)then(
 some false)
 else(
 bif (aM.uQ s0.1)then(
 none)
 else(
 bif (aM.isNil s0.1)then(
 match(eB none m.2.2.2.2.2.1.1 m.2.2.2.2.2.1.2 (s0.2.2.1,(m.2.2.2.2.2.2.1,m.2.2.2.2.2.2.2)))with
 |none=>none
 |some r3=>(
 bif (!r3)then(
 some false)
 else(
 bif (aM.uQ s0.2.2.2.2.2.1)then(
 none)
 else(
 bif (aM.isNil s0.2.2.2.2.2.1)then(
 match(aX none m.2.2.1 from_)with
 |none=>none
 |some r4=>(
 some (r4.2.2==0)))
 else(
 match(aX (some (aM.val ((0,(0,(.nil,none))):Z08) s0.2.2.2.2.2.1)) m.2.2.1 from_)with
 |none=>none
 |some r5=>(
 some (r5.2.2==0)))))))
 else(
 match(eB (some (aM.val (((.nil,.nil),(fun _=>0)):GR) s0.1)) m.2.2.2.2.2.1.1 m.2.2.2.2.2.1.2 (s0.2.2.1,(m.2.2.2.2.2.2.1,m.2.2.2.2.2.2.2)))with
 |none=>none
 |some r6=>(
 bif (!r6)then(
 some false)
 else(
 bif (aM.uQ s0.2.2.2.2.2.1)then(
 none)
 else(
 bif (aM.isNil s0.2.2.2.2.2.1)then(
 match(aX none m.2.2.1 from_)with
 |none=>none
 |some r7=>(
 some (r7.2.2==0)))
 else(
 match(aX (some (aM.val ((0,(0,(.nil,none))):Z08) s0.2.2.2.2.2.1)) m.2.2.1 from_)with
 |none=>none
 |some r8=>(
 some (r8.2.2==0)))))))))))
 else(
 match(nK (some (aM.val (((.nil,.nil),(fun _=>0)):GR) s0.1)) s0.2.1 m.2.2.2.2.2.1.1 m.2.2.2.2.2.1.2)with
 |none=>none
 |some r9=>(
 bif (!r9)then(
 some false)
 else(
 bif (aM.uQ s0.1)then(
 none)
 else(
 bif (aM.isNil s0.1)then(
 match(eB none m.2.2.2.2.2.1.1 m.2.2.2.2.2.1.2 (s0.2.2.1,(m.2.2.2.2.2.2.1,m.2.2.2.2.2.2.2)))with
 |none=>none
 |some r10=>(
 bif (!r10)then(
 some false)
 else(
 bif (aM.uQ s0.2.2.2.2.2.1)then(
 none)
 else(
 bif (aM.isNil s0.2.2.2.2.2.1)then(
 match(aX none m.2.2.1 from_)with
 |none=>none
 |some r11=>(
 some (r11.2.2==0)))
 else(
 match(aX (some (aM.val ((0,(0,(.nil,none))):Z08) s0.2.2.2.2.2.1)) m.2.2.1 from_)with
 |none=>none
 |some r12=>(
 some (r12.2.2==0)))))))
 else(
 match(eB (some (aM.val (((.nil,.nil),(fun _=>0)):GR) s0.1)) m.2.2.2.2.2.1.1 m.2.2.2.2.2.1.2 (s0.2.2.1,(m.2.2.2.2.2.2.1,m.2.2.2.2.2.2.2)))with
 |none=>none
 |some r13=>(
 bif (!r13)then(
 some false)
 else(
 bif (aM.uQ s0.2.2.2.2.2.1)then(
 none)
 else(
 bif (aM.isNil s0.2.2.2.2.2.1)then(
 match(aX none m.2.2.1 from_)with
 |none=>none
 |some r14=>(
 some (r14.2.2==0)))
 else(
 match(aX (some (aM.val ((0,(0,(.nil,none))):Z08) s0.2.2.2.2.2.1)) m.2.2.1 from_)with
 |none=>none
 |some r15=>(
 some (r15.2.2==0)))))))))))))
 else(
 bif (m.1==8)then(
 bif (aM.uQ s0.1)then(
 none)
 else(
 bif (aM.isNil s0.1)then(
 match(nK none s0.2.1 m.2.2.2.2.2.1.1 m.2.2.2.2.2.1.2)with
 |none=>none
 |some r16=>(
 bif (!r16)then(
 some false)
 else(
 bif (aM.uQ s0.1)then(
 none)
 else(
 bif (aM.isNil s0.1)then(
 match(eB none m.2.2.2.2.2.1.1 m.2.2.2.2.2.1.2 (s0.2.2.1,(m.2.2.2.2.2.2.1,m.2.2.2.2.2.2.2)))with
 |none=>none
 |some r17=>(
 bif (!r17)then(
 some false)
 else(
 bif (aM.uQ s0.2.2.2.2.2.1)then(
 none)
 else(
 bif (aM.isNil s0.2.2.2.2.2.1)then(
 match(aX none m.2.2.1 from_)with
 |none=>none
 |some r18=>(
 some (r18.2.2==0)))
 else(
 match(aX (some (aM.val ((0,(0,(.nil,none))):Z08) s0.2.2.2.2.2.1)) m.2.2.1 from_)with
 |none=>none
 |some r19=>(
 some (r19.2.2==0)))))))
 else(
 match(eB (some (aM.val (((.nil,.nil),(fun _=>0)):GR) s0.1)) m.2.2.2.2.2.1.1 m.2.2.2.2.2.1.2 (s0.2.2.1,(m.2.2.2.2.2.2.1,m.2.2.2.2.2.2.2)))with
 |none=>none
 |some r20=>(
 bif (!r20)then(
 some false)
 else(
 bif (aM.uQ s0.2.2.2.2.2.1)then(
 none)
 else(
 bif (aM.isNil s0.2.2.2.2.2.1)then(
 match(aX none m.2.2.1 from_)with
 |none=>none
 |some r21=>(
 some (r21.2.2==0)))
 else(
 match(aX (some (aM.val ((0,(0,(.nil,none))):Z08) s0.2.2.2.2.2.1)) m.2.2.1 from_)with
 |none=>none
 |some r22=>(
 some (r22.2.2==0)))))))))))
 else(
 match(nK (some (aM.val (((.nil,.nil),(fun _=>0)):GR) s0.1)) s0.2.1 m.2.2.2.2.2.1.1 m.2.2.2.2.2.1.2)with
 |none=>none
 |some r23=>(
 bif (!r23)then(
 some false)
 else(
 bif (aM.uQ s0.1)then(
 none)
 else(
 bif (aM.isNil s0.1)then(
 match(eB none m.2.2.2.2.2.1.1 m.2.2.2.2.2.1.2 (s0.2.2.1,(m.2.2.2.2.2.2.1,m.2.2.2.2.2.2.2)))with
 |none=>none
 |some r24=>(
 bif (!r24)then(
 some false)
 else(
 bif (aM.uQ s0.2.2.2.2.2.1)then(
 none)
 else(
 bif (aM.isNil s0.2.2.2.2.2.1)then(
 match(aX none m.2.2.1 from_)with
 |none=>none
 |some r25=>(
 some (r25.2.2==0)))
 else(
 match(aX (some (aM.val ((0,(0,(.nil,none))):Z08) s0.2.2.2.2.2.1)) m.2.2.1 from_)with
 |none=>none
 |some r26=>(
 some (r26.2.2==0)))))))
 else(
 match(eB (some (aM.val (((.nil,.nil),(fun _=>0)):GR) s0.1)) m.2.2.2.2.2.1.1 m.2.2.2.2.2.1.2 (s0.2.2.1,(m.2.2.2.2.2.2.1,m.2.2.2.2.2.2.2)))with
 |none=>none
 |some r27=>(
 bif (!r27)then(
 some false)
 else(
 bif (aM.uQ s0.2.2.2.2.2.1)then(
 none)
 else(
 bif (aM.isNil s0.2.2.2.2.2.1)then(
 match(aX none m.2.2.1 from_)with
 |none=>none
 |some r28=>(
 some (r28.2.2==0)))
 else(
 match(aX (some (aM.val ((0,(0,(.nil,none))):Z08) s0.2.2.2.2.2.1)) m.2.2.1 from_)with
 |none=>none
 |some r29=>(
 some (r29.2.2==0)))))))))))))
 else(
 bif (aM.uQ s0.2.2.2.2.2.1)then(
 none)
 else(
 bif (aM.isNil s0.2.2.2.2.2.1)then(
 match(aX none m.2.2.1 from_)with
 |none=>none
 |some r30=>(
 some (r30.2.2==0)))
 else(
 match(aX (some (aM.val ((0,(0,(.nil,none))):Z08) s0.2.2.2.2.2.1)) m.2.2.1 from_)with
 |none=>none
 |some r31=>(
 some (r31.2.2==0)))))))))))
def Bb:=veil ru
theorem Hl:Bb=ru:=aj _
def lH(to_:Int)(m:Int)(m1:Int)(m2:ByteArray)(m3:(Int×Int))(m4:ByteArray)(nm:Nat)(m5:Nat→(SlV NI))(nm1:Nat)(m6:Nat→NI)(o:SR):Option Z0n:=
 bif ((Nat.ble ((o.1.2.2.2.2.2.2.2.1+1)*120) 140737488355328)&&(Nat.ble (o.1.2.2.2.2.2.2.2.1+1) 9223372036854775807))then(
 some ((),((o.1.1,(o.1.2.1,(o.1.2.2.1,(o.1.2.2.2.1,(o.1.2.2.2.2.1,((),(o.1.2.2.2.2.2.2.1,((o.1.2.2.2.2.2.2.2.1+1),(glue o.1.2.2.2.2.2.2.2.1 o.1.2.2.2.2.2.2.2.2 (fun j=>(upd (fun _=>zOU) 0 (to_,(m,(m1,(m2,(m3,(m4,((.fz nm m5),(.fz nm1 m6))))))))) (0+j))))))))))),o.2)))
 else(
 none)
def bI:=veil lH
theorem ql:bI=lH:=aj _
def rz(v:VA)(p:(Int×Int))(digest:ByteArray):Option (Bool):=
 bif (eqF (.pair (.int .i64) (.int .i64)) v.1 p)then(
 some (sEq v.2.1 digest))
 else(
 some false)
def fG:=veil rz
theorem xk:fG=rz:=aj _
abbrev fH(t:Int)(t1:Int)(o:Z0F):=(((),((),(t,(t1,())))),o)
abbrev xR(o:Z0F):=((),o)
abbrev nM:Type:=((Unit×Z0o)×Z0F)
def bQ:nM→Option (nM⊕(Unit×Z0F)):=fun x=>
 let t:=x.1.2.2.1
 let t1:=x.1.2.2.2.1
 bif (decide (t1<t))then(
 bif (inb t1 4)then(
 bif (decide ((x.2.2.1.2.2.2.2 (Int.toNat t1)).2.2.1>0))then(
 match(bI (i64.wrap (x.2.1.2.2.2.1+(i64.wrap (t1+1)))) 3 (x.2.2.1.2.2.2.2 (Int.toNat t1)).2.2.1 x.2.2.1.2.1 x.2.2.1.1.1 x.2.2.1.1.2.1 x.2.2.1.1.2.2.1.1 x.2.2.1.1.2.2.1.2 x.2.2.1.1.2.2.2.1 x.2.2.1.1.2.2.2.2 (x.2.1,(x.2.2.1,(x.2.2.2.1,(x.2.2.2.2.1,(x.2.2.2.2.2.1,()))))))with
 |none=>none
 |some y=>(
 some (.inl (((),((),(t,((i64.wrap (t1+1)),())))),(y.2.1,(y.2.2.1,(y.2.2.2.1,(y.2.2.2.2.1,(y.2.2.2.2.2.1,((),((),())))))))))))
 else(
 some (.inl (((),((),(t,((i64.wrap (t1+1)),())))),(x.2.1,(x.2.2.1,(x.2.2.2.1,(x.2.2.2.2.1,(x.2.2.2.2.2.1,((),((),())))))))))))
 else(
 none))
 else(
 some (.inr ((),(x.2.1,(x.2.2.1,(x.2.2.2.1,(x.2.2.2.2.1,(x.2.2.2.2.2.1,((),((),()))))))))))
def nN(o:SR):Option Z0n:=
 match(aB bQ (((),((),(o.1.2.2.2.2.1,(0,())))),(o.1,(o.2.1,(o.2.2.1,(o.2.2.2.1,(o.2.2.2.2.1,((),((),())))))))))with
 |none=>none
 |some y=>(
 some ((),(y.2.1,(y.2.2.1,(y.2.2.2.1,(y.2.2.2.2.1,(y.2.2.2.2.2.1,())))))))
def dw:=veil nN
theorem tT:dw=nN:=aj _
def lI(p:(Int×Int))(o:CR):Option ((Z0c×CR)):=
 match(wG p o.1.1.1)with
 |none=>none
 |some r=>(
 some (((decide (r>0)),()),o))
def bX:=veil lI
theorem qm:bX=lI:=aj _
def uz(p:(Int×Int))(o:CR):Option ((Z0c×CR)):=
 some (((decide ((i64.wrap (p.1-1))≤o.1.1.1.1)),()),o)
def gY:=veil uz
theorem rU:gY=uz:=aj _
abbrev eX(kind:Int)(digest:ByteArray)(t:Int)(t1:Int)(o:(SO×(RC×(VT×(VT×(SP×((Int×Int)×Unit))))))):=(((),(kind,((),(digest,((),(t,(t1,()))))))),o)
abbrev xq(o:SR):=(((),((),())),o)
abbrev mO:Type:=((Unit×(Int×(Unit×(ByteArray×Z0o))))×(SO×(RC×(VT×(VT×(SP×((Int×Int)×Unit)))))))
def bK:mO→Option (mO⊕(Z0k×SR)):=fun x=>
 let kind:=x.1.2.1
 let digest:=x.1.2.2.2.1
 let t:=x.1.2.2.2.2.2.1
 let t1:=x.1.2.2.2.2.2.2.1
 bif (decide (t1<t))then(
 bif ((i64.wrap (t1+1)) !=x.2.1.2.2.1)then(
 match(bI (i64.wrap (t1+1)) kind 0 x.2.2.1.2.1 x.2.2.2.2.2.2.1 digest 0 (fun _=>.nil) 0 zNN (x.2.1,(x.2.2.1,(x.2.2.2.1,(x.2.2.2.2.1,(x.2.2.2.2.2.1,()))))))with
 |none=>none
 |some y=>(
 some (.inl (((),(kind,((),(digest,((),(t,((i64.wrap (t1+1)),()))))))),(y.2.1,(y.2.2.1,(y.2.2.2.1,(y.2.2.2.2.1,(y.2.2.2.2.2.1,x.2.2.2.2.2.2)))))))))
 else(
 some (.inl (((),(kind,((),(digest,((),(t,((i64.wrap (t1+1)),()))))))),(x.2.1,(x.2.2.1,(x.2.2.2.1,(x.2.2.2.2.1,(x.2.2.2.2.2.1,x.2.2.2.2.2.2)))))))))
 else(
 some (.inr (((),((),())),(x.2.1,(x.2.2.1,(x.2.2.2.1,(x.2.2.2.2.1,(x.2.2.2.2.2.1,()))))))))
def jL(kind:Int)(p:(Int×Int))(digest:ByteArray)(o:SR):Option Z0n:=
 match(aB bK (((),(kind,((),(digest,((),(o.1.2.2.2.1,(0,()))))))),(o.1,(o.2.1,(o.2.2.1,(o.2.2.2.1,(o.2.2.2.2.1,(p,()))))))))with
 |none=>none
 |some y=>(
 some ((),y.2))
def bD:=veil jL
theorem nO:bD=jL:=aj _
def iK(rec_:((Int×Int))→Z0v→(SR)→Option Z0n)(p:(Int×Int))(digest:ByteArray)(o:SR):Option Z0n:=
 let k:Z0t→Option Z0n:=fun x1=>(
 let enough:=x1.1.1
 let k2:(Unit×SR)→Option Z0n:=fun x3=>(
 let k3:(Z0c×CR)→Option Z0n:=fun x4=>(
 let t1:=x4.1.1
 bif t1 then(
 match(rec_ p digest (x3.2.1,(x4.2.1,(x4.2.2.1,(x4.2.2.2.1,x3.2.2.2.2.2)))))with
 |none=>none
 |some y3=>(
 some y3))
 else(
 some ((),(x3.2.1,(x4.2.1,(x4.2.2.1,(x4.2.2.2.1,x3.2.2.2.2.2)))))))
 match(iy (some x3.2.2.2.2.1) p digest)with
 |none=>none
 |some r3=>(
 bif (decide (r3>(i64.wrap (2*x3.2.1.2.1))))then(
 match(bX p (x3.2.2.1,(x3.2.2.2.1,(x3.2.2.2.2.1,()))))with
 |none=>none
 |some y2=>(
 let r4:=y2.1.1
 k3 ((r4,()),y2.2)))
 else(
 k3 ((false,()),(x3.2.2.1,(x3.2.2.2.1,(x3.2.2.2.2.1,())))))))
 bif enough then(
 match(fF o.1.2.2.1 p digest o.2.2.2.1)with
 |none=>none
 |some y=>(
 let r2:=y.1.1
 let o1:=y.2.1
 bif r2 then(
 match(bD 6 p digest (o.1,(o.2.1,(o.2.2.1,(o1,o.2.2.2.2)))))with
 |none=>none
 |some y1=>(
 k2 y1))
 else(
 k2 ((),(o.1,(o.2.1,(o.2.2.1,(o1,o.2.2.2.2))))))))
 else(
 k2 ((),(o.1,(o.2.1,(o.2.2.1,(o.2.2.2.1,o.2.2.2.2)))))))
 match(iy (some o.2.2.1) p digest)with
 |none=>none
 |some r=>(
 bif (decide (r>(i64.wrap (2*o.1.2.1))))then(
 k ((true,()),()))
 else(
 match(iy (some o.2.2.2.1) p digest)with
 |none=>none
 |some r1=>(
 k (((decide (r1>o.1.2.1)),()),()))))
def dS:=veil iK
theorem qo:dS=iK:=aj _
def iL(rec_:((Int×Int))→Z0v→(SR)→Option Z0n)(p:PR)(o:SR):Option Z0n:=
 bif (inb (i64.wrap (p.1.1.2-1)) 4)then(
 bif (inb (ak .and .i64 p.1.1.1 1) 2)then(
 let k:(Unit×(RC×Unit))→Option Z0n:=fun x1=>(
 match(fF o.1.2.2.1 p.1.1 p.1.2.1 o.2.2.1)with
 |none=>none
 |some y=>(
 let r:=y.1.1
 let o1:=y.2.1
 bif r then(
 match(bD 5 p.1.1 p.1.2.1 (o.1,(x1.2.1,(o1,o.2.2.2))))with
 |none=>none
 |some y1=>(
 match(dS rec_ p.1.1 p.1.2.1 y1.2)with
 |none=>none
 |some y2=>(
 some y2)))
 else(
 some ((),(o.1,(x1.2.1,(o1,o.2.2.2)))))))
 let t:=(decide (p.1.1.1>((o.2.1.2.2.2.2 (Int.toNat (i64.wrap (p.1.1.2-1)))).1 (Int.toNat (ak .and .i64 p.1.1.1 1))).1.1.1))
 bif t then(
 let u:=(upd o.2.1.2.2.2.2 (Int.toNat (i64.wrap (p.1.1.2-1))) ((upd (o.2.1.2.2.2.2 (Int.toNat (i64.wrap (p.1.1.2-1)))).1 (Int.toNat (ak .and .i64 p.1.1.1 1)) p),(o.2.1.2.2.2.2 (Int.toNat (i64.wrap (p.1.1.2-1)))).2))
 k ((),((o.2.1.1,(o.2.1.2.1,((),((),u)))),())))
 else(
 k ((),(o.2.1,()))))
 else(
 none))
 else(
 none)
def fU:=veil iL
theorem qp:fU=iL:=aj _
abbrev aQ(t:Int)(t1:Int)(o:Z0q):=(((),((),(t,(t1,())))),o)
def aR(rec_:((Int×Int))→Z0v→(SR)→Option Z0n):((Unit×Z0o)×Z0q)→Option Z03:=fun x=>
 let t:=x.1.2.2.1
 let t1:=x.1.2.2.2.1
 bif (decide (t1<t))then(
 bif (inb t1 4)then(
 let k1:(Unit×SR)→Option Z03:=fun x2=>(
 let k3:(Unit×SR)→Option Z03:=fun x4=>(
 let k4:(Z0c×CR)→Option Z03:=fun x5=>(
 let t4:=x5.1.1
 bif t4 then(
 match(bI (i64.wrap (x4.2.1.2.2.2.1+(i64.wrap (t1+1)))) 7 (x5.2.1.2.2.2.2 (Int.toNat t1)).2.1.2 x5.2.1.2.1 (x5.2.1.2.2.2.2 (Int.toNat t1)).2.1.1.1 ByteArray.empty 0 (fun _=>.nil) 0 zNN (x4.2.1,(x5.2.1,(x5.2.2.1,(x5.2.2.2.1,x4.2.2.2.2.2)))))with
 |none=>none
 |some y5=>(
 let u2:=(upd y5.2.2.1.2.2.2.2 (Int.toNat t1) ((y5.2.2.1.2.2.2.2 (Int.toNat t1)).1,(((y5.2.2.1.2.2.2.2 (Int.toNat t1)).2.1.1,0),(y5.2.2.1.2.2.2.2 (Int.toNat t1)).2.2)))
 some (.inl (((),((),(t,((i64.wrap (t1+1)),())))),(y5.2.1,((y5.2.2.1.1,(y5.2.2.1.2.1,((),((),u2)))),(y5.2.2.2.1,(y5.2.2.2.2.1,(y5.2.2.2.2.2.1,x.2.2.2.2.2.2)))))))))
 else(
 some (.inl (((),((),(t,((i64.wrap (t1+1)),())))),(x4.2.1,(x5.2.1,(x5.2.2.1,(x5.2.2.2.1,(x4.2.2.2.2.2.1,x.2.2.2.2.2.2)))))))))
 bif (decide ((x4.2.2.1.2.2.2.2 (Int.toNat t1)).2.1.2>0))then(
 match(bX (x4.2.2.1.2.2.2.2 (Int.toNat t1)).2.1.1.1 (x4.2.2.1,(x4.2.2.2.1,(x4.2.2.2.2.1,()))))with
 |none=>none
 |some y4=>(
 let r2:=y4.1.1
 k4 (((!r2),()),y4.2)))
 else(
 k4 ((false,()),(x4.2.2.1,(x4.2.2.2.1,(x4.2.2.2.2.1,()))))))
 let k2:(Z0c×CR)→Option Z03:=fun x3=>(
 let t3:=x3.1.1
 bif t3 then(
 match(bI (i64.wrap (x2.2.1.2.2.2.1+(i64.wrap (t1+1)))) 7 ((x3.2.1.2.2.2.2 (Int.toNat t1)).1 1).2 x3.2.1.2.1 ((x3.2.1.2.2.2.2 (Int.toNat t1)).1 1).1.1 ByteArray.empty 0 (fun _=>.nil) 0 zNN (x2.2.1,(x3.2.1,(x3.2.2.1,(x3.2.2.2.1,x2.2.2.2.2.2)))))with
 |none=>none
 |some y3=>(
 let u1:=(upd y3.2.2.1.2.2.2.2 (Int.toNat t1) ((upd (y3.2.2.1.2.2.2.2 (Int.toNat t1)).1 1 (((y3.2.2.1.2.2.2.2 (Int.toNat t1)).1 1).1,0)),(y3.2.2.1.2.2.2.2 (Int.toNat t1)).2))
 k3 ((),(y3.2.1,((y3.2.2.1.1,(y3.2.2.1.2.1,((),((),u1)))),y3.2.2.2)))))
 else(
 k3 ((),(x2.2.1,(x3.2.1,(x3.2.2.1,(x3.2.2.2.1,x2.2.2.2.2.2)))))))
 bif (decide (((x2.2.2.1.2.2.2.2 (Int.toNat t1)).1 1).2>0))then(
 match(bX ((x2.2.2.1.2.2.2.2 (Int.toNat t1)).1 1).1.1 (x2.2.2.1,(x2.2.2.2.1,(x2.2.2.2.2.1,()))))with
 |none=>none
 |some y2=>(
 let r1:=y2.1.1
 k2 (((!r1),()),y2.2)))
 else(
 k2 ((false,()),(x2.2.2.1,(x2.2.2.2.1,(x2.2.2.2.2.1,()))))))
 let k:(Z0c×CR)→Option Z03:=fun x1=>(
 let t2:=x1.1.1
 bif t2 then(
 match(bI (i64.wrap (x.2.1.2.2.2.1+(i64.wrap (t1+1)))) 7 ((x1.2.1.2.2.2.2 (Int.toNat t1)).1 0).2 x1.2.1.2.1 ((x1.2.1.2.2.2.2 (Int.toNat t1)).1 0).1.1 ByteArray.empty 0 (fun _=>.nil) 0 zNN (x.2.1,(x1.2.1,(x1.2.2.1,(x1.2.2.2.1,(x.2.2.2.2.2.1,()))))))with
 |none=>none
 |some y1=>(
 let u:=(upd y1.2.2.1.2.2.2.2 (Int.toNat t1) ((upd (y1.2.2.1.2.2.2.2 (Int.toNat t1)).1 0 (((y1.2.2.1.2.2.2.2 (Int.toNat t1)).1 0).1,0)),(y1.2.2.1.2.2.2.2 (Int.toNat t1)).2))
 k1 ((),(y1.2.1,((y1.2.2.1.1,(y1.2.2.1.2.1,((),((),u)))),y1.2.2.2)))))
 else(
 k1 ((),(x.2.1,(x1.2.1,(x1.2.2.1,(x1.2.2.2.1,(x.2.2.2.2.2.1,()))))))))
 bif (decide (((x.2.2.1.2.2.2.2 (Int.toNat t1)).1 0).2>0))then(
 match(bX ((x.2.2.1.2.2.2.2 (Int.toNat t1)).1 0).1.1 (x.2.2.1,(x.2.2.2.1,(x.2.2.2.2.1,()))))with
 |none=>none
 |some y=>(
 let r:=y.1.1
 k (((!r),()),y.2)))
 else(
 k ((false,()),(x.2.2.1,(x.2.2.2.1,(x.2.2.2.2.1,()))))))
 else(
 none))
 else(
 some (.inr ((),x.2)))
abbrev bW(t:Int)(t1:Int)(o:Z0q):=(((),((),(t,(t1,())))),o)
def aL(rec_:((Int×Int))→Z0v→(SR)→Option Z0n):((Unit×Z0o)×Z0q)→Option Z03:=fun x=>
 let t:=x.1.2.2.1
 let t1:=x.1.2.2.2.1
 bif (decide (t1<t))then(
 bif (inb t1 4)then(
 let k:(Z0c×CR)→Option Z03:=fun x1=>(
 let t2:=x1.1.1
 bif t2 then(
 let u:=(upd x1.2.1.2.2.2.2 (Int.toNat t1) ((x1.2.1.2.2.2.2 (Int.toNat t1)).1,(zPR,(x1.2.1.2.2.2.2 (Int.toNat t1)).2.2)))
 match(fU rec_ (x1.2.1.2.2.2.2 (Int.toNat t1)).2.1 (x.2.1,((x1.2.1.1,(x1.2.1.2.1,((),((),u)))),(x1.2.2.1,(x1.2.2.2.1,(x.2.2.2.2.2.1,()))))))with
 |none=>none
 |some y1=>(
 some (.inl (((),((),(t,((i64.wrap (t1+1)),())))),(y1.2.1,(y1.2.2.1,(y1.2.2.2.1,(y1.2.2.2.2.1,(y1.2.2.2.2.2.1,x.2.2.2.2.2.2)))))))))
 else(
 some (.inl (((),((),(t,((i64.wrap (t1+1)),())))),(x.2.1,(x1.2.1,(x1.2.2.1,(x1.2.2.2.1,(x.2.2.2.2.2.1,x.2.2.2.2.2.2)))))))))
 bif (decide ((x.2.2.1.2.2.2.2 (Int.toNat t1)).2.1.2>0))then(
 match(gY (x.2.2.1.2.2.2.2 (Int.toNat t1)).2.1.1.1 (x.2.2.1,(x.2.2.2.1,(x.2.2.2.2.1,()))))with
 |none=>none
 |some y=>(
 let r:=y.1.1
 k ((r,()),y.2)))
 else(
 k ((false,()),(x.2.2.1,(x.2.2.2.1,(x.2.2.2.2.1,()))))))
 else(
 none))
 else(
 some (.inr ((),x.2)))
def fI(rec_:((Int×Int))→Z0v→(SR)→Option Z0n)(p:(Int×Int))(digest:ByteArray)(o:SR):Option Z0n:=
 bif (inb (i64.wrap (p.2-1)) 4)then(
 let k:(Unit×(RC×Unit))→Option Z0n:=fun x1=>(
 let k1:(Unit×(RC×Unit))→Option Z0n:=fun x2=>(
 let t2:=(((o.2.1.2.2.2.2 (Int.toNat (i64.wrap (p.2-1)))).1 0):PR)
 match(fG (t2.1.1,(t2.1.2.1,(t2.1.2.2.1,t2.1.2.2.2))) p digest)with
 |none=>none
 |some r2=>(
 bif r2 then(
 match(dw (o.1,(((t2.1.1,(t2.1.2.1,(t2.1.2.2.1,t2.1.2.2.2))),x2.2.1.2),o.2.2)))with
 |none=>none
 |some y=>(
 match(aB (aR rec_) (((),((),(y.2.1.2.2.2.2.1,(0,())))),(y.2.1,(y.2.2.1,(y.2.2.2.1,(y.2.2.2.2.1,(y.2.2.2.2.2.1,((),((),(p,()))))))))))with
 |none=>none
 |some y1=>(
 match(aB (aL rec_) (((),((),(y1.2.1.2.2.2.2.1,(0,())))),y1.2))with
 |none=>none
 |some y2=>(
 some ((),(y2.2.1,(y2.2.2.1,(y2.2.2.2.1,(y2.2.2.2.2.1,(y2.2.2.2.2.2.1,()))))))))))
 else(
 match(dw (o.1,(x2.2.1,o.2.2)))with
 |none=>none
 |some y3=>(
 match(aB (aR rec_) (((),((),(y3.2.1.2.2.2.2.1,(0,())))),(y3.2.1,(y3.2.2.1,(y3.2.2.2.1,(y3.2.2.2.2.1,(y3.2.2.2.2.2.1,((),((),(p,()))))))))))with
 |none=>none
 |some y4=>(
 match(aB (aL rec_) (((),((),(y4.2.1.2.2.2.2.1,(0,())))),y4.2))with
 |none=>none
 |some y5=>(
 some ((),(y5.2.1,(y5.2.2.1,(y5.2.2.2.1,(y5.2.2.2.2.1,(y5.2.2.2.2.2.1,()))))))))))))
 let t1:=(((o.2.1.2.2.2.2 (Int.toNat (i64.wrap (p.2-1)))).1 1):PR)
 match(fG (t1.1.1,(t1.1.2.1,(t1.1.2.2.1,t1.1.2.2.2))) p digest)with
 |none=>none
 |some r1=>(
 bif r1 then(
 k1 ((),(((t1.1.1,(t1.1.2.1,(t1.1.2.2.1,t1.1.2.2.2))),x1.2.1.2),())))
 else(
 k1 x1)))
 let t:=((o.2.1.2.2.2.2 (Int.toNat (i64.wrap (p.2-1)))).2.1:PR)
 match(fG (t.1.1,(t.1.2.1,(t.1.2.2.1,t.1.2.2.2))) p digest)with
 |none=>none
 |some r=>(
 bif r then(
 k ((),(((t.1.1,(t.1.2.1,(t.1.2.2.1,t.1.2.2.2))),o.2.1.2),())))
 else(
 k ((),(((p,(digest,((0,zSN),(0,zNN)))),o.2.1.2),())))))
 else(
 none)
def aC:Nat→((Int×Int))→Z0v→(SR)→Option Z0n:=veil fun n=>Nat.rec (motive:=fun _=>((Int×Int))→Z0v→(SR)→Option Z0n) (fun _ _ _=>none) (fun _ ih=>fI ih) n
theorem zN:aC 0=fun _ _ _=>none:=by rw[aC,aj]; rfl
theorem nP(n:Nat):aC (n+1)=fI (aC n):=by rw[aC,aj]
def lJ(from_:Int)(m:Int)(m1:Int)(m2:ByteArray)(m3:(Int×Int))(m4:ByteArray)(nm:Nat)(m5:Nat→(SlV NI))(nm1:Nat)(m6:Nat→NI)(o:SR):Option Z0n:=
 match(fF from_ m3 m4 o.2.2.1)with
 |none=>none
 |some y=>(
 let r:=y.1.1
 let o1:=y.2.1
 bif r then(
 match(dS (aC 5) m3 m4 (o.1,(o.2.1,(o1,o.2.2.2))))with
 |none=>none
 |some y1=>(
 some y1))
 else(
 some ((),(o.1,(o.2.1,(o1,o.2.2.2))))))
def j6:=veil lJ
theorem qw:j6=lJ:=aj _
def kE(from_:Int)(m:Int)(m1:Int)(m2:ByteArray)(m3:(Int×Int))(m4:ByteArray)(nm:Nat)(m5:Nat→(SlV NI))(nm1:Nat)(m6:Nat→NI)(o:SR):Option Z0n:=
 match(fF from_ m3 m4 o.2.2.2.1)with
 |none=>none
 |some y=>(
 let r:=y.1.1
 let o1:=y.2.1
 bif r then(
 match(dS (aC 5) m3 m4 (o.1,(o.2.1,(o.2.2.1,(o1,o.2.2.2.2)))))with
 |none=>none
 |some y1=>(
 some y1))
 else(
 some ((),(o.1,(o.2.1,(o.2.2.1,(o1,o.2.2.2.2)))))))
def iM:=veil kE
theorem oU:iM=kE:=aj _
def lK(v:VA)(o:SR):Option Z0n:=
 match(fG (o.2.1.1.1,(o.2.1.1.2.1,(o.2.1.1.2.2.1,o.2.1.1.2.2.2))) v.1 v.2.1)with
 |none=>none
 |some r=>(
 bif r then(
 let t:=(((o.2.1.1.2.2.2.1:Nat):Int)==0)
 bif t then(
 match(dw (o.1,((v,o.2.1.2),o.2.2)))with
 |none=>none
 |some y=>(
 some y))
 else(
 some ((),o)))
 else(
 some ((),o)))
def fV:=veil lK
theorem qx:fV=lK:=aj _
def ji(c:Int)(p:PR)(o:SR):Option Z0n:=
 bif (inb (i64.wrap (c-1)) 4)then(
 match(bX p.1.1 (o.2.1,(o.2.2.1,(o.2.2.2.1,()))))with
 |none=>none
 |some y=>(
 let r:=y.1.1
 bif (!r)then(
 match(fV p.1 (o.1,(y.2.1,(y.2.2.1,(y.2.2.2.1,o.2.2.2.2)))))with
 |none=>none
 |some y1=>(
 match(bI (i64.wrap (y1.2.1.2.2.2.1+c)) 7 p.2 y1.2.2.1.2.1 p.1.1 ByteArray.empty 0 (fun _=>.nil) 0 zNN y1.2)with
 |none=>none
 |some y2=>(
 some y2)))
 else(
 match(gY p.1.1 y.2)with
 |none=>none
 |some y3=>(
 let r1:=y3.1.1
 bif r1 then(
 match(fU (aC 5) p (o.1,(y3.2.1,(y3.2.2.1,(y3.2.2.2.1,o.2.2.2.2)))))with
 |none=>none
 |some y4=>(
 some y4))
 else(
 bif (decide (p.1.1.1>(y3.2.1.2.2.2.2 (Int.toNat (i64.wrap (c-1)))).2.1.1.1.1))then(
 let u:=(upd y3.2.1.2.2.2.2 (Int.toNat (i64.wrap (c-1))) ((y3.2.1.2.2.2.2 (Int.toNat (i64.wrap (c-1)))).1,(p,(y3.2.1.2.2.2.2 (Int.toNat (i64.wrap (c-1)))).2.2)))
 some ((),(o.1,((y3.2.1.1,(y3.2.1.2.1,((),((),u)))),(y3.2.2.1,(y3.2.2.2.1,o.2.2.2.2))))))
 else(
 some ((),(o.1,(y3.2.1,(y3.2.2.1,(y3.2.2.2.1,o.2.2.2.2)))))))))))
 else(
 none)
def gX:=veil ji
theorem mP:gX=ji:=aj _
def fZ(from_:Int)(m:Int)(m1:Int)(m2:ByteArray)(m3:(Int×Int))(m4:ByteArray)(nm:Nat)(m5:Nat→(SlV NI))(nm1:Nat)(m6:Nat→NI)(o:SS):Option (((Z0C×Unit)×SS)):=
 match(jV from_ m m1 m2 m3 m4 nm m5 nm1 m6 o)with
 |none=>none
 |some y=>(
 let r:=y.1.1
 bif (!r)then(
 some ((zNO,()),y.2))
 else(
 let k:(Unit×((GR×(Int×(Int×(Int×(Int×(Unit×((BG×Nat)×Unit)))))))×CR))→Option (((Z0C×Unit)×SS)):=fun x1=>(
 bif (m==1)then(
 bif (inb (i64.wrap ((i64.wrap (from_-x1.2.1.2.2.2.1))-1)) 4)then(
 let k1:Z0t→Option (((Z0C×Unit)×SS)):=fun x2=>(
 let t:=x2.1.1
 bif t then(
 let u:=(upd x1.2.2.1.2.2.2.2 (Int.toNat (i64.wrap ((i64.wrap (from_-x1.2.1.2.2.2.1))-1))) ((x1.2.2.1.2.2.2.2 (Int.toNat (i64.wrap ((i64.wrap (from_-x1.2.1.2.2.2.1))-1)))).1,((x1.2.2.1.2.2.2.2 (Int.toNat (i64.wrap ((i64.wrap (from_-x1.2.1.2.2.2.1))-1)))).2.1,(m1,(x1.2.2.1.2.2.2.2 (Int.toNat (i64.wrap ((i64.wrap (from_-x1.2.1.2.2.2.1))-1)))).2.2.2))))
 bif (decide ((u (Int.toNat (i64.wrap ((i64.wrap (from_-x1.2.1.2.2.2.1))-1)))).2.2.1>0))then(
 match(bI (i64.wrap (x1.2.1.2.2.2.1+(i64.wrap (from_-x1.2.1.2.2.2.1)))) 3 (u (Int.toNat (i64.wrap ((i64.wrap (from_-x1.2.1.2.2.2.1))-1)))).2.2.1 x1.2.2.1.2.1 x1.2.2.1.1.1 x1.2.2.1.1.2.1 x1.2.2.1.1.2.2.1.1 x1.2.2.1.1.2.2.1.2 x1.2.2.1.1.2.2.2.1 x1.2.2.1.1.2.2.2.2 ((x1.2.1.1,(x1.2.1.2.1,(x1.2.1.2.2.1,(x1.2.1.2.2.2.1,(x1.2.1.2.2.2.2.1,((),(x1.2.1.2.2.2.2.2.2.1,zNO))))))),((x1.2.2.1.1,(x1.2.2.1.2.1,((),((),u)))),(x1.2.2.2.1,(x1.2.2.2.2.1,y.2.2)))))with
 |none=>none
 |some y3=>(
 some (((y3.2.1.2.2.2.2.2.2.2.1,(fun j=>y3.2.1.2.2.2.2.2.2.2.2 (0+j))),()),((y3.2.1.1,(y3.2.1.2.1,(y3.2.1.2.2.1,(y3.2.1.2.2.2.1,(y3.2.1.2.2.2.2.1,((),((List.modify y3.2.1.2.2.2.2.2.2.1.1 y3.2.1.2.2.2.2.2.2.1.2 fun e=>(e.1,((y3.2.2.1.1,(y3.2.2.1.2.1,(.nil,(.nil,y3.2.2.1.2.2.2.2)))),(y3.2.2.2.1,(y3.2.2.2.2.1,()))))),(y3.2.1.2.2.2.2.2.2.2.1,(fun j=>y3.2.1.2.2.2.2.2.2.2.2 (0+j)))))))))),(y3.2.2.2.2.2.1,())))))
 else(
 some (((0,(fun j=>(fun _=>zOU) (0+j))),()),((x1.2.1.1,(x1.2.1.2.1,(x1.2.1.2.2.1,(x1.2.1.2.2.2.1,(x1.2.1.2.2.2.2.1,((),((List.modify x1.2.1.2.2.2.2.2.2.1.1 x1.2.1.2.2.2.2.2.2.1.2 fun e=>(e.1,((x1.2.2.1.1,(x1.2.2.1.2.1,(.nil,(.nil,u)))),x1.2.2.2))),(0,(fun j=>(fun _=>zOU) (0+j)))))))))),(y.2.2.1,())))))
 else(
 some (((0,(fun j=>(fun _=>zOU) (0+j))),()),((x1.2.1.1,(x1.2.1.2.1,(x1.2.1.2.2.1,(x1.2.1.2.2.2.1,(x1.2.1.2.2.2.2.1,((),((List.modify x1.2.1.2.2.2.2.2.2.1.1 x1.2.1.2.2.2.2.2.2.1.2 fun e=>(e.1,((x1.2.2.1.1,(x1.2.2.1.2.1,(.nil,(.nil,x1.2.2.1.2.2.2.2)))),x1.2.2.2))),(0,(fun j=>(fun _=>zOU) (0+j)))))))))),(y.2.2.1,())))))
 bif (decide (m1>(x1.2.2.1.2.2.2.2 (Int.toNat (i64.wrap ((i64.wrap (from_-x1.2.1.2.2.2.1))-1)))).2.2.2))then(
 k1 (((decide (m1≥(x1.2.2.1.2.2.2.2 (Int.toNat (i64.wrap ((i64.wrap (from_-x1.2.1.2.2.2.1))-1)))).2.2.1)),()),()))
 else(
 k1 ((false,()),())))
 else(
 none))
 else(
 bif (m==2)then(
 bif (inb (i64.wrap ((i64.wrap (from_-x1.2.1.2.2.2.1))-1)) 4)then(
 let t1:=(if(x1.2.2.1.2.2.2.2 (Int.toNat (i64.wrap ((i64.wrap (from_-x1.2.1.2.2.2.1))-1)))).2.2.2<m1 then m1 else(x1.2.2.1.2.2.2.2 (Int.toNat (i64.wrap ((i64.wrap (from_-x1.2.1.2.2.2.1))-1)))).2.2.2)
 let u1:=(upd x1.2.2.1.2.2.2.2 (Int.toNat (i64.wrap ((i64.wrap (from_-x1.2.1.2.2.2.1))-1))) ((x1.2.2.1.2.2.2.2 (Int.toNat (i64.wrap ((i64.wrap (from_-x1.2.1.2.2.2.1))-1)))).1,((x1.2.2.1.2.2.2.2 (Int.toNat (i64.wrap ((i64.wrap (from_-x1.2.1.2.2.2.1))-1)))).2.1,((x1.2.2.1.2.2.2.2 (Int.toNat (i64.wrap ((i64.wrap (from_-x1.2.1.2.2.2.1))-1)))).2.2.1,t1))))
 bif (decide ((u1 (Int.toNat (i64.wrap ((i64.wrap (from_-x1.2.1.2.2.2.1))-1)))).2.2.1≤m1))then(
 let u2:=(upd u1 (Int.toNat (i64.wrap ((i64.wrap (from_-x1.2.1.2.2.2.1))-1))) ((u1 (Int.toNat (i64.wrap ((i64.wrap (from_-x1.2.1.2.2.2.1))-1)))).1,((u1 (Int.toNat (i64.wrap ((i64.wrap (from_-x1.2.1.2.2.2.1))-1)))).2.1,(0,(u1 (Int.toNat (i64.wrap ((i64.wrap (from_-x1.2.1.2.2.2.1))-1)))).2.2.2))))
 some (((0,(fun j=>(fun _=>zOU) (0+j))),()),((x1.2.1.1,(x1.2.1.2.1,(x1.2.1.2.2.1,(x1.2.1.2.2.2.1,(x1.2.1.2.2.2.2.1,((),((List.modify x1.2.1.2.2.2.2.2.2.1.1 x1.2.1.2.2.2.2.2.2.1.2 fun e=>(e.1,((x1.2.2.1.1,(x1.2.2.1.2.1,(.nil,(.nil,u2)))),x1.2.2.2))),(0,(fun j=>(fun _=>zOU) (0+j)))))))))),(y.2.2.1,()))))
 else(
 some (((0,(fun j=>(fun _=>zOU) (0+j))),()),((x1.2.1.1,(x1.2.1.2.1,(x1.2.1.2.2.1,(x1.2.1.2.2.2.1,(x1.2.1.2.2.2.2.1,((),((List.modify x1.2.1.2.2.2.2.2.2.1.1 x1.2.1.2.2.2.2.2.2.1.2 fun e=>(e.1,((x1.2.2.1.1,(x1.2.2.1.2.1,(.nil,(.nil,u1)))),x1.2.2.2))),(0,(fun j=>(fun _=>zOU) (0+j)))))))))),(y.2.2.1,())))))
 else(
 none))
 else(
 bif (m==5)then(
 match(j6 from_ m m1 m2 m3 m4 nm m5 nm1 m6 ((x1.2.1.1,(x1.2.1.2.1,(x1.2.1.2.2.1,(x1.2.1.2.2.2.1,(x1.2.1.2.2.2.2.1,((),(x1.2.1.2.2.2.2.2.2.1,zNO))))))),(x1.2.2.1,(x1.2.2.2.1,(x1.2.2.2.2.1,y.2.2)))))with
 |none=>none
 |some y4=>(
 some (((y4.2.1.2.2.2.2.2.2.2.1,(fun j=>y4.2.1.2.2.2.2.2.2.2.2 (0+j))),()),((y4.2.1.1,(y4.2.1.2.1,(y4.2.1.2.2.1,(y4.2.1.2.2.2.1,(y4.2.1.2.2.2.2.1,((),((List.modify y4.2.1.2.2.2.2.2.2.1.1 y4.2.1.2.2.2.2.2.2.1.2 fun e=>(e.1,((y4.2.2.1.1,(y4.2.2.1.2.1,(.nil,(.nil,y4.2.2.1.2.2.2.2)))),(y4.2.2.2.1,(y4.2.2.2.2.1,()))))),(y4.2.1.2.2.2.2.2.2.2.1,(fun j=>y4.2.1.2.2.2.2.2.2.2.2 (0+j)))))))))),(y4.2.2.2.2.2.1,())))))
 else(
 bif (m==6)then(
 match(iM from_ m m1 m2 m3 m4 nm m5 nm1 m6 ((x1.2.1.1,(x1.2.1.2.1,(x1.2.1.2.2.1,(x1.2.1.2.2.2.1,(x1.2.1.2.2.2.2.1,((),(x1.2.1.2.2.2.2.2.2.1,zNO))))))),(x1.2.2.1,(x1.2.2.2.1,(x1.2.2.2.2.1,y.2.2)))))with
 |none=>none
 |some y5=>(
 some (((y5.2.1.2.2.2.2.2.2.2.1,(fun j=>y5.2.1.2.2.2.2.2.2.2.2 (0+j))),()),((y5.2.1.1,(y5.2.1.2.1,(y5.2.1.2.2.1,(y5.2.1.2.2.2.1,(y5.2.1.2.2.2.2.1,((),((List.modify y5.2.1.2.2.2.2.2.2.1.1 y5.2.1.2.2.2.2.2.2.1.2 fun e=>(e.1,((y5.2.2.1.1,(y5.2.2.1.2.1,(.nil,(.nil,y5.2.2.1.2.2.2.2)))),(y5.2.2.2.1,(y5.2.2.2.2.1,()))))),(y5.2.1.2.2.2.2.2.2.2.1,(fun j=>y5.2.1.2.2.2.2.2.2.2.2 (0+j)))))))))),(y5.2.2.2.2.2.1,())))))
 else(
 match(qj nm m5)with
 |none=>none
 |some r3=>(
 bif (m==8)then(
 match(fV (m3,(r3,((nm,m5),(nm1,m6)))) ((x1.2.1.1,(x1.2.1.2.1,(x1.2.1.2.2.1,(x1.2.1.2.2.2.1,(x1.2.1.2.2.2.2.1,((),(x1.2.1.2.2.2.2.2.2.1,zNO))))))),(x1.2.2.1,(x1.2.2.2.1,(x1.2.2.2.2.1,y.2.2)))))with
 |none=>none
 |some y6=>(
 some (((y6.2.1.2.2.2.2.2.2.2.1,(fun j=>y6.2.1.2.2.2.2.2.2.2.2 (0+j))),()),((y6.2.1.1,(y6.2.1.2.1,(y6.2.1.2.2.1,(y6.2.1.2.2.2.1,(y6.2.1.2.2.2.2.1,((),((List.modify y6.2.1.2.2.2.2.2.2.1.1 y6.2.1.2.2.2.2.2.2.1.2 fun e=>(e.1,((y6.2.2.1.1,(y6.2.2.1.2.1,(.nil,(.nil,y6.2.2.1.2.2.2.2)))),(y6.2.2.2.1,(y6.2.2.2.2.1,()))))),(y6.2.1.2.2.2.2.2.2.2.1,(fun j=>y6.2.1.2.2.2.2.2.2.2.2 (0+j)))))))))),(y6.2.2.2.2.2.1,())))))
 else(
 match(gX (i64.wrap (from_-x1.2.1.2.2.2.1)) ((m3,(r3,((nm,m5),(nm1,m6)))),m1) ((x1.2.1.1,(x1.2.1.2.1,(x1.2.1.2.2.1,(x1.2.1.2.2.2.1,(x1.2.1.2.2.2.2.1,((),(x1.2.1.2.2.2.2.2.2.1,zNO))))))),(x1.2.2.1,(x1.2.2.2.1,(x1.2.2.2.2.1,y.2.2)))))with
 |none=>none
 |some y7=>(
 some (((y7.2.1.2.2.2.2.2.2.2.1,(fun j=>y7.2.1.2.2.2.2.2.2.2.2 (0+j))),()),((y7.2.1.1,(y7.2.1.2.1,(y7.2.1.2.2.1,(y7.2.1.2.2.2.1,(y7.2.1.2.2.2.2.1,((),((List.modify y7.2.1.2.2.2.2.2.2.1.1 y7.2.1.2.2.2.2.2.2.1.2 fun e=>(e.1,((y7.2.2.1.1,(y7.2.2.1.2.1,(.nil,(.nil,y7.2.2.1.2.2.2.2)))),(y7.2.2.2.1,(y7.2.2.2.2.1,()))))),(y7.2.1.2.2.2.2.2.2.2.1,(fun j=>y7.2.1.2.2.2.2.2.2.2.2 (0+j)))))))))),(y7.2.2.2.2.2.1,())))))))))))
 match(y.2.1.2.2.2.2.2.2.1[(bidx .str y.2.1.2.2.2.2.2.2.1 m2)]?)with
 |none=>(
 match(lG y.2.1.2.2.2.1)with
 |none=>none
 |some y1=>(
 let r1:=y1.1.2.1
 let o1:=y1.2.1
 match(lG y.2.1.2.2.2.1)with
 |none=>none
 |some y2=>(
 let r2:=y2.1.2.1
 let o2:=y2.2.1
 k ((),((y.2.1.1,(y.2.1.2.1,(y.2.1.2.2.1,(y.2.1.2.2.2.1,(y.2.1.2.2.2.2.1,((),(((VU .str tRC y.2.1.2.2.2.2.2.2.1 m2),(bidx .str y.2.1.2.2.2.2.2.2.1 m2)),()))))))),((zVA,(m2,((),((),zCS)))),(o1,(o2,()))))))))
 |some q=>(
 k ((),((y.2.1.1,(y.2.1.2.1,(y.2.1.2.2.1,(y.2.1.2.2.2.1,(y.2.1.2.2.2.2.1,((),((y.2.1.2.2.2.2.2.2.1,(bidx .str y.2.1.2.2.2.2.2.2.1 m2)),()))))))),((q.2.1.1,(q.2.1.2.1,((),((),q.2.1.2.2.2.2)))),(q.2.2.1,(q.2.2.2.1,()))))))))
def aN:=veil fZ
theorem kF:aN=fZ:=aj _
def pI(s:Z01)(from_:Int)(m:Z0f):Option (Z0C):=
 match s with
 |none=>(
 some zNO)
 |some s0=>(
 bif (Option.isSome s0.2.2.2.2.2.2.1)then(
 none)
 else(
 some zNO))
def zO:=veil pI
theorem Fu:zO=pI:=aj _
def mE(key:ByteArray)(o:SS):Option ((((Int×Int)×(ByteArray×Z0c))×SS)):=
 match(o.1.2.2.2.2.2.2.1[(bidx .str o.1.2.2.2.2.2.2.1 key)]?)with
 |none=>(
 some (((0,0),((ByteArray.mk #[]),(false,()))),o))
 |some q=>(
 some ((q.2.1.1.1,(q.2.1.1.2.1,((decide (((q.2.1.1.2.2.2.1:Nat):Int)>0)),()))),((o.1.1,(o.1.2.1,(o.1.2.2.1,(o.1.2.2.2.1,(o.1.2.2.2.2.1,((),((List.modify o.1.2.2.2.2.2.2.1 (bidx .str o.1.2.2.2.2.2.2.1 key) fun e=>(e.1,((q.2.1.1,(q.2.1.2.1,(.nil,(.nil,q.2.1.2.2.2.2)))),(q.2.2.1,(q.2.2.2.1,()))))),o.1.2.2.2.2.2.2.2))))))),o.2)))
def gZ:=veil mE
theorem rV:gZ=mE:=aj _
def pJ(s:Z01)(key:ByteArray):Option ((Int×Int)×ByteArray×Bool):=
 match s with
 |none=>(
 some ((0,0),(ByteArray.mk #[]),false))
 |some s0=>(
 bif (Option.isSome s0.2.2.2.2.2.2.1)then(
 none)
 else(
 some ((0,0),(ByteArray.mk #[]),false)))
def zP:=veil pJ
theorem Fv:zP=pJ:=aj _
def jc(o:SS):Option (((Z0r×Unit)×SS)):=
 match(eG o.2.1.1 o.2.1.2.1 o.2.1.2.2.1.1 o.2.1.2.2.1.2 o.2.1.2.2.2)with
 |none=>none
 |some y=>(
 let nr:=y.1.1.1
 let r:=y.1.1.2
 let o1:=y.2.1.1
 let o2:=y.2.1.2.1
 let no:=y.2.1.2.2.1.1
 let o3:=y.2.1.2.2.1.2
 let o4:=y.2.1.2.2.2
 some (((nr,r),()),(o.1,((o1,(o2,((no,o3),o4))),()))))
def bS:=veil jc
theorem kG:bS=jc:=aj _
def pK(s:Z01):Option (Z0r):=
 match s with
 |none=>(
 some (0,(fun _=>ByteArray.empty)))
 |some s0=>(
 bif (aM.uQ s0.2.2.2.2.2.1)then(
 none)
 else(
 bif (aM.isNil s0.2.2.2.2.2.1)then(
 match(oH none)with
 |none=>none
 |some r=>(
 some (r.1,r.2)))
 else(
 match(oH (some (aM.val ((0,(0,(.nil,none))):Z08) s0.2.2.2.2.2.1)))with
 |none=>none
 |some r1=>(
 some (r1.1,r1.2)))))
def zQ:=veil pK
theorem Fw:zQ=pK:=aj _
abbrev aZ(t:Int)(t1:Int)(o:Z0h):=(((),((),(t,(t1,())))),o)
abbrev mQ:Type:=((Unit×Z0o)×Z0h)
def bL:mQ→Option (mQ⊕(Unit×Z0h)):=fun x=>
 let t:=x.1.2.2.1
 let t1:=x.1.2.2.2.1
 bif (decide (t1<t))then(
 bif (inb t1 4)then(
 let k1:(Unit×(SO×(SP×CR)))→Option Z0M:=fun x2=>(
 let k2:(Unit×(SO×(SP×CR)))→Option Z0M:=fun x3=>(
 match(iX (some x3.2.2.2.2.2.1) x3.2.1.2.2.1 (i64.wrap (t1+1)) 1)with
 |none=>none
 |some r3=>(
 bif (decide (r3.1.1>0))then(
 match(bD 6 r3.1 r3.2 (x3.2.1,(x3.2.2.2.1,(x3.2.2.2.2.1,(x3.2.2.2.2.2.1,(x3.2.2.1,()))))))with
 |none=>none
 |some y3=>(
 some (.inl (((),((),(t,((i64.wrap (t1+1)),())))),(y3.2.1,(y3.2.2.2.2.2.1,((),(y3.2.2.1,(y3.2.2.2.1,(y3.2.2.2.2.1,((),())))))))))))
 else(
 some (.inl (((),((),(t,((i64.wrap (t1+1)),())))),(x3.2.1,(x3.2.2.1,((),(x3.2.2.2.1,(x3.2.2.2.2.1,(x3.2.2.2.2.2.1,((),()))))))))))))
 match(iX (some x2.2.2.2.2.1) x2.2.1.2.2.1 (i64.wrap (t1+1)) 1)with
 |none=>none
 |some r2=>(
 bif (decide (r2.1.1>0))then(
 match(bD 5 r2.1 r2.2 (x2.2.1,(x2.2.2.2.1,(x2.2.2.2.2.1,(x2.2.2.2.2.2.1,(x2.2.2.1,()))))))with
 |none=>none
 |some y2=>(
 k2 ((),(y2.2.1,(y2.2.2.2.2.2.1,(y2.2.2.1,(y2.2.2.2.1,(y2.2.2.2.2.1,()))))))))
 else(
 k2 x2)))
 let k:(Unit×(SO×(SP×CR)))→Option Z0M:=fun x1=>(
 match(iX (some x1.2.2.2.2.2.1) x1.2.1.2.2.1 (i64.wrap (t1+1)) 0)with
 |none=>none
 |some r1=>(
 bif (decide (r1.1.1>0))then(
 match(bD 6 r1.1 r1.2 (x1.2.1,(x1.2.2.2.1,(x1.2.2.2.2.1,(x1.2.2.2.2.2.1,(x1.2.2.1,()))))))with
 |none=>none
 |some y1=>(
 k1 ((),(y1.2.1,(y1.2.2.2.2.2.1,(y1.2.2.1,(y1.2.2.2.1,(y1.2.2.2.2.1,()))))))))
 else(
 k1 x1)))
 match(iX (some x.2.2.2.2.2.1) x.2.1.2.2.1 (i64.wrap (t1+1)) 0)with
 |none=>none
 |some r=>(
 bif (decide (r.1.1>0))then(
 match(bD 5 r.1 r.2 (x.2.1,(x.2.2.2.2.1,(x.2.2.2.2.2.1,(x.2.2.2.2.2.2.1,(x.2.2.1,()))))))with
 |none=>none
 |some y=>(
 k ((),(y.2.1,(y.2.2.2.2.2.1,(y.2.2.1,(y.2.2.2.1,(y.2.2.2.2.1,()))))))))
 else(
 k ((),(x.2.1,(x.2.2.1,(x.2.2.2.2.1,(x.2.2.2.2.2.1,(x.2.2.2.2.2.2.1,())))))))))
 else(
 none))
 else(
 some (.inr ((),(x.2.1,(x.2.2.1,((),(x.2.2.2.2.1,(x.2.2.2.2.2.1,(x.2.2.2.2.2.2.1,((),()))))))))))
abbrev jM(nt:Nat)(t:Nat→ByteArray)(t1:Int)(t2:Int)(o:(SN×(SP×Z05))):=(((),((),((nt,t),(t1,(t2,()))))),o)
abbrev zR(o:(SN×(SP×Z05))):=(((),((),())),o)
abbrev qy:Type:=((Unit×(Unit×(Z0r×(Int×Z04))))×(SN×(SP×Z05)))
def dn:qy→Option (qy⊕(Z0k×(SN×(SP×Z05)))):=fun x=>
 let nt:=x.1.2.2.1.1
 let t:=x.1.2.2.1.2
 let t1:=x.1.2.2.2.1
 let t2:=x.1.2.2.2.2.1
 bif (decide (t2<t1))then(
 bif (inb t2 nt)then(
 match(x.2.1.2.2.2.2.2.2.1[(bidx .str x.2.1.2.2.2.2.2.2.1 (t (Int.toNat t2)))]?)with
 |none=>(
 match(lG x.2.1.2.2.2.1)with
 |none=>none
 |some y2=>(
 let r:=y2.1.2.1
 let o:=y2.2.1
 match(lG x.2.1.2.2.2.1)with
 |none=>none
 |some y3=>(
 let r1:=y3.1.2.1
 let o1:=y3.2.1
 none)))
 |some q=>(
 match(aB bL (((),((),(x.2.1.2.2.2.2.1,(0,())))),((x.2.1.1,(x.2.1.2.1,(x.2.1.2.2.1,(x.2.1.2.2.2.1,(x.2.1.2.2.2.2.1,((),((x.2.1.2.2.2.2.2.2.1,(bidx .str x.2.1.2.2.2.2.2.2.1 (t (Int.toNat t2)))),x.2.1.2.2.2.2.2.2.2))))))),(x.2.2.1,((),((q.2.1.1,(q.2.1.2.1,((),((),q.2.1.2.2.2.2)))),(q.2.2.1,(q.2.2.2.1,((),())))))))))with
 |none=>none
 |some y=>(
 match(dw (y.2.1,(y.2.2.2.2.1,(y.2.2.2.2.2.1,(y.2.2.2.2.2.2.1,(y.2.2.1,()))))))with
 |none=>none
 |some y1=>(
 some (.inl (((),((),((nt,t),(t1,((i64.wrap (t2+1)),()))))),((y1.2.1.1,(y1.2.1.2.1,(y1.2.1.2.2.1,(y1.2.1.2.2.2.1,(y1.2.1.2.2.2.2.1,((),((List.modify y1.2.1.2.2.2.2.2.2.1.1 y1.2.1.2.2.2.2.2.2.1.2 fun e=>(e.1,((y1.2.2.1.1,(y1.2.2.1.2.1,(.nil,(.nil,y1.2.2.1.2.2.2.2)))),(y1.2.2.2.1,(y1.2.2.2.2.1,()))))),y1.2.1.2.2.2.2.2.2.2))))))),(y1.2.2.2.2.2.1,((),())))))))))
 else(
 none))
 else(
 some (.inr (((),((),())),(x.2.1,(x.2.2.1,((),()))))))
def jd(o:SS):Option (((Z0C×Unit)×SS)):=
 match(eG o.2.1.1 o.2.1.2.1 o.2.1.2.2.1.1 o.2.1.2.2.1.2 o.2.1.2.2.2)with
 |none=>none
 |some y=>(
 let nr:=y.1.1.1
 let r:=y.1.1.2
 let o1:=y.2.1.1
 let o2:=y.2.1.2.1
 let no:=y.2.1.2.2.1.1
 let o3:=y.2.1.2.2.1.2
 let o4:=y.2.1.2.2.2
 match(aB dn (((),((),((nr,r),(((nr:Nat):Int),(0,()))))),((o.1.1,(o.1.2.1,(o.1.2.2.1,(o.1.2.2.2.1,(o.1.2.2.2.2.1,((),(o.1.2.2.2.2.2.2.1,zNO))))))),((o1,(o2,((no,o3),o4))),((),())))))with
 |none=>none
 |some y1=>(
 some (((y1.2.1.2.2.2.2.2.2.2.1,(fun j=>y1.2.1.2.2.2.2.2.2.2.2 (0+j))),()),((y1.2.1.1,(y1.2.1.2.1,(y1.2.1.2.2.1,(y1.2.1.2.2.2.1,(y1.2.1.2.2.2.2.1,((),(y1.2.1.2.2.2.2.2.2.1,(y1.2.1.2.2.2.2.2.2.2.1,(fun j=>y1.2.1.2.2.2.2.2.2.2.2 (0+j)))))))))),(y1.2.2.1,())))))
def bT:=veil jd
theorem rW:bT=jd:=aj _
def pO(s:Z01):Option (Z0C):=
 match s with
 |none=>(
 some zNO)
 |some s0=>(
 bif (Option.isSome s0.2.2.2.2.2.2.1)then(
 none)
 else(
 some zNO))
def zU:=veil pO
theorem Fy:zU=pO:=aj _
open Go.IntKind (i64 u64 u32 u8)
open Go.IntKind (i64 u64 u32 u8)
open Go.IntKind (i64 u64 u32 u8)
open Go.IntKind (i64 u64 u32 u8)
open Go.IntKind (i64 u64 u32 u8)
open Go.IntKind (i64 u64 u32 u8)
open Go.IntKind (i64 u64 u32 u8)
open Go.IntKind (i64 u64 u32 u8)
open Go.IntKind (i64 u64 u32 u8)
open Go.IntKind (i64 u64 u32 u8)
open Go.IntKind (i64 u64 u32 u8)
end
end Go.Pl
