/-
  The functions of more packages, plainly.
-/
import Derived.Test.YtldlihheppdhnaaGreatDenI
import Derived.Test.YtldlihheppdhnaaGreatPlA
import Derived.Test.YtldlihheppdhnaaGreatDenM
import Derived.Test.YtldlihheppdhnaaGreatDenL
set_option linter.unusedVariables false
set_option linter.unusedSimpArgs false
set_option maxRecDepth 100000
set_option maxHeartbeats 0
namespace Go.Pl
open Go.Den
abbrev Z01:Type:=(Int×(Int×Int))×(Int×(Int×(Int×(Int×((Int×(Int×((SlV ByteArray)×(SlV Int))))×((SlV (ByteArray×(GI×((SlV VO)×((SlV VO)×(Nat->((Nat->GI)×(GI×(Int×Int)))))))))×(SlV (Int×(Int×(Int×(ByteArray×((Int×Int)×(ByteArray×((SlV (SlV NI))×(SlV NI)))))))))))))))
abbrev Z02:Type:=Option ((aL GR)×(Int×(Int×(Int×(Int×((aL (Int×(Int×((SlV ByteArray)×(Option Nat)))))×((Option Nat)×(SlV OU))))))))
abbrev Z04:Type:=((Unit×(Unit×(Int×(Int×Unit))))×(SO×(RC×(VT×(VT×(SP×(Unit×(Unit×((Int×Int)×Unit)))))))))⊕(Unit×(SO×(RC×(VT×(VT×(SP×(Unit×(Unit×((Int×Int)×Unit)))))))))
abbrev Z0g:Type:=Int×(Int×(ByteArray×VA))
abbrev Z0i:Type:=SO×(SP×(Unit×(RC×(VT×(VT×Z09)))))
abbrev Z0p:Type:=(Unit×SR)
abbrev Z0r:Type:=Z0k×(Int×(Int×(Int×(Int×((Int×(Int×((SlV ByteArray)×(SlV Int))))×((SlV (ByteArray×(GI×((SlV VO)×((SlV VO)×(Nat->((Nat->GI)×(GI×(Int×Int)))))))))×(SlV OU)))))))
abbrev Z0w:Type:=SO×(RC×(VT×(VT×(SP×(Unit×(Unit×((Int×Int)×Unit)))))))
abbrev Z0E:Type:=((Nat×(Nat->Z08))×(Unit×(Z01×(Unit×((Nat×(Nat->Z05))×Z06)))))×(Z0s×(Z00×(Z0k×Unit)))
abbrev Z0G:Type:=SO×(RC×(VT×(VT×(SP×Z0m))))
abbrev Z0H:Type:=(((Nat×(Nat->OU))×Unit)×SS)
abbrev Z0M:Type:=((Unit×Z0q)×Z0i)⊕(Unit×Z0i)
end Go.Pl
namespace Go.Pl
end Go.Pl
open Go Go.Den Go.Pl
namespace Go.Pl
noncomputable section
open Go.IntKind (i64 u64 u32 u8)
abbrev oz(s:ByteArray)(nb:Nat)(b:Nat->Int):=((s,((nb,b),())),())
abbrev wh(s:ByteArray)(nb:Nat)(b:Nat->Int):=((s,((nb,b),())),())
abbrev Ik:Type:=((ByteArray×((Nat×NI)×Unit))×Unit)
def kU:Ik->Option (Ik⊕((ByteArray×((Nat×NI)×Unit))×Unit)):=λx=>let s:=x.1.1;let nb:=x.1.2.1.1;let b:=x.1.2.1.2;bif ((Int.tmod ((nb:Nat):Int) 64) !=56)then(bif ((Nat.ble ((nb+1)*1) 140737488355328)&&(Nat.ble (nb+1) 9223372036854775807))then(some (.inl ((s,(((nb+1),(glue nb b (λj=>(upd (λ_=>0) 0 0) (0+j)))),())),())))else(none))else(some (.inr ((s,((nb,b),())),())))
abbrev oD(s:ByteArray)(nb:Nat)(b:Nat->Int)(k:Int):=((s,((nb,b),(k,()))),())
abbrev wm(nb:Nat)(b:Nat->Int):=(((nb,b),()),())
abbrev Il:Type:=((ByteArray×((Nat×NI)×Z06))×Unit)
def kV:Il->Option (Il⊕Z0A):=λx=>let s:=x.1.1;let nb:=x.1.2.1.1;let b:=x.1.2.1.2;let k:=x.1.2.2.1;bif (decide (k>=0))then(bif (decide ((i64.wrap (8*k))<0))then(none)else(let t:=(ak .and .i64 (bG .i64 (i64.wrap (8*(((ByteArray.size s):Nat):Int))) (i64.wrap (8*k))) 255);bif ((Nat.ble ((nb+1)*1) 140737488355328)&&(Nat.ble (nb+1) 9223372036854775807))then(some (.inl ((s,(((nb+1),(glue nb b (λj=>(upd (λ_=>0) 0 (u8.wrap t)) (0+j)))),((i64.wrap (k-1)),()))),())))else(none)))else(some (.inr (((nb,b),()),())))
def Im(s:ByteArray):Option ((Nat×NI)):=bif (Nat.ble (ByteArray.size s) 9223372036854775807)then(bif ((Nat.ble (((ByteArray.size s)+1)*1) 140737488355328)&&(Nat.ble ((ByteArray.size s)+1) 9223372036854775807))then(match(aB kU ((s,((((ByteArray.size s)+1),(glue (ByteArray.size s) (λi=>(((s).data.toList.getD i 0).toNat:Int)) (λj=>(upd (λ_=>0) 0 128) (0+j)))),())),()))with|none=>none|some y=>(let s1:=y.1.1;let nb:=y.1.2.1.1;let b:=y.1.2.1.2;match(aB kV ((s1,((nb,b),(7,()))),()))with|none=>none|some y1=>(let nb1:=y1.1.1.1;let b1:=y1.1.1.2;some (nb1,(λj=>b1 (0+j))))))else(none))else(none)
def EJ:=veil Im
theorem KD:EJ=Im:=aj _
def Vk:Option (NI):=some (upd (upd (upd (upd (upd (upd (upd (upd (λ_=>0) 0 1779033703) 1 3144134277) 2 1013904242) 3 2773480762) 4 1359893119) 5 2600822924) 6 528734635) 7 1541459225)
def JD:=veil Vk
theorem O4:JD=Vk:=aj _
def PU(x:Int)(n:Int):Option (Int):=bif (decide (n<0))then(none)else(bif (decide ((i64.wrap (32-n))<0))then(none)else(let t:=(ak .and .i64 (ak .or .i64 (bG .i64 x n) (iL .i64 x (i64.wrap (32-n)))) 4294967295);some t))
def jL:=veil PU
theorem Rw:jL=PU:=aj _
abbrev gW(nb:Nat)(b:Nat->Int)(t:Int)(t1:NI)(w:NI):=(((nb,b),((),((),(t,())))),(t1,(w,())))
abbrev rJ(t:NI)(w:NI):=(((),((),())),(t,(w,())))
abbrev Dt:Type:=(((Nat×NI)×Z0h)×Z0a)
def gX:Dt->Option (Dt⊕(Z0m×Z0a)):=λx=>let nb:=x.1.1.1;let b:=x.1.1.2;let t:=x.1.2.2.2.1;let t1:=x.2.1;let w:=x.2.2.1;bif (decide (t<16))then(bif (inb (i64.wrap (4*t)) nb)then(bif (inb (i64.wrap ((i64.wrap (4*t))+1)) nb)then(let t2:=(ak .or .i64 (iL .i64 (i64.wrap (b (Int.toNat (i64.wrap (4*t))))) 24) (iL .i64 (i64.wrap (b (Int.toNat (i64.wrap ((i64.wrap (4*t))+1))))) 16));bif (inb (i64.wrap ((i64.wrap (4*t))+2)) nb)then(let t3:=(ak .or .i64 t2 (iL .i64 (i64.wrap (b (Int.toNat (i64.wrap ((i64.wrap (4*t))+2))))) 8));bif (inb (i64.wrap ((i64.wrap (4*t))+3)) nb)then(let t4:=(ak .or .i64 t3 (i64.wrap (b (Int.toNat (i64.wrap ((i64.wrap (4*t))+3))))));bif (inb t 64)then(some (.inl (((nb,b),((),((),((i64.wrap (t+1)),())))),(t1,((upd w (Int.toNat t) t4),())))))else(none))else(none))else(none))else(none))else(none))else(some (.inr (((),((),())),(t1,(w,())))))
abbrev gY(t:Int)(t1:NI)(w:NI):=(((),((),(t,()))),(t1,(w,())))
abbrev rM(t:NI)(w:NI):=(((),((),())),(t,(w,())))
abbrev Du:Type:=(Z0h×Z0a)
def gZ:Du->Option (Du⊕(Z0m×Z0a)):=λx=>let t:=x.1.2.2.1;let t1:=x.2.1;let w:=x.2.2.1;bif (decide (t<64))then(bif (inb (i64.wrap (t-15)) 64)then(bif (inb (i64.wrap (t-2)) 64)then(match(jL (w (Int.toNat (i64.wrap (t-15)))) 7)with|none=>none|some r=>(match(jL (w (Int.toNat (i64.wrap (t-15)))) 18)with|none=>none|some r1=>(let t2:=(ak .xor .i64 (ak .xor .i64 r r1) (bG .i64 (w (Int.toNat (i64.wrap (t-15)))) 3));match(jL (w (Int.toNat (i64.wrap (t-2)))) 17)with|none=>none|some r2=>(match(jL (w (Int.toNat (i64.wrap (t-2)))) 19)with|none=>none|some r3=>(let t3:=(ak .xor .i64 (ak .xor .i64 r2 r3) (bG .i64 (w (Int.toNat (i64.wrap (t-2)))) 10));bif (inb (i64.wrap (t-7)) 64)then(bif (inb (i64.wrap (t-16)) 64)then(let t4:=(i64.wrap ((i64.wrap ((i64.wrap (t3+(w (Int.toNat (i64.wrap (t-7))))))+t2))+(w (Int.toNat (i64.wrap (t-16))))));bif (inb t 64)then(some (.inl (((),((),((i64.wrap (t+1)),()))),(t1,((upd w (Int.toNat t) (ak .and .i64 t4 4294967295)),())))))else(none))else(none))else(none))))))else(none))else(none))else(some (.inr (((),((),())),(t1,(w,())))))
def CB(nb:Nat)(b:Nat->Int):Option (NI):=match(aB gX (((nb,b),((),((),(0,())))),((λ_=>0),((λ_=>0),()))))with|none=>none|some y=>(let t:=y.2.1;let w:=y.2.2.1;match(aB gZ (((),((),(16,()))),(t,(w,()))))with|none=>none|some y1=>(let t1:=y1.2.1;let w1:=y1.2.2.1;some w1))
def zC:=veil CB
theorem FK:zC=CB:=aj _
def Io:Option (NI):=some (upd (upd (upd (upd (upd (upd (upd (upd (upd (upd (upd (upd (upd (upd (upd (upd (upd (upd (upd (upd (upd (upd (upd (upd (upd (upd (upd (upd (upd (upd (upd (upd (upd (upd (upd (upd (upd (upd (upd (upd (upd (upd (upd (upd (upd (upd (upd (upd (upd (upd (upd (upd (upd (upd (upd (upd (upd (upd (upd (upd (upd (upd (upd (upd (λ_=>0) 0 1116352408) 1 1899447441) 2 3049323471) 3 3921009573) 4 961987163) 5 1508970993) 6 2453635748) 7 2870763221) 8 3624381080) 9 310598401) 10 607225278) 11 1426881987) 12 1925078388) 13 2162078206) 14 2614888103) 15 3248222580) 16 3835390401) 17 4022224774) 18 264347078) 19 604807628) 20 770255983) 21 1249150122) 22 1555081692) 23 1996064986) 24 2554220882) 25 2821834349) 26 2952996808) 27 3210313671) 28 3336571891) 29 3584528711) 30 113926993) 31 338241895) 32 666307205) 33 773529912) 34 1294757372) 35 1396182291) 36 1695183700) 37 1986661051) 38 2177026350) 39 2456956037) 40 2730485921) 41 2820302411) 42 3259730800) 43 3345764771) 44 3516065817) 45 3600352804) 46 4094571909) 47 275423344) 48 430227734) 49 506948616) 50 659060556) 51 883997877) 52 958139571) 53 1322822218) 54 1537002063) 55 1747873779) 56 1955562222) 57 2024104815) 58 2227730452) 59 2361852424) 60 2428436474) 61 2756734187) 62 3204031479) 63 3329325298)
def xg:=veil Io
theorem Dv:xg=Io:=aj _
abbrev jZ(t:Int)(v:NI)(t1:NI)(w:NI)(k:NI)(x1:NI):=(((),((),((),((),((),(t,())))))),(v,(t1,(w,(k,(x1,()))))))
abbrev yG(v:NI)(t:NI)(x1:NI):=(((),((),((),()))),(v,(t,(x1,()))))
abbrev KE:Type:=((Unit×Z0D)×(NI×Z0y))
def kg:KE->Option (KE⊕((Unit×Z0m)×(NI×Z0a))):=λx=>let t:=x.1.2.2.2.2.2.1;let v:=x.2.1;let t1:=x.2.2.1;let w:=x.2.2.2.1;let k:=x.2.2.2.2.1;let x1:=x.2.2.2.2.2.1;bif (decide (t<64))then(match(jL (x1 4) 6)with|none=>none|some r=>(match(jL (x1 4) 11)with|none=>none|some r1=>(match(jL (x1 4) 25)with|none=>none|some r2=>(let t2:=(ak .xor .i64 (ak .and .i64 (x1 4) (x1 5)) (ak .and .i64 (ak .xor .i64 4294967295 (x1 4)) (x1 6)));let t3:=(i64.wrap ((i64.wrap ((x1 7)+(ak .xor .i64 (ak .xor .i64 r r1) r2)))+t2));bif (inb t 64)then(bif (inb t 64)then(match(jL (x1 0) 2)with|none=>none|some r3=>(match(jL (x1 0) 13)with|none=>none|some r4=>(match(jL (x1 0) 22)with|none=>none|some r5=>(let t4:=(ak .xor .i64 (ak .and .i64 (x1 0) (x1 1)) (ak .and .i64 (x1 0) (x1 2)));let t5:=(i64.wrap ((i64.wrap ((i64.wrap (t3+(k (Int.toNat t))))+(w (Int.toNat t))))+(ak .xor .i64 (ak .xor .i64 r3 r4) r5)));let t6:=(i64.wrap (t5+(ak .xor .i64 t4 (ak .and .i64 (x1 1) (x1 2)))));let t7:=(i64.wrap ((x1 3)+(i64.wrap ((i64.wrap (t3+(k (Int.toNat t))))+(w (Int.toNat t))))));some (.inl (((),((),((),((),((),((i64.wrap (t+1)),())))))),(v,(t1,(w,(k,((upd (upd (upd (upd (upd (upd (upd (upd (λ_=>0) 0 (ak .and .i64 t6 4294967295)) 1 (x1 0)) 2 (x1 1)) 3 (x1 2)) 4 (ak .and .i64 t7 4294967295)) 5 (x1 4)) 6 (x1 5)) 7 (x1 6)),())))))))))))else(none))else(none)))))else(some (.inr (((),((),((),()))),(v,(t1,(x1,()))))))
abbrev qI(i:Int)(v:NI)(t:NI)(x1:NI)(out:NI):=(((),((),((),((),(i,()))))),(v,(t,(x1,(out,())))))
abbrev yH(t:NI)(out:NI):=(((),((),())),(t,(out,())))
abbrev KF:Type:=(Z0D×Z0y)
def mR:KF->Option (KF⊕(Z0m×Z0a)):=λx=>let i:=x.1.2.2.2.2.1;let v:=x.2.1;let t:=x.2.2.1;let x1:=x.2.2.2.1;let out:=x.2.2.2.2.1;bif (decide (i<8))then(bif (inb i 8)then(bif (inb i 8)then(bif (inb i 8)then(some (.inl (((),((),((),((),((i64.wrap (i+1)),()))))),(v,(t,(x1,((upd out (Int.toNat i) (ak .and .i64 (i64.wrap ((v (Int.toNat i))+(x1 (Int.toNat i)))) 4294967295)),())))))))else(none))else(none))else(none))else(some (.inr (((),((),())),(t,(out,())))))
def LX(v:NI)(nb:Nat)(b:Nat->Int):Option (NI):=match(zC nb b)with|none=>none|some r=>(match xg with|none=>none|some r1=>(match(aB kg (((),((),((),((),((),(0,())))))),(v,((λ_=>0),(r,(r1,(v,())))))))with|none=>none|some y=>(let v1:=y.2.1;let t:=y.2.2.1;let x:=y.2.2.2.1;match(aB mR (((),((),((),((),(0,()))))),(v1,(t,(x,((λ_=>0),()))))))with|none=>none|some y1=>(let t1:=y1.2.1;let out:=y1.2.2.1;some out))))
def JE:=veil LX
theorem O5:JE=LX:=aj _
abbrev Ip(nb:Nat)(b:Nat->Int)(at_:Int)(v:NI):=(((nb,b),((),(at_,()))),(v,()))
abbrev KG(v:NI):=(((),()),(v,()))
abbrev Rx:Type:=(((Nat×NI)×Z0z)×(NI×Unit))
def tu:Rx->Option (Rx⊕(Z09×(NI×Unit))):=λx=>let nb:=x.1.1.1;let b:=x.1.1.2;let at_:=x.1.2.2.1;let v:=x.2.1;bif (decide (at_<((nb:Nat):Int)))then(bif ((decide (0<=(i64.wrap (at_+64))))&&(decide ((i64.wrap (at_+64))<=((nb:Nat):Int))))then(bif ((decide (0<=at_))&&(decide (at_<=(((Int.toNat (i64.wrap (at_+64))):Nat):Int))))then(match(JE v ((Int.toNat (i64.wrap (at_+64)))-(Int.toNat at_)) (λj=>b ((Int.toNat at_)+j)))with|none=>none|some r=>(some (.inl (((nb,b),((),((i64.wrap (at_+64)),()))),(r,())))))else(none))else(none))else(some (.inr (((),()),(v,()))))
abbrev Iq(nout:Nat)(out:Nat->Int)(i:Int)(v:NI):=(((),((nout,out),(i,()))),(v,()))
abbrev KH(nout:Nat)(out:Nat->Int):=(((nout,out),()),())
abbrev Ry:Type:=((Unit×((Nat×NI)×Z06))×(NI×Unit))
def tF:Ry->Option (Ry⊕Z0A):=λx=>let nout:=x.1.2.1.1;let out:=x.1.2.1.2;let i:=x.1.2.2.1;let v:=x.2.1;bif (decide (i<8))then(bif (inb i 8)then(bif ((Nat.ble ((nout+1)*1) 140737488355328)&&(Nat.ble (nout+1) 9223372036854775807))then(bif (inb i 8)then(bif ((Nat.ble (((nout+1)+1)*1) 140737488355328)&&(Nat.ble ((nout+1)+1) 9223372036854775807))then(bif (inb i 8)then(bif ((Nat.ble ((((nout+1)+1)+1)*1) 140737488355328)&&(Nat.ble (((nout+1)+1)+1) 9223372036854775807))then(bif (inb i 8)then(bif ((Nat.ble (((((nout+1)+1)+1)+1)*1) 140737488355328)&&(Nat.ble ((((nout+1)+1)+1)+1) 9223372036854775807))then(some (.inl (((),((((((nout+1)+1)+1)+1),(glue (((nout+1)+1)+1) (glue ((nout+1)+1) (glue (nout+1) (glue nout out (λj=>(upd (λ_=>0) 0 (u8.wrap (ak .and .i64 (bG .i64 (v (Int.toNat i)) 24) 255))) (0+j))) (λj=>(upd (λ_=>0) 0 (u8.wrap (ak .and .i64 (bG .i64 (v (Int.toNat i)) 16) 255))) (0+j))) (λj=>(upd (λ_=>0) 0 (u8.wrap (ak .and .i64 (bG .i64 (v (Int.toNat i)) 8) 255))) (0+j))) (λj=>(upd (λ_=>0) 0 (u8.wrap (ak .and .i64 (bG .i64 (v (Int.toNat i)) 0) 255))) (0+j)))),((i64.wrap (i+1)),()))),(v,()))))else(none))else(none))else(none))else(none))else(none))else(none))else(none))else(none))else(some (.inr (((nout,out),()),())))
def Vl(s:ByteArray):Option Z0x:=match(EJ s)with|none=>none|some r=>(match JD with|none=>none|some r1=>(match(aB tu (((r.1,r.2),((),(0,()))),(r1,())))with|none=>none|some y=>(let v:=y.2.1;match(aB tF (((),((0,(λ_=>0)),(0,()))),(v,())))with|none=>none|some y1=>(let nout:=y1.1.1.1;let out:=y1.1.1.2;some (bytesOf nout (λj=>out (0+j)))))))
def O6:=veil Vl
theorem Vm:O6=Vl:=aj _
open Go.IntKind (i64 u64 u32 u8)
abbrev a00(nf:Nat)(f:Nat->Int)(x1:Int)(q:Int)(out:Int)(p:Int)(i:Int):=(((nf,f),(x1,(q,(out,(p,(i,())))))),())
abbrev Ir(out:Int):=((out,()),())
abbrev O7:Type:=(((Nat×NI)×(Int×(Int×Z0v)))×Unit)
def pI:O7->Option (O7⊕Z0L):=λx=>let nf:=x.1.1.1;let f:=x.1.1.2;let x1:=x.1.2.1;let q:=x.1.2.2.1;let out:=x.1.2.2.2.1;let p:=x.1.2.2.2.2.1;let i:=x.1.2.2.2.2.2.1;bif (decide (i<((nf:Nat):Int)))then(bif (inb i nf)then(match(NY (f (Int.toNat i)) p q)with|none=>none|some r=>(match(Tm out r q)with|none=>none|some r1=>(match(NY p x1 q)with|none=>none|some r2=>(some (.inl (((nf,f),(x1,(q,(r1,(r2,((i64.wrap (i+1)),())))))),()))))))else(none))else(some (.inr ((out,()),())))
def PW(nf:Nat)(f:Nat->Int)(x:Int)(q:Int):Option (Int):=match(aB pI (((nf,f),(x,(q,(0,(1,(0,())))))),()))with|none=>none|some y=>(let out:=y.1.1;some out)
def bn:=veil PW
theorem Rz:bn=PW:=aj _
open Go.IntKind (i64 u64 u32 u8)
abbrev LY(nf:Nat)(f:Nat->Int)(n:Int)(nout:Nat)(out:Nat->NI)(j:Int)(s:Z0k):=(((nf,f),(n,((),((nout,out),(j,()))))),(s,()))
abbrev EK(nout:Nat)(out:Nat->NI):=(((nout,out),()),())
abbrev Vn:Type:=(((Nat×NI)×(Int×(Unit×(Z0j×Z06))))×(Z0k×Unit))
def wo:Vn->Option (Vn⊕((Z0j×Unit)×Unit)):=λx=>let nf:=x.1.1.1;let f:=x.1.1.2;let n:=x.1.2.1;let nout:=x.1.2.2.2.1.1;let out:=x.1.2.2.2.1.2;let j:=x.1.2.2.2.2.1;let s:=x.2.1;bif (decide (j<n))then(bif (decide (j<((nf:Nat):Int)))then(bif (inb j nf)then(match(aT (f (Int.toNat j)))with|none=>none|some r=>(match(NZ s s.2.2 r)with|none=>none|some r1=>(match(aT r1)with|none=>none|some r2=>(bif ((Nat.ble ((nout+1)*32) 140737488355328)&&(Nat.ble (nout+1) 9223372036854775807))then(some (.inl (((nf,f),(n,((),(((nout+1),(glue nout out (λj=>(upd (λ_=>(λ_=>0)) 0 r2) (0+j)))),((i64.wrap (j+1)),()))))),(s,()))))else(none)))))else(none))else(match(aT 0)with|none=>none|some r3=>(match(NZ s s.2.2 r3)with|none=>none|some r4=>(match(aT r4)with|none=>none|some r5=>(bif ((Nat.ble ((nout+1)*32) 140737488355328)&&(Nat.ble (nout+1) 9223372036854775807))then(some (.inl (((nf,f),(n,((),(((nout+1),(glue nout out (λj=>(upd (λ_=>(λ_=>0)) 0 r5) (0+j)))),((i64.wrap (j+1)),()))))),(s,()))))else(none))))))else(some (.inr (((nout,out),()),())))
def a01(s:Z0k)(nf:Nat)(f:Nat->Int)(n:Int):Option (Z0j):=match(aB wo (((nf,f),(n,((),((0,(λ_=>(λ_=>0))),(0,()))))),(s,())))with|none=>none|some y=>(let nout:=y.1.1.1;let out:=y.1.1.2;some (nout,(λj=>out (0+j))))
def qh:=veil a01
theorem Yu:qh=a01:=aj _
open Go.IntKind (i64 u64 u32 u8)
abbrev pJ(nm:Nat)(m:Nat->(SlV NI))(i:Int):=(((nm,m),(i,())),())
abbrev EL:Type:=(Z0d⊕((Z0f×Unit)×Unit))
abbrev Vo(t:Bool):EL:=(.inl ((t,()),()))
abbrev Iu(nm:Nat)(m:Nat->(SlV NI)):EL:=(.inr (((nm,m),()),()))
abbrev O8:Type:=((Z0f×Z06)×Unit)
def iW:O8->Option (O8⊕EL):=λx=>let nm:=x.1.1.1;let m:=x.1.1.2;let i:=x.1.2.1;bif (decide (i<((nm:Nat):Int)))then(bif (inb i nm)then(bif (SlV.isMs (m (Int.toNat i)))then(none)else(bif (inb 0 nm)then(bif (SlV.isMs (m 0))then(none)else(bif ((((SlV.len (m (Int.toNat i))):Nat):Int) !=(((SlV.len (m 0)):Nat):Int))then(some (.inr (.inl ((false,()),()))))else(bif (inb i nm)then(bif (SlV.isMs (m (Int.toNat i)))then(none)else(bif (decide ((((SlV.len (m (Int.toNat i))):Nat):Int)<1))then(some (.inr (.inl ((false,()),()))))else(bif (inb i nm)then(bif (SlV.isMs (m (Int.toNat i)))then(none)else(bif (decide ((((SlV.len (m (Int.toNat i))):Nat):Int)>7))then(some (.inr (.inl ((false,()),()))))else(some (.inl (((nm,m),((i64.wrap (i+1)),())),())))))else(none))))else(none))))else(none)))else(none))else(some (.inr (.inr (((nm,m),()),()))))
def PX(nm:Nat)(m:Nat->(SlV NI)):Option (Bool):=match(aB iW (((nm,m),(0,())),()))with|none=>none|some y=>(match y with| .inl y1=>(let t:=y1.1.1;some t)| .inr y1=>(let nm1:=y1.1.1.1;let m1:=y1.1.1.2;bif (decide (((nm1:Nat):Int)>=1))then(some (decide (((nm1:Nat):Int)<=25)))else(some false)))
def O9:=veil PX
theorem RA:O9=PX:=aj _
abbrev CF(nm:Nat)(m:Nat->(SlV NI))(s:ByteArray)(i:Int)(k:Int):=(((nm,m),(s,(i,(k,())))),())
abbrev FL(nm:Nat)(m:Nat->(SlV NI))(s:ByteArray)(i:Int):=(((nm,m),(s,(i,()))),())
abbrev KI:Type:=((Z0f×(ByteArray×(Int×Z06)))×Unit)
def mU:KI->Option (KI⊕((Z0f×(ByteArray×Z06))×Unit)):=λx=>let nm:=x.1.1.1;let m:=x.1.1.2;let s:=x.1.2.1;let i:=x.1.2.2.1;let k:=x.1.2.2.2.1;bif (inb i nm)then(bif (SlV.isMs (m (Int.toNat i)))then(none)else(bif (decide (k<(((SlV.len (m (Int.toNat i))):Nat):Int)))then(bif (inb i nm)then(bif (SlV.isMs (m (Int.toNat i)))then(none)else(bif (inb k (SlV.len (m (Int.toNat i))))then(match(Jt ((SlV.fn ((λ_=>0):NI) (m (Int.toNat i))) (Int.toNat k)))with|none=>none|some r=>(bif (decide (((((ByteArray.size s)+(ByteArray.size (bytesOf 1 (λj=>(upd (λ_=>0) 0 (u8.wrap (((ByteArray.size r):Nat):Int))) (0+j))))):Nat):Int)>IntKind.i64.max))then(none)else(bif (decide (((((ByteArray.size (s++(bytesOf 1 (λj=>(upd (λ_=>0) 0 (u8.wrap (((ByteArray.size r):Nat):Int))) (0+j)))))+(ByteArray.size r)):Nat):Int)>IntKind.i64.max))then(none)else(let t:=((s++(bytesOf 1 (λj=>(upd (λ_=>0) 0 (u8.wrap (((ByteArray.size r):Nat):Int))) (0+j))))++r);some (.inl (((nm,m),(t,(i,((i64.wrap (k+1)),())))),()))))))else(none)))else(none))else(some (.inr (((nm,m),(s,(i,()))),())))))else(none)
abbrev CG(nm:Nat)(m:Nat->(SlV NI))(s:ByteArray)(i:Int):=(((nm,m),(s,(i,()))),())
abbrev FM(s:ByteArray):=((s,()),())
abbrev KJ:Type:=((Z0f×(ByteArray×Z06))×Unit)
def ko:KJ->Option (KJ⊕((ByteArray×Unit)×Unit)):=λx=>let nm:=x.1.1.1;let m:=x.1.1.2;let s:=x.1.2.1;let i:=x.1.2.2.1;bif (decide (i<((nm:Nat):Int)))then(match(aB mU (((nm,m),(s,(i,(0,())))),()))with|none=>none|some y=>(let nm1:=y.1.1.1;let m1:=y.1.1.2;let s1:=y.1.2.1;let i1:=y.1.2.2.1;some (.inl (((nm1,m1),(s1,((i64.wrap (i1+1)),()))),()))))else(some (.inr ((s,()),())))
def LZ(nm:Nat)(m:Nat->(SlV NI)):Option Z0x:=match(O9 nm m)with|none=>none|some r=>(bif (!r)then(some (ByteArray.mk #[]))else(bif (inb 0 nm)then(bif (SlV.isMs (m 0))then(none)else(let t:=(bytesOf 2 (λj=>(upd (upd (λ_=>0) 0 (u8.wrap ((nm:Nat):Int))) 1 (u8.wrap (((SlV.len (m 0)):Nat):Int))) (0+j)));match(aB ko (((nm,m),(t,(0,()))),()))with|none=>none|some y=>(let s:=y.1.1;some s)))else(none)))
def Dw:=veil LZ
theorem Oa:Dw=LZ:=aj _
abbrev M0(nl:Nat)(l:Nat->NI)(q:Int)(i:Int):=(((nl,l),(q,(i,()))),())
abbrev Vp:Type:=(Z0d⊕Z09)
abbrev EM:Vp:=(.inr ((),()))
abbrev Vq:Type:=((Z0j×(Int×Z06))×Unit)
def wu:Vq->Option (Vq⊕Vp):=λx=>let nl:=x.1.1.1;let l:=x.1.1.2;let q:=x.1.2.1;let i:=x.1.2.2.1;bif (decide (i<((nl:Nat):Int)))then(bif (inb i nl)then(match(aT q)with|none=>none|some r=>(match(Tk (l (Int.toNat i)) r)with|none=>none|some r1=>(bif (decide (r1>=0))then(some (.inr (.inl ((false,()),()))))else(some (.inl (((nl,l),(q,((i64.wrap (i+1)),()))),()))))))else(none))else(some (.inr (.inr ((),()))))
def a02(nl:Nat)(l:Nat->NI)(q:Int):Option (Bool):=match(aB wu (((nl,l),(q,(0,()))),()))with|none=>none|some y=>(match y with| .inl y1=>(let t:=y1.1.1;some t)| .inr y1=>(some true))
def Am:=veil a02
theorem Yv:Am=a02:=aj _
def xk(s:Z0k)(numbers:Nat->NI)(nrandom:Nat)(random:Nat->NI):Option Z0o:=bif (((nrandom:Nat):Int) !=1)then(some (((0,(λ_=>.nil)),((0,(λ_=>(0,.nil))),(1,()))),()))else(match(Am 1 numbers s.2.1)with|none=>none|some r=>(bif (!r)then(some (((0,(λ_=>.nil)),((0,(λ_=>(0,.nil))),(1,()))),()))else(match(Am nrandom random s.2.1)with|none=>none|some r1=>(bif (!r1)then(some (((0,(λ_=>.nil)),((0,(λ_=>(0,.nil))),(1,()))),()))else(bif (decide (1<=((nrandom:Nat):Int)))then(match(x9 2 (λj=>(glue 1 (upd zNN 0 (numbers 0)) (λj=>random (0+j))) (0+j)) s.2.1)with|none=>none|some r2=>(match(qh s r2.1 r2.2 2)with|none=>none|some r3=>(match(bn r2.1 r2.2 1 s.2.1)with|none=>none|some r4=>(match(aT r4)with|none=>none|some r5=>(match(bn r2.1 r2.2 2 s.2.1)with|none=>none|some r6=>(match(aT r6)with|none=>none|some r7=>(match(bn r2.1 r2.2 3 s.2.1)with|none=>none|some r8=>(match(aT r8)with|none=>none|some r9=>(match(bn r2.1 r2.2 4 s.2.1)with|none=>none|some r10=>(match(aT r10)with|none=>none|some r11=>(some (((1,(λj=>(glue 0 (λ_=>.nil) (λj=>(upd (λ_=>.nil) 0 (.fz r3.1 r3.2)) (0+j))) (0+j))),((4,(λj=>(upd (upd (upd (upd (upd (upd (upd (upd (upd (upd (upd (upd (λ(_:Nat)=>((0,.nil):Z0N)) 0 (1,.nil)) 0 (1,(.ms 7 [] 0 1))) 1 (2,.nil)) 1 (2,(.ms 9 [] 0 1))) 2 (3,.nil)) 2 (3,(.ms 11 [] 0 1))) 3 (4,.nil)) 3 (4,(.ms 13 [] 0 1))) 3 (4,(.fz 1 (λj=>(glue 0 zNN (λj=>(upd zNN 0 r11) (0+j))) (0+j))))) 2 (3,(.fz 1 (λj=>(glue 0 zNN (λj=>(upd zNN 0 r9) (0+j))) (0+j))))) 1 (2,(.fz 1 (λj=>(glue 0 zNN (λj=>(upd zNN 0 r7) (0+j))) (0+j))))) 0 (1,(.fz 1 (λj=>(glue 0 zNN (λj=>(upd zNN 0 r5) (0+j))) (0+j))))) (0+j))),(0,()))),()))))))))))))else(none))))))
def xq(s:Z0k)(numbers:Nat->NI)(nrandom:Nat)(random:Nat->NI):Option Z0o:=bif (((nrandom:Nat):Int) !=2)then(some (((0,(λ_=>.nil)),((0,(λ_=>(0,.nil))),(1,()))),()))else(match(Am 2 numbers s.2.1)with|none=>none|some r=>(bif (!r)then(some (((0,(λ_=>.nil)),((0,(λ_=>(0,.nil))),(1,()))),()))else(match(Am nrandom random s.2.1)with|none=>none|some r1=>(bif (!r1)then(some (((0,(λ_=>.nil)),((0,(λ_=>(0,.nil))),(1,()))),()))else(bif (decide (1<=((nrandom:Nat):Int)))then(match(x9 2 (λj=>(glue 1 (upd zNN 0 (numbers 0)) (λj=>random (0+j))) (0+j)) s.2.1)with|none=>none|some r2=>(match(qh s r2.1 r2.2 2)with|none=>none|some r3=>(match(bn r2.1 r2.2 1 s.2.1)with|none=>none|some r4=>(match(aT r4)with|none=>none|some r5=>(match(bn r2.1 r2.2 2 s.2.1)with|none=>none|some r6=>(match(aT r6)with|none=>none|some r7=>(match(bn r2.1 r2.2 3 s.2.1)with|none=>none|some r8=>(match(aT r8)with|none=>none|some r9=>(match(bn r2.1 r2.2 4 s.2.1)with|none=>none|some r10=>(match(aT r10)with|none=>none|some r11=>(bif (decide (2<=((nrandom:Nat):Int)))then(match(x9 2 (λj=>(glue 1 (upd zNN 0 (numbers 1)) (λj=>random (1+j))) (0+j)) s.2.1)with|none=>none|some r12=>(match(qh s r12.1 r12.2 2)with|none=>none|some r13=>(match(bn r12.1 r12.2 1 s.2.1)with|none=>none|some r14=>(match(aT r14)with|none=>none|some r15=>(match(bn r12.1 r12.2 2 s.2.1)with|none=>none|some r16=>(match(aT r16)with|none=>none|some r17=>(match(bn r12.1 r12.2 3 s.2.1)with|none=>none|some r18=>(match(aT r18)with|none=>none|some r19=>(match(bn r12.1 r12.2 4 s.2.1)with|none=>none|some r20=>(match(aT r20)with|none=>none|some r21=>(some (((2,(λj=>(glue 1 (glue 0 (λ_=>.nil) (λj=>(upd (λ_=>.nil) 0 (.fz r3.1 r3.2)) (0+j))) (λj=>(upd (λ_=>.nil) 0 (.fz r13.1 r13.2)) (0+j))) (0+j))),((4,(λj=>(upd (upd (upd (upd (upd (upd (upd (upd (upd (upd (upd (upd (upd (upd (upd (upd (upd (upd (upd (upd (λ(_:Nat)=>((0,.nil):Z0N)) 0 (1,.nil)) 0 (1,(.ms 7 [] 0 1))) 1 (2,.nil)) 1 (2,(.ms 9 [] 0 1))) 2 (3,.nil)) 2 (3,(.ms 11 [] 0 1))) 3 (4,.nil)) 3 (4,(.ms 13 [] 0 1))) 0 (1,(.ms 7 [] 0 1))) 0 (1,(.ms 19 [] 0 2))) 1 (2,(.ms 9 [] 0 1))) 1 (2,(.ms 21 [] 0 2))) 2 (3,(.ms 11 [] 0 1))) 2 (3,(.ms 23 [] 0 2))) 3 (4,(.ms 13 [] 0 1))) 3 (4,(.ms 25 [] 0 2))) 3 (4,(.fz 2 (λj=>(glue 1 (glue 0 zNN (λj=>(upd zNN 0 r11) (0+j))) (λj=>(upd zNN 0 r21) (0+j))) (0+j))))) 2 (3,(.fz 2 (λj=>(glue 1 (glue 0 zNN (λj=>(upd zNN 0 r9) (0+j))) (λj=>(upd zNN 0 r19) (0+j))) (0+j))))) 1 (2,(.fz 2 (λj=>(glue 1 (glue 0 zNN (λj=>(upd zNN 0 r7) (0+j))) (λj=>(upd zNN 0 r17) (0+j))) (0+j))))) 0 (1,(.fz 2 (λj=>(glue 1 (glue 0 zNN (λj=>(upd zNN 0 r5) (0+j))) (λj=>(upd zNN 0 r15) (0+j))) (0+j))))) (0+j))),(0,()))),()))))))))))))else(none))))))))))))else(none))))))
def xu(s:Z0k)(numbers:Nat->NI)(nrandom:Nat)(random:Nat->NI):Option Z0o:=bif (((nrandom:Nat):Int) !=2)then(some (((0,(λ_=>.nil)),((0,(λ_=>(0,.nil))),(1,()))),()))else(match(Am 1 numbers s.2.1)with|none=>none|some r=>(bif (!r)then(some (((0,(λ_=>.nil)),((0,(λ_=>(0,.nil))),(1,()))),()))else(match(Am nrandom random s.2.1)with|none=>none|some r1=>(bif (!r1)then(some (((0,(λ_=>.nil)),((0,(λ_=>(0,.nil))),(1,()))),()))else(bif (decide (2<=((nrandom:Nat):Int)))then(match(x9 3 (λj=>(glue 1 (upd zNN 0 (numbers 0)) (λj=>random (0+j))) (0+j)) s.2.1)with|none=>none|some r2=>(match(qh s r2.1 r2.2 3)with|none=>none|some r3=>(match(bn r2.1 r2.2 1 s.2.1)with|none=>none|some r4=>(match(aT r4)with|none=>none|some r5=>(match(bn r2.1 r2.2 2 s.2.1)with|none=>none|some r6=>(match(aT r6)with|none=>none|some r7=>(match(bn r2.1 r2.2 3 s.2.1)with|none=>none|some r8=>(match(aT r8)with|none=>none|some r9=>(match(bn r2.1 r2.2 4 s.2.1)with|none=>none|some r10=>(match(aT r10)with|none=>none|some r11=>(match(bn r2.1 r2.2 5 s.2.1)with|none=>none|some r12=>(match(aT r12)with|none=>none|some r13=>(match(bn r2.1 r2.2 6 s.2.1)with|none=>none|some r14=>(match(aT r14)with|none=>none|some r15=>(match(bn r2.1 r2.2 7 s.2.1)with|none=>none|some r16=>(match(aT r16)with|none=>none|some r17=>(some (((1,(λj=>(glue 0 (λ_=>.nil) (λj=>(upd (λ_=>.nil) 0 (.fz r3.1 r3.2)) (0+j))) (0+j))),((7,(λj=>(upd (upd (upd (upd (upd (upd (upd (upd (upd (upd (upd (upd (upd (upd (upd (upd (upd (upd (upd (upd (upd (λ(_:Nat)=>((0,.nil):Z0N)) 0 (1,.nil)) 0 (1,(.ms 7 [] 0 1))) 1 (2,.nil)) 1 (2,(.ms 9 [] 0 1))) 2 (3,.nil)) 2 (3,(.ms 11 [] 0 1))) 3 (4,.nil)) 3 (4,(.ms 13 [] 0 1))) 4 (5,.nil)) 4 (5,(.ms 15 [] 0 1))) 5 (6,.nil)) 5 (6,(.ms 17 [] 0 1))) 6 (7,.nil)) 6 (7,(.ms 19 [] 0 1))) 6 (7,(.fz 1 (λj=>(glue 0 zNN (λj=>(upd zNN 0 r17) (0+j))) (0+j))))) 5 (6,(.fz 1 (λj=>(glue 0 zNN (λj=>(upd zNN 0 r15) (0+j))) (0+j))))) 4 (5,(.fz 1 (λj=>(glue 0 zNN (λj=>(upd zNN 0 r13) (0+j))) (0+j))))) 3 (4,(.fz 1 (λj=>(glue 0 zNN (λj=>(upd zNN 0 r11) (0+j))) (0+j))))) 2 (3,(.fz 1 (λj=>(glue 0 zNN (λj=>(upd zNN 0 r9) (0+j))) (0+j))))) 1 (2,(.fz 1 (λj=>(glue 0 zNN (λj=>(upd zNN 0 r7) (0+j))) (0+j))))) 0 (1,(.fz 1 (λj=>(glue 0 zNN (λj=>(upd zNN 0 r5) (0+j))) (0+j))))) (0+j))),(0,()))),()))))))))))))))))))else(none))))))
def xw(s:Z0k)(numbers:Nat->NI)(nrandom:Nat)(random:Nat->NI):Option Z0o:=bif (((nrandom:Nat):Int) !=4)then(some (((0,(λ_=>.nil)),((0,(λ_=>(0,.nil))),(1,()))),()))else(match(Am 2 numbers s.2.1)with|none=>none|some r=>(bif (!r)then(some (((0,(λ_=>.nil)),((0,(λ_=>(0,.nil))),(1,()))),()))else(match(Am nrandom random s.2.1)with|none=>none|some r1=>(bif (!r1)then(some (((0,(λ_=>.nil)),((0,(λ_=>(0,.nil))),(1,()))),()))else(bif (decide (2<=((nrandom:Nat):Int)))then(match(x9 3 (λj=>(glue 1 (upd zNN 0 (numbers 0)) (λj=>random (0+j))) (0+j)) s.2.1)with|none=>none|some r2=>(match(qh s r2.1 r2.2 3)with|none=>none|some r3=>(match(bn r2.1 r2.2 1 s.2.1)with|none=>none|some r4=>(match(aT r4)with|none=>none|some r5=>(match(bn r2.1 r2.2 2 s.2.1)with|none=>none|some r6=>(match(aT r6)with|none=>none|some r7=>(match(bn r2.1 r2.2 3 s.2.1)with|none=>none|some r8=>(match(aT r8)with|none=>none|some r9=>(match(bn r2.1 r2.2 4 s.2.1)with|none=>none|some r10=>(match(aT r10)with|none=>none|some r11=>(match(bn r2.1 r2.2 5 s.2.1)with|none=>none|some r12=>(match(aT r12)with|none=>none|some r13=>(match(bn r2.1 r2.2 6 s.2.1)with|none=>none|some r14=>(match(aT r14)with|none=>none|some r15=>(match(bn r2.1 r2.2 7 s.2.1)with|none=>none|some r16=>(match(aT r16)with|none=>none|some r17=>(bif (decide (4<=((nrandom:Nat):Int)))then(match(x9 3 (λj=>(glue 1 (upd zNN 0 (numbers 1)) (λj=>random (2+j))) (0+j)) s.2.1)with|none=>none|some r18=>(match(qh s r18.1 r18.2 3)with|none=>none|some r19=>(match(bn r18.1 r18.2 1 s.2.1)with|none=>none|some r20=>(match(aT r20)with|none=>none|some r21=>(match(bn r18.1 r18.2 2 s.2.1)with|none=>none|some r22=>(match(aT r22)with|none=>none|some r23=>(match(bn r18.1 r18.2 3 s.2.1)with|none=>none|some r24=>(match(aT r24)with|none=>none|some r25=>(match(bn r18.1 r18.2 4 s.2.1)with|none=>none|some r26=>(match(aT r26)with|none=>none|some r27=>(match(bn r18.1 r18.2 5 s.2.1)with|none=>none|some r28=>(match(aT r28)with|none=>none|some r29=>(match(bn r18.1 r18.2 6 s.2.1)with|none=>none|some r30=>(match(aT r30)with|none=>none|some r31=>(match(bn r18.1 r18.2 7 s.2.1)with|none=>none|some r32=>(match(aT r32)with|none=>none|some r33=>(some (((2,(λj=>(glue 1 (glue 0 (λ_=>.nil) (λj=>(upd (λ_=>.nil) 0 (.fz r3.1 r3.2)) (0+j))) (λj=>(upd (λ_=>.nil) 0 (.fz r19.1 r19.2)) (0+j))) (0+j))),((7,(λj=>(upd (upd (upd (upd (upd (upd (upd (upd (upd (upd (upd (upd (upd (upd (upd (upd (upd (upd (upd (upd (upd (upd (upd (upd (upd (upd (upd (upd (upd (upd (upd (upd (upd (upd (upd (λ(_:Nat)=>((0,.nil):Z0N)) 0 (1,.nil)) 0 (1,(.ms 7 [] 0 1))) 1 (2,.nil)) 1 (2,(.ms 9 [] 0 1))) 2 (3,.nil)) 2 (3,(.ms 11 [] 0 1))) 3 (4,.nil)) 3 (4,(.ms 13 [] 0 1))) 4 (5,.nil)) 4 (5,(.ms 15 [] 0 1))) 5 (6,.nil)) 5 (6,(.ms 17 [] 0 1))) 6 (7,.nil)) 6 (7,(.ms 19 [] 0 1))) 0 (1,(.ms 7 [] 0 1))) 0 (1,(.ms 25 [] 0 2))) 1 (2,(.ms 9 [] 0 1))) 1 (2,(.ms 27 [] 0 2))) 2 (3,(.ms 11 [] 0 1))) 2 (3,(.ms 29 [] 0 2))) 3 (4,(.ms 13 [] 0 1))) 3 (4,(.ms 31 [] 0 2))) 4 (5,(.ms 15 [] 0 1))) 4 (5,(.ms 33 [] 0 2))) 5 (6,(.ms 17 [] 0 1))) 5 (6,(.ms 35 [] 0 2))) 6 (7,(.ms 19 [] 0 1))) 6 (7,(.ms 37 [] 0 2))) 6 (7,(.fz 2 (λj=>(glue 1 (glue 0 zNN (λj=>(upd zNN 0 r17) (0+j))) (λj=>(upd zNN 0 r33) (0+j))) (0+j))))) 5 (6,(.fz 2 (λj=>(glue 1 (glue 0 zNN (λj=>(upd zNN 0 r15) (0+j))) (λj=>(upd zNN 0 r31) (0+j))) (0+j))))) 4 (5,(.fz 2 (λj=>(glue 1 (glue 0 zNN (λj=>(upd zNN 0 r13) (0+j))) (λj=>(upd zNN 0 r29) (0+j))) (0+j))))) 3 (4,(.fz 2 (λj=>(glue 1 (glue 0 zNN (λj=>(upd zNN 0 r11) (0+j))) (λj=>(upd zNN 0 r27) (0+j))) (0+j))))) 2 (3,(.fz 2 (λj=>(glue 1 (glue 0 zNN (λj=>(upd zNN 0 r9) (0+j))) (λj=>(upd zNN 0 r25) (0+j))) (0+j))))) 1 (2,(.fz 2 (λj=>(glue 1 (glue 0 zNN (λj=>(upd zNN 0 r7) (0+j))) (λj=>(upd zNN 0 r23) (0+j))) (0+j))))) 0 (1,(.fz 2 (λj=>(glue 1 (glue 0 zNN (λj=>(upd zNN 0 r5) (0+j))) (λj=>(upd zNN 0 r21) (0+j))) (0+j))))) (0+j))),(0,()))),()))))))))))))))))))else(none))))))))))))))))))else(none))))))
def Iw(s:Z0k)(t:Int)(nnumbers:Nat)(numbers:Nat->NI)(nrandom:Nat)(random:Nat->NI):Option Z0o:=
 bif ((t==1)&&(Nat.beq nnumbers 1))then(
 (xk s numbers nrandom random))
 else(
 bif ((t==1)&&(Nat.beq nnumbers 2))then(
 (xq s numbers nrandom random))
 else(
 bif ((t==2)&&(Nat.beq nnumbers 1))then(
 (xu s numbers nrandom random))
 else(
 bif ((t==2)&&(Nat.beq nnumbers 2))then(
 (xw s numbers nrandom random))
 else(
 none))))
def EN:=veil Iw
theorem KL:EN=Iw:=aj _
def Iy(nm:Nat)(m:Nat->(SlV NI)):Option Z0x:=match(Dw nm m)with|none=>none|some r=>(match(O6 r)with|none=>none|some r1=>(some r1))
def rO:=veil Iy
theorem KM:rO=Iy:=aj _
open Go.IntKind (i64 u64 u32 u8)
abbrev EO(na:Nat)(a:Nat->ByteArray)(nb:Nat)(b:Nat->ByteArray)(i:Int):=(((na,a),((nb,b),(i,()))),())
abbrev Ob:Type:=(Z0d⊕Z09)
abbrev Iz:Ob:=(.inr ((),()))
abbrev Oc:Type:=((Z0l×(Z0l×Z06))×Unit)
def pK:Oc->Option (Oc⊕Ob):=λx=>let na:=x.1.1.1;let a:=x.1.1.2;let nb:=x.1.2.1.1;let b:=x.1.2.1.2;let i:=x.1.2.2.1;bif (decide (i<((na:Nat):Int)))then(bif (inb i na)then(bif (inb i nb)then(bif (!(sEq (a (Int.toNat i)) (b (Int.toNat i))))then(some (.inr (.inl ((false,()),()))))else(some (.inl (((na,a),((nb,b),((i64.wrap (i+1)),()))),()))))else(none))else(none))else(some (.inr (.inr ((),()))))
def PY(na:Nat)(a:Nat->ByteArray)(nb:Nat)(b:Nat->ByteArray):Option (Bool):=bif (((na:Nat):Int) !=((nb:Nat):Int))then(some false)else(match(aB pK (((na,a),((nb,b),(0,()))),()))with|none=>none|some y=>(match y with| .inl y1=>(let t:=y1.1.1;some t)| .inr y1=>(some true)))
def IB:=veil PY
theorem RB:IB=PY:=aj _
open Go.IntKind (i64 u64 u32 u8)
def Vr(s:ByteArray):Option (Bool):=bif (decide ((((ByteArray.size s):Nat):Int)>=1))then(some (decide ((((ByteArray.size s):Nat):Int)<=8)))else(some false)
def Tp:=veil Vr
theorem Vs:Tp=Vr:=aj _
def JF(m:Z0g):Option (Bool):=bif (((m.2.2.2.2.2.1.1:Nat):Int)==0)then(some (((m.2.2.2.2.2.2.1:Nat):Int)==0))else(some false)
def dF:=veil JF
theorem IC:dF=JF:=aj _
def M4(s:(Int×Int)):Option (Bool):=bif (decide (s.1>=1))then(bif (decide (s.1<=1099511627776))then(bif (decide (s.2>=1))then(some (decide (s.2<=4)))else(some false))else(some false))else(some false)
def dX:=veil M4
theorem Od:dX=M4:=aj _
def EP(m:Z0g):Option (Bool):=match(Dw m.2.2.2.2.2.1.1 m.2.2.2.2.2.1.2)with|none=>none|some r=>(bif (!(sEq r (ByteArray.mk #[])))then(let t:=(((m.2.2.2.2.2.2.1:Nat):Int)==((m.2.2.2.2.2.1.1:Nat):Int));some t)else(some false))
def iI:=veil EP
theorem IE:iI=EP:=aj _
def Vt(m:Z0g):Option (Bool):=
 let k:Z0d->Option (Bool):=λx=>(
 let votes:=x.1.1
 match(Tp m.2.2.1)with
 |none=>none
 |some r=>(
 bif (!r)then(
 some false)
 else(
 bif votes then(
 bif (m.2.1 !=0)then(
 some false)
 else(
 bif (!votes)then(
 bif (decide (m.2.1<1))then(
 some false)
 else(
 let t:=(decide (m.2.1>1048576))
 bif t then(
 some false)
 else(
 let k2:Z0d->Option (Bool):=λx2=>(
 bif x2.1.1 then(
 bif (eqF (.pair (.int .i64) (.int .i64)) m.2.2.2.1 (0,0))then(
 bif (sEq m.2.2.2.2.1 (ByteArray.mk #[]))then(
 match(dF m)with
 |none=>none
 |some r1=>(
 some r1))
 else(
 some false))
 else(
 some false))
 else(
 bif (m.1==3)then(
 bif (eqF (.pair (.int .i64) (.int .i64)) m.2.2.2.1 (0,0))then(
 bif (sEq m.2.2.2.2.1 (ByteArray.mk #[]))then(
 match(dF m)with
 |none=>none
 |some r2=>(
 some r2))
 else(
 some false))
 else(
 match(dX m.2.2.2.1)with
 |none=>none
 |some r3=>(
 bif r3 then(
 bif ((((ByteArray.size m.2.2.2.2.1):Nat):Int)==32)then(
 match(dF m)with
 |none=>none
 |some r4=>(
 bif r4 then(
 some true)
 else(
 match(iI m)with
 |none=>none
 |some r5=>(
 some r5))))
 else(
 some false))
 else(
 some false))))
 else(
 let k6:Z0d->Option (Bool):=λx6=>(
 bif x6.1.1 then(
 match(dX m.2.2.2.1)with
 |none=>none
 |some r6=>(
 bif r6 then(
 bif (sEq m.2.2.2.2.1 (ByteArray.mk #[]))then(
 match(iI m)with
 |none=>none
 |some r7=>(
 some r7))
 else(
 some false))
 else(
 some false)))
 else(
 let k8:Z0d->Option (Bool):=λx8=>(
 bif x8.1.1 then(
 match(dX m.2.2.2.1)with
 |none=>none
 |some r8=>(
 bif r8 then(
 bif ((((ByteArray.size m.2.2.2.2.1):Nat):Int)==32)then(
 match(dF m)with
 |none=>none
 |some r9=>(
 some r9))
 else(
 some false))
 else(
 some false)))
 else(
 bif (m.1==7)then(
 match(dX m.2.2.2.1)with
 |none=>none
 |some r10=>(
 bif r10 then(
 bif (sEq m.2.2.2.2.1 (ByteArray.mk #[]))then(
 match(dF m)with
 |none=>none
 |some r11=>(
 some r11))
 else(
 some false))
 else(
 some false)))
 else(
 some false)))
 bif (m.1==5)then(
 k8 (((m.1==5),()),()))
 else(
 k8 (((m.1==6),()),()))))
 bif (m.1==4)then(
 k6 (((m.1==4),()),()))
 else(
 k6 (((m.1==8),()),())))))
 bif (m.1==1)then(
 k2 (((m.1==1),()),()))
 else(
 k2 (((m.1==2),()),())))))
 else(
 let k11:Z0d->Option (Bool):=λx11=>(
 bif x11.1.1 then(
 bif (eqF (.pair (.int .i64) (.int .i64)) m.2.2.2.1 (0,0))then(
 bif (sEq m.2.2.2.2.1 (ByteArray.mk #[]))then(
 match(dF m)with
 |none=>none
 |some r12=>(
 some r12))
 else(
 some false))
 else(
 some false))
 else(
 bif (m.1==3)then(
 bif (eqF (.pair (.int .i64) (.int .i64)) m.2.2.2.1 (0,0))then(
 bif (sEq m.2.2.2.2.1 (ByteArray.mk #[]))then(
 match(dF m)with
 |none=>none
 |some r13=>(
 some r13))
 else(
 some false))
 else(
 match(dX m.2.2.2.1)with
 |none=>none
 |some r14=>(
 bif r14 then(
 bif ((((ByteArray.size m.2.2.2.2.1):Nat):Int)==32)then(
 match(dF m)with
 |none=>none
 |some r15=>(
 bif r15 then(
 some true)
 else(
 match(iI m)with
 |none=>none
 |some r16=>(
 some r16))))
 else(
 some false))
 else(
 some false))))
 else(
 let k15:Z0d->Option (Bool):=λx15=>(
 bif x15.1.1 then(
 match(dX m.2.2.2.1)with
 |none=>none
 |some r17=>(
 bif r17 then(
 bif (sEq m.2.2.2.2.1 (ByteArray.mk #[]))then(
 match(iI m)with
 |none=>none
 |some r18=>(
 some r18))
 else(
 some false))
 else(
 some false)))
 else(
 let k17:Z0d->Option (Bool):=λx17=>(
 bif x17.1.1 then(
 match(dX m.2.2.2.1)with
 |none=>none
 |some r19=>(
 bif r19 then(
 bif ((((ByteArray.size m.2.2.2.2.1):Nat):Int)==32)then(
 match(dF m)with
 |none=>none
 |some r20=>(
 some r20))
 else(
 some false))
 else(
 some false)))
 else(
 bif (m.1==7)then(
 match(dX m.2.2.2.1)with
 |none=>none
 |some r21=>(
 bif r21 then(
 bif (sEq m.2.2.2.2.1 (ByteArray.mk #[]))then(
 match(dF m)with
 |none=>none
 |some r22=>(
 some r22))
 else(
 some false))
 else(
 some false)))
 else(
 some false)))
 bif (m.1==5)then(
 k17 (((m.1==5),()),()))
 else(
 k17 (((m.1==6),()),()))))
 bif (m.1==4)then(
 k15 (((m.1==4),()),()))
 else(
 k15 (((m.1==8),()),())))))
 bif (m.1==1)then(
 k11 (((m.1==1),()),()))
 else(
 k11 (((m.1==2),()),())))))
 else(
 bif (!votes)then(
 bif (decide (m.2.1<1))then(
 some false)
 else(
 let t:=(decide (m.2.1>1048576))
 bif t then(
 some false)
 else(
 let k20:Z0d->Option (Bool):=λx20=>(
 bif x20.1.1 then(
 bif (eqF (.pair (.int .i64) (.int .i64)) m.2.2.2.1 (0,0))then(
 bif (sEq m.2.2.2.2.1 (ByteArray.mk #[]))then(
 match(dF m)with
 |none=>none
 |some r23=>(
 some r23))
 else(
 some false))
 else(
 some false))
 else(
 bif (m.1==3)then(
 bif (eqF (.pair (.int .i64) (.int .i64)) m.2.2.2.1 (0,0))then(
 bif (sEq m.2.2.2.2.1 (ByteArray.mk #[]))then(
 match(dF m)with
 |none=>none
 |some r24=>(
 some r24))
 else(
 some false))
 else(
 match(dX m.2.2.2.1)with
 |none=>none
 |some r25=>(
 bif r25 then(
 bif ((((ByteArray.size m.2.2.2.2.1):Nat):Int)==32)then(
 match(dF m)with
 |none=>none
 |some r26=>(
 bif r26 then(
 some true)
 else(
 match(iI m)with
 |none=>none
 |some r27=>(
 some r27))))
 else(
 some false))
 else(
 some false))))
 else(
 let k24:Z0d->Option (Bool):=λx24=>(
 bif x24.1.1 then(
 match(dX m.2.2.2.1)with
 |none=>none
 |some r28=>(
 bif r28 then(
 bif (sEq m.2.2.2.2.1 (ByteArray.mk #[]))then(
 match(iI m)with
 |none=>none
 |some r29=>(
 some r29))
 else(
 some false))
 else(
 some false)))
 else(
 let k26:Z0d->Option (Bool):=λx26=>(
 bif x26.1.1 then(
 match(dX m.2.2.2.1)with
 |none=>none
 |some r30=>(
 bif r30 then(
 bif ((((ByteArray.size m.2.2.2.2.1):Nat):Int)==32)then(
 match(dF m)with
 |none=>none
 |some r31=>(
 some r31))
 else(
 some false))
 else(
 some false)))
 else(
 bif (m.1==7)then(
 match(dX m.2.2.2.1)with
 |none=>none
 |some r32=>(
 bif r32 then(
 bif (sEq m.2.2.2.2.1 (ByteArray.mk #[]))then(
 match(dF m)with
 |none=>none
 |some r33=>(
 some r33))
 else(
 some false))
 else(
 some false)))
 else(
 some false)))
 bif (m.1==5)then(
 k26 (((m.1==5),()),()))
 else(
 k26 (((m.1==6),()),()))))
 bif (m.1==4)then(
 k24 (((m.1==4),()),()))
 else(
 k24 (((m.1==8),()),())))))
 bif (m.1==1)then(
 k20 (((m.1==1),()),()))
 else(
 k20 (((m.1==2),()),())))))
 else(
 let k29:Z0d->Option (Bool):=λx29=>(
 bif x29.1.1 then(
 bif (eqF (.pair (.int .i64) (.int .i64)) m.2.2.2.1 (0,0))then(
 bif (sEq m.2.2.2.2.1 (ByteArray.mk #[]))then(
 match(dF m)with
 |none=>none
 |some r34=>(
 some r34))
 else(
 some false))
 else(
 some false))
 else(
 bif (m.1==3)then(
 bif (eqF (.pair (.int .i64) (.int .i64)) m.2.2.2.1 (0,0))then(
 bif (sEq m.2.2.2.2.1 (ByteArray.mk #[]))then(
 match(dF m)with
 |none=>none
 |some r35=>(
 some r35))
 else(
 some false))
 else(
 match(dX m.2.2.2.1)with
 |none=>none
 |some r36=>(
 bif r36 then(
 bif ((((ByteArray.size m.2.2.2.2.1):Nat):Int)==32)then(
 match(dF m)with
 |none=>none
 |some r37=>(
 bif r37 then(
 some true)
 else(
 match(iI m)with
 |none=>none
 |some r38=>(
 some r38))))
 else(
 some false))
 else(
 some false))))
 else(
 let k33:Z0d->Option (Bool):=λx33=>(
 bif x33.1.1 then(
 match(dX m.2.2.2.1)with
 |none=>none
 |some r39=>(
 bif r39 then(
 bif (sEq m.2.2.2.2.1 (ByteArray.mk #[]))then(
 match(iI m)with
 |none=>none
 |some r40=>(
 some r40))
 else(
 some false))
 else(
 some false)))
 else(
 let k35:Z0d->Option (Bool):=λx35=>(
 bif x35.1.1 then(
 match(dX m.2.2.2.1)with
 |none=>none
 |some r41=>(
 bif r41 then(
 bif ((((ByteArray.size m.2.2.2.2.1):Nat):Int)==32)then(
 match(dF m)with
 |none=>none
 |some r42=>(
 some r42))
 else(
 some false))
 else(
 some false)))
 else(
 bif (m.1==7)then(
 match(dX m.2.2.2.1)with
 |none=>none
 |some r43=>(
 bif r43 then(
 bif (sEq m.2.2.2.2.1 (ByteArray.mk #[]))then(
 match(dF m)with
 |none=>none
 |some r44=>(
 some r44))
 else(
 some false))
 else(
 some false)))
 else(
 some false)))
 bif (m.1==5)then(
 k35 (((m.1==5),()),()))
 else(
 k35 (((m.1==6),()),()))))
 bif (m.1==4)then(
 k33 (((m.1==4),()),()))
 else(
 k33 (((m.1==8),()),())))))
 bif (m.1==1)then(
 k29 (((m.1==1),()),()))
 else(
 k29 (((m.1==2),()),())))))))
 bif (m.1==5)then(
 k ((true,()),()))
 else(
 k (((m.1==6),()),()))
def Oe:=veil Vt
theorem Vu:Oe=Vt:=aj _
open Go.IntKind (i64 u64 u32 u8)
def Vv(g:Z0k)(t:Int)(number:Int)(clients:Int):Option ((Option Z0r)):=some (some (g,(t,(number,((i64.wrap ((i64.wrap (3*t))+1)),(clients,(((i64.wrap ((i64.wrap (3*t))+1)),(clients,(.nil,.nil))),(.nil,.nil))))))))
def ER:=veil Vv
theorem Vw:ER=Vv:=aj _
open Go.IntKind (i64 u64 u32 u8)
open Classical in
open Go.IntKind (i64 u64 u32 u8)
open Go.IntKind (i64 u64 u32 u8)
abbrev nI(ns:Nat)(s:Nat->NI)(t:Int)(t1:Int)(o:Z0b):=(((ns,s),((),(t,(t1,())))),(o,()))
abbrev uy:Type:=((Z06×(Z0b×(NI×Unit)))⊕(Unit×(Z0b×Unit)))
abbrev qj(t:Int)(o:Z0b)(o1:NI):uy:=(.inl ((t,()),(o,(o1,()))))
abbrev ql(o:Z0b):uy:=(.inr ((),(o,())))
abbrev BO:Type:=((Z0j×Z0q)×(Z0b×Unit))
def fM:BO->Option (BO⊕uy):=λx=>let ns:=x.1.1.1;let s:=x.1.1.2;let t:=x.1.2.2.1;let t1:=x.1.2.2.2.1;let o:=x.2.1;bif (decide (t1<t))then(bif (inb t1 ns)then(match(O1 (some o) (s (Int.toNat t1)))with|none=>none|some r=>(bif (!r)then(some (.inr (.inl ((t1,()),(o,((s (Int.toNat t1)),()))))))else(some (.inl (((ns,s),((),(t,((i64.wrap (t1+1)),())))),(o,()))))))else(none))else(some (.inr (.inr ((),(o,())))))
def BP(g:Z0B)(nc:Nat)(c:Nat->NI):Option (Bool):=match g with|none=>(bif (decide (((nc:Nat):Int)>=1))then(bif (decide (((nc:Nat):Int)<=7))then(none)else(some false))else(some false))|some g0=>(bif (decide (((nc:Nat):Int)>=1))then(bif (decide (((nc:Nat):Int)<=7))then(match(aB fM (((nc,c),((),(((nc:Nat):Int),(0,())))),(g0,())))with|none=>none|some y=>(match y with| .inl y1=>(let t:=y1.1.1;let o:=y1.2.1;let o1:=y1.2.2.1;some (!(decide (t>=0))))| .inr y1=>(let o2:=y1.2.1;some true)))else(some false))else(some false))
def wz:=veil BP
theorem KN:wz=BP:=aj _
abbrev CJ(g:Z0b)(nc:Nat)(c:Nat->NI)(i:Int)(nexps:Nat)(exps:Nat->NI)(p:Int)(t:Int)(t1:Int)(t2:NI):=((g,((nc,c),(i,((),((nexps,exps),(p,(t,(t1,())))))))),(t2,()))
abbrev yI(g:Z0b)(nc:Nat)(c:Nat->NI)(nexps:Nat)(exps:Nat->NI)(t:NI):=((g,((nc,c),((),((nexps,exps),())))),(t,()))
abbrev KO:Type:=((Z0b×(Z0j×(Int×(Unit×(Z0j×Z0v)))))×(NI×Unit))
def mV:KO->Option (KO⊕((Z0b×(Z0j×(Unit×(Z0j×Unit))))×(NI×Unit))):=λx=>let g:=x.1.1;let nc:=x.1.2.1.1;let c:=x.1.2.1.2;let i:=x.1.2.2.1;let nexps:=x.1.2.2.2.2.1.1;let exps:=x.1.2.2.2.2.1.2;let p:=x.1.2.2.2.2.2.1;let t:=x.1.2.2.2.2.2.2.1;let t1:=x.1.2.2.2.2.2.2.2.1;let t2:=x.2.1;bif (decide (t1<t))then(match(cB p)with|none=>none|some r=>(bif ((Nat.ble ((nexps+1)*32) 140737488355328)&&(Nat.ble (nexps+1) 9223372036854775807))then(some (.inl ((g,((nc,c),(i,((),(((nexps+1),(glue nexps exps (λj=>(upd (λ_=>(λ_=>0)) 0 r) (0+j)))),((i64.wrap (p*i)),(t,((i64.wrap (t1+1)),())))))))),(t2,()))))else(none)))else(some (.inr ((g,((nc,c),((),((nexps,exps),())))),(t2,()))))
def ES(g:Z0B)(nc:Nat)(c:Nat->NI)(i:Int):Option (NI):=match g with|none=>(bif (decide (i<0))then(some (λ_=>0))else(bif (decide (i>7))then(some (λ_=>0))else(bif (decide (((nc:Nat):Int)>7))then(some (λ_=>0))else(none))))|some g0=>(bif (decide (i<0))then(some (λ_=>0))else(bif (decide (i>7))then(some (λ_=>0))else(bif (decide (((nc:Nat):Int)>7))then(some (λ_=>0))else(match(aB mV ((g0,((nc,c),(i,((),((0,(λ_=>(λ_=>0))),(1,(((nc:Nat):Int),(0,())))))))),((λ_=>0),())))with|none=>none|some y=>(let g1:=y.1.1;let nc1:=y.1.2.1.1;let c1:=y.1.2.1.2;let nexps:=y.1.2.2.2.1.1;let exps:=y.1.2.2.2.1.2;let t:=y.2.1;match(BN (some g1) nc1 c1 nexps (λj=>exps (0+j)))with|none=>none|some r=>(some r.1))))))
def Dx:=veil ES
theorem Og:Dx=ES:=aj _
def xA(g:Z0B)(nc:Nat)(c:Nat->NI)(s:(Int×NI)):Option (Bool):=match g with|none=>(bif (decide (s.1>=1))then(bif (decide (s.1<=7))then(match(Ih none s.2)with|none=>none|some r4=>(bif r4 then(match(wz none nc c)with|none=>none|some r5=>(bif r5 then(match(Ij none s.2)with|none=>none|some r6=>(match(Dx none nc c s.1)with|none=>none|some r7=>(some (eqF (.arr 4 (.int .u64)) r6 r7))))else(some false)))else(some false)))else(some false))else(some false))|some g0=>(bif (decide (s.1>=1))then(bif (decide (s.1<=7))then(match(Ih (some g0) s.2)with|none=>none|some r=>(bif r then(match(wz (some g0) nc c)with|none=>none|some r1=>(bif r1 then(match(Ij (some g0) s.2)with|none=>none|some r2=>(match(Dx (some g0) nc c s.1)with|none=>none|some r3=>(some (eqF (.arr 4 (.int .u64)) r2 r3))))else(some false)))else(some false)))else(some false))else(some false))
def zD:=veil xA
theorem FN:zD=xA:=aj _
open Go.IntKind (i64 u64 u32 u8)
def Vx:Option (NI):=some (upd (upd (upd (upd (upd (upd (upd (upd (λ_=>0) 0 1779033703) 1 3144134277) 2 1013904242) 3 2773480762) 4 1359893119) 5 2600822924) 6 528734635) 7 1541459225)
def Dy:=veil Vx
theorem ET:Dy=Vx:=aj _
def M5:Option ((Z09×(Z0e×Unit))):=match Dy with|none=>none|some r=>(some (((),()),((true,(r,((λ_=>0),0))),())))
def PZ:=veil M5
theorem Oh:PZ=M5:=aj _
def IG:Option (NI):=some (upd (upd (upd (upd (upd (upd (upd (upd (upd (upd (upd (upd (upd (upd (upd (upd (upd (upd (upd (upd (upd (upd (upd (upd (upd (upd (upd (upd (upd (upd (upd (upd (upd (upd (upd (upd (upd (upd (upd (upd (upd (upd (upd (upd (upd (upd (upd (upd (upd (upd (upd (upd (upd (upd (upd (upd (upd (upd (upd (upd (upd (upd (upd (upd (λ_=>0) 0 1116352408) 1 1899447441) 2 3049323471) 3 3921009573) 4 961987163) 5 1508970993) 6 2453635748) 7 2870763221) 8 3624381080) 9 310598401) 10 607225278) 11 1426881987) 12 1925078388) 13 2162078206) 14 2614888103) 15 3248222580) 16 3835390401) 17 4022224774) 18 264347078) 19 604807628) 20 770255983) 21 1249150122) 22 1555081692) 23 1996064986) 24 2554220882) 25 2821834349) 26 2952996808) 27 3210313671) 28 3336571891) 29 3584528711) 30 113926993) 31 338241895) 32 666307205) 33 773529912) 34 1294757372) 35 1396182291) 36 1695183700) 37 1986661051) 38 2177026350) 39 2456956037) 40 2730485921) 41 2820302411) 42 3259730800) 43 3345764771) 44 3516065817) 45 3600352804) 46 4094571909) 47 275423344) 48 430227734) 49 506948616) 50 659060556) 51 883997877) 52 958139571) 53 1322822218) 54 1537002063) 55 1747873779) 56 1955562222) 57 2024104815) 58 2227730452) 59 2361852424) 60 2428436474) 61 2756734187) 62 3204031479) 63 3329325298)
def qJ:=veil IG
theorem wB:qJ=IG:=aj _
def II(x:Int)(n:Int):Option (Int):=match(uh x (i64.wrap (0-n)))with|none=>none|some r=>(some r)
def fO:=veil II
theorem KP:fO=II:=aj _
abbrev ig(t:Int)(b:NI)(t1:NI)(w:NI):=(((),((),((),(t,())))),(b,(t1,(w,()))))
abbrev rP(t:NI)(w:NI):=(((),((),())),(t,(w,())))
abbrev Dz:Type:=((Unit×Z0h)×(NI×Z0a))
def iq:Dz->Option (Dz⊕(Z0m×Z0a)):=λx=>let t:=x.1.2.2.2.1;let b:=x.2.1;let t1:=x.2.2.1;let w:=x.2.2.2.1;bif (decide (t<16))then(bif (inb (i64.wrap (4*t)) 64)then(bif (inb (i64.wrap ((i64.wrap (4*t))+1)) 64)then(let t2:=(ak .or .u32 (iL .u32 (u32.wrap (b (Int.toNat (i64.wrap (4*t))))) 24) (iL .u32 (u32.wrap (b (Int.toNat (i64.wrap ((i64.wrap (4*t))+1))))) 16));bif (inb (i64.wrap ((i64.wrap (4*t))+2)) 64)then(let t3:=(ak .or .u32 t2 (iL .u32 (u32.wrap (b (Int.toNat (i64.wrap ((i64.wrap (4*t))+2))))) 8));bif (inb (i64.wrap ((i64.wrap (4*t))+3)) 64)then(let t4:=(ak .or .u32 t3 (u32.wrap (b (Int.toNat (i64.wrap ((i64.wrap (4*t))+3))))));bif (inb t 64)then(some (.inl (((),((),((),((i64.wrap (t+1)),())))),(b,(t1,((upd w (Int.toNat t) t4),()))))))else(none))else(none))else(none))else(none))else(none))else(some (.inr (((),((),())),(t1,(w,())))))
abbrev iw(k:Int)(t:NI)(w:NI):=(((),((),(k,()))),(t,(w,())))
abbrev rQ(t:NI)(w:NI):=(((),((),())),(t,(w,())))
abbrev DC:Type:=(Z0h×Z0a)
def iy:DC->Option (DC⊕(Z0m×Z0a)):=λx=>let k:=x.1.2.2.1;let t:=x.2.1;let w:=x.2.2.1;bif (decide (k<64))then(bif (inb (i64.wrap (k-15)) 64)then(bif (inb (i64.wrap (k-2)) 64)then(match(fO (w (Int.toNat (i64.wrap (k-15)))) 7)with|none=>none|some r=>(match(fO (w (Int.toNat (i64.wrap (k-15)))) 18)with|none=>none|some r1=>(let t1:=(ak .xor .u32 (ak .xor .u32 r r1) (bG .u32 (w (Int.toNat (i64.wrap (k-15)))) 3));match(fO (w (Int.toNat (i64.wrap (k-2)))) 17)with|none=>none|some r2=>(match(fO (w (Int.toNat (i64.wrap (k-2)))) 19)with|none=>none|some r3=>(let t2:=(ak .xor .u32 (ak .xor .u32 r2 r3) (bG .u32 (w (Int.toNat (i64.wrap (k-2)))) 10));bif (inb (i64.wrap (k-16)) 64)then(bif (inb (i64.wrap (k-7)) 64)then(let t3:=(u32.wrap ((u32.wrap ((w (Int.toNat (i64.wrap (k-16))))+t1))+(w (Int.toNat (i64.wrap (k-7))))));bif (inb k 64)then(some (.inl (((),((),((i64.wrap (k+1)),()))),(t,((upd w (Int.toNat k) (u32.wrap (t3+t2))),())))))else(none))else(none))else(none))))))else(none))else(none))else(some (.inr (((),((),())),(t,(w,())))))
def CK(b:NI):Option (NI):=match(aB iq (((),((),((),(0,())))),(b,((λ_=>0),((λ_=>0),())))))with|none=>none|some y=>(let t:=y.2.1;let w:=y.2.2.1;match(aB iy (((),((),(16,()))),(t,(w,()))))with|none=>none|some y1=>(let t1:=y1.2.1;let w1:=y1.2.2.1;some w1))
def zF:=veil CK
theorem FP:zF=CK:=aj _
abbrev kr(t:Int)(v:NI)(t1:NI)(k:NI)(w:NI)(x1:NI):=(((),((),((),((),((),(t,())))))),(v,(t1,(k,(w,(x1,()))))))
abbrev yJ(v:NI)(t:NI)(x1:NI):=(((),((),((),()))),(v,(t,(x1,()))))
abbrev KQ:Type:=((Unit×Z0D)×(NI×Z0y))
def kC:KQ->Option (KQ⊕((Unit×Z0m)×(NI×Z0a))):=λx=>let t:=x.1.2.2.2.2.2.1;let v:=x.2.1;let t1:=x.2.2.1;let k:=x.2.2.2.1;let w:=x.2.2.2.2.1;let x1:=x.2.2.2.2.2.1;bif (decide (t<64))then(let t2:=(ak .and .u32 (x1 4) (ak .xor .u32 (x1 5) (x1 6)));let t3:=(ak .and .u32 (x1 2) (ak .or .u32 (x1 0) (x1 1)));match(fO (x1 4) 6)with|none=>none|some r=>(match(fO (x1 4) 11)with|none=>none|some r1=>(match(fO (x1 4) 25)with|none=>none|some r2=>(let t4:=(u32.wrap ((u32.wrap ((x1 7)+(ak .xor .u32 (ak .xor .u32 r r1) r2)))+(ak .xor .u32 (x1 6) t2)));bif (inb t 64)then(bif (inb t 64)then(match(fO (x1 0) 2)with|none=>none|some r3=>(match(fO (x1 0) 13)with|none=>none|some r4=>(match(fO (x1 0) 22)with|none=>none|some r5=>(let t5:=(u32.wrap ((ak .xor .u32 (ak .xor .u32 r3 r4) r5)+(ak .or .u32 (ak .and .u32 (x1 0) (x1 1)) t3)));let t6:=(u32.wrap ((x1 3)+(u32.wrap ((u32.wrap (t4+(k (Int.toNat t))))+(w (Int.toNat t))))));let t7:=(u32.wrap ((u32.wrap ((u32.wrap (t4+(k (Int.toNat t))))+(w (Int.toNat t))))+t5));some (.inl (((),((),((),((),((),((i64.wrap (t+1)),())))))),(v,(t1,(k,(w,((upd (upd (tX x1 1 7 (λj=>x1 (0+j))) 4 t6) 0 t7),())))))))))))else(none))else(none)))))else(some (.inr (((),((),((),()))),(v,(t1,(x1,()))))))
abbrev qK(t:Int)(v:NI)(t1:NI)(x1:NI):=(((),((),((),(t,())))),(v,(t1,(x1,()))))
abbrev yK(t:NI)(x1:NI):=(((),((),())),(t,(x1,())))
abbrev KR:Type:=((Unit×Z0h)×(NI×Z0a))
def mW:KR->Option (KR⊕(Z0m×Z0a)):=λx=>let t:=x.1.2.2.2.1;let v:=x.2.1;let t1:=x.2.2.1;let x1:=x.2.2.2.1;bif (decide (t<8))then(bif (inb t 8)then(bif (inb t 8)then(bif (inb t 8)then(some (.inl (((),((),((),((i64.wrap (t+1)),())))),(v,(t1,((upd x1 (Int.toNat t) (u32.wrap ((x1 (Int.toNat t))+(v (Int.toNat t))))),()))))))else(none))else(none))else(none))else(some (.inr (((),((),())),(t1,(x1,())))))
def M6(v:NI)(b:NI):Option (NI):=match qJ with|none=>none|some r=>(match(zF b)with|none=>none|some r1=>(match(aB kC (((),((),((),((),((),(0,())))))),(v,((λ_=>0),(r,(r1,(v,())))))))with|none=>none|some y=>(let v1:=y.2.1;let t:=y.2.2.1;let x:=y.2.2.2.1;match(aB mW (((),((),((),(0,())))),(v1,(t,(x,())))))with|none=>none|some y1=>(let t1:=y1.2.1;let x1:=y1.2.2.1;some x1))))
def DF:=veil M6
theorem Oi:DF=M6:=aj _
abbrev dN(s:ByteArray)(h:Z0e):=(((),(s,())),(h,()))
abbrev xW(h:Z0e):=(((),()),(h,()))
abbrev Ao:Type:=((Unit×(ByteArray×Unit))×(Z0e×Unit))
def dO:Ao->Option (Ao⊕(Z09×(Z0e×Unit))):=λx=>let s:=x.1.2.1;let h:=x.2.1;bif (!(sEq s (ByteArray.mk #[])))then(bif ((decide (0<=(Int.tmod h.2.2.2 64)))&&(decide ((Int.tmod h.2.2.2 64)<=64)))then(bif ((Nat.ble (64-(Int.toNat (Int.tmod h.2.2.2 64))) 0)||(Nat.ble (ByteArray.size s) 0))then(bif (decide (0<=(((ByteArray.size s):Nat):Int)))then(bif ((Int.tmod (i64.wrap (h.2.2.2+0)) 64)==0)then(match(DF h.2.1 h.2.2.1)with|none=>none|some r=>(some (.inl (((),((ByteArray.extract s 0 (ByteArray.size s)),())),((h.1,(r,(h.2.2.1,(i64.wrap (h.2.2.2+0))))),())))))else(some (.inl (((),((ByteArray.extract s 0 (ByteArray.size s)),())),((h.1,(h.2.1,(h.2.2.1,(i64.wrap (h.2.2.2+0))))),())))))else(none))else(bif ((decide (0<=(((min (ByteArray.size s) (64-(Int.toNat (Int.tmod h.2.2.2 64)))):Nat):Int)))&&(decide ((((min (ByteArray.size s) (64-(Int.toNat (Int.tmod h.2.2.2 64)))):Nat):Int)<=(((ByteArray.size s):Nat):Int))))then(let t:=(ByteArray.extract s (Int.toNat (((min (ByteArray.size s) (64-(Int.toNat (Int.tmod h.2.2.2 64)))):Nat):Int)) (ByteArray.size s));let t1:=(i64.wrap (h.2.2.2+(((min (ByteArray.size s) (64-(Int.toNat (Int.tmod h.2.2.2 64)))):Nat):Int)));bif ((Int.tmod t1 64)==0)then(match(DF h.2.1 (tX h.2.2.1 (Int.toNat (Int.tmod h.2.2.2 64)) (min (ByteArray.size s) (64-(Int.toNat (Int.tmod h.2.2.2 64)))) (λi=>(((s).data.toList.getD i 0).toNat:Int))))with|none=>none|some r1=>(some (.inl (((),(t,())),((h.1,(r1,((tX h.2.2.1 (Int.toNat (Int.tmod h.2.2.2 64)) (min (ByteArray.size s) (64-(Int.toNat (Int.tmod h.2.2.2 64)))) (λi=>(((s).data.toList.getD i 0).toNat:Int))),t1))),())))))else(some (.inl (((),(t,())),((h.1,(h.2.1,((tX h.2.2.1 (Int.toNat (Int.tmod h.2.2.2 64)) (min (ByteArray.size s) (64-(Int.toNat (Int.tmod h.2.2.2 64)))) (λi=>(((s).data.toList.getD i 0).toNat:Int))),t1))),())))))else(none)))else(none))else(some (.inr (((),()),(h,()))))
abbrev rR(h:Z0e):=((),(h,()))
def yL(s:ByteArray)(h:Z0e):Option ((Unit×(Z0e×Unit))):=bif (!h.1)then(some ((),(h,())))else(match(aB dO (((),(s,())),(h,())))with|none=>none|some y=>(let h1:=y.2.1;some ((),(h1,()))))
def jh:=veil yL
theorem BQ:jh=yL:=aj _
abbrev kW(h:Z0e)(c:Z0e):=((h,((),())),(c,()))
abbrev rT(h:Z0e)(c:Z0e):=((h,((),())),(c,()))
abbrev DI:Type:=((Z0e×Z09)×(Z0e×Unit))
def jc:DI->Option (DI⊕((Z0e×Z09)×(Z0e×Unit))):=λx=>let h:=x.1.1;let c:=x.2.1;bif ((Int.tmod c.2.2.2 64) !=56)then(match(jh (ByteArray.mk #[0]) c)with|none=>none|some y=>(let o:=y.2.1;some (.inl ((h,((),())),(o,())))))else(some (.inr ((h,((),())),(c,()))))
abbrev kX(h:Z0e)(t:Int)(c:Z0e)(last:NI):=((h,((),((),(t,())))),(c,(last,())))
abbrev rU(c:Z0e)(last:NI):=(((),((),())),(c,(last,())))
abbrev DJ:Type:=((Z0e×Z0h)×(Z0e×(NI×Unit)))
def jd:DJ->Option (DJ⊕(Z0m×(Z0e×(NI×Unit)))):=λx=>let h:=x.1.1;let t:=x.1.2.2.2.1;let c:=x.2.1;let last:=x.2.2.1;bif (decide (t<8))then(bif (decide ((i64.wrap (56-(i64.wrap (8*t))))<0))then(none)else(let t1:=(bG .i64 (i64.wrap (8*h.2.2.2)) (i64.wrap (56-(i64.wrap (8*t)))));bif (inb t 8)then(some (.inl ((h,((),((),((i64.wrap (t+1)),())))),(c,((upd last (Int.toNat t) (u8.wrap t1)),())))))else(none)))else(some (.inr (((),((),())),(c,(last,())))))
abbrev kY(nout:Nat)(out:Nat->Int)(t:NI)(t1:Int):=(((nout,out),(t,(t1,()))),())
abbrev rV(nout:Nat)(out:Nat->Int):=(((nout,out),()),())
abbrev DK:Type:=(((Nat×NI)×(NI×Z06))×Unit)
def je:DK->Option (DK⊕Z0A):=λx=>let nout:=x.1.1.1;let out:=x.1.1.2;let t:=x.1.2.1;let t1:=x.1.2.2.1;bif (decide (t1<8))then(bif (inb t1 8)then(bif ((Nat.ble ((nout+4)*1) 140737488355328)&&(Nat.ble (nout+4) 9223372036854775807))then(some (.inl ((((nout+4),(glue nout out (λj=>(upd (upd (upd (upd (λ_=>0) 0 (u8.wrap (bG .u32 (t (Int.toNat t1)) 24))) 1 (u8.wrap (bG .u32 (t (Int.toNat t1)) 16))) 2 (u8.wrap (bG .u32 (t (Int.toNat t1)) 8))) 3 (u8.wrap (t (Int.toNat t1)))) (0+j)))),(t,((i64.wrap (t1+1)),()))),())))else(none))else(none))else(some (.inr (((nout,out),()),())))
def xB(h:(Option Z0e)):Option Z0x:=match h with|none=>(some (ByteArray.mk #[]))|some h0=>(bif (!h0.1)then(some (ByteArray.mk #[]))else(match(jh (ByteArray.mk #[128]) h0)with|none=>none|some y=>(let o:=y.2.1;match(aB jc ((h0,((),())),(o,())))with|none=>none|some y1=>(let h1:=y1.1.1;let c:=y1.2.1;match(aB jd ((h1,((),((),(0,())))),(c,((λ_=>0),()))))with|none=>none|some y2=>(let c1:=y2.2.1;let last:=y2.2.2.1;match(jh (bytesOf 8 (λj=>last (0+j))) c1)with|none=>none|some y3=>(let o1:=y3.2.1;match(aB je (((0,(λ_=>0)),(o1.2.1,(0,()))),()))with|none=>none|some y4=>(let nout:=y4.1.1.1;let out:=y4.1.1.2;some (bytesOf nout (λj=>out (0+j))))))))))
def zH:=veil xB
theorem FQ:zH=xB:=aj _
def Vy(s:ByteArray):Option Z0x:=match PZ with|none=>none|some y=>(let o:=y.2.1;match(jh s o)with|none=>none|some y1=>(let o1:=y1.2.1;match(zH (some o1))with|none=>none|some r=>(some r)))
def Oj:=veil Vy
theorem Vz:Oj=Vy:=aj _
open Go.IntKind (i64 u64 u32 u8)
abbrev iA(ns:Nat)(s:Nat->(SlV NI))(t:Int)(t1:Int)(no:Nat)(o:Nat->(SlV NI)):=(((ns,s),((),(t,(t1,())))),((no,o),()))
abbrev rW:Type:=((Z06×(Z0f×Unit))⊕(Unit×(Z0f×Unit)))
abbrev jM(t:Int)(no:Nat)(o:Nat->(SlV NI)):rW:=(.inl ((t,()),((no,o),())))
abbrev xX(no:Nat)(o:Nat->(SlV NI)):rW:=(.inr ((),((no,o),())))
abbrev Ap:Type:=((Z0f×Z0q)×(Z0f×Unit))
def dh:Ap->Option (Ap⊕rW):=λx=>let ns:=x.1.1.1;let s:=x.1.1.2;let t:=x.1.2.2.1;let t1:=x.1.2.2.2.1;let no:=x.2.1.1;let o:=x.2.1.2;bif (decide (t1<t))then(bif (inb t1 ns)then(bif (SlV.isMs (s (Int.toNat t1)))then(none)else(bif (inb 0 no)then(bif (SlV.isMs (o 0))then(none)else(bif ((((SlV.len (s (Int.toNat t1))):Nat):Int) !=(((SlV.len (o 0)):Nat):Int))then(some (.inr (.inl ((t1,()),((no,o),())))))else(bif (decide ((((SlV.len (s (Int.toNat t1))):Nat):Int)<1))then(some (.inr (.inl ((t1,()),((no,o),())))))else(bif (decide ((((SlV.len (s (Int.toNat t1))):Nat):Int)>7))then(some (.inr (.inl ((t1,()),((no,o),())))))else(some (.inl (((ns,s),((),(t,((i64.wrap (t1+1)),())))),((no,o),()))))))))else(none)))else(none))else(some (.inr (.inr ((),((no,o),())))))
def EU(nm:Nat)(m:Nat->(SlV NI)):Option (Bool):=match(aB dh (((nm,m),((),(((nm:Nat):Int),(0,())))),((nm,m),())))with|none=>none|some y=>(match y with| .inl y1=>(let t:=y1.1.1;let no:=y1.2.1.1;let o:=y1.2.1.2;bif (!(decide (t>=0)))then(bif (decide (((no:Nat):Int)>=1))then(some (decide (((no:Nat):Int)<=25)))else(some false))else(some false))| .inr y1=>(let no1:=y1.2.1.1;let o1:=y1.2.1.2;bif (decide (((no1:Nat):Int)>=1))then(some (decide (((no1:Nat):Int)<=25)))else(some false)))
def BR:=veil EU
theorem IJ:BR=EU:=aj _
abbrev wC(nt:Nat)(t:Nat->(SlV NI))(t1:Int)(t2:Int)(nt1:Nat)(t3:Nat->NI)(t4:Int)(t5:Int)(b:Unit)(nb:Nat)(b1:NI):=(((),((nt,t),(t1,(t2,((nt1,t3),(t4,(t5,()))))))),((b,(nb,b1)),()))
abbrev Aq(nt:Nat)(t:Nat->(SlV NI))(t1:Int)(t2:Int)(b:Unit)(nb:Nat)(b1:NI):=(((),((nt,t),(t1,(t2,())))),((b,(nb,b1)),()))
abbrev DL:Type:=((Unit×(Z0f×(Int×(Int×(Z0j×(Int×Z06))))))×Z0K)
def jf:DL->Option (DL⊕((Unit×(Z0f×(Int×Z06)))×Z0K)):=λx=>let nt:=x.1.2.1.1;let t:=x.1.2.1.2;let t1:=x.1.2.2.1;let t2:=x.1.2.2.2.1;let nt1:=x.1.2.2.2.2.1.1;let t3:=x.1.2.2.2.2.1.2;let t4:=x.1.2.2.2.2.2.1;let t5:=x.1.2.2.2.2.2.2.1;let b:=x.2.1.1;let nb:=x.2.1.2.1;let b1:=x.2.1.2.2;bif (decide (t5<t4))then(bif (inb t5 nt1)then(match(Jr (t3 (Int.toNat t5)))with|none=>none|some r=>(bif ((Nat.ble ((nb+1)*1) 140737488355328)&&(Nat.ble (nb+1) 9223372036854775807))then(bif ((Nat.ble (((nb+1)+(ByteArray.size r))*1) 140737488355328)&&(Nat.ble ((nb+1)+(ByteArray.size r)) 9223372036854775807))then(some (.inl (((),((nt,t),(t1,(t2,((nt1,t3),(t4,((i64.wrap (t5+1)),()))))))),((b,(((nb+1)+(ByteArray.size r)),(glue (nb+1) (glue nb b1 (λj=>(upd (λ_=>0) 0 (u8.wrap (((ByteArray.size r):Nat):Int))) (0+j))) (λi=>(((r).data.toList.getD i 0).toNat:Int))))),()))))else(none))else(none)))else(none))else(some (.inr (((),((nt,t),(t1,(t2,())))),((b,(nb,b1)),()))))
abbrev wD(nt:Nat)(t:Nat->(SlV NI))(t1:Int)(t2:Int)(b:Unit)(nb:Nat)(b1:NI):=(((),((nt,t),(t1,(t2,())))),((b,(nb,b1)),()))
abbrev Ar(b:Unit)(nb:Nat)(b1:NI):=(((),()),((b,(nb,b1)),()))
abbrev DN:Type:=((Unit×(Z0f×(Int×Z06)))×Z0K)
def iB:DN->Option (DN⊕(Z09×Z0K)):=λx=>let nt:=x.1.2.1.1;let t:=x.1.2.1.2;let t1:=x.1.2.2.1;let t2:=x.1.2.2.2.1;let b:=x.2.1.1;let nb:=x.2.1.2.1;let b1:=x.2.1.2.2;bif (decide (t2<t1))then(bif (inb t2 nt)then(bif (SlV.isMs (t (Int.toNat t2)))then(none)else(match(aB jf (((),((nt,t),(t1,(t2,(((SlV.len (t (Int.toNat t2))),(SlV.fn ((λ_=>0):NI) (t (Int.toNat t2)))),((((SlV.len (t (Int.toNat t2))):Nat):Int),(0,()))))))),((b,(nb,b1)),())))with|none=>none|some y=>(let nt1:=y.1.2.1.1;let t3:=y.1.2.1.2;let t4:=y.1.2.2.1;let t5:=y.1.2.2.2.1;let b2:=y.2.1.1;let nb1:=y.2.1.2.1;let b3:=y.2.1.2.2;some (.inl (((),((nt1,t3),(t4,((i64.wrap (t5+1)),())))),((b2,(nb1,b3)),()))))))else(none))else(some (.inr (((),()),((b,(nb,b1)),()))))
def CO(nm:Nat)(m:Nat->(SlV NI)):Option Z0x:=match(BR nm m)with|none=>none|some r=>(bif (!r)then(some (ByteArray.mk #[]))else(bif (inb 0 nm)then(bif (SlV.isMs (m 0))then(none)else(match(aB iB (((),((nm,m),(((nm:Nat):Int),(0,())))),(((),(2,(glue 1 (glue 0 (λ_=>0) (λj=>(upd (λ_=>0) 0 (u8.wrap ((nm:Nat):Int))) (0+j))) (λj=>(upd (λ_=>0) 0 (u8.wrap (((SlV.len (m 0)):Nat):Int))) (0+j))))),())))with|none=>none|some y=>(let b:=y.2.1.1;let nb:=y.2.1.2.1;let b1:=y.2.1.2.2;bif ((decide (((nb:Nat):Int)=((nb:Nat):Int)))&&(Nat.ble nb 9223372036854775807))then(some (bytesOf nb b1))else(none))))else(none)))
def uz:=veil CO
theorem FR:uz=CO:=aj _
def CP(t:Int):Option (Bool):=bif (decide (t>=1))then(some (decide (t<=2)))else(some false)
def uD:=veil CP
theorem FT:uD=CP:=aj _
abbrev jN(ns:Nat)(s:Nat->(SlV NI))(t:Int)(t1:Int)(o:GR)(o1:Int):=(((ns,s),((),(t,(t1,())))),(o,(o1,())))
abbrev uE:Type:=((Z06×(GR×Z06))⊕(Unit×(GR×Z06)))
abbrev yZ(t:Int)(o:GR)(o1:Int):uE:=(.inl ((t,()),(o,(o1,()))))
abbrev z8(o:GR)(o1:Int):uE:=(.inr ((),(o,(o1,()))))
abbrev BS:Type:=((Z0f×Z0q)×(GR×Z06))
def eB:BS->Option (BS⊕uE):=λx=>let ns:=x.1.1.1;let s:=x.1.1.2;let t:=x.1.2.2.1;let t1:=x.1.2.2.2.1;let o:=x.2.1;let o1:=x.2.2.1;bif (decide (t1<t))then(bif (inb t1 ns)then(bif (SlV.isMs (s (Int.toNat t1)))then(none)else(bif ((((SlV.len (s (Int.toNat t1))):Nat):Int) !=(i64.wrap (o1+1)))then(some (.inr (.inl ((t1,()),(o,(o1,()))))))else(match(wz (some o) (SlV.len (s (Int.toNat t1))) (SlV.fn ((λ_=>0):NI) (s (Int.toNat t1))))with|none=>none|some r=>(bif (!r)then(some (.inr (.inl ((t1,()),(o,(o1,()))))))else(some (.inl (((ns,s),((),(t,((i64.wrap (t1+1)),())))),(o,(o1,())))))))))else(none))else(some (.inr (.inr ((),(o,(o1,()))))))
def BU(g:(Option GR))(t:Int)(nm:Nat)(m:Nat->(SlV NI)):Option (Bool):=match g with|none=>(none)|some g0=>(match(aB eB (((nm,m),((),(((nm:Nat):Int),(0,())))),(g0,(t,()))))with|none=>none|some y=>(match y with| .inl y1=>(let t1:=y1.1.1;let o:=y1.2.1;let o1:=y1.2.2.1;bif (!(decide (t1>=0)))then(match(uD o1)with|none=>none|some r=>(bif r then(bif (decide (((nm:Nat):Int)>=1))then(some (decide (((nm:Nat):Int)<=25)))else(some false))else(some false)))else(some false))| .inr y1=>(let o2:=y1.2.1;let o3:=y1.2.2.1;match(uD o3)with|none=>none|some r1=>(bif r1 then(bif (decide (((nm:Nat):Int)>=1))then(some (decide (((nm:Nat):Int)<=25)))else(some false))else(some false)))))
def oF:=veil BU
theorem KS:oF=BU:=aj _
abbrev pO(g:GR)(nt:Nat)(t:Nat->(SlV NI))(t1:Int)(t2:Int)(p:Int)(np:Nat)(p1:Nat->NI):=((g,((),((nt,t),(t1,(t2,()))))),((p,(np,p1)),()))
abbrev wE:Type:=(Z0d⊕Z09)
abbrev M7(t:Bool):wE:=(.inl ((t,()),()))
abbrev M8:wE:=(.inr ((),()))
abbrev DR:Type:=((GR×(Unit×(Z0f×(Int×Z06))))×((Int×Z0j)×Unit))
def iC:DR->Option (DR⊕wE):=λx=>let g:=x.1.1;let nt:=x.1.2.2.1.1;let t:=x.1.2.2.1.2;let t1:=x.1.2.2.2.1;let t2:=x.1.2.2.2.2.1;let p:=x.2.1.1;let np:=x.2.1.2.1;let p1:=x.2.1.2.2;bif (decide (t2<t1))then(bif (inb t2 nt)then(bif (SlV.isMs (t (Int.toNat t2)))then(none)else(bif (inb t2 np)then(match(zD (some g) (SlV.len (t (Int.toNat t2))) (SlV.fn ((λ_=>0):NI) (t (Int.toNat t2))) (p,(p1 (Int.toNat t2))))with|none=>none|some r=>(bif (!r)then(some (.inr (.inl ((false,()),()))))else(some (.inl ((g,((),((nt,t),(t1,((i64.wrap (t2+1)),()))))),((p,(np,p1)),()))))))else(none)))else(none))else(some (.inr (.inr ((),()))))
def xC(g:(Option GR))(nm:Nat)(m:Nat->(SlV NI))(p:(Int×Z0j)):Option (Bool):=match g with|none=>(bif (decide (((nm:Nat):Int)<1))then(some false)else(bif (decide (((nm:Nat):Int)>25))then(some false)else(bif (((p.2.1:Nat):Int) !=((nm:Nat):Int))then(some false)else(none))))|some g0=>(bif (decide (((nm:Nat):Int)<1))then(some false)else(bif (decide (((nm:Nat):Int)>25))then(some false)else(bif (((p.2.1:Nat):Int) !=((nm:Nat):Int))then(some false)else(match(aB iC ((g0,((),((nm,m),(((nm:Nat):Int),(0,()))))),((p.1,(p.2.1,p.2.2)),())))with|none=>none|some y=>(match y with| .inl y1=>(let t:=y1.1.1;some t)| .inr y1=>(some true))))))
def eP:=veil xC
theorem FU:eP=xC:=aj _
def Au(nm:Nat)(m:Nat->(SlV NI)):Option Z0x:=match(uz nm m)with|none=>none|some r=>(match(Oj r)with|none=>none|some r1=>(some r1))
def qL:=veil Au
theorem DT:qL=Au:=aj _
open Go.IntKind (i64 u64 u32 u8)
def Q0(s:ByteArray):Option (Bool):=bif (decide ((((ByteArray.size s):Nat):Int)>=1))then(some (decide ((((ByteArray.size s):Nat):Int)<=8)))else(some false)
def bO:=veil Q0
theorem RF:bO=Q0:=aj _
def CQ(s:(Int×Int)):Option (Bool):=bif (decide (s.1>=1))then(bif (decide (s.1<=1099511627776))then(bif (decide (s.2>=1))then(some (decide (s.2<=4)))else(some false))else(some false))else(some false)
def zI:=veil CQ
theorem FV:zI=CQ:=aj _
def uF(what:Int)(is_:Bool)(may:Bool)(o:Int)(o1:Bool):Option ((Unit×(Int×Z0u))):=bif is_ then(bif o1 then(some ((),((ak .or .i64 o what),(may,()))))else(some ((),((ak .or .i64 o what),(false,())))))else(some ((),(o,(o1,()))))
def cO:=veil uF
theorem za:cO=uF:=aj _
def CS(m:Z0g):Option (Int×Bool):=match(zI m.2.2.2.1)with|none=>none|some r=>(match(cO 1 (!(eqF (.pair (.int .i64) (.int .i64)) m.2.2.2.1 (0,0))) r 0 true)with|none=>none|some y=>(let o:=y.2.1;let o1:=y.2.2.1;match(cO 2 (!(sEq m.2.2.2.2.1 (ByteArray.mk #[]))) ((((ByteArray.size m.2.2.2.2.1):Nat):Int)==32) o o1)with|none=>none|some y1=>(let o2:=y1.2.1;let o3:=y1.2.2.1;let t:=(i64.wrap (((m.2.2.2.2.2.1.1:Nat):Int)+((m.2.2.2.2.2.2.1:Nat):Int)));let t1:=(((m.2.2.2.2.2.2.1:Nat):Int)==((m.2.2.2.2.2.1.1:Nat):Int));bif t1 then(match(uz m.2.2.2.2.2.1.1 m.2.2.2.2.2.1.2)with|none=>none|some r1=>(match(cO 4 (decide (t>0)) (!(sEq r1 (ByteArray.mk #[]))) o2 o3)with|none=>none|some y2=>(let o4:=y2.2.1;let o5:=y2.2.2.1;bif (decide (m.2.1>=1))then(match(cO 8 (m.2.1 !=0) (decide (m.2.1<=1048576)) o4 o5)with|none=>none|some y3=>(let o6:=y3.2.1;let o7:=y3.2.2.1;some (o6,o7)))else(match(cO 8 (m.2.1 !=0) false o4 o5)with|none=>none|some y4=>(let o8:=y4.2.1;let o9:=y4.2.2.1;some (o8,o9))))))else(match(cO 4 (decide (t>0)) false o2 o3)with|none=>none|some y5=>(let o10:=y5.2.1;let o11:=y5.2.2.1;bif (decide (m.2.1>=1))then(match(cO 8 (m.2.1 !=0) (decide (m.2.1<=1048576)) o10 o11)with|none=>none|some y6=>(let o12:=y6.2.1;let o13:=y6.2.2.1;some (o12,o13)))else(match(cO 8 (m.2.1 !=0) false o10 o11)with|none=>none|some y7=>(let o14:=y7.2.1;let o15:=y7.2.2.1;some (o14,o15))))))))
def uG:=veil CS
theorem FW:uG=CS:=aj _
def IK(m:Z0g):Option (Int):=match(uG (m.1,(m.2.1,(m.2.2.1,(m.2.2.2.1,(m.2.2.2.2.1,((m.2.2.2.2.2.1.1,m.2.2.2.2.2.1.2),(m.2.2.2.2.2.2.1,m.2.2.2.2.2.2.2))))))))with|none=>none|some r=>(bif (m.1==1)then(bif (m.1==1)then(bif r.2 then(bif (!(r.1==8))then(some 1)else(match(bO m.2.2.1)with|none=>none|some r1=>(bif (!r1)then(some 1)else(some 0))))else(some 1))else(bif (m.1==3)then(bif r.2 then(bif (r.1==8)then(match(bO m.2.2.1)with|none=>none|some r2=>(bif (!r2)then(some 1)else(some 0)))else(bif (!((ak .andNot .i64 r.1 4)==11))then(some 1)else(match(bO m.2.2.1)with|none=>none|some r3=>(bif (!r3)then(some 1)else(some 0)))))else(some 1))else(bif (m.1==4)then(bif (m.1==4)then(bif r.2 then(bif (!(r.1==13))then(some 1)else(match(bO m.2.2.1)with|none=>none|some r4=>(bif (!r4)then(some 1)else(some 0))))else(some 1))else(bif (m.1==5)then(bif (m.1==5)then(bif r.2 then(bif (!(r.1==3))then(some 1)else(match(bO m.2.2.1)with|none=>none|some r5=>(bif (!r5)then(some 1)else(some 0))))else(some 1))else(bif (m.1==7)then(bif r.2 then(bif (!(r.1==9))then(some 1)else(match(bO m.2.2.1)with|none=>none|some r6=>(bif (!r6)then(some 1)else(some 0))))else(some 1))else(some 1)))else(bif (m.1==6)then(bif r.2 then(bif (!(r.1==3))then(some 1)else(match(bO m.2.2.1)with|none=>none|some r7=>(bif (!r7)then(some 1)else(some 0))))else(some 1))else(bif (m.1==7)then(bif r.2 then(bif (!(r.1==9))then(some 1)else(match(bO m.2.2.1)with|none=>none|some r8=>(bif (!r8)then(some 1)else(some 0))))else(some 1))else(some 1)))))else(bif (m.1==8)then(bif r.2 then(bif (!(r.1==13))then(some 1)else(match(bO m.2.2.1)with|none=>none|some r9=>(bif (!r9)then(some 1)else(some 0))))else(some 1))else(bif (m.1==5)then(bif (m.1==5)then(bif r.2 then(bif (!(r.1==3))then(some 1)else(match(bO m.2.2.1)with|none=>none|some r10=>(bif (!r10)then(some 1)else(some 0))))else(some 1))else(bif (m.1==7)then(bif r.2 then(bif (!(r.1==9))then(some 1)else(match(bO m.2.2.1)with|none=>none|some r11=>(bif (!r11)then(some 1)else(some 0))))else(some 1))else(some 1)))else(bif (m.1==6)then(bif r.2 then(bif (!(r.1==3))then(some 1)else(match(bO m.2.2.1)with|none=>none|some r12=>(bif (!r12)then(some 1)else(some 0))))else(some 1))else(bif (m.1==7)then(bif r.2 then(bif (!(r.1==9))then(some 1)else(match(bO m.2.2.1)with|none=>none|some r13=>(bif (!r13)then(some 1)else(some 0))))else(some 1))else(some 1))))))))else(bif (m.1==2)then(bif r.2 then(bif (!(r.1==8))then(some 1)else(match(bO m.2.2.1)with|none=>none|some r14=>(bif (!r14)then(some 1)else(some 0))))else(some 1))else(bif (m.1==3)then(bif r.2 then(bif (r.1==8)then(match(bO m.2.2.1)with|none=>none|some r15=>(bif (!r15)then(some 1)else(some 0)))else(bif (!((ak .andNot .i64 r.1 4)==11))then(some 1)else(match(bO m.2.2.1)with|none=>none|some r16=>(bif (!r16)then(some 1)else(some 0)))))else(some 1))else(bif (m.1==4)then(bif (m.1==4)then(bif r.2 then(bif (!(r.1==13))then(some 1)else(match(bO m.2.2.1)with|none=>none|some r17=>(bif (!r17)then(some 1)else(some 0))))else(some 1))else(bif (m.1==5)then(bif (m.1==5)then(bif r.2 then(bif (!(r.1==3))then(some 1)else(match(bO m.2.2.1)with|none=>none|some r18=>(bif (!r18)then(some 1)else(some 0))))else(some 1))else(bif (m.1==7)then(bif r.2 then(bif (!(r.1==9))then(some 1)else(match(bO m.2.2.1)with|none=>none|some r19=>(bif (!r19)then(some 1)else(some 0))))else(some 1))else(some 1)))else(bif (m.1==6)then(bif r.2 then(bif (!(r.1==3))then(some 1)else(match(bO m.2.2.1)with|none=>none|some r20=>(bif (!r20)then(some 1)else(some 0))))else(some 1))else(bif (m.1==7)then(bif r.2 then(bif (!(r.1==9))then(some 1)else(match(bO m.2.2.1)with|none=>none|some r21=>(bif (!r21)then(some 1)else(some 0))))else(some 1))else(some 1)))))else(bif (m.1==8)then(bif r.2 then(bif (!(r.1==13))then(some 1)else(match(bO m.2.2.1)with|none=>none|some r22=>(bif (!r22)then(some 1)else(some 0))))else(some 1))else(bif (m.1==5)then(bif (m.1==5)then(bif r.2 then(bif (!(r.1==3))then(some 1)else(match(bO m.2.2.1)with|none=>none|some r23=>(bif (!r23)then(some 1)else(some 0))))else(some 1))else(bif (m.1==7)then(bif r.2 then(bif (!(r.1==9))then(some 1)else(match(bO m.2.2.1)with|none=>none|some r24=>(bif (!r24)then(some 1)else(some 0))))else(some 1))else(some 1)))else(bif (m.1==6)then(bif r.2 then(bif (!(r.1==3))then(some 1)else(match(bO m.2.2.1)with|none=>none|some r25=>(bif (!r25)then(some 1)else(some 0))))else(some 1))else(bif (m.1==7)then(bif r.2 then(bif (!(r.1==9))then(some 1)else(match(bO m.2.2.1)with|none=>none|some r26=>(bif (!r26)then(some 1)else(some 0))))else(some 1))else(some 1)))))))))
def wF:=veil IK
theorem KT:wF=IK:=aj _
open Go.IntKind (i64 u64 u32 u8)
abbrev XB:Type:=((Z0z×Unit)⊕(Z0z×(SP×Unit)))
abbrev FX(clients:Int)(o:Int)(o1:Int)(no:Nat)(o2:Nat->ByteArray)(o3:List (Int×Int)):XB:=(.inr (((),(clients,())),((o,(o1,((no,o2),o3))),())))
def EW(servers:Int)(clients:Int):Option (((Z0z×Unit)⊕(Z0z×(SP×Unit)))):=bif (decide (servers<1))then(some (.inl (((),(1,())),())))else(bif (decide (servers>7))then(some (.inl (((),(1,())),())))else(bif (decide (clients<1))then(some (.inl (((),(1,())),())))else(bif (decide (clients>4))then(some (.inl (((),(1,())),())))else(some (.inr (((),(0,())),((servers,(clients,((0,(λ_=>ByteArray.empty)),([]:List (Int×Int))))),())))))))
def xY:=veil EW
theorem IL:xY=EW:=aj _
def qm(a:ByteArray)(b:ByteArray):Option (Int):=match(Ad a b)with|none=>none|some r=>(some r)
def ji:=veil qm
theorem vk:ji=qm:=aj _
abbrev aH(nx:Nat)(x1:Nat->ByteArray)(target:ByteArray)(n:Int)(i:Int)(j:Int):=(((nx,x1),(target,((),(n,(i,(j,())))))),())
abbrev aS(nx:Nat)(x1:Nat->ByteArray)(target:ByteArray)(n:Int)(i:Int):=(((nx,x1),(target,((),(n,(i,()))))),())
abbrev dK:Type:=((Z0l×(ByteArray×(Unit×Z0v)))×Unit)
def aI:dK->Option (dK⊕((Z0l×(ByteArray×Z0q))×Unit)):=λx=>let nx:=x.1.1.1;let x1:=x.1.1.2;let target:=x.1.2.1;let n:=x.1.2.2.2.1;let i:=x.1.2.2.2.2.1;let j:=x.1.2.2.2.2.2.1;bif (decide (i<j))then(bif (inb (i64.wrap (bG .u64 (u64.wrap (i64.wrap (i+j))) 1)) nx)then(match(ji (x1 (Int.toNat (i64.wrap (bG .u64 (u64.wrap (i64.wrap (i+j))) 1)))) target)with|none=>none|some r=>(bif (decide (r<0))then(some (.inl (((nx,x1),(target,((),(n,((i64.wrap ((i64.wrap (bG .u64 (u64.wrap (i64.wrap (i+j))) 1))+1)),(j,())))))),())))else(some (.inl (((nx,x1),(target,((),(n,(i,((i64.wrap (bG .u64 (u64.wrap (i64.wrap (i+j))) 1)),())))))),())))))else(none))else(some (.inr (((nx,x1),(target,((),(n,(i,()))))),())))
def bF(nx:Nat)(x:Nat->ByteArray)(target:ByteArray):Option (Int×Bool):=match(aB aI (((nx,x),(target,((),(((nx:Nat):Int),(0,(((nx:Nat):Int),())))))),()))with|none=>none|some y=>(let nx1:=y.1.1.1;let x1:=y.1.1.2;let target1:=y.1.2.1;let n:=y.1.2.2.2.1;let i:=y.1.2.2.2.2.1;bif (decide (i<n))then(bif (inb i nx1)then(match(ji (x1 (Int.toNat i)) target1)with|none=>none|some r=>(some (i,(r==0))))else(none))else(some (i,false)))
def aZ:=veil bF
theorem dP:aZ=bF:=aj _
def qo(key:ByteArray)(s:Int)(s1:Int)(ns:Nat)(s2:Nat->ByteArray)(s3:List (Int×Int)):Option (((Int×Z0u)×(SP×Unit))):=match(aZ ns (λj=>s2 (0+j)) key)with|none=>none|some r=>(some ((r.1,(r.2,())),((s,(s1,((ns,s2),s3))),())))
def lX:=veil qo
theorem vo:lX=qo:=aj _
def uH(s:(Option Z0c))(key:ByteArray):Option (Int×Bool):=match s with|none=>(none)|some s0=>(bif (SlV.isMs s0.2.2.1)then(none)else(match(aZ (SlV.len s0.2.2.1) (SlV.fn (ByteArray.empty:ByteArray) s0.2.2.1) key)with|none=>none|some r=>(some (r.1,r.2))))
def wG:=veil uH
theorem K4:wG=uH:=aj _
def qp(key:ByteArray)(end_:Int)(s:Int)(s1:Int)(ns:Nat)(s2:Nat->ByteArray)(s3:List (Int×Int)):Option (((Int×(Bool×Z06))×(SP×Unit))):=match(bO key)with|none=>none|some r=>(bif (!r)then(some ((0,(false,(1,()))),((s,(s1,((ns,s2),s3))),())))else(bif ((lS s s1 end_)==0)then(some ((0,(false,(1,()))),((s,(s1,((ns,s2),s3))),())))else(match(lX key s s1 ns s2 s3)with|none=>none|some y=>(let r1:=y.1.1;let r2:=y.1.2.1;let o:=y.2.1.1;let o1:=y.2.1.2.1;let no:=y.2.1.2.2.1.1;let o2:=y.2.1.2.2.1.2;let o3:=y.2.1.2.2.2;bif r2 then(some ((r1,(false,(0,()))),((o,(o1,((no,o2),o3))),())))else(bif (decide ((Option.getD (qD (.int .i64) (.int .i64) o3 end_) (0:Int))>=(lS o o1 end_)))then(some ((0,(false,(7,()))),((o,(o1,((no,o2),o3))),())))else(bif (((decide (0<=r1))&&(decide (r1<=((no:Nat):Int))))&&(Nat.ble ((no+1)*16) 140737488355328))then(some ((r1,(true,(0,()))),((o,(o1,(((no+1),(Bl o2 (Int.toNat r1) key)),(X8 (.int .i64) (.int .i64) o3 end_ (i64.wrap ((Option.getD (qD (.int .i64) (.int .i64) o3 end_) (0:Int))+1)))))),())))else(none)))))))
def lY:=veil qp
theorem vw:lY=qp:=aj _
def uI(s:(Option Z0c))(key:ByteArray)(end_:Int):Option (Int×Bool×Int):=match s with|none=>(match(bO key)with|none=>none|some r2=>(bif (!r2)then(some (0,false,1))else(some (0,false,1))))|some s0=>(match(bO key)with|none=>none|some r=>(bif (!r)then(some (0,false,1))else(bif ((lS s0.1 s0.2.1 end_)==0)then(some (0,false,1))else(match(wG (some s0) key)with|none=>none|some r1=>(bif r1.2 then(some (r1.1,false,0))else(bif (Option.isSome s0.2.2.2)then(none)else(bif (decide (0>=(lS s0.1 s0.2.1 end_)))then(some (0,false,7))else(bif (Option.isSome s0.2.2.2)then(none)else(none)))))))))
def aX:=veil uI
theorem K5:aX=uI:=aj _
def qw(s:Int)(s1:Int)(ns:Nat)(s2:Nat->ByteArray)(s3:List (Int×Int)):Option (((Z0l×Unit)×(SP×Unit))):=bif (Nat.ble (ns*16) 140737488355328)then(some (((ns,(λj=>s2 (0+j))),()),((s,(s1,((ns,s2),s3))),())))else(none)
def iD:=veil qw
theorem ng:iD=qw:=aj _
def uJ(s:(Option Z0c)):Option (Z0l):=match s with|none=>(some (0,(λ_=>ByteArray.empty)))|some s0=>(bif (SlV.isMs s0.2.2.1)then(none)else(bif (Nat.ble ((SlV.len s0.2.2.1)*16) 140737488355328)then(some ((SlV.len s0.2.2.1),(λj=>(SlV.fn (ByteArray.empty:ByteArray) s0.2.2.1) (0+j))))else(none)))
def pQ:=veil uJ
theorem K6:pQ=uJ:=aj _
open Go.IntKind (i64 u64 u32 u8)
def yM(x:Int):Option (Bool):=some (x !=x)
def uL:=veil yM
theorem BX:uL=yM:=aj _
def uM(x:Int)(y:Int):Option (Int):=match(uL x)with|none=>none|some r=>(match(uL y)with|none=>none|some r1=>(bif r then(bif r1 then(some 0)else(some (-1)))else(bif r1 then(some 1)else(bif (decide (x<y))then(some (-1))else(bif (decide (x>y))then(some 1)else(some 0))))))
def kZ:=veil uM
theorem ze:kZ=uM:=aj _
abbrev iT(zero:Int)(nt:Nat)(t:Nat->Int)(t1:Int)(t2:Int):=((zero,((nt,t),(t1,(t2,())))),())
abbrev yN:Type:=(Z0L⊕Z0L)
abbrev nJ(t:Int):yN:=(.inl ((t,()),()))
abbrev uN(zero:Int):yN:=(.inr ((zero,()),()))
abbrev FY:Type:=((Int×((Nat×NI)×(Int×Z06)))×Unit)
def eU:FY->Option (FY⊕yN):=λx=>let zero:=x.1.1;let nt:=x.1.2.1.1;let t:=x.1.2.1.2;let t1:=x.1.2.2.1;let t2:=x.1.2.2.2.1;bif (decide (t2<t1))then(bif (inb t2 nt)then(bif ((t (Int.toNat t2)) !=zero)then(some (.inr (.inl (((t (Int.toNat t2)),()),()))))else(some (.inl ((zero,((nt,t),(t1,((i64.wrap (t2+1)),())))),()))))else(none))else(some (.inr (.inr ((zero,()),()))))
def EX(nvals:Nat)(vals:Nat->Int):Option (Int):=match(aB eU ((0,((nvals,vals),(((nvals:Nat):Int),(0,())))),()))with|none=>none|some y=>(match y with| .inl y1=>(let t:=y1.1.1;some t)| .inr y1=>(let zero:=y1.1.1;some zero))
def BZ:=veil EX
theorem IQ:BZ=EX:=aj _
open Go.IntKind (i64 u64 u32 u8)
def CU(c:Int):Option (Bool):=bif (decide (c>=1))then(some (decide (c<=4)))else(some false)
def EY:=veil CU
theorem FZ:EY=CU:=aj _
def M9(s:(Int×Int)):Option (Bool):=bif (decide (s.1>=1))then(bif (decide (s.1<=1099511627776))then(match(EY s.2)with|none=>none|some r=>(some r))else(some false))else(some false)
def wH:=veil M9
theorem Ol:wH=M9:=aj _
def Av(a:(Int×Int))(b:(Int×Int)):Option (Int):=match(kZ a.1 b.1)with|none=>none|some r=>(match(kZ a.2 b.2)with|none=>none|some r1=>(match(BZ 2 (λj=>(upd (upd (λ_=>0) 0 r) 1 r1) (0+j)))with|none=>none|some r2=>(some r2)))
def xD:=veil Av
theorem DU:xD=Av:=aj _
open Go.IntKind (i64 u64 u32 u8)
def rX(server:Int)(s:(Int×Int))(digest:ByteArray)(v:VT):Option ((Z0u×(VT×Unit))):=match(wH s)with|none=>none|some r=>(bif (!r)then(some ((false,()),(v,())))else(bif (decide (server<1))then(some ((false,()),(v,())))else(bif (decide (server>v.1))then(some ((false,()),(v,())))else(bif (decide (s.2<1))then(some ((false,()),(v,())))else(bif (decide (s.2>4))then(some ((false,()),(v,())))else(bif (decide ((ak .and .i64 s.1 1)<0))then(some ((false,()),(v,())))else(bif (decide ((ak .and .i64 s.1 1)>1))then(some ((false,()),(v,())))else(bif (inb (i64.wrap (server-1)) 7)then(bif (inb (i64.wrap (s.2-1)) 4)then(bif (inb (ak .and .i64 s.1 1) 2)then(let t:=(((v.2 (Int.toNat (i64.wrap (server-1)))) (Int.toNat (i64.wrap (s.2-1)))) (Int.toNat (ak .and .i64 s.1 1))).1.1;bif (decide (t>=s.1))then(some ((false,()),(v,())))else(some ((true,()),((v.1,(upd v.2 (Int.toNat (i64.wrap (server-1))) (upd (v.2 (Int.toNat (i64.wrap (server-1)))) (Int.toNat (i64.wrap (s.2-1))) (upd ((v.2 (Int.toNat (i64.wrap (server-1)))) (Int.toNat (i64.wrap (s.2-1)))) (Int.toNat (ak .and .i64 s.1 1)) (s,digest))))),()))))else(none))else(none))else(none)))))))))
def fP:=veil rX
theorem xZ:fP=rX:=aj _
def wI(v:(Option VT))(server:Int)(s:(Int×Int))(digest:ByteArray):Option (Bool):=match v with|none=>(match(wH s)with|none=>none|some r1=>(bif (!r1)then(some false)else(some false)))|some v0=>(match(wH s)with|none=>none|some r=>(bif (!r)then(some false)else(bif (decide (server<1))then(some false)else(bif (decide (server>v0.1))then(some false)else(bif (decide (s.2<1))then(some false)else(bif (decide (s.2>4))then(some false)else(bif (decide ((ak .and .i64 s.1 1)<0))then(some false)else(bif (decide ((ak .and .i64 s.1 1)>1))then(some false)else(bif (inb (i64.wrap (server-1)) 7)then(bif (inb (i64.wrap (s.2-1)) 4)then(bif (inb (ak .and .i64 s.1 1) 2)then(let t:=(((v0.2 (Int.toNat (i64.wrap (server-1)))) (Int.toNat (i64.wrap (s.2-1)))) (Int.toNat (ak .and .i64 s.1 1))).1.1;bif (decide (t>=s.1))then(some false)else(none))else(none))else(none))else(none))))))))))
def G5:=veil wI
theorem Ma:G5=wI:=aj _
abbrev Gl(v:VT)(digest:ByteArray)(n:Int)(t:Int)(t1:Int)(s:(Int×Int)):=((v,(digest,((),(n,(t,(t1,())))))),(s,()))
abbrev tH(n:Int):=((n,()),())
abbrev vB:Type:=((VT×(ByteArray×(Unit×Z0v)))×Z0O)
def dB:vB->Option (vB⊕Z0L):=λx=>let v:=x.1.1;let digest:=x.1.2.1;let n:=x.1.2.2.2.1;let t:=x.1.2.2.2.2.1;let t1:=x.1.2.2.2.2.2.1;let s:=x.2.1;bif (decide (t1<t))then(bif (inb t1 7)then(bif (inb (i64.wrap (s.2-1)) 4)then(bif (inb (ak .and .i64 s.1 1) 2)then(let t2:=(eqF (.pair (.pair (.int .i64) (.int .i64)) .str) (((v.2 (Int.toNat t1)) (Int.toNat (i64.wrap (s.2-1)))) (Int.toNat (ak .and .i64 s.1 1))) (s,digest));bif t2 then(some (.inl ((v,(digest,((),((i64.wrap (n+1)),(t,((i64.wrap (t1+1)),())))))),(s,()))))else(some (.inl ((v,(digest,((),(n,(t,((i64.wrap (t1+1)),())))))),(s,())))))else(none))else(none))else(none))else(some (.inr ((n,()),())))
def lZ(v:(Option VT))(s:(Int×Int))(digest:ByteArray):Option (Int):=match v with|none=>(some 0)|some v0=>(match(wH s)with|none=>none|some r=>(bif (!r)then(some 0)else(match(aB dB ((v0,(digest,((),(0,(v0.1,(0,())))))),(s,())))with|none=>none|some y=>(let n:=y.1.1;some n))))
def iP:=veil lZ
theorem y9:iP=lZ:=aj _
def rD(v:(Option VT))(server:Int)(client:Int)(odd:Int):Option ((Int×Int)×ByteArray):=match v with|none=>(some ((0,0),(ByteArray.mk #[])))|some v0=>(bif (decide (server<1))then(some ((0,0),(ByteArray.mk #[])))else(bif (decide (server>v0.1))then(some ((0,0),(ByteArray.mk #[])))else(bif (decide (client<1))then(some ((0,0),(ByteArray.mk #[])))else(bif (decide (client>4))then(some ((0,0),(ByteArray.mk #[])))else(bif (decide (odd<0))then(some ((0,0),(ByteArray.mk #[])))else(bif (decide (odd>1))then(some ((0,0),(ByteArray.mk #[])))else(bif (inb (i64.wrap (server-1)) 7)then(bif (inb (i64.wrap (client-1)) 4)then(bif (inb odd 2)then(let t:=(((v0.2 (Int.toNat (i64.wrap (server-1)))) (Int.toNat (i64.wrap (client-1)))) (Int.toNat odd)).2;some ((((v0.2 (Int.toNat (i64.wrap (server-1)))) (Int.toNat (i64.wrap (client-1)))) (Int.toNat odd)).1,t))else(none))else(none))else(none))))))))
def jk:=veil rD
theorem C8:jk=rD:=aj _
def CV(n:Int):Option ((Z0z×(VT×Unit))):=bif (decide (n<1))then(none)else(bif (decide (n>7))then(none)else(some (((),(0,())),((n,(λ_=>(λ_=>(λ_=>((0,0),ByteArray.empty))))),()))))
def mg:=veil CV
theorem G6:mg=CV:=aj _
open Go.IntKind (i64 u64 u32 u8)
abbrev VB:Type:=((Z0z×Unit)⊕(Z0z×(SP×(SN×Unit))))
abbrev wJ(t:Int)(o:Int)(o1:Int)(no:Nat)(o2:Nat->ByteArray)(o3:List (Int×Int))(o4:GR)(o5:Int)(o6:Int)(o7:Int)(o8:Int)(o9:BG)(no1:Nat)(o10:Nat->OU):VB:=(.inr (((),(t,())),((o,(o1,((no,o2),o3))),((o4,(o5,(o6,(o7,(o8,((),(o9,(no1,o10)))))))),()))))
def xE(g:(Option GR))(t:Int)(number:Int)(clients:Int):Option (((Z0z×Unit)⊕(Z0z×(SP×(SN×Unit))))):=match g with|none=>(match(dD none)with|none=>none|some r3=>(match r3 with|none=>(some (.inl (((),(1,())),())))|some p1=>(bif (decide (t<1))then(some (.inl (((),(1,())),())))else(bif (decide (t>2))then(some (.inl (((),(1,())),())))else(bif (decide (number<1))then(some (.inl (((),(1,())),())))else(bif (decide (number>(i64.wrap ((i64.wrap (3*t))+1))))then(some (.inl (((),(1,())),())))else(match(xY (i64.wrap ((i64.wrap (3*t))+1)) clients)with|none=>none|some y2=>(match y2 with| .inl y3=>(let r4:=y3.1.2.1;bif (r4 !=0)then(some (.inl (((),(r4,())),())))else(none))| .inr y3=>(let r5:=y3.1.2.1;let o4:=y3.2.1.1;let o5:=y3.2.1.2.1;let no1:=y3.2.1.2.2.1.1;let o6:=y3.2.1.2.2.1.2;let o7:=y3.2.1.2.2.2;bif (r5 !=0)then(some (.inl (((),(r5,())),())))else(none))))))))))|some g0=>(match(dD (some g0))with|none=>none|some r=>(match r with|none=>(some (.inl (((),(1,())),())))|some p=>(bif (decide (t<1))then(some (.inl (((),(1,())),())))else(bif (decide (t>2))then(some (.inl (((),(1,())),())))else(bif (decide (number<1))then(some (.inl (((),(1,())),())))else(bif (decide (number>(i64.wrap ((i64.wrap (3*t))+1))))then(some (.inl (((),(1,())),())))else(match(xY (i64.wrap ((i64.wrap (3*t))+1)) clients)with|none=>none|some y=>(match y with| .inl y1=>(let r1:=y1.1.2.1;bif (r1 !=0)then(some (.inl (((),(r1,())),())))else(none))| .inr y1=>(let r2:=y1.1.2.1;let o:=y1.2.1.1;let o1:=y1.2.1.2.1;let no:=y1.2.1.2.2.1.1;let o2:=y1.2.1.2.2.1.2;let o3:=y1.2.1.2.2.2;bif (r2 !=0)then(some (.inl (((),(r2,())),())))else(some (.inr (((),(0,())),((o,(o1,((no,o2),o3))),((g0,(t,(number,((i64.wrap ((i64.wrap (3*t))+1)),(clients,((),(([]:BG),zNO))))))),()))))))))))))))
def uO:=veil xE
theorem G7:uO=xE:=aj _
def l8(from_:Int)(m:Int)(m1:Int)(m2:ByteArray)(m3:(Int×Int))(m4:ByteArray)(nm:Nat)(m5:Nat->(SlV NI))(nm1:Nat)(m6:Nat->NI)(o:SS):Option ((Z0u×SS)):=
 let k:Z0d->Option ((Z0u×SS)):=λx1=>(
 let c:=x1.1.1;let k1:Z0d->Option ((Z0u×SS)):=λx2=>(
 let t:=x2.1.1
 bif t then(
 some ((c,()),o))
 else(
 bif (m==4)then(
 bif c then(
 let t1:=(m3.2==(i64.wrap (from_-o.1.2.2.2.1)))
 some ((t1,()),o))
 else(
 some ((false,()),o)))
 else(
 let k3:Z0d->Option ((Z0u×SS)):=λx4=>(
 let t2:=x4.1.1
 bif t2 then(
 bif (decide (from_>=1))then(
 bif (decide (from_<=o.1.2.2.2.1))then(
 let t3:=(from_ !=o.1.2.2.1)
 some ((t3,()),o))
 else(
 some ((false,()),o)))
 else(
 some ((false,()),o)))
 else(
 some ((false,()),o)))
 bif (m==5)then(
 k3 (((m==5),()),()))
 else(
 k3 (((m==6),()),())))))
 bif (m==1)then(
 k1 (((m==1),()),()))
 else(
 bif (m==2)then(
 k1 (((m==2),()),()))
 else(
 k1 (((m==8),()),()))))
 bif (decide (from_>o.1.2.2.2.1))then(
 k (((decide (from_<=(i64.wrap (o.1.2.2.2.1+o.1.2.2.2.2.1)))),()),()))
 else(
 k ((false,()),()))
def iX:=veil l8
theorem pY:iX=l8:=aj _
def ni(s:Z02)(from_:Int)(m:Z0g):Option (Bool):=match s with|none=>(none)|some s0=>(bif (decide (from_>s0.2.2.2.1))then(let t:=(decide (from_<=(i64.wrap (s0.2.2.2.1+s0.2.2.2.2.1))));bif (m.1==1)then(bif (m.1==1)then(some t)else(bif (m.1==4)then(bif t then(let t1:=(m.2.2.2.1.2==(i64.wrap (from_-s0.2.2.2.1)));some t1)else(some false))else(bif (m.1==5)then(bif (m.1==5)then(bif (decide (from_>=1))then(bif (decide (from_<=s0.2.2.2.1))then(some (from_ !=s0.2.2.1))else(some false))else(some false))else(some false))else(bif (m.1==6)then(bif (decide (from_>=1))then(bif (decide (from_<=s0.2.2.2.1))then(some (from_ !=s0.2.2.1))else(some false))else(some false))else(some false)))))else(bif (m.1==2)then(bif (m.1==2)then(some t)else(bif (m.1==4)then(bif t then(let t2:=(m.2.2.2.1.2==(i64.wrap (from_-s0.2.2.2.1)));some t2)else(some false))else(bif (m.1==5)then(bif (m.1==5)then(bif (decide (from_>=1))then(bif (decide (from_<=s0.2.2.2.1))then(some (from_ !=s0.2.2.1))else(some false))else(some false))else(some false))else(bif (m.1==6)then(bif (decide (from_>=1))then(bif (decide (from_<=s0.2.2.2.1))then(some (from_ !=s0.2.2.1))else(some false))else(some false))else(some false)))))else(bif (m.1==8)then(some t)else(bif (m.1==4)then(bif t then(let t3:=(m.2.2.2.1.2==(i64.wrap (from_-s0.2.2.2.1)));some t3)else(some false))else(bif (m.1==5)then(bif (m.1==5)then(bif (decide (from_>=1))then(bif (decide (from_<=s0.2.2.2.1))then(some (from_ !=s0.2.2.1))else(some false))else(some false))else(some false))else(bif (m.1==6)then(bif (decide (from_>=1))then(bif (decide (from_<=s0.2.2.2.1))then(some (from_ !=s0.2.2.1))else(some false))else(some false))else(some false)))))))else(bif (m.1==1)then(bif (m.1==1)then(some false)else(bif (m.1==4)then(some false)else(bif (m.1==5)then(bif (m.1==5)then(bif (decide (from_>=1))then(bif (decide (from_<=s0.2.2.2.1))then(some (from_ !=s0.2.2.1))else(some false))else(some false))else(some false))else(bif (m.1==6)then(bif (decide (from_>=1))then(bif (decide (from_<=s0.2.2.2.1))then(some (from_ !=s0.2.2.1))else(some false))else(some false))else(some false)))))else(bif (m.1==2)then(bif (m.1==2)then(some false)else(bif (m.1==4)then(some false)else(bif (m.1==5)then(bif (m.1==5)then(bif (decide (from_>=1))then(bif (decide (from_<=s0.2.2.2.1))then(some (from_ !=s0.2.2.1))else(some false))else(some false))else(some false))else(bif (m.1==6)then(bif (decide (from_>=1))then(bif (decide (from_<=s0.2.2.2.1))then(some (from_ !=s0.2.2.1))else(some false))else(some false))else(some false)))))else(bif (m.1==8)then(some false)else(bif (m.1==4)then(some false)else(bif (m.1==5)then(bif (m.1==5)then(bif (decide (from_>=1))then(bif (decide (from_<=s0.2.2.2.1))then(some (from_ !=s0.2.2.1))else(some false))else(some false))else(some false))else(bif (m.1==6)then(bif (decide (from_>=1))then(bif (decide (from_<=s0.2.2.2.1))then(some (from_ !=s0.2.2.1))else(some false))else(some false))else(some false))))))))
def jO:=veil ni
theorem DV:jO=ni:=aj _
def oG(from_:Int)(m:Int)(m1:Int)(m2:ByteArray)(m3:(Int×Int))(m4:ByteArray)(nm:Nat)(m5:Nat->(SlV NI))(nm1:Nat)(m6:Nat->NI)(o:SS):Option ((Z0u×SS)):=
 match(wF (m,(m1,(m2,(m3,(m4,((nm,m5),(nm1,m6))))))))with
 |none=>none
 |some r=>(
 bif (r !=0)then(
 some ((false,()),o))
 else(
 match(iX from_ m m1 m2 m3 m4 nm m5 nm1 m6 o)with
 |none=>none
 |some y=>(
 let r1:=y.1.1;let t:=(!r1)
 bif t then(
 some ((false,()),y.2))
 else(
 let k3:Z09->Option ((Z0u×SS)):=λx4=>(
 match(lY m2 from_ y.2.2.1.1 y.2.2.1.2.1 y.2.2.1.2.2.1.1 y.2.2.1.2.2.1.2 y.2.2.1.2.2.2)with
 |none=>none
 |some y1=>(
 some (((y1.1.2.2.1==0),()),(y.2.1,((y1.2.1.1,(y1.2.1.2.1,((y1.2.1.2.2.1.1,y1.2.1.2.2.1.2),y1.2.1.2.2.2))),())))))
 let k1:Z0d->Option ((Z0u×SS)):=λx2=>(
 bif x2.1.1 then(
 match(oF (some y.2.1.1) y.2.1.2.1 nm m5)with
 |none=>none
 |some r2=>(
 bif (!r2)then(
 some ((false,()),y.2))
 else(
 match(eP (some y.2.1.1) nm m5 (y.2.1.2.2.1,(nm1,m6)))with
 |none=>none
 |some r3=>(
 let t2:=(!r3)
 bif t2 then(
 some ((false,()),y.2))
 else(
 k3 ((),()))))))
 else(
 k3 ((),())))
 bif (m==4)then(
 k1 ((true,()),()))
 else(
 k1 (((m==8),()),()))))))
def kP:=veil oG
theorem uP:kP=oG:=aj _
def rY(s:Z02)(from_:Int)(m:Z0g):Option (Bool):=match s with|none=>(match(wF (m.1,(m.2.1,(m.2.2.1,(m.2.2.2.1,(m.2.2.2.2.1,((m.2.2.2.2.2.1.1,m.2.2.2.2.2.1.2),(m.2.2.2.2.2.2.1,m.2.2.2.2.2.2.2))))))))with|none=>none|some r32=>(bif (r32 !=0)then(some false)else(match(jO none from_ (m.1,(m.2.1,(m.2.2.1,(m.2.2.2.1,(m.2.2.2.2.1,((m.2.2.2.2.2.1.1,m.2.2.2.2.2.1.2),(m.2.2.2.2.2.2.1,m.2.2.2.2.2.2.2))))))))with|none=>none|some r33=>(bif (!r33)then(some false)else(bif (m.1==4)then(none)else(bif (m.1==8)then(none)else(none)))))))|some s0=>(match(wF (m.1,(m.2.1,(m.2.2.1,(m.2.2.2.1,(m.2.2.2.2.1,((m.2.2.2.2.2.1.1,m.2.2.2.2.2.1.2),(m.2.2.2.2.2.2.1,m.2.2.2.2.2.2.2))))))))with|none=>none|some r=>(bif (r !=0)then(some false)else(match(jO (some s0) from_ (m.1,(m.2.1,(m.2.2.1,(m.2.2.2.1,(m.2.2.2.2.1,((m.2.2.2.2.2.1.1,m.2.2.2.2.2.1.2),(m.2.2.2.2.2.2.1,m.2.2.2.2.2.2.2))))))))with|none=>none|some r1=>(bif (!r1)then(some false)else(bif (m.1==4)then(bif (aL.vW s0.1)then(none)else(bif (aL.isNil s0.1)then(match(oF none s0.2.1 m.2.2.2.2.2.1.1 m.2.2.2.2.2.1.2)with|none=>none|some r2=>(bif (!r2)then(some false)else(bif (aL.vW s0.1)then(none)else(bif (aL.isNil s0.1)then(match(eP none m.2.2.2.2.2.1.1 m.2.2.2.2.2.1.2 (s0.2.2.1,(m.2.2.2.2.2.2.1,m.2.2.2.2.2.2.2)))with|none=>none|some r3=>(bif (!r3)then(some false)else(bif (aL.vW s0.2.2.2.2.2.1)then(none)else(bif (aL.isNil s0.2.2.2.2.2.1)then(match(aX none m.2.2.1 from_)with|none=>none|some r4=>(some (r4.2.2==0)))else(match(aX (some (aL.val ((0,(0,(.nil,none))):Z0c) s0.2.2.2.2.2.1)) m.2.2.1 from_)with|none=>none|some r5=>(some (r5.2.2==0)))))))else(match(eP (some (aL.val (((.nil,.nil),(λ_=>0)):GR) s0.1)) m.2.2.2.2.2.1.1 m.2.2.2.2.2.1.2 (s0.2.2.1,(m.2.2.2.2.2.2.1,m.2.2.2.2.2.2.2)))with|none=>none|some r6=>(bif (!r6)then(some false)else(bif (aL.vW s0.2.2.2.2.2.1)then(none)else(bif (aL.isNil s0.2.2.2.2.2.1)then(match(aX none m.2.2.1 from_)with|none=>none|some r7=>(some (r7.2.2==0)))else(match(aX (some (aL.val ((0,(0,(.nil,none))):Z0c) s0.2.2.2.2.2.1)) m.2.2.1 from_)with|none=>none|some r8=>(some (r8.2.2==0)))))))))))else(match(oF (some (aL.val (((.nil,.nil),(λ_=>0)):GR) s0.1)) s0.2.1 m.2.2.2.2.2.1.1 m.2.2.2.2.2.1.2)with|none=>none|some r9=>(bif (!r9)then(some false)else(bif (aL.vW s0.1)then(none)else(bif (aL.isNil s0.1)then(match(eP none m.2.2.2.2.2.1.1 m.2.2.2.2.2.1.2 (s0.2.2.1,(m.2.2.2.2.2.2.1,m.2.2.2.2.2.2.2)))with|none=>none|some r10=>(bif (!r10)then(some false)else(bif (aL.vW s0.2.2.2.2.2.1)then(none)else(bif (aL.isNil s0.2.2.2.2.2.1)then(match(aX none m.2.2.1 from_)with|none=>none|some r11=>(some (r11.2.2==0)))else(match(aX (some (aL.val ((0,(0,(.nil,none))):Z0c) s0.2.2.2.2.2.1)) m.2.2.1 from_)with|none=>none|some r12=>(some (r12.2.2==0)))))))else(match(eP (some (aL.val (((.nil,.nil),(λ_=>0)):GR) s0.1)) m.2.2.2.2.2.1.1 m.2.2.2.2.2.1.2 (s0.2.2.1,(m.2.2.2.2.2.2.1,m.2.2.2.2.2.2.2)))with|none=>none|some r13=>(bif (!r13)then(some false)else(bif (aL.vW s0.2.2.2.2.2.1)then(none)else(bif (aL.isNil s0.2.2.2.2.2.1)then(match(aX none m.2.2.1 from_)with|none=>none|some r14=>(some (r14.2.2==0)))else(match(aX (some (aL.val ((0,(0,(.nil,none))):Z0c) s0.2.2.2.2.2.1)) m.2.2.1 from_)with|none=>none|some r15=>(some (r15.2.2==0)))))))))))))else(bif (m.1==8)then(bif (aL.vW s0.1)then(none)else(bif (aL.isNil s0.1)then(match(oF none s0.2.1 m.2.2.2.2.2.1.1 m.2.2.2.2.2.1.2)with|none=>none|some r16=>(bif (!r16)then(some false)else(bif (aL.vW s0.1)then(none)else(bif (aL.isNil s0.1)then(match(eP none m.2.2.2.2.2.1.1 m.2.2.2.2.2.1.2 (s0.2.2.1,(m.2.2.2.2.2.2.1,m.2.2.2.2.2.2.2)))with|none=>none|some r17=>(bif (!r17)then(some false)else(bif (aL.vW s0.2.2.2.2.2.1)then(none)else(bif (aL.isNil s0.2.2.2.2.2.1)then(match(aX none m.2.2.1 from_)with|none=>none|some r18=>(some (r18.2.2==0)))else(match(aX (some (aL.val ((0,(0,(.nil,none))):Z0c) s0.2.2.2.2.2.1)) m.2.2.1 from_)with|none=>none|some r19=>(some (r19.2.2==0)))))))else(match(eP (some (aL.val (((.nil,.nil),(λ_=>0)):GR) s0.1)) m.2.2.2.2.2.1.1 m.2.2.2.2.2.1.2 (s0.2.2.1,(m.2.2.2.2.2.2.1,m.2.2.2.2.2.2.2)))with|none=>none|some r20=>(bif (!r20)then(some false)else(bif (aL.vW s0.2.2.2.2.2.1)then(none)else(bif (aL.isNil s0.2.2.2.2.2.1)then(match(aX none m.2.2.1 from_)with|none=>none|some r21=>(some (r21.2.2==0)))else(match(aX (some (aL.val ((0,(0,(.nil,none))):Z0c) s0.2.2.2.2.2.1)) m.2.2.1 from_)with|none=>none|some r22=>(some (r22.2.2==0)))))))))))else(match(oF (some (aL.val (((.nil,.nil),(λ_=>0)):GR) s0.1)) s0.2.1 m.2.2.2.2.2.1.1 m.2.2.2.2.2.1.2)with|none=>none|some r23=>(bif (!r23)then(some false)else(bif (aL.vW s0.1)then(none)else(bif (aL.isNil s0.1)then(match(eP none m.2.2.2.2.2.1.1 m.2.2.2.2.2.1.2 (s0.2.2.1,(m.2.2.2.2.2.2.1,m.2.2.2.2.2.2.2)))with|none=>none|some r24=>(bif (!r24)then(some false)else(bif (aL.vW s0.2.2.2.2.2.1)then(none)else(bif (aL.isNil s0.2.2.2.2.2.1)then(match(aX none m.2.2.1 from_)with|none=>none|some r25=>(some (r25.2.2==0)))else(match(aX (some (aL.val ((0,(0,(.nil,none))):Z0c) s0.2.2.2.2.2.1)) m.2.2.1 from_)with|none=>none|some r26=>(some (r26.2.2==0)))))))else(match(eP (some (aL.val (((.nil,.nil),(λ_=>0)):GR) s0.1)) m.2.2.2.2.2.1.1 m.2.2.2.2.2.1.2 (s0.2.2.1,(m.2.2.2.2.2.2.1,m.2.2.2.2.2.2.2)))with|none=>none|some r27=>(bif (!r27)then(some false)else(bif (aL.vW s0.2.2.2.2.2.1)then(none)else(bif (aL.isNil s0.2.2.2.2.2.1)then(match(aX none m.2.2.1 from_)with|none=>none|some r28=>(some (r28.2.2==0)))else(match(aX (some (aL.val ((0,(0,(.nil,none))):Z0c) s0.2.2.2.2.2.1)) m.2.2.1 from_)with|none=>none|some r29=>(some (r29.2.2==0)))))))))))))else(bif (aL.vW s0.2.2.2.2.2.1)then(none)else(bif (aL.isNil s0.2.2.2.2.2.1)then(match(aX none m.2.2.1 from_)with|none=>none|some r30=>(some (r30.2.2==0)))else(match(aX (some (aL.val ((0,(0,(.nil,none))):Z0c) s0.2.2.2.2.2.1)) m.2.2.1 from_)with|none=>none|some r31=>(some (r31.2.2==0)))))))))))
def C9:=veil rY
theorem IU:C9=rY:=aj _
def mh(to_:Int)(m:Int)(m1:Int)(m2:ByteArray)(m3:(Int×Int))(m4:ByteArray)(nm:Nat)(m5:Nat->(SlV NI))(nm1:Nat)(m6:Nat->NI)(o:SR):Option Z0p:=bif ((Nat.ble ((o.1.2.2.2.2.2.2.2.1+1)*120) 140737488355328)&&(Nat.ble (o.1.2.2.2.2.2.2.2.1+1) 9223372036854775807))then(some ((),((o.1.1,(o.1.2.1,(o.1.2.2.1,(o.1.2.2.2.1,(o.1.2.2.2.2.1,((),(o.1.2.2.2.2.2.2.1,((o.1.2.2.2.2.2.2.2.1+1),(glue o.1.2.2.2.2.2.2.2.1 o.1.2.2.2.2.2.2.2.2 (λj=>(upd (λ_=>zOU) 0 (to_,(m,(m1,(m2,(m3,(m4,((.fz nm m5),(.fz nm1 m6))))))))) (0+j))))))))))),o.2)))else(none)
def bI:=veil mh
theorem qM:bI=mh:=aj _
def rZ(v:VA)(p:(Int×Int))(digest:ByteArray):Option (Bool):=bif (eqF (.pair (.int .i64) (.int .i64)) v.1 p)then(some (sEq v.2.1 digest))else(some false)
def fQ:=veil rZ
theorem yc:fQ=rZ:=aj _
abbrev fT(t:Int)(t1:Int)(o:Z0G):=(((),((),(t,(t1,())))),o)
abbrev yO(o:Z0G):=((),o)
abbrev oH:Type:=((Unit×Z0q)×Z0G)
def bR:oH->Option (oH⊕(Unit×Z0G)):=λx=>let t:=x.1.2.2.1;let t1:=x.1.2.2.2.1;bif (decide (t1<t))then(bif (inb t1 4)then(bif (decide ((x.2.2.1.2.2.2.2 (Int.toNat t1)).2.2.1>0))then(match(bI (i64.wrap (x.2.1.2.2.2.1+(i64.wrap (t1+1)))) 3 (x.2.2.1.2.2.2.2 (Int.toNat t1)).2.2.1 x.2.2.1.2.1 x.2.2.1.1.1 x.2.2.1.1.2.1 x.2.2.1.1.2.2.1.1 x.2.2.1.1.2.2.1.2 x.2.2.1.1.2.2.2.1 x.2.2.1.1.2.2.2.2 (x.2.1,(x.2.2.1,(x.2.2.2.1,(x.2.2.2.2.1,(x.2.2.2.2.2.1,()))))))with|none=>none|some y=>(some (.inl (((),((),(t,((i64.wrap (t1+1)),())))),(y.2.1,(y.2.2.1,(y.2.2.2.1,(y.2.2.2.2.1,(y.2.2.2.2.2.1,((),((),())))))))))))else(some (.inl (((),((),(t,((i64.wrap (t1+1)),())))),(x.2.1,(x.2.2.1,(x.2.2.2.1,(x.2.2.2.2.1,(x.2.2.2.2.2.1,((),((),())))))))))))else(none))else(some (.inr ((),(x.2.1,(x.2.2.1,(x.2.2.2.1,(x.2.2.2.2.1,(x.2.2.2.2.2.1,((),((),()))))))))))
def oI(o:SR):Option Z0p:=match(aB bR (((),((),(o.1.2.2.2.2.1,(0,())))),(o.1,(o.2.1,(o.2.2.1,(o.2.2.2.1,(o.2.2.2.2.1,((),((),())))))))))with|none=>none|some y=>(some ((),(y.2.1,(y.2.2.1,(y.2.2.2.1,(y.2.2.2.2.1,(y.2.2.2.2.2.1,())))))))
def dz:=veil oI
theorem uQ:dz=oI:=aj _
def mo(p:(Int×Int))(o:CR):Option ((Z0u×CR)):=match(xD p o.1.1.1)with|none=>none|some r=>(some (((decide (r>0)),()),o))
def cu:=veil mo
theorem qN:cu=mo:=aj _
def vC(p:(Int×Int))(o:CR):Option ((Z0u×CR)):=some (((decide ((i64.wrap (p.1-1))<=o.1.1.1.1)),()),o)
def iJ:=veil vC
theorem tJ:iJ=vC:=aj _
abbrev fC(kind:Int)(digest:ByteArray)(t:Int)(t1:Int)(o:(SO×(RC×(VT×(VT×(SP×Z0O)))))):=(((),(kind,((),(digest,((),(t,(t1,()))))))),o)
abbrev yg(o:SR):=(((),((),())),o)
abbrev nK:Type:=((Unit×(Int×(Unit×(ByteArray×Z0q))))×(SO×(RC×(VT×(VT×(SP×Z0O))))))
def bL:nK->Option (nK⊕(Z0m×SR)):=λx=>let kind:=x.1.2.1;let digest:=x.1.2.2.2.1;let t:=x.1.2.2.2.2.2.1;let t1:=x.1.2.2.2.2.2.2.1;bif (decide (t1<t))then(bif ((i64.wrap (t1+1)) !=x.2.1.2.2.1)then(match(bI (i64.wrap (t1+1)) kind 0 x.2.2.1.2.1 x.2.2.2.2.2.2.1 digest 0 (λ_=>.nil) 0 zNN (x.2.1,(x.2.2.1,(x.2.2.2.1,(x.2.2.2.2.1,(x.2.2.2.2.2.1,()))))))with|none=>none|some y=>(some (.inl (((),(kind,((),(digest,((),(t,((i64.wrap (t1+1)),()))))))),(y.2.1,(y.2.2.1,(y.2.2.2.1,(y.2.2.2.2.1,(y.2.2.2.2.2.1,x.2.2.2.2.2.2)))))))))else(some (.inl (((),(kind,((),(digest,((),(t,((i64.wrap (t1+1)),()))))))),(x.2.1,(x.2.2.1,(x.2.2.2.1,(x.2.2.2.2.1,(x.2.2.2.2.2.1,x.2.2.2.2.2.2)))))))))else(some (.inr (((),((),())),(x.2.1,(x.2.2.1,(x.2.2.2.1,(x.2.2.2.2.1,(x.2.2.2.2.2.1,()))))))))
def kD(kind:Int)(p:(Int×Int))(digest:ByteArray)(o:SR):Option Z0p:=match(aB bL (((),(kind,((),(digest,((),(o.1.2.2.2.1,(0,()))))))),(o.1,(o.2.1,(o.2.2.1,(o.2.2.2.1,(o.2.2.2.2.1,(p,()))))))))with|none=>none|some y=>(some ((),y.2))
def bE:=veil kD
theorem oJ:bE=kD:=aj _
def iY(rec_:((Int×Int))->Z0x->(SR)->Option Z0p)(p:(Int×Int))(digest:ByteArray)(o:SR):Option Z0p:=
 let k:Z0d->Option Z0p:=λx1=>(
 let enough:=x1.1.1;let k2:(Unit×SR)->Option Z0p:=λx3=>(
 let k3:(Z0u×CR)->Option Z0p:=λx4=>(
 let t1:=x4.1.1
 bif t1 then(
 match(rec_ p digest (x3.2.1,(x4.2.1,(x4.2.2.1,(x4.2.2.2.1,x3.2.2.2.2.2)))))with
 |none=>none
 |some y3=>(
 some y3))
 else(
 some ((),(x3.2.1,(x4.2.1,(x4.2.2.1,(x4.2.2.2.1,x3.2.2.2.2.2)))))))
 match(iP (some x3.2.2.2.2.1) p digest)with
 |none=>none
 |some r3=>(
 bif (decide (r3>(i64.wrap (2*x3.2.1.2.1))))then(
 match(cu p (x3.2.2.1,(x3.2.2.2.1,(x3.2.2.2.2.1,()))))with
 |none=>none
 |some y2=>(
 let r4:=y2.1.1
 k3 ((r4,()),y2.2)))
 else(
 k3 ((false,()),(x3.2.2.1,(x3.2.2.2.1,(x3.2.2.2.2.1,())))))))
 bif enough then(
 match(fP o.1.2.2.1 p digest o.2.2.2.1)with
 |none=>none
 |some y=>(
 let r2:=y.1.1;let o1:=y.2.1
 bif r2 then(
 match(bE 6 p digest (o.1,(o.2.1,(o.2.2.1,(o1,o.2.2.2.2)))))with
 |none=>none
 |some y1=>(
 k2 y1))
 else(
 k2 ((),(o.1,(o.2.1,(o.2.2.1,(o1,o.2.2.2.2))))))))
 else(
 k2 ((),(o.1,(o.2.1,(o.2.2.1,(o.2.2.2.1,o.2.2.2.2)))))))
 match(iP (some o.2.2.1) p digest)with
 |none=>none
 |some r=>(
 bif (decide (r>(i64.wrap (2*o.1.2.1))))then(
 k ((true,()),()))
 else(
 match(iP (some o.2.2.2.1) p digest)with
 |none=>none
 |some r1=>(
 k (((decide (r1>o.1.2.1)),()),()))))
def eD:=veil iY
theorem qO:eD=iY:=aj _
def iZ(rec_:((Int×Int))->Z0x->(SR)->Option Z0p)(p:PR)(o:SR):Option Z0p:=
 bif (inb (i64.wrap (p.1.1.2-1)) 4)then(
 bif (inb (ak .and .i64 p.1.1.1 1) 2)then(
 let k:(Unit×(RC×Unit))->Option Z0p:=λx1=>(
 match(fP o.1.2.2.1 p.1.1 p.1.2.1 o.2.2.1)with
 |none=>none
 |some y=>(
 let r:=y.1.1;let o1:=y.2.1
 bif r then(
 match(bE 5 p.1.1 p.1.2.1 (o.1,(x1.2.1,(o1,o.2.2.2))))with
 |none=>none
 |some y1=>(
 match(eD rec_ p.1.1 p.1.2.1 y1.2)with
 |none=>none
 |some y2=>(
 some y2)))
 else(
 some ((),(o.1,(x1.2.1,(o1,o.2.2.2)))))))
 let t:=(decide (p.1.1.1>((o.2.1.2.2.2.2 (Int.toNat (i64.wrap (p.1.1.2-1)))).1 (Int.toNat (ak .and .i64 p.1.1.1 1))).1.1.1))
 bif t then(
 let u:=(upd o.2.1.2.2.2.2 (Int.toNat (i64.wrap (p.1.1.2-1))) ((upd (o.2.1.2.2.2.2 (Int.toNat (i64.wrap (p.1.1.2-1)))).1 (Int.toNat (ak .and .i64 p.1.1.1 1)) p),(o.2.1.2.2.2.2 (Int.toNat (i64.wrap (p.1.1.2-1)))).2))
 k ((),((o.2.1.1,(o.2.1.2.1,((),((),u)))),())))
 else(
 k ((),(o.2.1,()))))
 else(
 none))
 else(
 none)
def gK:=veil iZ
theorem qP:gK=iZ:=aj _
abbrev aN(t:Int)(t1:Int)(o:Z0w):=(((),((),(t,(t1,())))),o)
def aQ(rec_:((Int×Int))->Z0x->(SR)->Option Z0p):((Unit×Z0q)×Z0w)->Option Z04:=λx=>
 let t:=x.1.2.2.1;let t1:=x.1.2.2.2.1
 bif (decide (t1<t))then(
 bif (inb t1 4)then(
 let k1:(Unit×SR)->Option Z04:=λx2=>(
 let k3:(Unit×SR)->Option Z04:=λx4=>(
 let k4:(Z0u×CR)->Option Z04:=λx5=>(
 let t4:=x5.1.1
 bif t4 then(
 match(bI (i64.wrap (x4.2.1.2.2.2.1+(i64.wrap (t1+1)))) 7 (x5.2.1.2.2.2.2 (Int.toNat t1)).2.1.2 x5.2.1.2.1 (x5.2.1.2.2.2.2 (Int.toNat t1)).2.1.1.1 ByteArray.empty 0 (λ_=>.nil) 0 zNN (x4.2.1,(x5.2.1,(x5.2.2.1,(x5.2.2.2.1,x4.2.2.2.2.2)))))with
 |none=>none
 |some y5=>(
 let u2:=(upd y5.2.2.1.2.2.2.2 (Int.toNat t1) ((y5.2.2.1.2.2.2.2 (Int.toNat t1)).1,(((y5.2.2.1.2.2.2.2 (Int.toNat t1)).2.1.1,0),(y5.2.2.1.2.2.2.2 (Int.toNat t1)).2.2)))
 some (.inl (((),((),(t,((i64.wrap (t1+1)),())))),(y5.2.1,((y5.2.2.1.1,(y5.2.2.1.2.1,((),((),u2)))),(y5.2.2.2.1,(y5.2.2.2.2.1,(y5.2.2.2.2.2.1,x.2.2.2.2.2.2)))))))))
 else(
 some (.inl (((),((),(t,((i64.wrap (t1+1)),())))),(x4.2.1,(x5.2.1,(x5.2.2.1,(x5.2.2.2.1,(x4.2.2.2.2.2.1,x.2.2.2.2.2.2)))))))))
 bif (decide ((x4.2.2.1.2.2.2.2 (Int.toNat t1)).2.1.2>0))then(
 match(cu (x4.2.2.1.2.2.2.2 (Int.toNat t1)).2.1.1.1 (x4.2.2.1,(x4.2.2.2.1,(x4.2.2.2.2.1,()))))with
 |none=>none
 |some y4=>(
 let r2:=y4.1.1
 k4 (((!r2),()),y4.2)))
 else(
 k4 ((false,()),(x4.2.2.1,(x4.2.2.2.1,(x4.2.2.2.2.1,()))))))
 let k2:(Z0u×CR)->Option Z04:=λx3=>(
 let t3:=x3.1.1
 bif t3 then(
 match(bI (i64.wrap (x2.2.1.2.2.2.1+(i64.wrap (t1+1)))) 7 ((x3.2.1.2.2.2.2 (Int.toNat t1)).1 1).2 x3.2.1.2.1 ((x3.2.1.2.2.2.2 (Int.toNat t1)).1 1).1.1 ByteArray.empty 0 (λ_=>.nil) 0 zNN (x2.2.1,(x3.2.1,(x3.2.2.1,(x3.2.2.2.1,x2.2.2.2.2.2)))))with
 |none=>none
 |some y3=>(
 let u1:=(upd y3.2.2.1.2.2.2.2 (Int.toNat t1) ((upd (y3.2.2.1.2.2.2.2 (Int.toNat t1)).1 1 (((y3.2.2.1.2.2.2.2 (Int.toNat t1)).1 1).1,0)),(y3.2.2.1.2.2.2.2 (Int.toNat t1)).2))
 k3 ((),(y3.2.1,((y3.2.2.1.1,(y3.2.2.1.2.1,((),((),u1)))),y3.2.2.2)))))
 else(
 k3 ((),(x2.2.1,(x3.2.1,(x3.2.2.1,(x3.2.2.2.1,x2.2.2.2.2.2)))))))
 bif (decide (((x2.2.2.1.2.2.2.2 (Int.toNat t1)).1 1).2>0))then(
 match(cu ((x2.2.2.1.2.2.2.2 (Int.toNat t1)).1 1).1.1 (x2.2.2.1,(x2.2.2.2.1,(x2.2.2.2.2.1,()))))with
 |none=>none
 |some y2=>(
 let r1:=y2.1.1
 k2 (((!r1),()),y2.2)))
 else(
 k2 ((false,()),(x2.2.2.1,(x2.2.2.2.1,(x2.2.2.2.2.1,()))))))
 let k:(Z0u×CR)->Option Z04:=λx1=>(
 let t2:=x1.1.1
 bif t2 then(
 match(bI (i64.wrap (x.2.1.2.2.2.1+(i64.wrap (t1+1)))) 7 ((x1.2.1.2.2.2.2 (Int.toNat t1)).1 0).2 x1.2.1.2.1 ((x1.2.1.2.2.2.2 (Int.toNat t1)).1 0).1.1 ByteArray.empty 0 (λ_=>.nil) 0 zNN (x.2.1,(x1.2.1,(x1.2.2.1,(x1.2.2.2.1,(x.2.2.2.2.2.1,()))))))with
 |none=>none
 |some y1=>(
 let u:=(upd y1.2.2.1.2.2.2.2 (Int.toNat t1) ((upd (y1.2.2.1.2.2.2.2 (Int.toNat t1)).1 0 (((y1.2.2.1.2.2.2.2 (Int.toNat t1)).1 0).1,0)),(y1.2.2.1.2.2.2.2 (Int.toNat t1)).2))
 k1 ((),(y1.2.1,((y1.2.2.1.1,(y1.2.2.1.2.1,((),((),u)))),y1.2.2.2)))))
 else(
 k1 ((),(x.2.1,(x1.2.1,(x1.2.2.1,(x1.2.2.2.1,(x.2.2.2.2.2.1,()))))))))
 bif (decide (((x.2.2.1.2.2.2.2 (Int.toNat t1)).1 0).2>0))then(
 match(cu ((x.2.2.1.2.2.2.2 (Int.toNat t1)).1 0).1.1 (x.2.2.1,(x.2.2.2.1,(x.2.2.2.2.1,()))))with
 |none=>none
 |some y=>(
 let r:=y.1.1
 k (((!r),()),y.2)))
 else(
 k ((false,()),(x.2.2.1,(x.2.2.2.1,(x.2.2.2.2.1,()))))))
 else(
 none))
 else(
 some (.inr ((),x.2)))
abbrev bZ:= @aN
def aM(rec_:((Int×Int))->Z0x->(SR)->Option Z0p):((Unit×Z0q)×Z0w)->Option Z04:=λx=>
 let t:=x.1.2.2.1;let t1:=x.1.2.2.2.1
 bif (decide (t1<t))then(
 bif (inb t1 4)then(
 let k:(Z0u×CR)->Option Z04:=λx1=>(
 let t2:=x1.1.1
 bif t2 then(
 let u:=(upd x1.2.1.2.2.2.2 (Int.toNat t1) ((x1.2.1.2.2.2.2 (Int.toNat t1)).1,(zPR,(x1.2.1.2.2.2.2 (Int.toNat t1)).2.2)))
 match(gK rec_ (x1.2.1.2.2.2.2 (Int.toNat t1)).2.1 (x.2.1,((x1.2.1.1,(x1.2.1.2.1,((),((),u)))),(x1.2.2.1,(x1.2.2.2.1,(x.2.2.2.2.2.1,()))))))with
 |none=>none
 |some y1=>(
 some (.inl (((),((),(t,((i64.wrap (t1+1)),())))),(y1.2.1,(y1.2.2.1,(y1.2.2.2.1,(y1.2.2.2.2.1,(y1.2.2.2.2.2.1,x.2.2.2.2.2.2)))))))))
 else(
 some (.inl (((),((),(t,((i64.wrap (t1+1)),())))),(x.2.1,(x1.2.1,(x1.2.2.1,(x1.2.2.2.1,(x.2.2.2.2.2.1,x.2.2.2.2.2.2)))))))))
 bif (decide ((x.2.2.1.2.2.2.2 (Int.toNat t1)).2.1.2>0))then(
 match(iJ (x.2.2.1.2.2.2.2 (Int.toNat t1)).2.1.1.1 (x.2.2.1,(x.2.2.2.1,(x.2.2.2.2.1,()))))with
 |none=>none
 |some y=>(
 let r:=y.1.1
 k ((r,()),y.2)))
 else(
 k ((false,()),(x.2.2.1,(x.2.2.2.1,(x.2.2.2.2.1,()))))))
 else(
 none))
 else(
 some (.inr ((),x.2)))
def fU(rec_:((Int×Int))->Z0x->(SR)->Option Z0p)(p:(Int×Int))(digest:ByteArray)(o:SR):Option Z0p:=
 bif (inb (i64.wrap (p.2-1)) 4)then(
 let k:(Unit×(RC×Unit))->Option Z0p:=λx1=>(
 let k1:(Unit×(RC×Unit))->Option Z0p:=λx2=>(
 let t2:=(((o.2.1.2.2.2.2 (Int.toNat (i64.wrap (p.2-1)))).1 0):PR)
 match(fQ (t2.1.1,(t2.1.2.1,(t2.1.2.2.1,t2.1.2.2.2))) p digest)with
 |none=>none
 |some r2=>(
 bif r2 then(
 match(dz (o.1,(((t2.1.1,(t2.1.2.1,(t2.1.2.2.1,t2.1.2.2.2))),x2.2.1.2),o.2.2)))with
 |none=>none
 |some y=>(
 match(aB (aQ rec_) (((),((),(y.2.1.2.2.2.2.1,(0,())))),(y.2.1,(y.2.2.1,(y.2.2.2.1,(y.2.2.2.2.1,(y.2.2.2.2.2.1,((),((),(p,()))))))))))with
 |none=>none
 |some y1=>(
 match(aB (aM rec_) (((),((),(y1.2.1.2.2.2.2.1,(0,())))),y1.2))with
 |none=>none
 |some y2=>(
 some ((),(y2.2.1,(y2.2.2.1,(y2.2.2.2.1,(y2.2.2.2.2.1,(y2.2.2.2.2.2.1,()))))))))))
 else(
 match(dz (o.1,(x2.2.1,o.2.2)))with
 |none=>none
 |some y3=>(
 match(aB (aQ rec_) (((),((),(y3.2.1.2.2.2.2.1,(0,())))),(y3.2.1,(y3.2.2.1,(y3.2.2.2.1,(y3.2.2.2.2.1,(y3.2.2.2.2.2.1,((),((),(p,()))))))))))with
 |none=>none
 |some y4=>(
 match(aB (aM rec_) (((),((),(y4.2.1.2.2.2.2.1,(0,())))),y4.2))with
 |none=>none
 |some y5=>(
 some ((),(y5.2.1,(y5.2.2.1,(y5.2.2.2.1,(y5.2.2.2.2.1,(y5.2.2.2.2.2.1,()))))))))))))
 let t1:=(((o.2.1.2.2.2.2 (Int.toNat (i64.wrap (p.2-1)))).1 1):PR)
 match(fQ (t1.1.1,(t1.1.2.1,(t1.1.2.2.1,t1.1.2.2.2))) p digest)with
 |none=>none
 |some r1=>(
 bif r1 then(
 k1 ((),(((t1.1.1,(t1.1.2.1,(t1.1.2.2.1,t1.1.2.2.2))),x1.2.1.2),())))
 else(
 k1 x1)))
 let t:=((o.2.1.2.2.2.2 (Int.toNat (i64.wrap (p.2-1)))).2.1:PR)
 match(fQ (t.1.1,(t.1.2.1,(t.1.2.2.1,t.1.2.2.2))) p digest)with
 |none=>none
 |some r=>(
 bif r then(
 k ((),(((t.1.1,(t.1.2.1,(t.1.2.2.1,t.1.2.2.2))),o.2.1.2),())))
 else(
 k ((),(((p,(digest,((0,zSN),(0,zNN)))),o.2.1.2),())))))
 else(
 none)
def aD:Nat->((Int×Int))->Z0x->(SR)->Option Z0p:=veil λn=>Nat.rec (motive:=λ_=>((Int×Int))->Z0x->(SR)->Option Z0p) (λ_ _ _=>none) (λ_ ih=>fU ih) n
theorem Aw:aD 0=λ_ _ _=>none:=by rw[aD,aj];rfl
theorem oK(n:Nat):aD (n+1)=fU (aD n):=by rw[aD,aj]
def mq(from_:Int)(m:Int)(m1:Int)(m2:ByteArray)(m3:(Int×Int))(m4:ByteArray)(nm:Nat)(m5:Nat->(SlV NI))(nm1:Nat)(m6:Nat->NI)(o:SR):Option Z0p:=match(fP from_ m3 m4 o.2.2.1)with|none=>none|some y=>(let r:=y.1.1;let o1:=y.2.1;bif r then(match(eD (aD 5) m3 m4 (o.1,(o.2.1,(o1,o.2.2.2))))with|none=>none|some y1=>(some y1))else(some ((),(o.1,(o.2.1,(o1,o.2.2.2))))))
def jr:=veil mq
theorem qQ:jr=mq:=aj _
def l9(from_:Int)(m:Int)(m1:Int)(m2:ByteArray)(m3:(Int×Int))(m4:ByteArray)(nm:Nat)(m5:Nat->(SlV NI))(nm1:Nat)(m6:Nat->NI)(o:SR):Option Z0p:=match(fP from_ m3 m4 o.2.2.2.1)with|none=>none|some y=>(let r:=y.1.1;let o1:=y.2.1;bif r then(match(eD (aD 5) m3 m4 (o.1,(o.2.1,(o.2.2.1,(o1,o.2.2.2.2)))))with|none=>none|some y1=>(some y1))else(some ((),(o.1,(o.2.1,(o.2.2.1,(o1,o.2.2.2.2)))))))
def j4:=veil l9
theorem qb:j4=l9:=aj _
def mD(v:VA)(o:SR):Option Z0p:=match(fQ (o.2.1.1.1,(o.2.1.1.2.1,(o.2.1.1.2.2.1,o.2.1.1.2.2.2))) v.1 v.2.1)with|none=>none|some r=>(bif r then(let t:=(((o.2.1.1.2.2.2.1:Nat):Int)==0);bif t then(match(dz (o.1,((v,o.2.1.2),o.2.2)))with|none=>none|some y=>(some y))else(some ((),o)))else(some ((),o)))
def gL:=veil mD
theorem qR:gL=mD:=aj _
def jE(c:Int)(p:PR)(o:SR):Option Z0p:=bif (inb (i64.wrap (c-1)) 4)then(match(cu p.1.1 (o.2.1,(o.2.2.1,(o.2.2.2.1,()))))with|none=>none|some y=>(let r:=y.1.1;bif (!r)then(match(gL p.1 (o.1,(y.2.1,(y.2.2.1,(y.2.2.2.1,o.2.2.2.2)))))with|none=>none|some y1=>(match(bI (i64.wrap (y1.2.1.2.2.2.1+c)) 7 p.2 y1.2.2.1.2.1 p.1.1 ByteArray.empty 0 (λ_=>.nil) 0 zNN y1.2)with|none=>none|some y2=>(some y2)))else(match(iJ p.1.1 y.2)with|none=>none|some y3=>(let r1:=y3.1.1;bif r1 then(match(gK (aD 5) p (o.1,(y3.2.1,(y3.2.2.1,(y3.2.2.2.1,o.2.2.2.2)))))with|none=>none|some y4=>(some y4))else(bif (decide (p.1.1.1>(y3.2.1.2.2.2.2 (Int.toNat (i64.wrap (c-1)))).2.1.1.1.1))then(let u:=(upd y3.2.1.2.2.2.2 (Int.toNat (i64.wrap (c-1))) ((y3.2.1.2.2.2.2 (Int.toNat (i64.wrap (c-1)))).1,(p,(y3.2.1.2.2.2.2 (Int.toNat (i64.wrap (c-1)))).2.2)));some ((),(o.1,((y3.2.1.1,(y3.2.1.2.1,((),((),u)))),(y3.2.2.1,(y3.2.2.2.1,o.2.2.2.2))))))else(some ((),(o.1,(y3.2.1,(y3.2.2.1,(y3.2.2.2.1,o.2.2.2.2)))))))))))else(none)
def iG:=veil jE
theorem nL:iG=jE:=aj _
def gM(from_:Int)(m:Int)(m1:Int)(m2:ByteArray)(m3:(Int×Int))(m4:ByteArray)(nm:Nat)(m5:Nat->(SlV NI))(nm1:Nat)(m6:Nat->NI)(o:SS):Option Z0H:=
 match(kP from_ m m1 m2 m3 m4 nm m5 nm1 m6 o)with
 |none=>none
 |some y=>(
 let r:=y.1.1
 bif (!r)then(
 some ((zNO,()),y.2))
 else(
 let k:(Unit×((GR×(Int×(Int×(Int×(Int×(Unit×((BG×Nat)×Unit)))))))×CR))->Option Z0H:=λx1=>(
 bif (m==1)then(
 bif (inb (i64.wrap ((i64.wrap (from_-x1.2.1.2.2.2.1))-1)) 4)then(
 let k1:Z0d->Option Z0H:=λx2=>(
 let t:=x2.1.1
 bif t then(
 let u:=(upd x1.2.2.1.2.2.2.2 (Int.toNat (i64.wrap ((i64.wrap (from_-x1.2.1.2.2.2.1))-1))) ((x1.2.2.1.2.2.2.2 (Int.toNat (i64.wrap ((i64.wrap (from_-x1.2.1.2.2.2.1))-1)))).1,((x1.2.2.1.2.2.2.2 (Int.toNat (i64.wrap ((i64.wrap (from_-x1.2.1.2.2.2.1))-1)))).2.1,(m1,(x1.2.2.1.2.2.2.2 (Int.toNat (i64.wrap ((i64.wrap (from_-x1.2.1.2.2.2.1))-1)))).2.2.2))))
 bif (decide ((u (Int.toNat (i64.wrap ((i64.wrap (from_-x1.2.1.2.2.2.1))-1)))).2.2.1>0))then(
 match(bI (i64.wrap (x1.2.1.2.2.2.1+(i64.wrap (from_-x1.2.1.2.2.2.1)))) 3 (u (Int.toNat (i64.wrap ((i64.wrap (from_-x1.2.1.2.2.2.1))-1)))).2.2.1 x1.2.2.1.2.1 x1.2.2.1.1.1 x1.2.2.1.1.2.1 x1.2.2.1.1.2.2.1.1 x1.2.2.1.1.2.2.1.2 x1.2.2.1.1.2.2.2.1 x1.2.2.1.1.2.2.2.2 ((x1.2.1.1,(x1.2.1.2.1,(x1.2.1.2.2.1,(x1.2.1.2.2.2.1,(x1.2.1.2.2.2.2.1,((),(x1.2.1.2.2.2.2.2.2.1,zNO))))))),((x1.2.2.1.1,(x1.2.2.1.2.1,((),((),u)))),(x1.2.2.2.1,(x1.2.2.2.2.1,y.2.2)))))with
 |none=>none
 |some y3=>(
 some (((y3.2.1.2.2.2.2.2.2.2.1,(λj=>y3.2.1.2.2.2.2.2.2.2.2 (0+j))),()),((y3.2.1.1,(y3.2.1.2.1,(y3.2.1.2.2.1,(y3.2.1.2.2.2.1,(y3.2.1.2.2.2.2.1,((),((List.modify y3.2.1.2.2.2.2.2.2.1.1 y3.2.1.2.2.2.2.2.2.1.2 λe=>(e.1,((y3.2.2.1.1,(y3.2.2.1.2.1,(.nil,(.nil,y3.2.2.1.2.2.2.2)))),(y3.2.2.2.1,(y3.2.2.2.2.1,()))))),(y3.2.1.2.2.2.2.2.2.2.1,(λj=>y3.2.1.2.2.2.2.2.2.2.2 (0+j)))))))))),(y3.2.2.2.2.2.1,())))))
 else(
 some (((0,(λj=>(λ_=>zOU) (0+j))),()),((x1.2.1.1,(x1.2.1.2.1,(x1.2.1.2.2.1,(x1.2.1.2.2.2.1,(x1.2.1.2.2.2.2.1,((),((List.modify x1.2.1.2.2.2.2.2.2.1.1 x1.2.1.2.2.2.2.2.2.1.2 λe=>(e.1,((x1.2.2.1.1,(x1.2.2.1.2.1,(.nil,(.nil,u)))),x1.2.2.2))),(0,(λj=>(λ_=>zOU) (0+j)))))))))),(y.2.2.1,())))))
 else(
 some (((0,(λj=>(λ_=>zOU) (0+j))),()),((x1.2.1.1,(x1.2.1.2.1,(x1.2.1.2.2.1,(x1.2.1.2.2.2.1,(x1.2.1.2.2.2.2.1,((),((List.modify x1.2.1.2.2.2.2.2.2.1.1 x1.2.1.2.2.2.2.2.2.1.2 λe=>(e.1,((x1.2.2.1.1,(x1.2.2.1.2.1,(.nil,(.nil,x1.2.2.1.2.2.2.2)))),x1.2.2.2))),(0,(λj=>(λ_=>zOU) (0+j)))))))))),(y.2.2.1,())))))
 bif (decide (m1>(x1.2.2.1.2.2.2.2 (Int.toNat (i64.wrap ((i64.wrap (from_-x1.2.1.2.2.2.1))-1)))).2.2.2))then(
 k1 (((decide (m1>=(x1.2.2.1.2.2.2.2 (Int.toNat (i64.wrap ((i64.wrap (from_-x1.2.1.2.2.2.1))-1)))).2.2.1)),()),()))
 else(
 k1 ((false,()),())))
 else(
 none))
 else(
 bif (m==2)then(
 bif (inb (i64.wrap ((i64.wrap (from_-x1.2.1.2.2.2.1))-1)) 4)then(
 let t1:=(if(x1.2.2.1.2.2.2.2 (Int.toNat (i64.wrap ((i64.wrap (from_-x1.2.1.2.2.2.1))-1)))).2.2.2<m1 then m1 else(x1.2.2.1.2.2.2.2 (Int.toNat (i64.wrap ((i64.wrap (from_-x1.2.1.2.2.2.1))-1)))).2.2.2);let u1:=(upd x1.2.2.1.2.2.2.2 (Int.toNat (i64.wrap ((i64.wrap (from_-x1.2.1.2.2.2.1))-1))) ((x1.2.2.1.2.2.2.2 (Int.toNat (i64.wrap ((i64.wrap (from_-x1.2.1.2.2.2.1))-1)))).1,((x1.2.2.1.2.2.2.2 (Int.toNat (i64.wrap ((i64.wrap (from_-x1.2.1.2.2.2.1))-1)))).2.1,((x1.2.2.1.2.2.2.2 (Int.toNat (i64.wrap ((i64.wrap (from_-x1.2.1.2.2.2.1))-1)))).2.2.1,t1))))
 bif (decide ((u1 (Int.toNat (i64.wrap ((i64.wrap (from_-x1.2.1.2.2.2.1))-1)))).2.2.1<=m1))then(
 let u2:=(upd u1 (Int.toNat (i64.wrap ((i64.wrap (from_-x1.2.1.2.2.2.1))-1))) ((u1 (Int.toNat (i64.wrap ((i64.wrap (from_-x1.2.1.2.2.2.1))-1)))).1,((u1 (Int.toNat (i64.wrap ((i64.wrap (from_-x1.2.1.2.2.2.1))-1)))).2.1,(0,(u1 (Int.toNat (i64.wrap ((i64.wrap (from_-x1.2.1.2.2.2.1))-1)))).2.2.2))))
 some (((0,(λj=>(λ_=>zOU) (0+j))),()),((x1.2.1.1,(x1.2.1.2.1,(x1.2.1.2.2.1,(x1.2.1.2.2.2.1,(x1.2.1.2.2.2.2.1,((),((List.modify x1.2.1.2.2.2.2.2.2.1.1 x1.2.1.2.2.2.2.2.2.1.2 λe=>(e.1,((x1.2.2.1.1,(x1.2.2.1.2.1,(.nil,(.nil,u2)))),x1.2.2.2))),(0,(λj=>(λ_=>zOU) (0+j)))))))))),(y.2.2.1,()))))
 else(
 some (((0,(λj=>(λ_=>zOU) (0+j))),()),((x1.2.1.1,(x1.2.1.2.1,(x1.2.1.2.2.1,(x1.2.1.2.2.2.1,(x1.2.1.2.2.2.2.1,((),((List.modify x1.2.1.2.2.2.2.2.2.1.1 x1.2.1.2.2.2.2.2.2.1.2 λe=>(e.1,((x1.2.2.1.1,(x1.2.2.1.2.1,(.nil,(.nil,u1)))),x1.2.2.2))),(0,(λj=>(λ_=>zOU) (0+j)))))))))),(y.2.2.1,())))))
 else(
 none))
 else(
 bif (m==5)then(
 match(jr from_ m m1 m2 m3 m4 nm m5 nm1 m6 ((x1.2.1.1,(x1.2.1.2.1,(x1.2.1.2.2.1,(x1.2.1.2.2.2.1,(x1.2.1.2.2.2.2.1,((),(x1.2.1.2.2.2.2.2.2.1,zNO))))))),(x1.2.2.1,(x1.2.2.2.1,(x1.2.2.2.2.1,y.2.2)))))with
 |none=>none
 |some y4=>(
 some (((y4.2.1.2.2.2.2.2.2.2.1,(λj=>y4.2.1.2.2.2.2.2.2.2.2 (0+j))),()),((y4.2.1.1,(y4.2.1.2.1,(y4.2.1.2.2.1,(y4.2.1.2.2.2.1,(y4.2.1.2.2.2.2.1,((),((List.modify y4.2.1.2.2.2.2.2.2.1.1 y4.2.1.2.2.2.2.2.2.1.2 λe=>(e.1,((y4.2.2.1.1,(y4.2.2.1.2.1,(.nil,(.nil,y4.2.2.1.2.2.2.2)))),(y4.2.2.2.1,(y4.2.2.2.2.1,()))))),(y4.2.1.2.2.2.2.2.2.2.1,(λj=>y4.2.1.2.2.2.2.2.2.2.2 (0+j)))))))))),(y4.2.2.2.2.2.1,())))))
 else(
 bif (m==6)then(
 match(j4 from_ m m1 m2 m3 m4 nm m5 nm1 m6 ((x1.2.1.1,(x1.2.1.2.1,(x1.2.1.2.2.1,(x1.2.1.2.2.2.1,(x1.2.1.2.2.2.2.1,((),(x1.2.1.2.2.2.2.2.2.1,zNO))))))),(x1.2.2.1,(x1.2.2.2.1,(x1.2.2.2.2.1,y.2.2)))))with
 |none=>none
 |some y5=>(
 some (((y5.2.1.2.2.2.2.2.2.2.1,(λj=>y5.2.1.2.2.2.2.2.2.2.2 (0+j))),()),((y5.2.1.1,(y5.2.1.2.1,(y5.2.1.2.2.1,(y5.2.1.2.2.2.1,(y5.2.1.2.2.2.2.1,((),((List.modify y5.2.1.2.2.2.2.2.2.1.1 y5.2.1.2.2.2.2.2.2.1.2 λe=>(e.1,((y5.2.2.1.1,(y5.2.2.1.2.1,(.nil,(.nil,y5.2.2.1.2.2.2.2)))),(y5.2.2.2.1,(y5.2.2.2.2.1,()))))),(y5.2.1.2.2.2.2.2.2.2.1,(λj=>y5.2.1.2.2.2.2.2.2.2.2 (0+j)))))))))),(y5.2.2.2.2.2.1,())))))
 else(
 match(qL nm m5)with
 |none=>none
 |some r3=>(
 bif (m==8)then(
 match(gL (m3,(r3,((nm,m5),(nm1,m6)))) ((x1.2.1.1,(x1.2.1.2.1,(x1.2.1.2.2.1,(x1.2.1.2.2.2.1,(x1.2.1.2.2.2.2.1,((),(x1.2.1.2.2.2.2.2.2.1,zNO))))))),(x1.2.2.1,(x1.2.2.2.1,(x1.2.2.2.2.1,y.2.2)))))with
 |none=>none
 |some y6=>(
 some (((y6.2.1.2.2.2.2.2.2.2.1,(λj=>y6.2.1.2.2.2.2.2.2.2.2 (0+j))),()),((y6.2.1.1,(y6.2.1.2.1,(y6.2.1.2.2.1,(y6.2.1.2.2.2.1,(y6.2.1.2.2.2.2.1,((),((List.modify y6.2.1.2.2.2.2.2.2.1.1 y6.2.1.2.2.2.2.2.2.1.2 λe=>(e.1,((y6.2.2.1.1,(y6.2.2.1.2.1,(.nil,(.nil,y6.2.2.1.2.2.2.2)))),(y6.2.2.2.1,(y6.2.2.2.2.1,()))))),(y6.2.1.2.2.2.2.2.2.2.1,(λj=>y6.2.1.2.2.2.2.2.2.2.2 (0+j)))))))))),(y6.2.2.2.2.2.1,())))))
 else(
 match(iG (i64.wrap (from_-x1.2.1.2.2.2.1)) ((m3,(r3,((nm,m5),(nm1,m6)))),m1) ((x1.2.1.1,(x1.2.1.2.1,(x1.2.1.2.2.1,(x1.2.1.2.2.2.1,(x1.2.1.2.2.2.2.1,((),(x1.2.1.2.2.2.2.2.2.1,zNO))))))),(x1.2.2.1,(x1.2.2.2.1,(x1.2.2.2.2.1,y.2.2)))))with
 |none=>none
 |some y7=>(
 some (((y7.2.1.2.2.2.2.2.2.2.1,(λj=>y7.2.1.2.2.2.2.2.2.2.2 (0+j))),()),((y7.2.1.1,(y7.2.1.2.1,(y7.2.1.2.2.1,(y7.2.1.2.2.2.1,(y7.2.1.2.2.2.2.1,((),((List.modify y7.2.1.2.2.2.2.2.2.1.1 y7.2.1.2.2.2.2.2.2.1.2 λe=>(e.1,((y7.2.2.1.1,(y7.2.2.1.2.1,(.nil,(.nil,y7.2.2.1.2.2.2.2)))),(y7.2.2.2.1,(y7.2.2.2.2.1,()))))),(y7.2.1.2.2.2.2.2.2.2.1,(λj=>y7.2.1.2.2.2.2.2.2.2.2 (0+j)))))))))),(y7.2.2.2.2.2.1,())))))))))))
 match(y.2.1.2.2.2.2.2.2.1[(bidx .str y.2.1.2.2.2.2.2.2.1 m2)]?)with
 |none=>(
 match(mg y.2.1.2.2.2.1)with
 |none=>none
 |some y1=>(
 let r1:=y1.1.2.1;let o1:=y1.2.1
 match(mg y.2.1.2.2.2.1)with
 |none=>none
 |some y2=>(
 let r2:=y2.1.2.1;let o2:=y2.2.1
 k ((),((y.2.1.1,(y.2.1.2.1,(y.2.1.2.2.1,(y.2.1.2.2.2.1,(y.2.1.2.2.2.2.1,((),(((X9 .str tRC y.2.1.2.2.2.2.2.2.1 m2),(bidx .str y.2.1.2.2.2.2.2.2.1 m2)),()))))))),((zVA,(m2,((),((),zCS)))),(o1,(o2,()))))))))
 |some q=>(
 k ((),((y.2.1.1,(y.2.1.2.1,(y.2.1.2.2.1,(y.2.1.2.2.2.1,(y.2.1.2.2.2.2.1,((),((y.2.1.2.2.2.2.2.2.1,(bidx .str y.2.1.2.2.2.2.2.2.1 m2)),()))))))),((q.2.1.1,(q.2.1.2.1,((),((),q.2.1.2.2.2.2)))),(q.2.2.1,(q.2.2.2.1,()))))))))
def bC:=veil gM
theorem lg:bC=gM:=aj _
def qx(s:Z02)(from_:Int)(m:Z0g):Option ((Nat×(Nat->OU))):=match s with|none=>(some zNO)|some s0=>(bif (Option.isSome s0.2.2.2.2.2.2.1)then(none)else(some zNO))
def Ay:=veil qx
theorem Gm:Ay=qx:=aj _
def nk(key:ByteArray)(o:SS):Option ((((Int×Int)×(ByteArray×Z0u))×SS)):=match(o.1.2.2.2.2.2.2.1[(bidx .str o.1.2.2.2.2.2.2.1 key)]?)with|none=>(some (((0,0),((ByteArray.mk #[]),(false,()))),o))|some q=>(some ((q.2.1.1.1,(q.2.1.1.2.1,((decide (((q.2.1.1.2.2.2.1:Nat):Int)>0)),()))),((o.1.1,(o.1.2.1,(o.1.2.2.1,(o.1.2.2.2.1,(o.1.2.2.2.2.1,((),((List.modify o.1.2.2.2.2.2.2.1 (bidx .str o.1.2.2.2.2.2.2.1 key) λe=>(e.1,((q.2.1.1,(q.2.1.2.1,(.nil,(.nil,q.2.1.2.2.2.2)))),(q.2.2.1,(q.2.2.2.1,()))))),o.1.2.2.2.2.2.2.2))))))),o.2)))
def bW:=veil nk
theorem tK:bW=nk:=aj _
def qy(s:Z02)(key:ByteArray):Option ((Int×Int)×ByteArray×Bool):=match s with|none=>(some ((0,0),(ByteArray.mk #[]),false))|some s0=>(bif (Option.isSome s0.2.2.2.2.2.2.1)then(none)else(some ((0,0),(ByteArray.mk #[]),false)))
def Az:=veil qy
theorem Gn:Az=qy:=aj _
def nu(o:SS):Option (((Z0l×Unit)×SS)):=match(iD o.2.1.1 o.2.1.2.1 o.2.1.2.2.1.1 o.2.1.2.2.1.2 o.2.1.2.2.2)with|none=>none|some y=>(let nr:=y.1.1.1;let r:=y.1.1.2;let o1:=y.2.1.1;let o2:=y.2.1.2.1;let no:=y.2.1.2.2.1.1;let o3:=y.2.1.2.2.1.2;let o4:=y.2.1.2.2.2;some (((nr,r),()),(o.1,((o1,(o2,((no,o3),o4))),()))))
def jP:=veil nu
theorem tL:jP=nu:=aj _
def qz(s:Z02):Option (Z0l):=match s with|none=>(some (0,(λ_=>ByteArray.empty)))|some s0=>(bif (aL.vW s0.2.2.2.2.2.1)then(none)else(bif (aL.isNil s0.2.2.2.2.2.1)then(match(pQ none)with|none=>none|some r=>(some (r.1,r.2)))else(match(pQ (some (aL.val ((0,(0,(.nil,none))):Z0c) s0.2.2.2.2.2.1)))with|none=>none|some r1=>(some (r1.1,r1.2)))))
def AA:=veil qz
theorem Gp:AA=qz:=aj _
abbrev aY(t:Int)(t1:Int)(o:Z0i):=(((),((),(t,(t1,())))),o)
abbrev nM:Type:=((Unit×Z0q)×Z0i)
def bM:nM->Option (nM⊕(Unit×Z0i)):=λx=>
 let t:=x.1.2.2.1;let t1:=x.1.2.2.2.1
 bif (decide (t1<t))then(
 bif (inb t1 4)then(
 let k1:(Unit×(SO×(SP×CR)))->Option Z0M:=λx2=>(
 let k2:(Unit×(SO×(SP×CR)))->Option Z0M:=λx3=>(
 match(jk (some x3.2.2.2.2.2.1) x3.2.1.2.2.1 (i64.wrap (t1+1)) 1)with
 |none=>none
 |some r3=>(
 bif (decide (r3.1.1>0))then(
 match(bE 6 r3.1 r3.2 (x3.2.1,(x3.2.2.2.1,(x3.2.2.2.2.1,(x3.2.2.2.2.2.1,(x3.2.2.1,()))))))with
 |none=>none
 |some y3=>(
 some (.inl (((),((),(t,((i64.wrap (t1+1)),())))),(y3.2.1,(y3.2.2.2.2.2.1,((),(y3.2.2.1,(y3.2.2.2.1,(y3.2.2.2.2.1,((),())))))))))))
 else(
 some (.inl (((),((),(t,((i64.wrap (t1+1)),())))),(x3.2.1,(x3.2.2.1,((),(x3.2.2.2.1,(x3.2.2.2.2.1,(x3.2.2.2.2.2.1,((),()))))))))))))
 match(jk (some x2.2.2.2.2.1) x2.2.1.2.2.1 (i64.wrap (t1+1)) 1)with
 |none=>none
 |some r2=>(
 bif (decide (r2.1.1>0))then(
 match(bE 5 r2.1 r2.2 (x2.2.1,(x2.2.2.2.1,(x2.2.2.2.2.1,(x2.2.2.2.2.2.1,(x2.2.2.1,()))))))with
 |none=>none
 |some y2=>(
 k2 ((),(y2.2.1,(y2.2.2.2.2.2.1,(y2.2.2.1,(y2.2.2.2.1,(y2.2.2.2.2.1,()))))))))
 else(
 k2 x2)))
 let k:(Unit×(SO×(SP×CR)))->Option Z0M:=λx1=>(
 match(jk (some x1.2.2.2.2.2.1) x1.2.1.2.2.1 (i64.wrap (t1+1)) 0)with
 |none=>none
 |some r1=>(
 bif (decide (r1.1.1>0))then(
 match(bE 6 r1.1 r1.2 (x1.2.1,(x1.2.2.2.1,(x1.2.2.2.2.1,(x1.2.2.2.2.2.1,(x1.2.2.1,()))))))with
 |none=>none
 |some y1=>(
 k1 ((),(y1.2.1,(y1.2.2.2.2.2.1,(y1.2.2.1,(y1.2.2.2.1,(y1.2.2.2.2.1,()))))))))
 else(
 k1 x1)))
 match(jk (some x.2.2.2.2.2.1) x.2.1.2.2.1 (i64.wrap (t1+1)) 0)with
 |none=>none
 |some r=>(
 bif (decide (r.1.1>0))then(
 match(bE 5 r.1 r.2 (x.2.1,(x.2.2.2.2.1,(x.2.2.2.2.2.1,(x.2.2.2.2.2.2.1,(x.2.2.1,()))))))with
 |none=>none
 |some y=>(
 k ((),(y.2.1,(y.2.2.2.2.2.1,(y.2.2.1,(y.2.2.2.1,(y.2.2.2.2.1,()))))))))
 else(
 k ((),(x.2.1,(x.2.2.1,(x.2.2.2.2.1,(x.2.2.2.2.2.1,(x.2.2.2.2.2.2.1,())))))))))
 else(
 none))
 else(
 some (.inr ((),(x.2.1,(x.2.2.1,((),(x.2.2.2.2.1,(x.2.2.2.2.2.1,(x.2.2.2.2.2.2.1,((),()))))))))))
abbrev kE(nt:Nat)(t:Nat->ByteArray)(t1:Int)(t2:Int)(o:(SN×(SP×Z09))):=(((),((),((nt,t),(t1,(t2,()))))),o)
abbrev AB(o:(SN×(SP×Z09))):=(((),((),())),o)
abbrev qU:Type:=((Unit×(Unit×(Z0l×(Int×Z06))))×(SN×(SP×Z09)))
def dx:qU->Option (qU⊕(Z0m×(SN×(SP×Z09)))):=λx=>let nt:=x.1.2.2.1.1;let t:=x.1.2.2.1.2;let t1:=x.1.2.2.2.1;let t2:=x.1.2.2.2.2.1;bif (decide (t2<t1))then(bif (inb t2 nt)then(match(x.2.1.2.2.2.2.2.2.1[(bidx .str x.2.1.2.2.2.2.2.2.1 (t (Int.toNat t2)))]?)with|none=>(match(mg x.2.1.2.2.2.1)with|none=>none|some y2=>(let r:=y2.1.2.1;let o:=y2.2.1;match(mg x.2.1.2.2.2.1)with|none=>none|some y3=>(let r1:=y3.1.2.1;let o1:=y3.2.1;none)))|some q=>(match(aB bM (((),((),(x.2.1.2.2.2.2.1,(0,())))),((x.2.1.1,(x.2.1.2.1,(x.2.1.2.2.1,(x.2.1.2.2.2.1,(x.2.1.2.2.2.2.1,((),((x.2.1.2.2.2.2.2.2.1,(bidx .str x.2.1.2.2.2.2.2.2.1 (t (Int.toNat t2)))),x.2.1.2.2.2.2.2.2.2))))))),(x.2.2.1,((),((q.2.1.1,(q.2.1.2.1,((),((),q.2.1.2.2.2.2)))),(q.2.2.1,(q.2.2.2.1,((),())))))))))with|none=>none|some y=>(match(dz (y.2.1,(y.2.2.2.2.1,(y.2.2.2.2.2.1,(y.2.2.2.2.2.2.1,(y.2.2.1,()))))))with|none=>none|some y1=>(some (.inl (((),((),((nt,t),(t1,((i64.wrap (t2+1)),()))))),((y1.2.1.1,(y1.2.1.2.1,(y1.2.1.2.2.1,(y1.2.1.2.2.2.1,(y1.2.1.2.2.2.2.1,((),((List.modify y1.2.1.2.2.2.2.2.2.1.1 y1.2.1.2.2.2.2.2.2.1.2 λe=>(e.1,((y1.2.2.1.1,(y1.2.2.1.2.1,(.nil,(.nil,y1.2.2.1.2.2.2.2)))),(y1.2.2.2.1,(y1.2.2.2.2.1,()))))),y1.2.1.2.2.2.2.2.2.2))))))),(y1.2.2.2.2.2.1,((),())))))))))else(none))else(some (.inr (((),((),())),(x.2.1,(x.2.2.1,((),()))))))
def jv(o:SS):Option Z0H:=match(iD o.2.1.1 o.2.1.2.1 o.2.1.2.2.1.1 o.2.1.2.2.1.2 o.2.1.2.2.2)with|none=>none|some y=>(let nr:=y.1.1.1;let r:=y.1.1.2;let o1:=y.2.1.1;let o2:=y.2.1.2.1;let no:=y.2.1.2.2.1.1;let o3:=y.2.1.2.2.1.2;let o4:=y.2.1.2.2.2;match(aB dx (((),((),((nr,r),(((nr:Nat):Int),(0,()))))),((o.1.1,(o.1.2.1,(o.1.2.2.1,(o.1.2.2.2.1,(o.1.2.2.2.2.1,((),(o.1.2.2.2.2.2.2.1,zNO))))))),((o1,(o2,((no,o3),o4))),((),())))))with|none=>none|some y1=>(some (((y1.2.1.2.2.2.2.2.2.2.1,(λj=>y1.2.1.2.2.2.2.2.2.2.2 (0+j))),()),((y1.2.1.1,(y1.2.1.2.1,(y1.2.1.2.2.1,(y1.2.1.2.2.2.1,(y1.2.1.2.2.2.2.1,((),(y1.2.1.2.2.2.2.2.2.1,(y1.2.1.2.2.2.2.2.2.2.1,(λj=>y1.2.1.2.2.2.2.2.2.2.2 (0+j)))))))))),(y1.2.2.1,())))))
def fA:=veil jv
theorem tO:fA=jv:=aj _
def qA(s:Z02):Option ((Nat×(Nat->OU))):=match s with|none=>(some zNO)|some s0=>(bif (Option.isSome s0.2.2.2.2.2.2.1)then(none)else(some zNO))
def AJ:=veil qA
theorem Gq:AJ=qA:=aj _
open Go.IntKind (i64 u64 u32 u8)
def EZ(a:(Int×Int))(b:(Int×Int)):Option (Int):=bif (decide (a.1<b.1))then(some (-1))else(bif (decide (a.1>b.1))then(some 1)else(bif (decide (a.2<b.2))then(some (-1))else(bif (decide (a.2>b.2))then(some 1)else(some 0))))
def yh:=veil EZ
theorem IV:yh=EZ:=aj _
open Go.IntKind (i64 u64 u32 u8)
open Go.IntKind (i64 u64 u32 u8)
open Go.IntKind (i64 u64 u32 u8)
open Go.IntKind (i64 u64 u32 u8)
open Go.IntKind (i64 u64 u32 u8)
open Go.IntKind (i64 u64 u32 u8)
open Go.IntKind (i64 u64 u32 u8)
open Go.IntKind (i64 u64 u32 u8)
open Go.IntKind (i64 u64 u32 u8)
open Go.IntKind (i64 u64 u32 u8)
end
end Go.Pl
