/-
  The functions of more packages, plainly.
-/
import Derived.Test.YtldlihheppdhnaaGreatDenI
import Derived.Test.YtldlihheppdhnaaGreatPlA
import Derived.Test.YtldlihheppdhnaaGreatDenM
import Derived.Test.YtldlihheppdhnaaGreatDenL
set_option linter.unusedVariables false
set_option linter.unusedSimpArgs false
set_option maxRecDepth 100000
set_option maxHeartbeats 0
namespace Go.Pl
open Go.Den
abbrev Z03:Type:=Option ((aR GR)×(Int×(Int×(Int×(Int×((aR (Int×(Int×((SlV ByteArray)×(Option Nat)))))×((Option Nat)×(SlV OU))))))))
abbrev Z04:Type:=((Unit×(Unit×(Int×(Int×Unit))))×(SO×(RC×(VT×(VT×(SP×(Unit×(Unit×((Int×Int)×Unit)))))))))⊕(Unit×(SO×(RC×(VT×(VT×(SP×(Unit×(Unit×((Int×Int)×Unit)))))))))
abbrev Z0e:Type:=Int×(Int×(ByteArray×VA))
abbrev Z0f:Type:=ByteArray×(GI×((SlV VO)×((SlV VO)×(Nat->((Nat->GI)×(GI×(Int×Int)))))))
abbrev Z0l:Type:=(Unit×SR)
abbrev Z0m:Type:=SO×(SP×(Unit×(RC×(VT×(VT×Z07)))))
abbrev Z0n:Type:=Z0g×(Int×(Int×(Int×(Int×((Int×(Int×((SlV ByteArray)×(SlV Int))))×((SlV Z0f)×(SlV (Int×(Int×(Int×(ByteArray×((Int×Int)×(ByteArray×((SlV (SlV NI))×(SlV NI)))))))))))))))
abbrev Z0t:Type:=SO×(RC×(VT×(VT×(SP×(Unit×(Unit×((Int×Int)×Unit)))))))
abbrev Z0A:Type:=Z0g×(Int×(Int×(Int×(Int×((Int×(Int×((SlV ByteArray)×(SlV Int))))×((SlV Z0f)×(SlV OU)))))))
abbrev Z0B:Type:=Nat×(Nat->OU)
abbrev Z0E:Type:=SO×(RC×(VT×(VT×(SP×Z0i))))
end Go.Pl
namespace Go.Pl
end Go.Pl
open Go Go.Den Go.Pl
namespace Go.Pl
noncomputable section
open Go.IntKind (i64 u64 u32 u8)
abbrev oz(s:ByteArray)(nb:Nat)(b:Nat->Int):=((s,((nb,b),())),())
abbrev vX(s:ByteArray)(nb:Nat)(b:Nat->Int):=((s,((nb,b),())),())
abbrev H9:Type:=((ByteArray×((Nat×NI)×Unit))×Unit)
def kP:H9->Option (H9⊕((ByteArray×((Nat×NI)×Unit))×Unit)):=λx=>let s:=x.1.1;let nb:=x.1.2.1.1;let b:=x.1.2.1.2;bif ((Int.tmod ((nb:Nat):Int) 64) !=56)then(bif ((Nat.ble ((nb+1)*1) 140737488355328)&&(Nat.ble (nb+1) 9223372036854775807))then(some (.inl ((s,(((nb+1),(glue nb b (λj=>(upd (λ_=>0) 0 0) (0+j)))),())),())))else(none))else(some (.inr ((s,((nb,b),())),())))
abbrev oD(s:ByteArray)(nb:Nat)(b:Nat->Int)(k:Int):=((s,((nb,b),(k,()))),())
abbrev vY(nb:Nat)(b:Nat->Int):=(((nb,b),()),())
abbrev He:Type:=((ByteArray×((Nat×NI)×Z05))×Unit)
def kQ:He->Option (He⊕Z0x):=λx=>let s:=x.1.1;let nb:=x.1.2.1.1;let b:=x.1.2.1.2;let k:=x.1.2.2.1;bif (decide (k>=0))then(bif (decide ((i64.wrap (8*k))<0))then(none)else(let t:=(av .and .i64 (bL .i64 (i64.wrap (8*(((ByteArray.size s):Nat):Int))) (i64.wrap (8*k))) 255);bif ((Nat.ble ((nb+1)*1) 140737488355328)&&(Nat.ble (nb+1) 9223372036854775807))then(some (.inl ((s,(((nb+1),(glue nb b (λj=>(upd (λ_=>0) 0 (u8.wrap t)) (0+j)))),((i64.wrap (k-1)),()))),())))else(none)))else(some (.inr (((nb,b),()),())))
def Hf(s:ByteArray):Option ((Nat×NI)):=bif (Nat.ble (ByteArray.size s) 9223372036854775807)then(bif ((Nat.ble (((ByteArray.size s)+1)*1) 140737488355328)&&(Nat.ble ((ByteArray.size s)+1) 9223372036854775807))then(match(aD kP ((s,((((ByteArray.size s)+1),(glue (ByteArray.size s) (λi=>(((s).data.toList.getD i 0).toNat:Int)) (λj=>(upd (λ_=>0) 0 128) (0+j)))),())),()))with|none=>none|some y=>(let s1:=y.1.1;let nb:=y.1.2.1.1;let b:=y.1.2.1.2;match(aD kQ ((s1,((nb,b),(7,()))),()))with|none=>none|some y1=>(let nb1:=y1.1.1.1;let b1:=y1.1.1.2;some (nb1,(λj=>b1 (0+j))))))else(none))else(none)
def Eo:=veil Hf
theorem K5:Eo=Hf:=au _
def UJ:Option (NI):=some (upd (upd (upd (upd (upd (upd (upd (upd (λ_=>0) 0 1779033703) 1 3144134277) 2 1013904242) 3 2773480762) 4 1359893119) 5 2600822924) 6 528734635) 7 1541459225)
def IZ:=veil UJ
theorem Nr:IZ=UJ:=au _
def P6(x:Int)(n:Int):Option (Int):=bif (decide (n<0))then(none)else(bif (decide ((i64.wrap (32-n))<0))then(none)else(let t:=(av .and .i64 (av .or .i64 (bL .i64 x n) (iF .i64 x (i64.wrap (32-n)))) 4294967295);some t))
def jH:=veil P6
theorem QN:jH=P6:=au _
abbrev gK(nb:Nat)(b:Nat->Int)(t:Int)(t1:NI)(w:NI):=(((nb,b),((),((),(t,())))),(t1,(w,())))
abbrev rP(t:NI)(w:NI):=(((),((),())),(t,(w,())))
abbrev Db:Type:=(((Nat×NI)×Z0c)×Z06)
def gL:Db->Option (Db⊕(Z0i×Z06)):=λx=>let nb:=x.1.1.1;let b:=x.1.1.2;let t:=x.1.2.2.2.1;let t1:=x.2.1;let w:=x.2.2.1;bif (decide (t<16))then(bif (inb (i64.wrap (4*t)) nb)then(bif (inb (i64.wrap ((i64.wrap (4*t))+1)) nb)then(let t2:=(av .or .i64 (iF .i64 (i64.wrap (b (Int.toNat (i64.wrap (4*t))))) 24) (iF .i64 (i64.wrap (b (Int.toNat (i64.wrap ((i64.wrap (4*t))+1))))) 16));bif (inb (i64.wrap ((i64.wrap (4*t))+2)) nb)then(let t3:=(av .or .i64 t2 (iF .i64 (i64.wrap (b (Int.toNat (i64.wrap ((i64.wrap (4*t))+2))))) 8));bif (inb (i64.wrap ((i64.wrap (4*t))+3)) nb)then(let t4:=(av .or .i64 t3 (i64.wrap (b (Int.toNat (i64.wrap ((i64.wrap (4*t))+3))))));bif (inb t 64)then(some (.inl (((nb,b),((),((),((i64.wrap (t+1)),())))),(t1,((upd w (Int.toNat t) t4),())))))else(none))else(none))else(none))else(none))else(none))else(some (.inr (((),((),())),(t1,(w,())))))
abbrev gM(t:Int)(t1:NI)(w:NI):=(((),((),(t,()))),(t1,(w,())))
abbrev rQ(t:NI)(w:NI):=(((),((),())),(t,(w,())))
abbrev Dc:Type:=(Z0c×Z06)
def gN:Dc->Option (Dc⊕(Z0i×Z06)):=λx=>let t:=x.1.2.2.1;let t1:=x.2.1;let w:=x.2.2.1;bif (decide (t<64))then(bif (inb (i64.wrap (t-15)) 64)then(bif (inb (i64.wrap (t-2)) 64)then(match(jH (w (Int.toNat (i64.wrap (t-15)))) 7)with|none=>none|some r=>(match(jH (w (Int.toNat (i64.wrap (t-15)))) 18)with|none=>none|some r1=>(let t2:=(av .xor .i64 (av .xor .i64 r r1) (bL .i64 (w (Int.toNat (i64.wrap (t-15)))) 3));match(jH (w (Int.toNat (i64.wrap (t-2)))) 17)with|none=>none|some r2=>(match(jH (w (Int.toNat (i64.wrap (t-2)))) 19)with|none=>none|some r3=>(let t3:=(av .xor .i64 (av .xor .i64 r2 r3) (bL .i64 (w (Int.toNat (i64.wrap (t-2)))) 10));bif (inb (i64.wrap (t-7)) 64)then(bif (inb (i64.wrap (t-16)) 64)then(let t4:=(i64.wrap ((i64.wrap ((i64.wrap (t3+(w (Int.toNat (i64.wrap (t-7))))))+t2))+(w (Int.toNat (i64.wrap (t-16))))));bif (inb t 64)then(some (.inl (((),((),((i64.wrap (t+1)),()))),(t1,((upd w (Int.toNat t) (av .and .i64 t4 4294967295)),())))))else(none))else(none))else(none))))))else(none))else(none))else(some (.inr (((),((),())),(t1,(w,())))))
def Ch(nb:Nat)(b:Nat->Int):Option (NI):=match(aD gL (((nb,b),((),((),(0,())))),((λ_=>0),((λ_=>0),()))))with|none=>none|some y=>(let t:=y.2.1;let w:=y.2.2.1;match(aD gN (((),((),(16,()))),(t,(w,()))))with|none=>none|some y1=>(let t1:=y1.2.1;let w1:=y1.2.2.1;some w1))
def zo:=veil Ch
theorem F9:zo=Ch:=au _
def Hg:Option (NI):=some (upd (upd (upd (upd (upd (upd (upd (upd (upd (upd (upd (upd (upd (upd (upd (upd (upd (upd (upd (upd (upd (upd (upd (upd (upd (upd (upd (upd (upd (upd (upd (upd (upd (upd (upd (upd (upd (upd (upd (upd (upd (upd (upd (upd (upd (upd (upd (upd (upd (upd (upd (upd (upd (upd (upd (upd (upd (upd (upd (upd (upd (upd (upd (upd (λ_=>0) 0 1116352408) 1 1899447441) 2 3049323471) 3 3921009573) 4 961987163) 5 1508970993) 6 2453635748) 7 2870763221) 8 3624381080) 9 310598401) 10 607225278) 11 1426881987) 12 1925078388) 13 2162078206) 14 2614888103) 15 3248222580) 16 3835390401) 17 4022224774) 18 264347078) 19 604807628) 20 770255983) 21 1249150122) 22 1555081692) 23 1996064986) 24 2554220882) 25 2821834349) 26 2952996808) 27 3210313671) 28 3336571891) 29 3584528711) 30 113926993) 31 338241895) 32 666307205) 33 773529912) 34 1294757372) 35 1396182291) 36 1695183700) 37 1986661051) 38 2177026350) 39 2456956037) 40 2730485921) 41 2820302411) 42 3259730800) 43 3345764771) 44 3516065817) 45 3600352804) 46 4094571909) 47 275423344) 48 430227734) 49 506948616) 50 659060556) 51 883997877) 52 958139571) 53 1322822218) 54 1537002063) 55 1747873779) 56 1955562222) 57 2024104815) 58 2227730452) 59 2361852424) 60 2428436474) 61 2756734187) 62 3204031479) 63 3329325298)
def xg:=veil Hg
theorem Df:xg=Hg:=au _
abbrev jT(t:Int)(v:NI)(t1:NI)(w:NI)(k:NI)(x1:NI):=(((),((),((),((),((),(t,())))))),(v,(t1,(w,(k,(x1,()))))))
abbrev yA(v:NI)(t:NI)(x1:NI):=(((),((),((),()))),(v,(t,(x1,()))))
abbrev K6:Type:=((Unit×Z0C)×(NI×Z0v))
def jU:K6->Option (K6⊕((Unit×Z0i)×(NI×Z06))):=λx=>let t:=x.1.2.2.2.2.2.1;let v:=x.2.1;let t1:=x.2.2.1;let w:=x.2.2.2.1;let k:=x.2.2.2.2.1;let x1:=x.2.2.2.2.2.1;bif (decide (t<64))then(match(jH (x1 4) 6)with|none=>none|some r=>(match(jH (x1 4) 11)with|none=>none|some r1=>(match(jH (x1 4) 25)with|none=>none|some r2=>(let t2:=(av .xor .i64 (av .and .i64 (x1 4) (x1 5)) (av .and .i64 (av .xor .i64 4294967295 (x1 4)) (x1 6)));let t3:=(i64.wrap ((i64.wrap ((x1 7)+(av .xor .i64 (av .xor .i64 r r1) r2)))+t2));bif (inb t 64)then(bif (inb t 64)then(match(jH (x1 0) 2)with|none=>none|some r3=>(match(jH (x1 0) 13)with|none=>none|some r4=>(match(jH (x1 0) 22)with|none=>none|some r5=>(let t4:=(av .xor .i64 (av .and .i64 (x1 0) (x1 1)) (av .and .i64 (x1 0) (x1 2)));let t5:=(i64.wrap ((i64.wrap ((i64.wrap (t3+(k (Int.toNat t))))+(w (Int.toNat t))))+(av .xor .i64 (av .xor .i64 r3 r4) r5)));let t6:=(i64.wrap (t5+(av .xor .i64 t4 (av .and .i64 (x1 1) (x1 2)))));let t7:=(i64.wrap ((x1 3)+(i64.wrap ((i64.wrap (t3+(k (Int.toNat t))))+(w (Int.toNat t))))));some (.inl (((),((),((),((),((),((i64.wrap (t+1)),())))))),(v,(t1,(w,(k,((upd (upd (upd (upd (upd (upd (upd (upd (λ_=>0) 0 (av .and .i64 t6 4294967295)) 1 (x1 0)) 2 (x1 1)) 3 (x1 2)) 4 (av .and .i64 t7 4294967295)) 5 (x1 4)) 6 (x1 5)) 7 (x1 6)),())))))))))))else(none))else(none)))))else(some (.inr (((),((),((),()))),(v,(t1,(x1,()))))))
abbrev qM(i:Int)(v:NI)(t:NI)(x1:NI)(out:NI):=(((),((),((),((),(i,()))))),(v,(t,(x1,(out,())))))
abbrev yB(t:NI)(out:NI):=(((),((),())),(t,(out,())))
abbrev K7:Type:=(Z0C×Z0v)
def mP:K7->Option (K7⊕(Z0i×Z06)):=λx=>let i:=x.1.2.2.2.2.1;let v:=x.2.1;let t:=x.2.2.1;let x1:=x.2.2.2.1;let out:=x.2.2.2.2.1;bif (decide (i<8))then(bif (inb i 8)then(bif (inb i 8)then(bif (inb i 8)then(some (.inl (((),((),((),((),((i64.wrap (i+1)),()))))),(v,(t,(x1,((upd out (Int.toNat i) (av .and .i64 (i64.wrap ((v (Int.toNat i))+(x1 (Int.toNat i)))) 4294967295)),())))))))else(none))else(none))else(none))else(some (.inr (((),((),())),(t,(out,())))))
def Lh(v:NI)(nb:Nat)(b:Nat->Int):Option (NI):=match(zo nb b)with|none=>none|some r=>(match xg with|none=>none|some r1=>(match(aD jU (((),((),((),((),((),(0,())))))),(v,((λ_=>0),(r,(r1,(v,())))))))with|none=>none|some y=>(let v1:=y.2.1;let t:=y.2.2.1;let x:=y.2.2.2.1;match(aD mP (((),((),((),((),(0,()))))),(v1,(t,(x,((λ_=>0),()))))))with|none=>none|some y1=>(let t1:=y1.2.1;let out:=y1.2.2.1;some out))))
def J2:=veil Lh
theorem Ns:J2=Lh:=au _
abbrev Hl(nb:Nat)(b:Nat->Int)(at_:Int)(v:NI):=(((nb,b),((),(at_,()))),(v,()))
abbrev K8(v:NI):=(((),()),(v,()))
abbrev QO:Type:=(((Nat×NI)×Z0D)×(NI×Unit))
def sQ:QO->Option (QO⊕(Z07×(NI×Unit))):=λx=>let nb:=x.1.1.1;let b:=x.1.1.2;let at_:=x.1.2.2.1;let v:=x.2.1;bif (decide (at_<((nb:Nat):Int)))then(bif ((decide (0<=(i64.wrap (at_+64))))&&(decide ((i64.wrap (at_+64))<=((nb:Nat):Int))))then(bif ((decide (0<=at_))&&(decide (at_<=(((Int.toNat (i64.wrap (at_+64))):Nat):Int))))then(match(J2 v ((Int.toNat (i64.wrap (at_+64)))-(Int.toNat at_)) (λj=>b ((Int.toNat at_)+j)))with|none=>none|some r=>(some (.inl (((nb,b),((),((i64.wrap (at_+64)),()))),(r,())))))else(none))else(none))else(some (.inr (((),()),(v,()))))
abbrev Ho(nout:Nat)(out:Nat->Int)(i:Int)(v:NI):=(((),((nout,out),(i,()))),(v,()))
abbrev K9(nout:Nat)(out:Nat->Int):=(((nout,out),()),())
abbrev QS:Type:=((Unit×((Nat×NI)×Z05))×(NI×Unit))
def sS:QS->Option (QS⊕Z0x):=λx=>let nout:=x.1.2.1.1;let out:=x.1.2.1.2;let i:=x.1.2.2.1;let v:=x.2.1;bif (decide (i<8))then(bif (inb i 8)then(bif ((Nat.ble ((nout+1)*1) 140737488355328)&&(Nat.ble (nout+1) 9223372036854775807))then(bif (inb i 8)then(bif ((Nat.ble (((nout+1)+1)*1) 140737488355328)&&(Nat.ble ((nout+1)+1) 9223372036854775807))then(bif (inb i 8)then(bif ((Nat.ble ((((nout+1)+1)+1)*1) 140737488355328)&&(Nat.ble (((nout+1)+1)+1) 9223372036854775807))then(bif (inb i 8)then(bif ((Nat.ble (((((nout+1)+1)+1)+1)*1) 140737488355328)&&(Nat.ble ((((nout+1)+1)+1)+1) 9223372036854775807))then(some (.inl (((),((((((nout+1)+1)+1)+1),(glue (((nout+1)+1)+1) (glue ((nout+1)+1) (glue (nout+1) (glue nout out (λj=>(upd (λ_=>0) 0 (u8.wrap (av .and .i64 (bL .i64 (v (Int.toNat i)) 24) 255))) (0+j))) (λj=>(upd (λ_=>0) 0 (u8.wrap (av .and .i64 (bL .i64 (v (Int.toNat i)) 16) 255))) (0+j))) (λj=>(upd (λ_=>0) 0 (u8.wrap (av .and .i64 (bL .i64 (v (Int.toNat i)) 8) 255))) (0+j))) (λj=>(upd (λ_=>0) 0 (u8.wrap (av .and .i64 (bL .i64 (v (Int.toNat i)) 0) 255))) (0+j)))),((i64.wrap (i+1)),()))),(v,()))))else(none))else(none))else(none))else(none))else(none))else(none))else(none))else(none))else(some (.inr (((nout,out),()),())))
def UK(s:ByteArray):Option Z0u:=match(Eo s)with|none=>none|some r=>(match IZ with|none=>none|some r1=>(match(aD sQ (((r.1,r.2),((),(0,()))),(r1,())))with|none=>none|some y=>(let v:=y.2.1;match(aD sS (((),((0,(λ_=>0)),(0,()))),(v,())))with|none=>none|some y1=>(let nout:=y1.1.1.1;let out:=y1.1.1.2;some (bytesOf nout (λj=>out (0+j)))))))
def Nt:=veil UK
theorem UL:Nt=UK:=au _
open Go.IntKind (i64 u64 u32 u8)
abbrev Zr(nf:Nat)(f:Nat->Int)(x1:Int)(q:Int)(out:Int)(p:Int)(i:Int):=(((nf,f),(x1,(q,(out,(p,(i,())))))),())
abbrev Hq(out:Int):=((out,()),())
abbrev Nu:Type:=(((Nat×NI)×(Int×(Int×Z0s)))×Unit)
def pK:Nu->Option (Nu⊕Z0H):=λx=>let nf:=x.1.1.1;let f:=x.1.1.2;let x1:=x.1.2.1;let q:=x.1.2.2.1;let out:=x.1.2.2.2.1;let p:=x.1.2.2.2.2.1;let i:=x.1.2.2.2.2.2.1;bif (decide (i<((nf:Nat):Int)))then(bif (inb i nf)then(match(Nj (f (Int.toNat i)) p q)with|none=>none|some r=>(match(Sq out r q)with|none=>none|some r1=>(match(Nj p x1 q)with|none=>none|some r2=>(some (.inl (((nf,f),(x1,(q,(r1,(r2,((i64.wrap (i+1)),())))))),()))))))else(none))else(some (.inr ((out,()),())))
def P7(nf:Nat)(f:Nat->Int)(x:Int)(q:Int):Option (Int):=match(aD pK (((nf,f),(x,(q,(0,(1,(0,())))))),()))with|none=>none|some y=>(let out:=y.1.1;some out)
def bE:=veil P7
theorem QT:bE=P7:=au _
open Go.IntKind (i64 u64 u32 u8)
abbrev Li(nf:Nat)(f:Nat->Int)(n:Int)(nout:Nat)(out:Nat->NI)(j:Int)(s:Z0g):=(((nf,f),(n,((),((nout,out),(j,()))))),(s,()))
abbrev Ep(nout:Nat)(out:Nat->NI):=(((nout,out),()),())
abbrev UM:Type:=(((Nat×NI)×(Int×(Unit×(Z0d×Z05))))×(Z0g×Unit))
def vZ:UM->Option (UM⊕((Z0d×Unit)×Unit)):=λx=>let nf:=x.1.1.1;let f:=x.1.1.2;let n:=x.1.2.1;let nout:=x.1.2.2.2.1.1;let out:=x.1.2.2.2.1.2;let j:=x.1.2.2.2.2.1;let s:=x.2.1;bif (decide (j<n))then(bif (decide (j<((nf:Nat):Int)))then(bif (inb j nf)then(match(aV (f (Int.toNat j)))with|none=>none|some r=>(match(Nl s s.2.2 r)with|none=>none|some r1=>(match(aV r1)with|none=>none|some r2=>(bif ((Nat.ble ((nout+1)*32) 140737488355328)&&(Nat.ble (nout+1) 9223372036854775807))then(some (.inl (((nf,f),(n,((),(((nout+1),(glue nout out (λj=>(upd (λ_=>(λ_=>0)) 0 r2) (0+j)))),((i64.wrap (j+1)),()))))),(s,()))))else(none)))))else(none))else(match(aV 0)with|none=>none|some r3=>(match(Nl s s.2.2 r3)with|none=>none|some r4=>(match(aV r4)with|none=>none|some r5=>(bif ((Nat.ble ((nout+1)*32) 140737488355328)&&(Nat.ble (nout+1) 9223372036854775807))then(some (.inl (((nf,f),(n,((),(((nout+1),(glue nout out (λj=>(upd (λ_=>(λ_=>0)) 0 r5) (0+j)))),((i64.wrap (j+1)),()))))),(s,()))))else(none))))))else(some (.inr (((nout,out),()),())))
def Zt(s:Z0g)(nf:Nat)(f:Nat->Int)(n:Int):Option (Z0d):=match(aD vZ (((nf,f),(n,((),((0,(λ_=>(λ_=>0))),(0,()))))),(s,())))with|none=>none|some y=>(let nout:=y.1.1.1;let out:=y.1.1.2;some (nout,(λj=>out (0+j))))
def ql:=veil Zt
theorem Y2:ql=Zt:=au _
open Go.IntKind (i64 u64 u32 u8)
abbrev zq(na:Nat)(a:Nat->(SlV NI))(nb:Nat)(b:Nat->(SlV NI))(i:Int):=(((na,a),((nb,b),(i,()))),())
abbrev Er:Type:=(Z01⊕Z07)
abbrev UN(t:Bool):Er:=(.inl ((t,()),()))
abbrev UO:Er:=(.inr ((),()))
abbrev Nv:Type:=((Z0a×(Z0a×Z05))×Unit)
def lV:Nv->Option (Nv⊕Er):=λx=>let na:=x.1.1.1;let a:=x.1.1.2;let nb:=x.1.2.1.1;let b:=x.1.2.1.2;let i:=x.1.2.2.1;bif (decide (i<((na:Nat):Int)))then(bif (inb i na)then(bif (SlV.isMs (a (Int.toNat i)))then(none)else(bif (inb i nb)then(bif (SlV.isMs (b (Int.toNat i)))then(none)else(match(GZ (SlV.len (a (Int.toNat i))) (SlV.fn ((λ_=>0):NI) (a (Int.toNat i))) (SlV.len (b (Int.toNat i))) (SlV.fn ((λ_=>0):NI) (b (Int.toNat i))))with|none=>none|some r=>(bif (!r)then(some (.inr (.inl ((false,()),()))))else(some (.inl (((na,a),((nb,b),((i64.wrap (i+1)),()))),()))))))else(none)))else(none))else(some (.inr (.inr ((),()))))
def P8(na:Nat)(a:Nat->(SlV NI))(nb:Nat)(b:Nat->(SlV NI)):Option (Bool):=bif (((na:Nat):Int) !=((nb:Nat):Int))then(some false)else(match(aD lV (((na,a),((nb,b),(0,()))),()))with|none=>none|some y=>(match y with| .inl y1=>(let t:=y1.1.1;some t)| .inr y1=>(some true)))
def Nw:=veil P8
theorem QU:Nw=P8:=au _
abbrev pO(nm:Nat)(m:Nat->(SlV NI))(i:Int):=(((nm,m),(i,())),())
abbrev Es:Type:=(Z01⊕((Z0a×Unit)×Unit))
abbrev UQ(t:Bool):Es:=(.inl ((t,()),()))
abbrev Hr(nm:Nat)(m:Nat->(SlV NI)):Es:=(.inr (((nm,m),()),()))
abbrev Ny:Type:=((Z0a×Z05)×Unit)
def iT:Ny->Option (Ny⊕Es):=λx=>let nm:=x.1.1.1;let m:=x.1.1.2;let i:=x.1.2.1;bif (decide (i<((nm:Nat):Int)))then(bif (inb i nm)then(bif (SlV.isMs (m (Int.toNat i)))then(none)else(bif (inb 0 nm)then(bif (SlV.isMs (m 0))then(none)else(bif ((((SlV.len (m (Int.toNat i))):Nat):Int) !=(((SlV.len (m 0)):Nat):Int))then(some (.inr (.inl ((false,()),()))))else(bif (inb i nm)then(bif (SlV.isMs (m (Int.toNat i)))then(none)else(bif (decide ((((SlV.len (m (Int.toNat i))):Nat):Int)<1))then(some (.inr (.inl ((false,()),()))))else(bif (inb i nm)then(bif (SlV.isMs (m (Int.toNat i)))then(none)else(bif (decide ((((SlV.len (m (Int.toNat i))):Nat):Int)>7))then(some (.inr (.inl ((false,()),()))))else(some (.inl (((nm,m),((i64.wrap (i+1)),())),())))))else(none))))else(none))))else(none)))else(none))else(some (.inr (.inr (((nm,m),()),()))))
def P9(nm:Nat)(m:Nat->(SlV NI)):Option (Bool):=match(aD iT (((nm,m),(0,())),()))with|none=>none|some y=>(match y with| .inl y1=>(let t:=y1.1.1;some t)| .inr y1=>(let nm1:=y1.1.1.1;let m1:=y1.1.1.2;bif (decide (((nm1:Nat):Int)>=1))then(some (decide (((nm1:Nat):Int)<=25)))else(some false)))
def Nz:=veil P9
theorem QV:Nz=P9:=au _
abbrev Ci(nm:Nat)(m:Nat->(SlV NI))(s:ByteArray)(i:Int)(k:Int):=(((nm,m),(s,(i,(k,())))),())
abbrev Fa(nm:Nat)(m:Nat->(SlV NI))(s:ByteArray)(i:Int):=(((nm,m),(s,(i,()))),())
abbrev Ka:Type:=((Z0a×(ByteArray×(Int×Z05)))×Unit)
def mQ:Ka->Option (Ka⊕((Z0a×(ByteArray×Z05))×Unit)):=λx=>let nm:=x.1.1.1;let m:=x.1.1.2;let s:=x.1.2.1;let i:=x.1.2.2.1;let k:=x.1.2.2.2.1;bif (inb i nm)then(bif (SlV.isMs (m (Int.toNat i)))then(none)else(bif (decide (k<(((SlV.len (m (Int.toNat i))):Nat):Int)))then(bif (inb i nm)then(bif (SlV.isMs (m (Int.toNat i)))then(none)else(bif (inb k (SlV.len (m (Int.toNat i))))then(match(IK ((SlV.fn ((λ_=>0):NI) (m (Int.toNat i))) (Int.toNat k)))with|none=>none|some r=>(bif (decide (((((ByteArray.size s)+(ByteArray.size (bytesOf 1 (λj=>(upd (λ_=>0) 0 (u8.wrap (((ByteArray.size r):Nat):Int))) (0+j))))):Nat):Int)>IntKind.i64.max))then(none)else(bif (decide (((((ByteArray.size (s++(bytesOf 1 (λj=>(upd (λ_=>0) 0 (u8.wrap (((ByteArray.size r):Nat):Int))) (0+j)))))+(ByteArray.size r)):Nat):Int)>IntKind.i64.max))then(none)else(let t:=((s++(bytesOf 1 (λj=>(upd (λ_=>0) 0 (u8.wrap (((ByteArray.size r):Nat):Int))) (0+j))))++r);some (.inl (((nm,m),(t,(i,((i64.wrap (k+1)),())))),()))))))else(none)))else(none))else(some (.inr (((nm,m),(s,(i,()))),())))))else(none)
abbrev Cj(nm:Nat)(m:Nat->(SlV NI))(s:ByteArray)(i:Int):=(((nm,m),(s,(i,()))),())
abbrev Fb(s:ByteArray):=((s,()),())
abbrev Kc:Type:=((Z0a×(ByteArray×Z05))×Unit)
def jV:Kc->Option (Kc⊕((ByteArray×Unit)×Unit)):=λx=>let nm:=x.1.1.1;let m:=x.1.1.2;let s:=x.1.2.1;let i:=x.1.2.2.1;bif (decide (i<((nm:Nat):Int)))then(match(aD mQ (((nm,m),(s,(i,(0,())))),()))with|none=>none|some y=>(let nm1:=y.1.1.1;let m1:=y.1.1.2;let s1:=y.1.2.1;let i1:=y.1.2.2.1;some (.inl (((nm1,m1),(s1,((i64.wrap (i1+1)),()))),()))))else(some (.inr ((s,()),())))
def Lj(nm:Nat)(m:Nat->(SlV NI)):Option Z0u:=match(Nz nm m)with|none=>none|some r=>(bif (!r)then(some (ByteArray.mk #[]))else(bif (inb 0 nm)then(bif (SlV.isMs (m 0))then(none)else(let t:=(bytesOf 2 (λj=>(upd (upd (λ_=>0) 0 (u8.wrap ((nm:Nat):Int))) 1 (u8.wrap (((SlV.len (m 0)):Nat):Int))) (0+j)));match(aD jV (((nm,m),(t,(0,()))),()))with|none=>none|some y=>(let s:=y.1.1;some s)))else(none)))
def J3:=veil Lj
theorem NA:J3=Lj:=au _
abbrev Ll(nl:Nat)(l:Nat->NI)(q:Int)(i:Int):=(((nl,l),(q,(i,()))),())
abbrev UR:Type:=(Z01⊕Z07)
abbrev Et:UR:=(.inr ((),()))
abbrev UU:Type:=((Z0d×(Int×Z05))×Unit)
def w9:UU->Option (UU⊕UR):=λx=>let nl:=x.1.1.1;let l:=x.1.1.2;let q:=x.1.2.1;let i:=x.1.2.2.1;bif (decide (i<((nl:Nat):Int)))then(bif (inb i nl)then(match(aV q)with|none=>none|some r=>(match(Sn (l (Int.toNat i)) r)with|none=>none|some r1=>(bif (decide (r1>=0))then(some (.inr (.inl ((false,()),()))))else(some (.inl (((nl,l),(q,((i64.wrap (i+1)),()))),()))))))else(none))else(some (.inr (.inr ((),()))))
def Zu(nl:Nat)(l:Nat->NI)(q:Int):Option (Bool):=match(aD w9 (((nl,l),(q,(0,()))),()))with|none=>none|some y=>(match y with| .inl y1=>(let t:=y1.1.1;some t)| .inr y1=>(some true))
def Ae:=veil Zu
theorem Y3:Ae=Zu:=au _
def xk(s:Z0g)(numbers:Nat->NI)(nrandom:Nat)(random:Nat->NI):Option Z0k:=bif (((nrandom:Nat):Int) !=1)then(some (((0,(λ_=>.nil)),((0,(λ_=>(0,.nil))),(1,()))),()))else(match(Ae 1 numbers s.2.1)with|none=>none|some r=>(bif (!r)then(some (((0,(λ_=>.nil)),((0,(λ_=>(0,.nil))),(1,()))),()))else(match(Ae nrandom random s.2.1)with|none=>none|some r1=>(bif (!r1)then(some (((0,(λ_=>.nil)),((0,(λ_=>(0,.nil))),(1,()))),()))else(bif (decide (1<=((nrandom:Nat):Int)))then(match(wZ 2 (λj=>(glue 1 (upd zNN 0 (numbers 0)) (λj=>random (0+j))) (0+j)) s.2.1)with|none=>none|some r2=>(match(ql s r2.1 r2.2 2)with|none=>none|some r3=>(match(bE r2.1 r2.2 1 s.2.1)with|none=>none|some r4=>(match(aV r4)with|none=>none|some r5=>(match(bE r2.1 r2.2 2 s.2.1)with|none=>none|some r6=>(match(aV r6)with|none=>none|some r7=>(match(bE r2.1 r2.2 3 s.2.1)with|none=>none|some r8=>(match(aV r8)with|none=>none|some r9=>(match(bE r2.1 r2.2 4 s.2.1)with|none=>none|some r10=>(match(aV r10)with|none=>none|some r11=>(some (((1,(λj=>(glue 0 (λ_=>.nil) (λj=>(upd (λ_=>.nil) 0 (.fz r3.1 r3.2)) (0+j))) (0+j))),((4,(λj=>(upd (upd (upd (upd (upd (upd (upd (upd (upd (upd (upd (upd (λ(_:Nat)=>((0,.nil):Z0K)) 0 (1,.nil)) 0 (1,(.ms 7 [] 0 1))) 1 (2,.nil)) 1 (2,(.ms 9 [] 0 1))) 2 (3,.nil)) 2 (3,(.ms 11 [] 0 1))) 3 (4,.nil)) 3 (4,(.ms 13 [] 0 1))) 3 (4,(.fz 1 (λj=>(glue 0 zNN (λj=>(upd zNN 0 r11) (0+j))) (0+j))))) 2 (3,(.fz 1 (λj=>(glue 0 zNN (λj=>(upd zNN 0 r9) (0+j))) (0+j))))) 1 (2,(.fz 1 (λj=>(glue 0 zNN (λj=>(upd zNN 0 r7) (0+j))) (0+j))))) 0 (1,(.fz 1 (λj=>(glue 0 zNN (λj=>(upd zNN 0 r5) (0+j))) (0+j))))) (0+j))),(0,()))),()))))))))))))else(none))))))
def xq(s:Z0g)(numbers:Nat->NI)(nrandom:Nat)(random:Nat->NI):Option Z0k:=bif (((nrandom:Nat):Int) !=2)then(some (((0,(λ_=>.nil)),((0,(λ_=>(0,.nil))),(1,()))),()))else(match(Ae 2 numbers s.2.1)with|none=>none|some r=>(bif (!r)then(some (((0,(λ_=>.nil)),((0,(λ_=>(0,.nil))),(1,()))),()))else(match(Ae nrandom random s.2.1)with|none=>none|some r1=>(bif (!r1)then(some (((0,(λ_=>.nil)),((0,(λ_=>(0,.nil))),(1,()))),()))else(bif (decide (1<=((nrandom:Nat):Int)))then(match(wZ 2 (λj=>(glue 1 (upd zNN 0 (numbers 0)) (λj=>random (0+j))) (0+j)) s.2.1)with|none=>none|some r2=>(match(ql s r2.1 r2.2 2)with|none=>none|some r3=>(match(bE r2.1 r2.2 1 s.2.1)with|none=>none|some r4=>(match(aV r4)with|none=>none|some r5=>(match(bE r2.1 r2.2 2 s.2.1)with|none=>none|some r6=>(match(aV r6)with|none=>none|some r7=>(match(bE r2.1 r2.2 3 s.2.1)with|none=>none|some r8=>(match(aV r8)with|none=>none|some r9=>(match(bE r2.1 r2.2 4 s.2.1)with|none=>none|some r10=>(match(aV r10)with|none=>none|some r11=>(bif (decide (2<=((nrandom:Nat):Int)))then(match(wZ 2 (λj=>(glue 1 (upd zNN 0 (numbers 1)) (λj=>random (1+j))) (0+j)) s.2.1)with|none=>none|some r12=>(match(ql s r12.1 r12.2 2)with|none=>none|some r13=>(match(bE r12.1 r12.2 1 s.2.1)with|none=>none|some r14=>(match(aV r14)with|none=>none|some r15=>(match(bE r12.1 r12.2 2 s.2.1)with|none=>none|some r16=>(match(aV r16)with|none=>none|some r17=>(match(bE r12.1 r12.2 3 s.2.1)with|none=>none|some r18=>(match(aV r18)with|none=>none|some r19=>(match(bE r12.1 r12.2 4 s.2.1)with|none=>none|some r20=>(match(aV r20)with|none=>none|some r21=>(some (((2,(λj=>(glue 1 (glue 0 (λ_=>.nil) (λj=>(upd (λ_=>.nil) 0 (.fz r3.1 r3.2)) (0+j))) (λj=>(upd (λ_=>.nil) 0 (.fz r13.1 r13.2)) (0+j))) (0+j))),((4,(λj=>(upd (upd (upd (upd (upd (upd (upd (upd (upd (upd (upd (upd (upd (upd (upd (upd (upd (upd (upd (upd (λ(_:Nat)=>((0,.nil):Z0K)) 0 (1,.nil)) 0 (1,(.ms 7 [] 0 1))) 1 (2,.nil)) 1 (2,(.ms 9 [] 0 1))) 2 (3,.nil)) 2 (3,(.ms 11 [] 0 1))) 3 (4,.nil)) 3 (4,(.ms 13 [] 0 1))) 0 (1,(.ms 7 [] 0 1))) 0 (1,(.ms 19 [] 0 2))) 1 (2,(.ms 9 [] 0 1))) 1 (2,(.ms 21 [] 0 2))) 2 (3,(.ms 11 [] 0 1))) 2 (3,(.ms 23 [] 0 2))) 3 (4,(.ms 13 [] 0 1))) 3 (4,(.ms 25 [] 0 2))) 3 (4,(.fz 2 (λj=>(glue 1 (glue 0 zNN (λj=>(upd zNN 0 r11) (0+j))) (λj=>(upd zNN 0 r21) (0+j))) (0+j))))) 2 (3,(.fz 2 (λj=>(glue 1 (glue 0 zNN (λj=>(upd zNN 0 r9) (0+j))) (λj=>(upd zNN 0 r19) (0+j))) (0+j))))) 1 (2,(.fz 2 (λj=>(glue 1 (glue 0 zNN (λj=>(upd zNN 0 r7) (0+j))) (λj=>(upd zNN 0 r17) (0+j))) (0+j))))) 0 (1,(.fz 2 (λj=>(glue 1 (glue 0 zNN (λj=>(upd zNN 0 r5) (0+j))) (λj=>(upd zNN 0 r15) (0+j))) (0+j))))) (0+j))),(0,()))),()))))))))))))else(none))))))))))))else(none))))))
def xu(s:Z0g)(numbers:Nat->NI)(nrandom:Nat)(random:Nat->NI):Option Z0k:=bif (((nrandom:Nat):Int) !=2)then(some (((0,(λ_=>.nil)),((0,(λ_=>(0,.nil))),(1,()))),()))else(match(Ae 1 numbers s.2.1)with|none=>none|some r=>(bif (!r)then(some (((0,(λ_=>.nil)),((0,(λ_=>(0,.nil))),(1,()))),()))else(match(Ae nrandom random s.2.1)with|none=>none|some r1=>(bif (!r1)then(some (((0,(λ_=>.nil)),((0,(λ_=>(0,.nil))),(1,()))),()))else(bif (decide (2<=((nrandom:Nat):Int)))then(match(wZ 3 (λj=>(glue 1 (upd zNN 0 (numbers 0)) (λj=>random (0+j))) (0+j)) s.2.1)with|none=>none|some r2=>(match(ql s r2.1 r2.2 3)with|none=>none|some r3=>(match(bE r2.1 r2.2 1 s.2.1)with|none=>none|some r4=>(match(aV r4)with|none=>none|some r5=>(match(bE r2.1 r2.2 2 s.2.1)with|none=>none|some r6=>(match(aV r6)with|none=>none|some r7=>(match(bE r2.1 r2.2 3 s.2.1)with|none=>none|some r8=>(match(aV r8)with|none=>none|some r9=>(match(bE r2.1 r2.2 4 s.2.1)with|none=>none|some r10=>(match(aV r10)with|none=>none|some r11=>(match(bE r2.1 r2.2 5 s.2.1)with|none=>none|some r12=>(match(aV r12)with|none=>none|some r13=>(match(bE r2.1 r2.2 6 s.2.1)with|none=>none|some r14=>(match(aV r14)with|none=>none|some r15=>(match(bE r2.1 r2.2 7 s.2.1)with|none=>none|some r16=>(match(aV r16)with|none=>none|some r17=>(some (((1,(λj=>(glue 0 (λ_=>.nil) (λj=>(upd (λ_=>.nil) 0 (.fz r3.1 r3.2)) (0+j))) (0+j))),((7,(λj=>(upd (upd (upd (upd (upd (upd (upd (upd (upd (upd (upd (upd (upd (upd (upd (upd (upd (upd (upd (upd (upd (λ(_:Nat)=>((0,.nil):Z0K)) 0 (1,.nil)) 0 (1,(.ms 7 [] 0 1))) 1 (2,.nil)) 1 (2,(.ms 9 [] 0 1))) 2 (3,.nil)) 2 (3,(.ms 11 [] 0 1))) 3 (4,.nil)) 3 (4,(.ms 13 [] 0 1))) 4 (5,.nil)) 4 (5,(.ms 15 [] 0 1))) 5 (6,.nil)) 5 (6,(.ms 17 [] 0 1))) 6 (7,.nil)) 6 (7,(.ms 19 [] 0 1))) 6 (7,(.fz 1 (λj=>(glue 0 zNN (λj=>(upd zNN 0 r17) (0+j))) (0+j))))) 5 (6,(.fz 1 (λj=>(glue 0 zNN (λj=>(upd zNN 0 r15) (0+j))) (0+j))))) 4 (5,(.fz 1 (λj=>(glue 0 zNN (λj=>(upd zNN 0 r13) (0+j))) (0+j))))) 3 (4,(.fz 1 (λj=>(glue 0 zNN (λj=>(upd zNN 0 r11) (0+j))) (0+j))))) 2 (3,(.fz 1 (λj=>(glue 0 zNN (λj=>(upd zNN 0 r9) (0+j))) (0+j))))) 1 (2,(.fz 1 (λj=>(glue 0 zNN (λj=>(upd zNN 0 r7) (0+j))) (0+j))))) 0 (1,(.fz 1 (λj=>(glue 0 zNN (λj=>(upd zNN 0 r5) (0+j))) (0+j))))) (0+j))),(0,()))),()))))))))))))))))))else(none))))))
def xw(s:Z0g)(numbers:Nat->NI)(nrandom:Nat)(random:Nat->NI):Option Z0k:=bif (((nrandom:Nat):Int) !=4)then(some (((0,(λ_=>.nil)),((0,(λ_=>(0,.nil))),(1,()))),()))else(match(Ae 2 numbers s.2.1)with|none=>none|some r=>(bif (!r)then(some (((0,(λ_=>.nil)),((0,(λ_=>(0,.nil))),(1,()))),()))else(match(Ae nrandom random s.2.1)with|none=>none|some r1=>(bif (!r1)then(some (((0,(λ_=>.nil)),((0,(λ_=>(0,.nil))),(1,()))),()))else(bif (decide (2<=((nrandom:Nat):Int)))then(match(wZ 3 (λj=>(glue 1 (upd zNN 0 (numbers 0)) (λj=>random (0+j))) (0+j)) s.2.1)with|none=>none|some r2=>(match(ql s r2.1 r2.2 3)with|none=>none|some r3=>(match(bE r2.1 r2.2 1 s.2.1)with|none=>none|some r4=>(match(aV r4)with|none=>none|some r5=>(match(bE r2.1 r2.2 2 s.2.1)with|none=>none|some r6=>(match(aV r6)with|none=>none|some r7=>(match(bE r2.1 r2.2 3 s.2.1)with|none=>none|some r8=>(match(aV r8)with|none=>none|some r9=>(match(bE r2.1 r2.2 4 s.2.1)with|none=>none|some r10=>(match(aV r10)with|none=>none|some r11=>(match(bE r2.1 r2.2 5 s.2.1)with|none=>none|some r12=>(match(aV r12)with|none=>none|some r13=>(match(bE r2.1 r2.2 6 s.2.1)with|none=>none|some r14=>(match(aV r14)with|none=>none|some r15=>(match(bE r2.1 r2.2 7 s.2.1)with|none=>none|some r16=>(match(aV r16)with|none=>none|some r17=>(bif (decide (4<=((nrandom:Nat):Int)))then(match(wZ 3 (λj=>(glue 1 (upd zNN 0 (numbers 1)) (λj=>random (2+j))) (0+j)) s.2.1)with|none=>none|some r18=>(match(ql s r18.1 r18.2 3)with|none=>none|some r19=>(match(bE r18.1 r18.2 1 s.2.1)with|none=>none|some r20=>(match(aV r20)with|none=>none|some r21=>(match(bE r18.1 r18.2 2 s.2.1)with|none=>none|some r22=>(match(aV r22)with|none=>none|some r23=>(match(bE r18.1 r18.2 3 s.2.1)with|none=>none|some r24=>(match(aV r24)with|none=>none|some r25=>(match(bE r18.1 r18.2 4 s.2.1)with|none=>none|some r26=>(match(aV r26)with|none=>none|some r27=>(match(bE r18.1 r18.2 5 s.2.1)with|none=>none|some r28=>(match(aV r28)with|none=>none|some r29=>(match(bE r18.1 r18.2 6 s.2.1)with|none=>none|some r30=>(match(aV r30)with|none=>none|some r31=>(match(bE r18.1 r18.2 7 s.2.1)with|none=>none|some r32=>(match(aV r32)with|none=>none|some r33=>(some (((2,(λj=>(glue 1 (glue 0 (λ_=>.nil) (λj=>(upd (λ_=>.nil) 0 (.fz r3.1 r3.2)) (0+j))) (λj=>(upd (λ_=>.nil) 0 (.fz r19.1 r19.2)) (0+j))) (0+j))),((7,(λj=>(upd (upd (upd (upd (upd (upd (upd (upd (upd (upd (upd (upd (upd (upd (upd (upd (upd (upd (upd (upd (upd (upd (upd (upd (upd (upd (upd (upd (upd (upd (upd (upd (upd (upd (upd (λ(_:Nat)=>((0,.nil):Z0K)) 0 (1,.nil)) 0 (1,(.ms 7 [] 0 1))) 1 (2,.nil)) 1 (2,(.ms 9 [] 0 1))) 2 (3,.nil)) 2 (3,(.ms 11 [] 0 1))) 3 (4,.nil)) 3 (4,(.ms 13 [] 0 1))) 4 (5,.nil)) 4 (5,(.ms 15 [] 0 1))) 5 (6,.nil)) 5 (6,(.ms 17 [] 0 1))) 6 (7,.nil)) 6 (7,(.ms 19 [] 0 1))) 0 (1,(.ms 7 [] 0 1))) 0 (1,(.ms 25 [] 0 2))) 1 (2,(.ms 9 [] 0 1))) 1 (2,(.ms 27 [] 0 2))) 2 (3,(.ms 11 [] 0 1))) 2 (3,(.ms 29 [] 0 2))) 3 (4,(.ms 13 [] 0 1))) 3 (4,(.ms 31 [] 0 2))) 4 (5,(.ms 15 [] 0 1))) 4 (5,(.ms 33 [] 0 2))) 5 (6,(.ms 17 [] 0 1))) 5 (6,(.ms 35 [] 0 2))) 6 (7,(.ms 19 [] 0 1))) 6 (7,(.ms 37 [] 0 2))) 6 (7,(.fz 2 (λj=>(glue 1 (glue 0 zNN (λj=>(upd zNN 0 r17) (0+j))) (λj=>(upd zNN 0 r33) (0+j))) (0+j))))) 5 (6,(.fz 2 (λj=>(glue 1 (glue 0 zNN (λj=>(upd zNN 0 r15) (0+j))) (λj=>(upd zNN 0 r31) (0+j))) (0+j))))) 4 (5,(.fz 2 (λj=>(glue 1 (glue 0 zNN (λj=>(upd zNN 0 r13) (0+j))) (λj=>(upd zNN 0 r29) (0+j))) (0+j))))) 3 (4,(.fz 2 (λj=>(glue 1 (glue 0 zNN (λj=>(upd zNN 0 r11) (0+j))) (λj=>(upd zNN 0 r27) (0+j))) (0+j))))) 2 (3,(.fz 2 (λj=>(glue 1 (glue 0 zNN (λj=>(upd zNN 0 r9) (0+j))) (λj=>(upd zNN 0 r25) (0+j))) (0+j))))) 1 (2,(.fz 2 (λj=>(glue 1 (glue 0 zNN (λj=>(upd zNN 0 r7) (0+j))) (λj=>(upd zNN 0 r23) (0+j))) (0+j))))) 0 (1,(.fz 2 (λj=>(glue 1 (glue 0 zNN (λj=>(upd zNN 0 r5) (0+j))) (λj=>(upd zNN 0 r21) (0+j))) (0+j))))) (0+j))),(0,()))),()))))))))))))))))))else(none))))))))))))))))))else(none))))))
def Ht(s:Z0g)(t:Int)(nnumbers:Nat)(numbers:Nat->NI)(nrandom:Nat)(random:Nat->NI):Option Z0k:=
 bif ((t==1)&&(Nat.beq nnumbers 1))then(
 (xk s numbers nrandom random))
 else(
 bif ((t==1)&&(Nat.beq nnumbers 2))then(
 (xq s numbers nrandom random))
 else(
 bif ((t==2)&&(Nat.beq nnumbers 1))then(
 (xu s numbers nrandom random))
 else(
 bif ((t==2)&&(Nat.beq nnumbers 2))then(
 (xw s numbers nrandom random))
 else(
 none))))
def Eu:=veil Ht
theorem Ke:Eu=Ht:=au _
def Hu(nm:Nat)(m:Nat->(SlV NI)):Option Z0u:=match(J3 nm m)with|none=>none|some r=>(match(Nt r)with|none=>none|some r1=>(some r1))
def rR:=veil Hu
theorem Kg:rR=Hu:=au _
open Go.IntKind (i64 u64 u32 u8)
abbrev Ev(na:Nat)(a:Nat->ByteArray)(nb:Nat)(b:Nat->ByteArray)(i:Int):=(((na,a),((nb,b),(i,()))),())
abbrev NC:Type:=(Z01⊕Z07)
abbrev Hw:NC:=(.inr ((),()))
abbrev ND:Type:=((Z0h×(Z0h×Z05))×Unit)
def pQ:ND->Option (ND⊕NC):=λx=>let na:=x.1.1.1;let a:=x.1.1.2;let nb:=x.1.2.1.1;let b:=x.1.2.1.2;let i:=x.1.2.2.1;bif (decide (i<((na:Nat):Int)))then(bif (inb i na)then(bif (inb i nb)then(bif (!(sEq (a (Int.toNat i)) (b (Int.toNat i))))then(some (.inr (.inl ((false,()),()))))else(some (.inl (((na,a),((nb,b),((i64.wrap (i+1)),()))),()))))else(none))else(none))else(some (.inr (.inr ((),()))))
def Pb(na:Nat)(a:Nat->ByteArray)(nb:Nat)(b:Nat->ByteArray):Option (Bool):=bif (((na:Nat):Int) !=((nb:Nat):Int))then(some false)else(match(aD pQ (((na,a),((nb,b),(0,()))),()))with|none=>none|some y=>(match y with| .inl y1=>(let t:=y1.1.1;some t)| .inr y1=>(some true)))
def Hy:=veil Pb
theorem QW:Hy=Pb:=au _
open Go.IntKind (i64 u64 u32 u8)
def Pd(a:Z0e)(b:Z0e):Option (Bool):=bif (a.1==b.1)then(bif (a.2.1==b.2.1)then(bif (sEq a.2.2.1 b.2.2.1)then(bif (eqF (.pair (.int .i64) (.int .i64)) a.2.2.2.1 b.2.2.2.1)then(bif (sEq a.2.2.2.2.1 b.2.2.2.2.1)then(match(Nw a.2.2.2.2.2.1.1 a.2.2.2.2.2.1.2 b.2.2.2.2.2.1.1 b.2.2.2.2.2.1.2)with|none=>none|some r=>(bif r then(match(GZ a.2.2.2.2.2.2.1 a.2.2.2.2.2.2.2 b.2.2.2.2.2.2.1 b.2.2.2.2.2.2.2)with|none=>none|some r1=>(some r1))else(some false)))else(some false))else(some false))else(some false))else(some false))else(some false)
def Hz:=veil Pd
theorem QX:Hz=Pd:=au _
open Go.IntKind (i64 u64 u32 u8)
def UW(g:Z0g)(t:Int)(number:Int)(clients:Int):Option ((Option Z0A)):=some (some (g,(t,(number,((i64.wrap ((i64.wrap (3*t))+1)),(clients,(((i64.wrap ((i64.wrap (3*t))+1)),(clients,(.nil,.nil))),(.nil,.nil))))))))
def Ew:=veil UW
theorem UY:Ew=UW:=au _
abbrev wh(na:Nat)(a:Nat->OU)(nb:Nat)(b:Nat->OU)(i:Int):=(((na,a),((nb,b),(i,()))),())
abbrev Dg:Type:=(Z01⊕Z07)
abbrev rT:Dg:=(.inr ((),()))
abbrev Dh:Type:=((Z0B×(Z0B×Z05))×Unit)
def j4:Dh->Option (Dh⊕Dg):=λx=>let na:=x.1.1.1;let a:=x.1.1.2;let nb:=x.1.2.1.1;let b:=x.1.2.1.2;let i:=x.1.2.2.1;bif (decide (i<((na:Nat):Int)))then(bif (inb i na)then(bif (inb i nb)then(bif ((a (Int.toNat i)).1 !=(b (Int.toNat i)).1)then(some (.inr (.inl ((false,()),()))))else(bif (inb i na)then(bif (SlV.isMs (a (Int.toNat i)).2.2.2.2.2.2.1)then(none)else(bif (SlV.isMs (a (Int.toNat i)).2.2.2.2.2.2.2)then(none)else(bif (inb i nb)then(bif (SlV.isMs (b (Int.toNat i)).2.2.2.2.2.2.1)then(none)else(bif (SlV.isMs (b (Int.toNat i)).2.2.2.2.2.2.2)then(none)else(match(Hz ((a (Int.toNat i)).2.1,((a (Int.toNat i)).2.2.1,((a (Int.toNat i)).2.2.2.1,((a (Int.toNat i)).2.2.2.2.1,((a (Int.toNat i)).2.2.2.2.2.1,(((SlV.len (a (Int.toNat i)).2.2.2.2.2.2.1),(SlV.fn (.nil:(SlV NI)) (a (Int.toNat i)).2.2.2.2.2.2.1)),((SlV.len (a (Int.toNat i)).2.2.2.2.2.2.2),(SlV.fn ((λ_=>0):NI) (a (Int.toNat i)).2.2.2.2.2.2.2)))))))) ((b (Int.toNat i)).2.1,((b (Int.toNat i)).2.2.1,((b (Int.toNat i)).2.2.2.1,((b (Int.toNat i)).2.2.2.2.1,((b (Int.toNat i)).2.2.2.2.2.1,(((SlV.len (b (Int.toNat i)).2.2.2.2.2.2.1),(SlV.fn (.nil:(SlV NI)) (b (Int.toNat i)).2.2.2.2.2.2.1)),((SlV.len (b (Int.toNat i)).2.2.2.2.2.2.2),(SlV.fn ((λ_=>0):NI) (b (Int.toNat i)).2.2.2.2.2.2.2)))))))))with|none=>none|some r=>(bif (!r)then(some (.inr (.inl ((false,()),()))))else(some (.inl (((na,a),((nb,b),((i64.wrap (i+1)),()))),())))))))else(none))))else(none)))else(none))else(none))else(some (.inr (.inr ((),()))))
def Ck(na:Nat)(a:Nat->OU)(nb:Nat)(b:Nat->OU):Option (Bool):=bif (((na:Nat):Int) !=((nb:Nat):Int))then(some false)else(match(aD j4 (((na,a),((nb,b),(0,()))),()))with|none=>none|some y=>(match y with| .inl y1=>(let t:=y1.1.1;some t)| .inr y1=>(some true)))
def uq:=veil Ck
theorem Fe:uq=Ck:=au _
open Go.IntKind (i64 u64 u32 u8)
open Classical in
open Go.IntKind (i64 u64 u32 u8)
open Go.IntKind (i64 u64 u32 u8)
abbrev nJ(ns:Nat)(s:Nat->NI)(t:Int)(t1:Int)(o:Z02):=(((ns,s),((),(t,(t1,())))),(o,()))
abbrev uw:Type:=((Z05×(Z02×(NI×Unit)))⊕(Unit×(Z02×Unit)))
abbrev qm(t:Int)(o:Z02)(o1:NI):uw:=(.inl ((t,()),(o,(o1,()))))
abbrev qo(o:Z02):uw:=(.inr ((),(o,())))
abbrev Bp:Type:=((Z0d×Z0r)×(Z02×Unit))
def fD:Bp->Option (Bp⊕uw):=λx=>let ns:=x.1.1.1;let s:=x.1.1.2;let t:=x.1.2.2.1;let t1:=x.1.2.2.2.1;let o:=x.2.1;bif (decide (t1<t))then(bif (inb t1 ns)then(match(Np (some o) (s (Int.toNat t1)))with|none=>none|some r=>(bif (!r)then(some (.inr (.inl ((t1,()),(o,((s (Int.toNat t1)),()))))))else(some (.inl (((ns,s),((),(t,((i64.wrap (t1+1)),())))),(o,()))))))else(none))else(some (.inr (.inr ((),(o,())))))
def Bq(g:Z0w)(nc:Nat)(c:Nat->NI):Option (Bool):=match g with|none=>(bif (decide (((nc:Nat):Int)>=1))then(bif (decide (((nc:Nat):Int)<=7))then(none)else(some false))else(some false))|some g0=>(bif (decide (((nc:Nat):Int)>=1))then(bif (decide (((nc:Nat):Int)<=7))then(match(aD fD (((nc,c),((),(((nc:Nat):Int),(0,())))),(g0,())))with|none=>none|some y=>(match y with| .inl y1=>(let t:=y1.1.1;let o:=y1.2.1;let o1:=y1.2.2.1;some (!(decide (t>=0))))| .inr y1=>(let o2:=y1.2.1;some true)))else(some false))else(some false))
def wm:=veil Bq
theorem Kh:wm=Bq:=au _
abbrev Cm(g:Z02)(nc:Nat)(c:Nat->NI)(i:Int)(nexps:Nat)(exps:Nat->NI)(p:Int)(t:Int)(t1:Int)(t2:NI):=((g,((nc,c),(i,((),((nexps,exps),(p,(t,(t1,())))))))),(t2,()))
abbrev yC(g:Z02)(nc:Nat)(c:Nat->NI)(nexps:Nat)(exps:Nat->NI)(t:NI):=((g,((nc,c),((),((nexps,exps),())))),(t,()))
abbrev Ki:Type:=((Z02×(Z0d×(Int×(Unit×(Z0d×Z0s)))))×(NI×Unit))
def mR:Ki->Option (Ki⊕((Z02×(Z0d×(Unit×(Z0d×Unit))))×(NI×Unit))):=λx=>let g:=x.1.1;let nc:=x.1.2.1.1;let c:=x.1.2.1.2;let i:=x.1.2.2.1;let nexps:=x.1.2.2.2.2.1.1;let exps:=x.1.2.2.2.2.1.2;let p:=x.1.2.2.2.2.2.1;let t:=x.1.2.2.2.2.2.2.1;let t1:=x.1.2.2.2.2.2.2.2.1;let t2:=x.2.1;bif (decide (t1<t))then(match(cZ p)with|none=>none|some r=>(bif ((Nat.ble ((nexps+1)*32) 140737488355328)&&(Nat.ble (nexps+1) 9223372036854775807))then(some (.inl ((g,((nc,c),(i,((),(((nexps+1),(glue nexps exps (λj=>(upd (λ_=>(λ_=>0)) 0 r) (0+j)))),((i64.wrap (p*i)),(t,((i64.wrap (t1+1)),())))))))),(t2,()))))else(none)))else(some (.inr ((g,((nc,c),((),((nexps,exps),())))),(t2,()))))
def Ey(g:Z0w)(nc:Nat)(c:Nat->NI)(i:Int):Option (NI):=match g with|none=>(bif (decide (i<0))then(some (λ_=>0))else(bif (decide (i>7))then(some (λ_=>0))else(bif (decide (((nc:Nat):Int)>7))then(some (λ_=>0))else(none))))|some g0=>(bif (decide (i<0))then(some (λ_=>0))else(bif (decide (i>7))then(some (λ_=>0))else(bif (decide (((nc:Nat):Int)>7))then(some (λ_=>0))else(match(aD mR ((g0,((nc,c),(i,((),((0,(λ_=>(λ_=>0))),(1,(((nc:Nat):Int),(0,())))))))),((λ_=>0),())))with|none=>none|some y=>(let g1:=y.1.1;let nc1:=y.1.2.1.1;let c1:=y.1.2.1.2;let nexps:=y.1.2.2.2.1.1;let exps:=y.1.2.2.2.1.2;let t:=y.2.1;match(Bo (some g1) nc1 c1 nexps (λj=>exps (0+j)))with|none=>none|some r=>(some r.1))))))
def Di:=veil Ey
theorem NG:Di=Ey:=au _
def xA(g:Z0w)(nc:Nat)(c:Nat->NI)(s:(Int×NI)):Option (Bool):=match g with|none=>(bif (decide (s.1>=1))then(bif (decide (s.1<=7))then(match(H6 none s.2)with|none=>none|some r4=>(bif r4 then(match(wm none nc c)with|none=>none|some r5=>(bif r5 then(match(H8 none s.2)with|none=>none|some r6=>(match(Di none nc c s.1)with|none=>none|some r7=>(some (eqF (.arr 4 (.int .u64)) r6 r7))))else(some false)))else(some false)))else(some false))else(some false))|some g0=>(bif (decide (s.1>=1))then(bif (decide (s.1<=7))then(match(H6 (some g0) s.2)with|none=>none|some r=>(bif r then(match(wm (some g0) nc c)with|none=>none|some r1=>(bif r1 then(match(H8 (some g0) s.2)with|none=>none|some r2=>(match(Di (some g0) nc c s.1)with|none=>none|some r3=>(some (eqF (.arr 4 (.int .u64)) r2 r3))))else(some false)))else(some false)))else(some false))else(some false))
def zu:=veil xA
theorem Fg:zu=xA:=au _
open Go.IntKind (i64 u64 u32 u8)
def UZ:Option (NI):=some (upd (upd (upd (upd (upd (upd (upd (upd (λ_=>0) 0 1779033703) 1 3144134277) 2 1013904242) 3 2773480762) 4 1359893119) 5 2600822924) 6 528734635) 7 1541459225)
def Dj:=veil UZ
theorem Ez:Dj=UZ:=au _
def Lm:Option ((Z07×(Z0b×Unit))):=match Dj with|none=>none|some r=>(some (((),()),((true,(r,((λ_=>0),0))),())))
def Pe:=veil Lm
theorem NH:Pe=Lm:=au _
def HV:Option (NI):=some (upd (upd (upd (upd (upd (upd (upd (upd (upd (upd (upd (upd (upd (upd (upd (upd (upd (upd (upd (upd (upd (upd (upd (upd (upd (upd (upd (upd (upd (upd (upd (upd (upd (upd (upd (upd (upd (upd (upd (upd (upd (upd (upd (upd (upd (upd (upd (upd (upd (upd (upd (upd (upd (upd (upd (upd (upd (upd (upd (upd (upd (upd (upd (upd (λ_=>0) 0 1116352408) 1 1899447441) 2 3049323471) 3 3921009573) 4 961987163) 5 1508970993) 6 2453635748) 7 2870763221) 8 3624381080) 9 310598401) 10 607225278) 11 1426881987) 12 1925078388) 13 2162078206) 14 2614888103) 15 3248222580) 16 3835390401) 17 4022224774) 18 264347078) 19 604807628) 20 770255983) 21 1249150122) 22 1555081692) 23 1996064986) 24 2554220882) 25 2821834349) 26 2952996808) 27 3210313671) 28 3336571891) 29 3584528711) 30 113926993) 31 338241895) 32 666307205) 33 773529912) 34 1294757372) 35 1396182291) 36 1695183700) 37 1986661051) 38 2177026350) 39 2456956037) 40 2730485921) 41 2820302411) 42 3259730800) 43 3345764771) 44 3516065817) 45 3600352804) 46 4094571909) 47 275423344) 48 430227734) 49 506948616) 50 659060556) 51 883997877) 52 958139571) 53 1322822218) 54 1537002063) 55 1747873779) 56 1955562222) 57 2024104815) 58 2227730452) 59 2361852424) 60 2428436474) 61 2756734187) 62 3204031479) 63 3329325298)
def qN:=veil HV
theorem wo:qN=HV:=au _
def HY(x:Int)(n:Int):Option (Int):=match(u7 x (i64.wrap (0-n)))with|none=>none|some r=>(some r)
def fE:=veil HY
theorem Kj:fE=HY:=au _
abbrev gQ(t:Int)(b:NI)(t1:NI)(w:NI):=(((),((),((),(t,())))),(b,(t1,(w,()))))
abbrev rU(t:NI)(w:NI):=(((),((),())),(t,(w,())))
abbrev Dk:Type:=((Unit×Z0c)×(NI×Z06))
def gT:Dk->Option (Dk⊕(Z0i×Z06)):=λx=>let t:=x.1.2.2.2.1;let b:=x.2.1;let t1:=x.2.2.1;let w:=x.2.2.2.1;bif (decide (t<16))then(bif (inb (i64.wrap (4*t)) 64)then(bif (inb (i64.wrap ((i64.wrap (4*t))+1)) 64)then(let t2:=(av .or .u32 (iF .u32 (u32.wrap (b (Int.toNat (i64.wrap (4*t))))) 24) (iF .u32 (u32.wrap (b (Int.toNat (i64.wrap ((i64.wrap (4*t))+1))))) 16));bif (inb (i64.wrap ((i64.wrap (4*t))+2)) 64)then(let t3:=(av .or .u32 t2 (iF .u32 (u32.wrap (b (Int.toNat (i64.wrap ((i64.wrap (4*t))+2))))) 8));bif (inb (i64.wrap ((i64.wrap (4*t))+3)) 64)then(let t4:=(av .or .u32 t3 (u32.wrap (b (Int.toNat (i64.wrap ((i64.wrap (4*t))+3))))));bif (inb t 64)then(some (.inl (((),((),((),((i64.wrap (t+1)),())))),(b,(t1,((upd w (Int.toNat t) t4),()))))))else(none))else(none))else(none))else(none))else(none))else(some (.inr (((),((),())),(t1,(w,())))))
abbrev gU(k:Int)(t:NI)(w:NI):=(((),((),(k,()))),(t,(w,())))
abbrev rV(t:NI)(w:NI):=(((),((),())),(t,(w,())))
abbrev Dl:Type:=(Z0c×Z06)
def gV:Dl->Option (Dl⊕(Z0i×Z06)):=λx=>let k:=x.1.2.2.1;let t:=x.2.1;let w:=x.2.2.1;bif (decide (k<64))then(bif (inb (i64.wrap (k-15)) 64)then(bif (inb (i64.wrap (k-2)) 64)then(match(fE (w (Int.toNat (i64.wrap (k-15)))) 7)with|none=>none|some r=>(match(fE (w (Int.toNat (i64.wrap (k-15)))) 18)with|none=>none|some r1=>(let t1:=(av .xor .u32 (av .xor .u32 r r1) (bL .u32 (w (Int.toNat (i64.wrap (k-15)))) 3));match(fE (w (Int.toNat (i64.wrap (k-2)))) 17)with|none=>none|some r2=>(match(fE (w (Int.toNat (i64.wrap (k-2)))) 19)with|none=>none|some r3=>(let t2:=(av .xor .u32 (av .xor .u32 r2 r3) (bL .u32 (w (Int.toNat (i64.wrap (k-2)))) 10));bif (inb (i64.wrap (k-16)) 64)then(bif (inb (i64.wrap (k-7)) 64)then(let t3:=(u32.wrap ((u32.wrap ((w (Int.toNat (i64.wrap (k-16))))+t1))+(w (Int.toNat (i64.wrap (k-7))))));bif (inb k 64)then(some (.inl (((),((),((i64.wrap (k+1)),()))),(t,((upd w (Int.toNat k) (u32.wrap (t3+t2))),())))))else(none))else(none))else(none))))))else(none))else(none))else(some (.inr (((),((),())),(t,(w,())))))
def Cn(b:NI):Option (NI):=match(aD gT (((),((),((),(0,())))),(b,((λ_=>0),((λ_=>0),())))))with|none=>none|some y=>(let t:=y.2.1;let w:=y.2.2.1;match(aD gV (((),((),(16,()))),(t,(w,()))))with|none=>none|some y1=>(let t1:=y1.2.1;let w1:=y1.2.2.1;some w1))
def zw:=veil Cn
theorem Fh:zw=Cn:=au _
abbrev jW(t:Int)(v:NI)(t1:NI)(k:NI)(w:NI)(x1:NI):=(((),((),((),((),((),(t,())))))),(v,(t1,(k,(w,(x1,()))))))
abbrev yD(v:NI)(t:NI)(x1:NI):=(((),((),((),()))),(v,(t,(x1,()))))
abbrev Kk:Type:=((Unit×Z0C)×(NI×Z0v))
def jX:Kk->Option (Kk⊕((Unit×Z0i)×(NI×Z06))):=λx=>let t:=x.1.2.2.2.2.2.1;let v:=x.2.1;let t1:=x.2.2.1;let k:=x.2.2.2.1;let w:=x.2.2.2.2.1;let x1:=x.2.2.2.2.2.1;bif (decide (t<64))then(let t2:=(av .and .u32 (x1 4) (av .xor .u32 (x1 5) (x1 6)));let t3:=(av .and .u32 (x1 2) (av .or .u32 (x1 0) (x1 1)));match(fE (x1 4) 6)with|none=>none|some r=>(match(fE (x1 4) 11)with|none=>none|some r1=>(match(fE (x1 4) 25)with|none=>none|some r2=>(let t4:=(u32.wrap ((u32.wrap ((x1 7)+(av .xor .u32 (av .xor .u32 r r1) r2)))+(av .xor .u32 (x1 6) t2)));bif (inb t 64)then(bif (inb t 64)then(match(fE (x1 0) 2)with|none=>none|some r3=>(match(fE (x1 0) 13)with|none=>none|some r4=>(match(fE (x1 0) 22)with|none=>none|some r5=>(let t5:=(u32.wrap ((av .xor .u32 (av .xor .u32 r3 r4) r5)+(av .or .u32 (av .and .u32 (x1 0) (x1 1)) t3)));let t6:=(u32.wrap ((x1 3)+(u32.wrap ((u32.wrap (t4+(k (Int.toNat t))))+(w (Int.toNat t))))));let t7:=(u32.wrap ((u32.wrap ((u32.wrap (t4+(k (Int.toNat t))))+(w (Int.toNat t))))+t5));some (.inl (((),((),((),((),((),((i64.wrap (t+1)),())))))),(v,(t1,(k,(w,((upd (upd (tO x1 1 7 (λj=>x1 (0+j))) 4 t6) 0 t7),())))))))))))else(none))else(none)))))else(some (.inr (((),((),((),()))),(v,(t1,(x1,()))))))
abbrev qO(t:Int)(v:NI)(t1:NI)(x1:NI):=(((),((),((),(t,())))),(v,(t1,(x1,()))))
abbrev yE(t:NI)(x1:NI):=(((),((),())),(t,(x1,())))
abbrev Kl:Type:=((Unit×Z0c)×(NI×Z06))
def mU:Kl->Option (Kl⊕(Z0i×Z06)):=λx=>let t:=x.1.2.2.2.1;let v:=x.2.1;let t1:=x.2.2.1;let x1:=x.2.2.2.1;bif (decide (t<8))then(bif (inb t 8)then(bif (inb t 8)then(bif (inb t 8)then(some (.inl (((),((),((),((i64.wrap (t+1)),())))),(v,(t1,((upd x1 (Int.toNat t) (u32.wrap ((x1 (Int.toNat t))+(v (Int.toNat t))))),()))))))else(none))else(none))else(none))else(some (.inr (((),((),())),(t1,(x1,())))))
def Lr(v:NI)(b:NI):Option (NI):=match qN with|none=>none|some r=>(match(zw b)with|none=>none|some r1=>(match(aD jX (((),((),((),((),((),(0,())))))),(v,((λ_=>0),(r,(r1,(v,())))))))with|none=>none|some y=>(let v1:=y.2.1;let t:=y.2.2.1;let x:=y.2.2.2.1;match(aD mU (((),((),((),(0,())))),(v1,(t,(x,())))))with|none=>none|some y1=>(let t1:=y1.2.1;let x1:=y1.2.2.1;some x1))))
def Dm:=veil Lr
theorem NJ:Dm=Lr:=au _
abbrev dN(s:ByteArray)(h:Z0b):=(((),(s,())),(h,()))
abbrev xS(h:Z0b):=(((),()),(h,()))
abbrev Af:Type:=((Unit×(ByteArray×Unit))×(Z0b×Unit))
def dO:Af->Option (Af⊕(Z07×(Z0b×Unit))):=λx=>let s:=x.1.2.1;let h:=x.2.1;bif (!(sEq s (ByteArray.mk #[])))then(bif ((decide (0<=(Int.tmod h.2.2.2 64)))&&(decide ((Int.tmod h.2.2.2 64)<=64)))then(bif ((Nat.ble (64-(Int.toNat (Int.tmod h.2.2.2 64))) 0)||(Nat.ble (ByteArray.size s) 0))then(bif (decide (0<=(((ByteArray.size s):Nat):Int)))then(bif ((Int.tmod (i64.wrap (h.2.2.2+0)) 64)==0)then(match(Dm h.2.1 h.2.2.1)with|none=>none|some r=>(some (.inl (((),((ByteArray.extract s 0 (ByteArray.size s)),())),((h.1,(r,(h.2.2.1,(i64.wrap (h.2.2.2+0))))),())))))else(some (.inl (((),((ByteArray.extract s 0 (ByteArray.size s)),())),((h.1,(h.2.1,(h.2.2.1,(i64.wrap (h.2.2.2+0))))),())))))else(none))else(bif ((decide (0<=(((min (ByteArray.size s) (64-(Int.toNat (Int.tmod h.2.2.2 64)))):Nat):Int)))&&(decide ((((min (ByteArray.size s) (64-(Int.toNat (Int.tmod h.2.2.2 64)))):Nat):Int)<=(((ByteArray.size s):Nat):Int))))then(let t:=(ByteArray.extract s (Int.toNat (((min (ByteArray.size s) (64-(Int.toNat (Int.tmod h.2.2.2 64)))):Nat):Int)) (ByteArray.size s));let t1:=(i64.wrap (h.2.2.2+(((min (ByteArray.size s) (64-(Int.toNat (Int.tmod h.2.2.2 64)))):Nat):Int)));bif ((Int.tmod t1 64)==0)then(match(Dm h.2.1 (tO h.2.2.1 (Int.toNat (Int.tmod h.2.2.2 64)) (min (ByteArray.size s) (64-(Int.toNat (Int.tmod h.2.2.2 64)))) (λi=>(((s).data.toList.getD i 0).toNat:Int))))with|none=>none|some r1=>(some (.inl (((),(t,())),((h.1,(r1,((tO h.2.2.1 (Int.toNat (Int.tmod h.2.2.2 64)) (min (ByteArray.size s) (64-(Int.toNat (Int.tmod h.2.2.2 64)))) (λi=>(((s).data.toList.getD i 0).toNat:Int))),t1))),())))))else(some (.inl (((),(t,())),((h.1,(h.2.1,((tO h.2.2.1 (Int.toNat (Int.tmod h.2.2.2 64)) (min (ByteArray.size s) (64-(Int.toNat (Int.tmod h.2.2.2 64)))) (λi=>(((s).data.toList.getD i 0).toNat:Int))),t1))),())))))else(none)))else(none))else(some (.inr (((),()),(h,()))))
abbrev rW(h:Z0b):=((),(h,()))
def yF(s:ByteArray)(h:Z0b):Option ((Unit×(Z0b×Unit))):=bif (!h.1)then(some ((),(h,())))else(match(aD dO (((),(s,())),(h,())))with|none=>none|some y=>(let h1:=y.2.1;some ((),(h1,()))))
def jg:=veil yF
theorem Br:jg=yF:=au _
abbrev kR(h:Z0b)(c:Z0b):=((h,((),())),(c,()))
abbrev rX(h:Z0b)(c:Z0b):=((h,((),())),(c,()))
abbrev Dn:Type:=((Z0b×Z07)×(Z0b×Unit))
def j5:Dn->Option (Dn⊕((Z0b×Z07)×(Z0b×Unit))):=λx=>let h:=x.1.1;let c:=x.2.1;bif ((Int.tmod c.2.2.2 64) !=56)then(match(jg (ByteArray.mk #[0]) c)with|none=>none|some y=>(let o:=y.2.1;some (.inl ((h,((),())),(o,())))))else(some (.inr ((h,((),())),(c,()))))
abbrev kS(h:Z0b)(t:Int)(c:Z0b)(last:NI):=((h,((),((),(t,())))),(c,(last,())))
abbrev rY(c:Z0b)(last:NI):=(((),((),())),(c,(last,())))
abbrev Dp:Type:=((Z0b×Z0c)×(Z0b×(NI×Unit)))
def j6:Dp->Option (Dp⊕(Z0i×(Z0b×(NI×Unit)))):=λx=>let h:=x.1.1;let t:=x.1.2.2.2.1;let c:=x.2.1;let last:=x.2.2.1;bif (decide (t<8))then(bif (decide ((i64.wrap (56-(i64.wrap (8*t))))<0))then(none)else(let t1:=(bL .i64 (i64.wrap (8*h.2.2.2)) (i64.wrap (56-(i64.wrap (8*t)))));bif (inb t 8)then(some (.inl ((h,((),((),((i64.wrap (t+1)),())))),(c,((upd last (Int.toNat t) (u8.wrap t1)),())))))else(none)))else(some (.inr (((),((),())),(c,(last,())))))
abbrev kU(nout:Nat)(out:Nat->Int)(t:NI)(t1:Int):=(((nout,out),(t,(t1,()))),())
abbrev rZ(nout:Nat)(out:Nat->Int):=(((nout,out),()),())
abbrev Dq:Type:=(((Nat×NI)×(NI×Z05))×Unit)
def jc:Dq->Option (Dq⊕Z0x):=λx=>let nout:=x.1.1.1;let out:=x.1.1.2;let t:=x.1.2.1;let t1:=x.1.2.2.1;bif (decide (t1<8))then(bif (inb t1 8)then(bif ((Nat.ble ((nout+4)*1) 140737488355328)&&(Nat.ble (nout+4) 9223372036854775807))then(some (.inl ((((nout+4),(glue nout out (λj=>(upd (upd (upd (upd (λ_=>0) 0 (u8.wrap (bL .u32 (t (Int.toNat t1)) 24))) 1 (u8.wrap (bL .u32 (t (Int.toNat t1)) 16))) 2 (u8.wrap (bL .u32 (t (Int.toNat t1)) 8))) 3 (u8.wrap (t (Int.toNat t1)))) (0+j)))),(t,((i64.wrap (t1+1)),()))),())))else(none))else(none))else(some (.inr (((nout,out),()),())))
def xB(h:(Option Z0b)):Option Z0u:=match h with|none=>(some (ByteArray.mk #[]))|some h0=>(bif (!h0.1)then(some (ByteArray.mk #[]))else(match(jg (ByteArray.mk #[128]) h0)with|none=>none|some y=>(let o:=y.2.1;match(aD j5 ((h0,((),())),(o,())))with|none=>none|some y1=>(let h1:=y1.1.1;let c:=y1.2.1;match(aD j6 ((h1,((),((),(0,())))),(c,((λ_=>0),()))))with|none=>none|some y2=>(let c1:=y2.2.1;let last:=y2.2.2.1;match(jg (bytesOf 8 (λj=>last (0+j))) c1)with|none=>none|some y3=>(let o1:=y3.2.1;match(aD jc (((0,(λ_=>0)),(o1.2.1,(0,()))),()))with|none=>none|some y4=>(let nout:=y4.1.1.1;let out:=y4.1.1.2;some (bytesOf nout (λj=>out (0+j))))))))))
def zx:=veil xB
theorem Fj:zx=xB:=au _
def V5(s:ByteArray):Option Z0u:=match Pe with|none=>none|some y=>(let o:=y.2.1;match(jg s o)with|none=>none|some y1=>(let o1:=y1.2.1;match(zx (some o1))with|none=>none|some r=>(some r)))
def NK:=veil V5
theorem V6:NK=V5:=au _
open Go.IntKind (i64 u64 u32 u8)
abbrev gW(ns:Nat)(s:Nat->(SlV NI))(t:Int)(t1:Int)(no:Nat)(o:Nat->(SlV NI)):=(((ns,s),((),(t,(t1,())))),((no,o),()))
abbrev sj:Type:=((Z05×(Z0a×Unit))⊕(Unit×(Z0a×Unit)))
abbrev jI(t:Int)(no:Nat)(o:Nat->(SlV NI)):sj:=(.inl ((t,()),((no,o),())))
abbrev xU(no:Nat)(o:Nat->(SlV NI)):sj:=(.inr ((),((no,o),())))
abbrev Ag:Type:=((Z0a×Z0r)×(Z0a×Unit))
def dz:Ag->Option (Ag⊕sj):=λx=>let ns:=x.1.1.1;let s:=x.1.1.2;let t:=x.1.2.2.1;let t1:=x.1.2.2.2.1;let no:=x.2.1.1;let o:=x.2.1.2;bif (decide (t1<t))then(bif (inb t1 ns)then(bif (SlV.isMs (s (Int.toNat t1)))then(none)else(bif (inb 0 no)then(bif (SlV.isMs (o 0))then(none)else(bif ((((SlV.len (s (Int.toNat t1))):Nat):Int) !=(((SlV.len (o 0)):Nat):Int))then(some (.inr (.inl ((t1,()),((no,o),())))))else(bif (decide ((((SlV.len (s (Int.toNat t1))):Nat):Int)<1))then(some (.inr (.inl ((t1,()),((no,o),())))))else(bif (decide ((((SlV.len (s (Int.toNat t1))):Nat):Int)>7))then(some (.inr (.inl ((t1,()),((no,o),())))))else(some (.inl (((ns,s),((),(t,((i64.wrap (t1+1)),())))),((no,o),()))))))))else(none)))else(none))else(some (.inr (.inr ((),((no,o),())))))
def EA(nm:Nat)(m:Nat->(SlV NI)):Option (Bool):=match(aD dz (((nm,m),((),(((nm:Nat):Int),(0,())))),((nm,m),())))with|none=>none|some y=>(match y with| .inl y1=>(let t:=y1.1.1;let no:=y1.2.1.1;let o:=y1.2.1.2;bif (!(decide (t>=0)))then(bif (decide (((no:Nat):Int)>=1))then(some (decide (((no:Nat):Int)<=25)))else(some false))else(some false))| .inr y1=>(let no1:=y1.2.1.1;let o1:=y1.2.1.2;bif (decide (((no1:Nat):Int)>=1))then(some (decide (((no1:Nat):Int)<=25)))else(some false)))
def Bt:=veil EA
theorem HZ:Bt=EA:=au _
abbrev wu(nt:Nat)(t:Nat->(SlV NI))(t1:Int)(t2:Int)(nt1:Nat)(t3:Nat->NI)(t4:Int)(t5:Int)(b:Unit)(nb:Nat)(b1:NI):=(((),((nt,t),(t1,(t2,((nt1,t3),(t4,(t5,()))))))),((b,(nb,b1)),()))
abbrev Ah(nt:Nat)(t:Nat->(SlV NI))(t1:Int)(t2:Int)(b:Unit)(nb:Nat)(b1:NI):=(((),((nt,t),(t1,(t2,())))),((b,(nb,b1)),()))
abbrev Dr:Type:=((Unit×(Z0a×(Int×(Int×(Z0d×(Int×Z05))))))×Z0J)
def jd:Dr->Option (Dr⊕((Unit×(Z0a×(Int×Z05)))×Z0J)):=λx=>let nt:=x.1.2.1.1;let t:=x.1.2.1.2;let t1:=x.1.2.2.1;let t2:=x.1.2.2.2.1;let nt1:=x.1.2.2.2.2.1.1;let t3:=x.1.2.2.2.2.1.2;let t4:=x.1.2.2.2.2.2.1;let t5:=x.1.2.2.2.2.2.2.1;let b:=x.2.1.1;let nb:=x.2.1.2.1;let b1:=x.2.1.2.2;bif (decide (t5<t4))then(bif (inb t5 nt1)then(match(II (t3 (Int.toNat t5)))with|none=>none|some r=>(bif ((Nat.ble ((nb+1)*1) 140737488355328)&&(Nat.ble (nb+1) 9223372036854775807))then(bif ((Nat.ble (((nb+1)+(ByteArray.size r))*1) 140737488355328)&&(Nat.ble ((nb+1)+(ByteArray.size r)) 9223372036854775807))then(some (.inl (((),((nt,t),(t1,(t2,((nt1,t3),(t4,((i64.wrap (t5+1)),()))))))),((b,(((nb+1)+(ByteArray.size r)),(glue (nb+1) (glue nb b1 (λj=>(upd (λ_=>0) 0 (u8.wrap (((ByteArray.size r):Nat):Int))) (0+j))) (λi=>(((r).data.toList.getD i 0).toNat:Int))))),()))))else(none))else(none)))else(none))else(some (.inr (((),((nt,t),(t1,(t2,())))),((b,(nb,b1)),()))))
abbrev wz(nt:Nat)(t:Nat->(SlV NI))(t1:Int)(t2:Int)(b:Unit)(nb:Nat)(b1:NI):=(((),((nt,t),(t1,(t2,())))),((b,(nb,b1)),()))
abbrev Ai(b:Unit)(nb:Nat)(b1:NI):=(((),()),((b,(nb,b1)),()))
abbrev Dt:Type:=((Unit×(Z0a×(Int×Z05)))×Z0J)
def gX:Dt->Option (Dt⊕(Z07×Z0J)):=λx=>let nt:=x.1.2.1.1;let t:=x.1.2.1.2;let t1:=x.1.2.2.1;let t2:=x.1.2.2.2.1;let b:=x.2.1.1;let nb:=x.2.1.2.1;let b1:=x.2.1.2.2;bif (decide (t2<t1))then(bif (inb t2 nt)then(bif (SlV.isMs (t (Int.toNat t2)))then(none)else(match(aD jd (((),((nt,t),(t1,(t2,(((SlV.len (t (Int.toNat t2))),(SlV.fn ((λ_=>0):NI) (t (Int.toNat t2)))),((((SlV.len (t (Int.toNat t2))):Nat):Int),(0,()))))))),((b,(nb,b1)),())))with|none=>none|some y=>(let nt1:=y.1.2.1.1;let t3:=y.1.2.1.2;let t4:=y.1.2.2.1;let t5:=y.1.2.2.2.1;let b2:=y.2.1.1;let nb1:=y.2.1.2.1;let b3:=y.2.1.2.2;some (.inl (((),((nt1,t3),(t4,((i64.wrap (t5+1)),())))),((b2,(nb1,b3)),()))))))else(none))else(some (.inr (((),()),((b,(nb,b1)),()))))
def Co(nm:Nat)(m:Nat->(SlV NI)):Option Z0u:=match(Bt nm m)with|none=>none|some r=>(bif (!r)then(some (ByteArray.mk #[]))else(bif (inb 0 nm)then(bif (SlV.isMs (m 0))then(none)else(match(aD gX (((),((nm,m),(((nm:Nat):Int),(0,())))),(((),(2,(glue 1 (glue 0 (λ_=>0) (λj=>(upd (λ_=>0) 0 (u8.wrap ((nm:Nat):Int))) (0+j))) (λj=>(upd (λ_=>0) 0 (u8.wrap (((SlV.len (m 0)):Nat):Int))) (0+j))))),())))with|none=>none|some y=>(let b:=y.2.1.1;let nb:=y.2.1.2.1;let b1:=y.2.1.2.2;bif ((decide (((nb:Nat):Int)=((nb:Nat):Int)))&&(Nat.ble nb 9223372036854775807))then(some (bytesOf nb b1))else(none))))else(none)))
def uy:=veil Co
theorem Fq:uy=Co:=au _
def Cq(t:Int):Option (Bool):=bif (decide (t>=1))then(some (decide (t<=2)))else(some false)
def uz:=veil Cq
theorem Fu:uz=Cq:=au _
abbrev jJ(ns:Nat)(s:Nat->(SlV NI))(t:Int)(t1:Int)(o:GR)(o1:Int):=(((ns,s),((),(t,(t1,())))),(o,(o1,())))
abbrev uD:Type:=((Z05×(GR×Z05))⊕(Unit×(GR×Z05)))
abbrev yQ(t:Int)(o:GR)(o1:Int):uD:=(.inl ((t,()),(o,(o1,()))))
abbrev yR(o:GR)(o1:Int):uD:=(.inr ((),(o,(o1,()))))
abbrev Bu:Type:=((Z0a×Z0r)×(GR×Z05))
def dV:Bu->Option (Bu⊕uD):=λx=>let ns:=x.1.1.1;let s:=x.1.1.2;let t:=x.1.2.2.1;let t1:=x.1.2.2.2.1;let o:=x.2.1;let o1:=x.2.2.1;bif (decide (t1<t))then(bif (inb t1 ns)then(bif (SlV.isMs (s (Int.toNat t1)))then(none)else(bif ((((SlV.len (s (Int.toNat t1))):Nat):Int) !=(i64.wrap (o1+1)))then(some (.inr (.inl ((t1,()),(o,(o1,()))))))else(match(wm (some o) (SlV.len (s (Int.toNat t1))) (SlV.fn ((λ_=>0):NI) (s (Int.toNat t1))))with|none=>none|some r=>(bif (!r)then(some (.inr (.inl ((t1,()),(o,(o1,()))))))else(some (.inl (((ns,s),((),(t,((i64.wrap (t1+1)),())))),(o,(o1,())))))))))else(none))else(some (.inr (.inr ((),(o,(o1,()))))))
def Bv(g:(Option GR))(t:Int)(nm:Nat)(m:Nat->(SlV NI)):Option (Bool):=match g with|none=>(none)|some g0=>(match(aD dV (((nm,m),((),(((nm:Nat):Int),(0,())))),(g0,(t,()))))with|none=>none|some y=>(match y with| .inl y1=>(let t1:=y1.1.1;let o:=y1.2.1;let o1:=y1.2.2.1;bif (!(decide (t1>=0)))then(match(uz o1)with|none=>none|some r=>(bif r then(bif (decide (((nm:Nat):Int)>=1))then(some (decide (((nm:Nat):Int)<=25)))else(some false))else(some false)))else(some false))| .inr y1=>(let o2:=y1.2.1;let o3:=y1.2.2.1;match(uz o3)with|none=>none|some r1=>(bif r1 then(bif (decide (((nm:Nat):Int)>=1))then(some (decide (((nm:Nat):Int)<=25)))else(some false))else(some false)))))
def oF:=veil Bv
theorem Km:oF=Bv:=au _
abbrev pR(g:GR)(nt:Nat)(t:Nat->(SlV NI))(t1:Int)(t2:Int)(p:Int)(np:Nat)(p1:Nat->NI):=((g,((),((nt,t),(t1,(t2,()))))),((p,(np,p1)),()))
abbrev wB:Type:=(Z01⊕Z07)
abbrev Ls(t:Bool):wB:=(.inl ((t,()),()))
abbrev Lu:wB:=(.inr ((),()))
abbrev Du:Type:=((GR×(Unit×(Z0a×(Int×Z05))))×((Int×Z0d)×Unit))
def gY:Du->Option (Du⊕wB):=λx=>let g:=x.1.1;let nt:=x.1.2.2.1.1;let t:=x.1.2.2.1.2;let t1:=x.1.2.2.2.1;let t2:=x.1.2.2.2.2.1;let p:=x.2.1.1;let np:=x.2.1.2.1;let p1:=x.2.1.2.2;bif (decide (t2<t1))then(bif (inb t2 nt)then(bif (SlV.isMs (t (Int.toNat t2)))then(none)else(bif (inb t2 np)then(match(zu (some g) (SlV.len (t (Int.toNat t2))) (SlV.fn ((λ_=>0):NI) (t (Int.toNat t2))) (p,(p1 (Int.toNat t2))))with|none=>none|some r=>(bif (!r)then(some (.inr (.inl ((false,()),()))))else(some (.inl ((g,((),((nt,t),(t1,((i64.wrap (t2+1)),()))))),((p,(np,p1)),()))))))else(none)))else(none))else(some (.inr (.inr ((),()))))
def xC(g:(Option GR))(nm:Nat)(m:Nat->(SlV NI))(p:(Int×Z0d)):Option (Bool):=match g with|none=>(bif (decide (((nm:Nat):Int)<1))then(some false)else(bif (decide (((nm:Nat):Int)>25))then(some false)else(bif (((p.2.1:Nat):Int) !=((nm:Nat):Int))then(some false)else(none))))|some g0=>(bif (decide (((nm:Nat):Int)<1))then(some false)else(bif (decide (((nm:Nat):Int)>25))then(some false)else(bif (((p.2.1:Nat):Int) !=((nm:Nat):Int))then(some false)else(match(aD gY ((g0,((),((nm,m),(((nm:Nat):Int),(0,()))))),((p.1,(p.2.1,p.2.2)),())))with|none=>none|some y=>(match y with| .inl y1=>(let t:=y1.1.1;some t)| .inr y1=>(some true))))))
def eF:=veil xC
theorem Fv:eF=xC:=au _
def Aj(nm:Nat)(m:Nat->(SlV NI)):Option Z0u:=match(uy nm m)with|none=>none|some r=>(match(NK r)with|none=>none|some r1=>(some r1))
def qP:=veil Aj
theorem Dv:qP=Aj:=au _
open Go.IntKind (i64 u64 u32 u8)
def Pf(s:ByteArray):Option (Bool):=bif (decide ((((ByteArray.size s):Nat):Int)>=1))then(some (decide ((((ByteArray.size s):Nat):Int)<=8)))else(some false)
def bT:=veil Pf
theorem QY:bT=Pf:=au _
def Cr(s:(Int×Int)):Option (Bool):=bif (decide (s.1>=1))then(bif (decide (s.1<=1099511627776))then(bif (decide (s.2>=1))then(some (decide (s.2<=4)))else(some false))else(some false))else(some false)
def zy:=veil Cr
theorem Fw:zy=Cr:=au _
def uE(what:Int)(is_:Bool)(may:Bool)(o:Int)(o1:Bool):Option ((Unit×(Int×Z0q))):=bif is_ then(bif o1 then(some ((),((av .or .i64 o what),(may,()))))else(some ((),((av .or .i64 o what),(false,())))))else(some ((),(o,(o1,()))))
def dh:=veil uE
theorem yS:dh=uE:=au _
def Ct(m:Z0e):Option (Int×Bool):=match(zy m.2.2.2.1)with|none=>none|some r=>(match(dh 1 (!(eqF (.pair (.int .i64) (.int .i64)) m.2.2.2.1 (0,0))) r 0 true)with|none=>none|some y=>(let o:=y.2.1;let o1:=y.2.2.1;match(dh 2 (!(sEq m.2.2.2.2.1 (ByteArray.mk #[]))) ((((ByteArray.size m.2.2.2.2.1):Nat):Int)==32) o o1)with|none=>none|some y1=>(let o2:=y1.2.1;let o3:=y1.2.2.1;let t:=(i64.wrap (((m.2.2.2.2.2.1.1:Nat):Int)+((m.2.2.2.2.2.2.1:Nat):Int)));let t1:=(((m.2.2.2.2.2.2.1:Nat):Int)==((m.2.2.2.2.2.1.1:Nat):Int));bif t1 then(match(uy m.2.2.2.2.2.1.1 m.2.2.2.2.2.1.2)with|none=>none|some r1=>(match(dh 4 (decide (t>0)) (!(sEq r1 (ByteArray.mk #[]))) o2 o3)with|none=>none|some y2=>(let o4:=y2.2.1;let o5:=y2.2.2.1;bif (decide (m.2.1>=1))then(match(dh 8 (m.2.1 !=0) (decide (m.2.1<=1048576)) o4 o5)with|none=>none|some y3=>(let o6:=y3.2.1;let o7:=y3.2.2.1;some (o6,o7)))else(match(dh 8 (m.2.1 !=0) false o4 o5)with|none=>none|some y4=>(let o8:=y4.2.1;let o9:=y4.2.2.1;some (o8,o9))))))else(match(dh 4 (decide (t>0)) false o2 o3)with|none=>none|some y5=>(let o10:=y5.2.1;let o11:=y5.2.2.1;bif (decide (m.2.1>=1))then(match(dh 8 (m.2.1 !=0) (decide (m.2.1<=1048576)) o10 o11)with|none=>none|some y6=>(let o12:=y6.2.1;let o13:=y6.2.2.1;some (o12,o13)))else(match(dh 8 (m.2.1 !=0) false o10 o11)with|none=>none|some y7=>(let o14:=y7.2.1;let o15:=y7.2.2.1;some (o14,o15))))))))
def uF:=veil Ct
theorem Fy:uF=Ct:=au _
def I4(m:Z0e):Option (Int):=match(uF (m.1,(m.2.1,(m.2.2.1,(m.2.2.2.1,(m.2.2.2.2.1,((m.2.2.2.2.2.1.1,m.2.2.2.2.2.1.2),(m.2.2.2.2.2.2.1,m.2.2.2.2.2.2.2))))))))with|none=>none|some r=>(bif (m.1==1)then(bif (m.1==1)then(bif r.2 then(bif (!(r.1==8))then(some 1)else(match(bT m.2.2.1)with|none=>none|some r1=>(bif (!r1)then(some 1)else(some 0))))else(some 1))else(bif (m.1==3)then(bif r.2 then(bif (r.1==8)then(match(bT m.2.2.1)with|none=>none|some r2=>(bif (!r2)then(some 1)else(some 0)))else(bif (!((av .andNot .i64 r.1 4)==11))then(some 1)else(match(bT m.2.2.1)with|none=>none|some r3=>(bif (!r3)then(some 1)else(some 0)))))else(some 1))else(bif (m.1==4)then(bif (m.1==4)then(bif r.2 then(bif (!(r.1==13))then(some 1)else(match(bT m.2.2.1)with|none=>none|some r4=>(bif (!r4)then(some 1)else(some 0))))else(some 1))else(bif (m.1==5)then(bif (m.1==5)then(bif r.2 then(bif (!(r.1==3))then(some 1)else(match(bT m.2.2.1)with|none=>none|some r5=>(bif (!r5)then(some 1)else(some 0))))else(some 1))else(bif (m.1==7)then(bif r.2 then(bif (!(r.1==9))then(some 1)else(match(bT m.2.2.1)with|none=>none|some r6=>(bif (!r6)then(some 1)else(some 0))))else(some 1))else(some 1)))else(bif (m.1==6)then(bif r.2 then(bif (!(r.1==3))then(some 1)else(match(bT m.2.2.1)with|none=>none|some r7=>(bif (!r7)then(some 1)else(some 0))))else(some 1))else(bif (m.1==7)then(bif r.2 then(bif (!(r.1==9))then(some 1)else(match(bT m.2.2.1)with|none=>none|some r8=>(bif (!r8)then(some 1)else(some 0))))else(some 1))else(some 1)))))else(bif (m.1==8)then(bif r.2 then(bif (!(r.1==13))then(some 1)else(match(bT m.2.2.1)with|none=>none|some r9=>(bif (!r9)then(some 1)else(some 0))))else(some 1))else(bif (m.1==5)then(bif (m.1==5)then(bif r.2 then(bif (!(r.1==3))then(some 1)else(match(bT m.2.2.1)with|none=>none|some r10=>(bif (!r10)then(some 1)else(some 0))))else(some 1))else(bif (m.1==7)then(bif r.2 then(bif (!(r.1==9))then(some 1)else(match(bT m.2.2.1)with|none=>none|some r11=>(bif (!r11)then(some 1)else(some 0))))else(some 1))else(some 1)))else(bif (m.1==6)then(bif r.2 then(bif (!(r.1==3))then(some 1)else(match(bT m.2.2.1)with|none=>none|some r12=>(bif (!r12)then(some 1)else(some 0))))else(some 1))else(bif (m.1==7)then(bif r.2 then(bif (!(r.1==9))then(some 1)else(match(bT m.2.2.1)with|none=>none|some r13=>(bif (!r13)then(some 1)else(some 0))))else(some 1))else(some 1))))))))else(bif (m.1==2)then(bif r.2 then(bif (!(r.1==8))then(some 1)else(match(bT m.2.2.1)with|none=>none|some r14=>(bif (!r14)then(some 1)else(some 0))))else(some 1))else(bif (m.1==3)then(bif r.2 then(bif (r.1==8)then(match(bT m.2.2.1)with|none=>none|some r15=>(bif (!r15)then(some 1)else(some 0)))else(bif (!((av .andNot .i64 r.1 4)==11))then(some 1)else(match(bT m.2.2.1)with|none=>none|some r16=>(bif (!r16)then(some 1)else(some 0)))))else(some 1))else(bif (m.1==4)then(bif (m.1==4)then(bif r.2 then(bif (!(r.1==13))then(some 1)else(match(bT m.2.2.1)with|none=>none|some r17=>(bif (!r17)then(some 1)else(some 0))))else(some 1))else(bif (m.1==5)then(bif (m.1==5)then(bif r.2 then(bif (!(r.1==3))then(some 1)else(match(bT m.2.2.1)with|none=>none|some r18=>(bif (!r18)then(some 1)else(some 0))))else(some 1))else(bif (m.1==7)then(bif r.2 then(bif (!(r.1==9))then(some 1)else(match(bT m.2.2.1)with|none=>none|some r19=>(bif (!r19)then(some 1)else(some 0))))else(some 1))else(some 1)))else(bif (m.1==6)then(bif r.2 then(bif (!(r.1==3))then(some 1)else(match(bT m.2.2.1)with|none=>none|some r20=>(bif (!r20)then(some 1)else(some 0))))else(some 1))else(bif (m.1==7)then(bif r.2 then(bif (!(r.1==9))then(some 1)else(match(bT m.2.2.1)with|none=>none|some r21=>(bif (!r21)then(some 1)else(some 0))))else(some 1))else(some 1)))))else(bif (m.1==8)then(bif r.2 then(bif (!(r.1==13))then(some 1)else(match(bT m.2.2.1)with|none=>none|some r22=>(bif (!r22)then(some 1)else(some 0))))else(some 1))else(bif (m.1==5)then(bif (m.1==5)then(bif r.2 then(bif (!(r.1==3))then(some 1)else(match(bT m.2.2.1)with|none=>none|some r23=>(bif (!r23)then(some 1)else(some 0))))else(some 1))else(bif (m.1==7)then(bif r.2 then(bif (!(r.1==9))then(some 1)else(match(bT m.2.2.1)with|none=>none|some r24=>(bif (!r24)then(some 1)else(some 0))))else(some 1))else(some 1)))else(bif (m.1==6)then(bif r.2 then(bif (!(r.1==3))then(some 1)else(match(bT m.2.2.1)with|none=>none|some r25=>(bif (!r25)then(some 1)else(some 0))))else(some 1))else(bif (m.1==7)then(bif r.2 then(bif (!(r.1==9))then(some 1)else(match(bT m.2.2.1)with|none=>none|some r26=>(bif (!r26)then(some 1)else(some 0))))else(some 1))else(some 1)))))))))
def wC:=veil I4
theorem Kn:wC=I4:=au _
open Go.IntKind (i64 u64 u32 u8)
abbrev Kq:Type:=((Z0D×Unit)⊕(Z0D×(SP×Unit)))
abbrev FB(clients:Int):Kq:=(.inl (((),(clients,())),()))
abbrev yG(clients:Int)(o:Int)(o1:Int)(no:Nat)(o2:Nat->ByteArray)(o3:List (Int×Int)):Kq:=(.inr (((),(clients,())),((o,(o1,((no,o2),o3))),())))
def zA(servers:Int)(clients:Int):Option (((Z0D×Unit)⊕(Z0D×(SP×Unit)))):=bif (decide (servers<1))then(some (.inl (((),(1,())),())))else(bif (decide (servers>7))then(some (.inl (((),(1,())),())))else(bif (decide (clients<1))then(some (.inl (((),(1,())),())))else(bif (decide (clients>4))then(some (.inl (((),(1,())),())))else(some (.inr (((),(0,())),((servers,(clients,((0,(λ_=>ByteArray.empty)),([]:List (Int×Int))))),())))))))
def sU:=veil zA
theorem Ak:sU=zA:=au _
def qp(a:ByteArray)(b:ByteArray):Option (Int):=match(zW a b)with|none=>none|some r=>(some r)
def jh:=veil qp
theorem vg:jh=qp:=au _
abbrev aJ(nx:Nat)(x1:Nat->ByteArray)(target:ByteArray)(n:Int)(i:Int)(j:Int):=(((nx,x1),(target,((),(n,(i,(j,())))))),())
abbrev aU(nx:Nat)(x1:Nat->ByteArray)(target:ByteArray)(n:Int)(i:Int):=(((nx,x1),(target,((),(n,(i,()))))),())
abbrev dK:Type:=((Z0h×(ByteArray×(Unit×Z0s)))×Unit)
def aK:dK->Option (dK⊕((Z0h×(ByteArray×Z0r))×Unit)):=λx=>let nx:=x.1.1.1;let x1:=x.1.1.2;let target:=x.1.2.1;let n:=x.1.2.2.2.1;let i:=x.1.2.2.2.2.1;let j:=x.1.2.2.2.2.2.1;bif (decide (i<j))then(bif (inb (i64.wrap (bL .u64 (u64.wrap (i64.wrap (i+j))) 1)) nx)then(match(jh (x1 (Int.toNat (i64.wrap (bL .u64 (u64.wrap (i64.wrap (i+j))) 1)))) target)with|none=>none|some r=>(bif (decide (r<0))then(some (.inl (((nx,x1),(target,((),(n,((i64.wrap ((i64.wrap (bL .u64 (u64.wrap (i64.wrap (i+j))) 1))+1)),(j,())))))),())))else(some (.inl (((nx,x1),(target,((),(n,(i,((i64.wrap (bL .u64 (u64.wrap (i64.wrap (i+j))) 1)),())))))),())))))else(none))else(some (.inr (((nx,x1),(target,((),(n,(i,()))))),())))
def bK(nx:Nat)(x:Nat->ByteArray)(target:ByteArray):Option (Int×Bool):=match(aD aK (((nx,x),(target,((),(((nx:Nat):Int),(0,(((nx:Nat):Int),())))))),()))with|none=>none|some y=>(let nx1:=y.1.1.1;let x1:=y.1.1.2;let target1:=y.1.2.1;let n:=y.1.2.2.2.1;let i:=y.1.2.2.2.2.1;bif (decide (i<n))then(bif (inb i nx1)then(match(jh (x1 (Int.toNat i)) target1)with|none=>none|some r=>(some (i,(r==0))))else(none))else(some (i,false)))
def bC:=veil bK
theorem dP:bC=bK:=au _
def qw(key:ByteArray)(s:Int)(s1:Int)(ns:Nat)(s2:Nat->ByteArray)(s3:List (Int×Int)):Option (((Int×Z0q)×(SP×Unit))):=match(bC ns (λj=>s2 (0+j)) key)with|none=>none|some r=>(some ((r.1,(r.2,())),((s,(s1,((ns,s2),s3))),())))
def lW:=veil qw
theorem vk:lW=qw:=au _
def uG(s:(Option Z08))(key:ByteArray):Option (Int×Bool):=match s with|none=>(none)|some s0=>(bif (SlV.isMs s0.2.2.1)then(none)else(match(bC (SlV.len s0.2.2.1) (SlV.fn (ByteArray.empty:ByteArray) s0.2.2.1) key)with|none=>none|some r=>(some (r.1,r.2))))
def wD:=veil uG
theorem Jm:wD=uG:=au _
def qx(key:ByteArray)(end_:Int)(s:Int)(s1:Int)(ns:Nat)(s2:Nat->ByteArray)(s3:List (Int×Int)):Option (((Int×(Bool×Z05))×(SP×Unit))):=match(bT key)with|none=>none|some r=>(bif (!r)then(some ((0,(false,(1,()))),((s,(s1,((ns,s2),s3))),())))else(bif ((lM s s1 end_)==0)then(some ((0,(false,(1,()))),((s,(s1,((ns,s2),s3))),())))else(match(lW key s s1 ns s2 s3)with|none=>none|some y=>(let r1:=y.1.1;let r2:=y.1.2.1;let o:=y.2.1.1;let o1:=y.2.1.2.1;let no:=y.2.1.2.2.1.1;let o2:=y.2.1.2.2.1.2;let o3:=y.2.1.2.2.2;bif r2 then(some ((r1,(false,(0,()))),((o,(o1,((no,o2),o3))),())))else(bif (decide ((Option.getD (qH (.int .i64) (.int .i64) o3 end_) (0:Int))>=(lM o o1 end_)))then(some ((0,(false,(7,()))),((o,(o1,((no,o2),o3))),())))else(bif (((decide (0<=r1))&&(decide (r1<=((no:Nat):Int))))&&(Nat.ble ((no+1)*16) 140737488355328))then(some ((r1,(true,(0,()))),((o,(o1,(((no+1),(AL o2 (Int.toNat r1) key)),(WB (.int .i64) (.int .i64) o3 end_ (i64.wrap ((Option.getD (qH (.int .i64) (.int .i64) o3 end_) (0:Int))+1)))))),())))else(none)))))))
def lX:=veil qx
theorem vo:lX=qx:=au _
def uH(s:(Option Z08))(key:ByteArray)(end_:Int):Option (Int×Bool×Int):=match s with|none=>(match(bT key)with|none=>none|some r2=>(bif (!r2)then(some (0,false,1))else(some (0,false,1))))|some s0=>(match(bT key)with|none=>none|some r=>(bif (!r)then(some (0,false,1))else(bif ((lM s0.1 s0.2.1 end_)==0)then(some (0,false,1))else(match(wD (some s0) key)with|none=>none|some r1=>(bif r1.2 then(some (r1.1,false,0))else(bif (Option.isSome s0.2.2.2)then(none)else(bif (decide (0>=(lM s0.1 s0.2.1 end_)))then(some (0,false,7))else(bif (Option.isSome s0.2.2.2)then(none)else(none)))))))))
def aZ:=veil uH
theorem Jo:aZ=uH:=au _
def qy(s:Int)(s1:Int)(ns:Nat)(s2:Nat->ByteArray)(s3:List (Int×Int)):Option (((Z0h×Unit)×(SP×Unit))):=bif (Nat.ble (ns*16) 140737488355328)then(some (((ns,(λj=>s2 (0+j))),()),((s,(s1,((ns,s2),s3))),())))else(none)
def gZ:=veil qy
theorem mX:gZ=qy:=au _
def uI(s:(Option Z08)):Option (Z0h):=match s with|none=>(some (0,(λ_=>ByteArray.empty)))|some s0=>(bif (SlV.isMs s0.2.2.1)then(none)else(bif (Nat.ble ((SlV.len s0.2.2.1)*16) 140737488355328)then(some ((SlV.len s0.2.2.1),(λj=>(SlV.fn (ByteArray.empty:ByteArray) s0.2.2.1) (0+j))))else(none)))
def kV:=veil uI
theorem yT:kV=uI:=au _
open Go.IntKind (i64 u64 u32 u8)
def yH(x:Int):Option (Bool):=some (x !=x)
def uJ:=veil yH
theorem Bw:uJ=yH:=au _
def uL(x:Int)(y:Int):Option (Int):=match(uJ x)with|none=>none|some r=>(match(uJ y)with|none=>none|some r1=>(bif r then(bif r1 then(some 0)else(some (-1)))else(bif r1 then(some 1)else(bif (decide (x<y))then(some (-1))else(bif (decide (x>y))then(some 1)else(some 0))))))
def kW:=veil uL
theorem yU:kW=uL:=au _
abbrev iM(zero:Int)(nt:Nat)(t:Nat->Int)(t1:Int)(t2:Int):=((zero,((nt,t),(t1,(t2,())))),())
abbrev yI:Type:=(Z0H⊕Z0H)
abbrev nK(t:Int):yI:=(.inl ((t,()),()))
abbrev uM(zero:Int):yI:=(.inr ((zero,()),()))
abbrev FC:Type:=((Int×((Nat×NI)×(Int×Z05)))×Unit)
def eG:FC->Option (FC⊕yI):=λx=>let zero:=x.1.1;let nt:=x.1.2.1.1;let t:=x.1.2.1.2;let t1:=x.1.2.2.1;let t2:=x.1.2.2.2.1;bif (decide (t2<t1))then(bif (inb t2 nt)then(bif ((t (Int.toNat t2)) !=zero)then(some (.inr (.inl (((t (Int.toNat t2)),()),()))))else(some (.inl ((zero,((nt,t),(t1,((i64.wrap (t2+1)),())))),()))))else(none))else(some (.inr (.inr ((zero,()),()))))
def EB(nvals:Nat)(vals:Nat->Int):Option (Int):=match(aD eG ((0,((nvals,vals),(((nvals:Nat):Int),(0,())))),()))with|none=>none|some y=>(match y with| .inl y1=>(let t:=y1.1.1;some t)| .inr y1=>(let zero:=y1.1.1;some zero))
def Bz:=veil EB
theorem I5:Bz=EB:=au _
open Go.IntKind (i64 u64 u32 u8)
def Cu(c:Int):Option (Bool):=bif (decide (c>=1))then(some (decide (c<=4)))else(some false)
def EC:=veil Cu
theorem FD:EC=Cu:=au _
def Lv(s:(Int×Int)):Option (Bool):=bif (decide (s.1>=1))then(bif (decide (s.1<=1099511627776))then(match(EC s.2)with|none=>none|some r=>(some r))else(some false))else(some false)
def wE:=veil Lv
theorem NM:wE=Lv:=au _
def Al(a:(Int×Int))(b:(Int×Int)):Option (Int):=match(kW a.1 b.1)with|none=>none|some r=>(match(kW a.2 b.2)with|none=>none|some r1=>(match(Bz 2 (λj=>(upd (upd (λ_=>0) 0 r) 1 r1) (0+j)))with|none=>none|some r2=>(some r2)))
def xD:=veil Al
theorem Dw:xD=Al:=au _
open Go.IntKind (i64 u64 u32 u8)
def su(server:Int)(s:(Int×Int))(digest:ByteArray)(v:VT):Option ((Z0q×(VT×Unit))):=match(wE s)with|none=>none|some r=>(bif (!r)then(some ((false,()),(v,())))else(bif (decide (server<1))then(some ((false,()),(v,())))else(bif (decide (server>v.1))then(some ((false,()),(v,())))else(bif (decide (s.2<1))then(some ((false,()),(v,())))else(bif (decide (s.2>4))then(some ((false,()),(v,())))else(bif (decide ((av .and .i64 s.1 1)<0))then(some ((false,()),(v,())))else(bif (decide ((av .and .i64 s.1 1)>1))then(some ((false,()),(v,())))else(bif (inb (i64.wrap (server-1)) 7)then(bif (inb (i64.wrap (s.2-1)) 4)then(bif (inb (av .and .i64 s.1 1) 2)then(let t:=(((v.2 (Int.toNat (i64.wrap (server-1)))) (Int.toNat (i64.wrap (s.2-1)))) (Int.toNat (av .and .i64 s.1 1))).1.1;bif (decide (t>=s.1))then(some ((false,()),(v,())))else(some ((true,()),((v.1,(upd v.2 (Int.toNat (i64.wrap (server-1))) (upd (v.2 (Int.toNat (i64.wrap (server-1)))) (Int.toNat (i64.wrap (s.2-1))) (upd ((v.2 (Int.toNat (i64.wrap (server-1)))) (Int.toNat (i64.wrap (s.2-1)))) (Int.toNat (av .and .i64 s.1 1)) (s,digest))))),()))))else(none))else(none))else(none)))))))))
def fF:=veil su
theorem xV:fF=su:=au _
def wF(v:(Option VT))(server:Int)(s:(Int×Int))(digest:ByteArray):Option (Bool):=match v with|none=>(match(wE s)with|none=>none|some r1=>(bif (!r1)then(some false)else(some false)))|some v0=>(match(wE s)with|none=>none|some r=>(bif (!r)then(some false)else(bif (decide (server<1))then(some false)else(bif (decide (server>v0.1))then(some false)else(bif (decide (s.2<1))then(some false)else(bif (decide (s.2>4))then(some false)else(bif (decide ((av .and .i64 s.1 1)<0))then(some false)else(bif (decide ((av .and .i64 s.1 1)>1))then(some false)else(bif (inb (i64.wrap (server-1)) 7)then(bif (inb (i64.wrap (s.2-1)) 4)then(bif (inb (av .and .i64 s.1 1) 2)then(let t:=(((v0.2 (Int.toNat (i64.wrap (server-1)))) (Int.toNat (i64.wrap (s.2-1)))) (Int.toNat (av .and .i64 s.1 1))).1.1;bif (decide (t>=s.1))then(some false)else(none))else(none))else(none))else(none))))))))))
def FE:=veil wF
theorem Lx:FE=wF:=au _
abbrev FR(v:VT)(digest:ByteArray)(n:Int)(t:Int)(t1:Int)(s:(Int×Int)):=((v,(digest,((),(n,(t,(t1,())))))),(s,()))
abbrev sV(n:Int):=((n,()),())
abbrev vw:Type:=((VT×(ByteArray×(Unit×Z0s)))×((Int×Int)×Unit))
def dG:vw->Option (vw⊕Z0H):=λx=>let v:=x.1.1;let digest:=x.1.2.1;let n:=x.1.2.2.2.1;let t:=x.1.2.2.2.2.1;let t1:=x.1.2.2.2.2.2.1;let s:=x.2.1;bif (decide (t1<t))then(bif (inb t1 7)then(bif (inb (i64.wrap (s.2-1)) 4)then(bif (inb (av .and .i64 s.1 1) 2)then(let t2:=(eqF (.pair (.pair (.int .i64) (.int .i64)) .str) (((v.2 (Int.toNat t1)) (Int.toNat (i64.wrap (s.2-1)))) (Int.toNat (av .and .i64 s.1 1))) (s,digest));bif t2 then(some (.inl ((v,(digest,((),((i64.wrap (n+1)),(t,((i64.wrap (t1+1)),())))))),(s,()))))else(some (.inl ((v,(digest,((),(n,(t,((i64.wrap (t1+1)),())))))),(s,())))))else(none))else(none))else(none))else(some (.inr ((n,()),())))
def lY(v:(Option VT))(s:(Int×Int))(digest:ByteArray):Option (Int):=match v with|none=>(some 0)|some v0=>(match(wE s)with|none=>none|some r=>(bif (!r)then(some 0)else(match(aD dG ((v0,(digest,((),(0,(v0.1,(0,())))))),(s,())))with|none=>none|some y=>(let n:=y.1.1;some n))))
def iI:=veil lY
theorem xW:iI=lY:=au _
def rG(v:(Option VT))(server:Int)(client:Int)(odd:Int):Option ((Int×Int)×ByteArray):=match v with|none=>(some ((0,0),(ByteArray.mk #[])))|some v0=>(bif (decide (server<1))then(some ((0,0),(ByteArray.mk #[])))else(bif (decide (server>v0.1))then(some ((0,0),(ByteArray.mk #[])))else(bif (decide (client<1))then(some ((0,0),(ByteArray.mk #[])))else(bif (decide (client>4))then(some ((0,0),(ByteArray.mk #[])))else(bif (decide (odd<0))then(some ((0,0),(ByteArray.mk #[])))else(bif (decide (odd>1))then(some ((0,0),(ByteArray.mk #[])))else(bif (inb (i64.wrap (server-1)) 7)then(bif (inb (i64.wrap (client-1)) 4)then(bif (inb odd 2)then(let t:=(((v0.2 (Int.toNat (i64.wrap (server-1)))) (Int.toNat (i64.wrap (client-1)))) (Int.toNat odd)).2;some ((((v0.2 (Int.toNat (i64.wrap (server-1)))) (Int.toNat (i64.wrap (client-1)))) (Int.toNat odd)).1,t))else(none))else(none))else(none))))))))
def ji:=veil rG
theorem BA:ji=rG:=au _
def Cv(n:Int):Option ((Z0D×(VT×Unit))):=bif (decide (n<1))then(none)else(bif (decide (n>7))then(none)else(some (((),(0,())),((n,(λ_=>(λ_=>(λ_=>((0,0),ByteArray.empty))))),()))))
def lZ:=veil Cv
theorem FH:lZ=Cv:=au _
open Go.IntKind (i64 u64 u32 u8)
abbrev V7:Type:=((Z0D×Unit)⊕(Z0D×(SP×(SN×Unit))))
abbrev kX(t:Int)(o:Int)(o1:Int)(no:Nat)(o2:Nat->ByteArray)(o3:List (Int×Int))(o4:GR)(o5:Int)(o6:Int)(o7:Int)(o8:Int)(o9:BG)(no1:Nat)(o10:Nat->OU):V7:=(.inr (((),(t,())),((o,(o1,((no,o2),o3))),((o4,(o5,(o6,(o7,(o8,((),(o9,(no1,o10)))))))),()))))
def jY(g:(Option GR))(t:Int)(number:Int)(clients:Int):Option (((Z0D×Unit)⊕(Z0D×(SP×(SN×Unit))))):=match g with|none=>(match(bZ none)with|none=>none|some r3=>(match r3 with|none=>(some (.inl (((),(1,())),())))|some p1=>(bif (decide (t<1))then(some (.inl (((),(1,())),())))else(bif (decide (t>2))then(some (.inl (((),(1,())),())))else(bif (decide (number<1))then(some (.inl (((),(1,())),())))else(bif (decide (number>(i64.wrap ((i64.wrap (3*t))+1))))then(some (.inl (((),(1,())),())))else(match(sU (i64.wrap ((i64.wrap (3*t))+1)) clients)with|none=>none|some y2=>(match y2 with| .inl y3=>(let r4:=y3.1.2.1;bif (r4 !=0)then(some (.inl (((),(r4,())),())))else(none))| .inr y3=>(let r5:=y3.1.2.1;let o4:=y3.2.1.1;let o5:=y3.2.1.2.1;let no1:=y3.2.1.2.2.1.1;let o6:=y3.2.1.2.2.1.2;let o7:=y3.2.1.2.2.2;bif (r5 !=0)then(some (.inl (((),(r5,())),())))else(none))))))))))|some g0=>(match(bZ (some g0))with|none=>none|some r=>(match r with|none=>(some (.inl (((),(1,())),())))|some p=>(bif (decide (t<1))then(some (.inl (((),(1,())),())))else(bif (decide (t>2))then(some (.inl (((),(1,())),())))else(bif (decide (number<1))then(some (.inl (((),(1,())),())))else(bif (decide (number>(i64.wrap ((i64.wrap (3*t))+1))))then(some (.inl (((),(1,())),())))else(match(sU (i64.wrap ((i64.wrap (3*t))+1)) clients)with|none=>none|some y=>(match y with| .inl y1=>(let r1:=y1.1.2.1;bif (r1 !=0)then(some (.inl (((),(r1,())),())))else(none))| .inr y1=>(let r2:=y1.1.2.1;let o:=y1.2.1.1;let o1:=y1.2.1.2.1;let no:=y1.2.1.2.2.1.1;let o2:=y1.2.1.2.2.1.2;let o3:=y1.2.1.2.2.2;bif (r2 !=0)then(some (.inl (((),(r2,())),())))else(some (.inr (((),(0,())),((o,(o1,((no,o2),o3))),((g0,(t,(number,((i64.wrap ((i64.wrap (3*t))+1)),(clients,((),(([]:BG),zNO))))))),()))))))))))))))
def bD:=veil jY
theorem mF:bD=jY:=au _
def kY(from_:Int)(m:Int)(m1:Int)(m2:ByteArray)(m3:(Int×Int))(m4:ByteArray)(nm:Nat)(m5:Nat->(SlV NI))(nm1:Nat)(m6:Nat->NI)(o:SS):Option ((Z0q×SS)):=
 let k:Z01->Option ((Z0q×SS)):=λx1=>(
 let c:=x1.1.1;let k1:Z01->Option ((Z0q×SS)):=λx2=>(
 let t:=x2.1.1
 bif t then(
 some ((c,()),o))
 else(
 bif (m==4)then(
 bif c then(
 let t1:=(m3.2==(i64.wrap (from_-o.1.2.2.2.1)))
 some ((t1,()),o))
 else(
 some ((false,()),o)))
 else(
 let k3:Z01->Option ((Z0q×SS)):=λx4=>(
 let t2:=x4.1.1
 bif t2 then(
 bif (decide (from_>=1))then(
 bif (decide (from_<=o.1.2.2.2.1))then(
 let t3:=(from_ !=o.1.2.2.1)
 some ((t3,()),o))
 else(
 some ((false,()),o)))
 else(
 some ((false,()),o)))
 else(
 some ((false,()),o)))
 bif (m==5)then(
 k3 (((m==5),()),()))
 else(
 k3 (((m==6),()),())))))
 bif (m==1)then(
 k1 (((m==1),()),()))
 else(
 bif (m==2)then(
 k1 (((m==2),()),()))
 else(
 k1 (((m==8),()),()))))
 bif (decide (from_>o.1.2.2.2.1))then(
 k (((decide (from_<=(i64.wrap (o.1.2.2.2.1+o.1.2.2.2.2.1)))),()),()))
 else(
 k ((false,()),()))
def iU:=veil kY
theorem qd:iU=kY:=au _
def mY(s:Z03)(from_:Int)(m:Z0e):Option (Bool):=match s with|none=>(none)|some s0=>(bif (decide (from_>s0.2.2.2.1))then(let t:=(decide (from_<=(i64.wrap (s0.2.2.2.1+s0.2.2.2.2.1))));bif (m.1==1)then(bif (m.1==1)then(some t)else(bif (m.1==4)then(bif t then(let t1:=(m.2.2.2.1.2==(i64.wrap (from_-s0.2.2.2.1)));some t1)else(some false))else(bif (m.1==5)then(bif (m.1==5)then(bif (decide (from_>=1))then(bif (decide (from_<=s0.2.2.2.1))then(some (from_ !=s0.2.2.1))else(some false))else(some false))else(some false))else(bif (m.1==6)then(bif (decide (from_>=1))then(bif (decide (from_<=s0.2.2.2.1))then(some (from_ !=s0.2.2.1))else(some false))else(some false))else(some false)))))else(bif (m.1==2)then(bif (m.1==2)then(some t)else(bif (m.1==4)then(bif t then(let t2:=(m.2.2.2.1.2==(i64.wrap (from_-s0.2.2.2.1)));some t2)else(some false))else(bif (m.1==5)then(bif (m.1==5)then(bif (decide (from_>=1))then(bif (decide (from_<=s0.2.2.2.1))then(some (from_ !=s0.2.2.1))else(some false))else(some false))else(some false))else(bif (m.1==6)then(bif (decide (from_>=1))then(bif (decide (from_<=s0.2.2.2.1))then(some (from_ !=s0.2.2.1))else(some false))else(some false))else(some false)))))else(bif (m.1==8)then(some t)else(bif (m.1==4)then(bif t then(let t3:=(m.2.2.2.1.2==(i64.wrap (from_-s0.2.2.2.1)));some t3)else(some false))else(bif (m.1==5)then(bif (m.1==5)then(bif (decide (from_>=1))then(bif (decide (from_<=s0.2.2.2.1))then(some (from_ !=s0.2.2.1))else(some false))else(some false))else(some false))else(bif (m.1==6)then(bif (decide (from_>=1))then(bif (decide (from_<=s0.2.2.2.1))then(some (from_ !=s0.2.2.1))else(some false))else(some false))else(some false)))))))else(bif (m.1==1)then(bif (m.1==1)then(some false)else(bif (m.1==4)then(some false)else(bif (m.1==5)then(bif (m.1==5)then(bif (decide (from_>=1))then(bif (decide (from_<=s0.2.2.2.1))then(some (from_ !=s0.2.2.1))else(some false))else(some false))else(some false))else(bif (m.1==6)then(bif (decide (from_>=1))then(bif (decide (from_<=s0.2.2.2.1))then(some (from_ !=s0.2.2.1))else(some false))else(some false))else(some false)))))else(bif (m.1==2)then(bif (m.1==2)then(some false)else(bif (m.1==4)then(some false)else(bif (m.1==5)then(bif (m.1==5)then(bif (decide (from_>=1))then(bif (decide (from_<=s0.2.2.2.1))then(some (from_ !=s0.2.2.1))else(some false))else(some false))else(some false))else(bif (m.1==6)then(bif (decide (from_>=1))then(bif (decide (from_<=s0.2.2.2.1))then(some (from_ !=s0.2.2.1))else(some false))else(some false))else(some false)))))else(bif (m.1==8)then(some false)else(bif (m.1==4)then(some false)else(bif (m.1==5)then(bif (m.1==5)then(bif (decide (from_>=1))then(bif (decide (from_<=s0.2.2.2.1))then(some (from_ !=s0.2.2.1))else(some false))else(some false))else(some false))else(bif (m.1==6)then(bif (decide (from_>=1))then(bif (decide (from_<=s0.2.2.2.1))then(some (from_ !=s0.2.2.1))else(some false))else(some false))else(some false))))))))
def jK:=veil mY
theorem Dx:jK=mY:=au _
def oG(from_:Int)(m:Int)(m1:Int)(m2:ByteArray)(m3:(Int×Int))(m4:ByteArray)(nm:Nat)(m5:Nat->(SlV NI))(nm1:Nat)(m6:Nat->NI)(o:SS):Option ((Z0q×SS)):=
 match(wC (m,(m1,(m2,(m3,(m4,((nm,m5),(nm1,m6))))))))with
 |none=>none
 |some r=>(
 bif (r !=0)then(
 some ((false,()),o))
 else(
 match(iU from_ m m1 m2 m3 m4 nm m5 nm1 m6 o)with
 |none=>none
 |some y=>(
 let r1:=y.1.1;let t:=(!r1)
 bif t then(
 some ((false,()),y.2))
 else(
 let k3:Z07->Option ((Z0q×SS)):=λx4=>(
 match(lX m2 from_ y.2.2.1.1 y.2.2.1.2.1 y.2.2.1.2.2.1.1 y.2.2.1.2.2.1.2 y.2.2.1.2.2.2)with
 |none=>none
 |some y1=>(
 some (((y1.1.2.2.1==0),()),(y.2.1,((y1.2.1.1,(y1.2.1.2.1,((y1.2.1.2.2.1.1,y1.2.1.2.2.1.2),y1.2.1.2.2.2))),())))))
 let k1:Z01->Option ((Z0q×SS)):=λx2=>(
 bif x2.1.1 then(
 match(oF (some y.2.1.1) y.2.1.2.1 nm m5)with
 |none=>none
 |some r2=>(
 bif (!r2)then(
 some ((false,()),y.2))
 else(
 match(eF (some y.2.1.1) nm m5 (y.2.1.2.2.1,(nm1,m6)))with
 |none=>none
 |some r3=>(
 let t2:=(!r3)
 bif t2 then(
 some ((false,()),y.2))
 else(
 k3 ((),()))))))
 else(
 k3 ((),())))
 bif (m==4)then(
 k1 ((true,()),()))
 else(
 k1 (((m==8),()),()))))))
def kG:=veil oG
theorem uN:kG=oG:=au _
def sw(s:Z03)(from_:Int)(m:Z0e):Option (Bool):=match s with|none=>(match(wC (m.1,(m.2.1,(m.2.2.1,(m.2.2.2.1,(m.2.2.2.2.1,((m.2.2.2.2.2.1.1,m.2.2.2.2.2.1.2),(m.2.2.2.2.2.2.1,m.2.2.2.2.2.2.2))))))))with|none=>none|some r32=>(bif (r32 !=0)then(some false)else(match(jK none from_ (m.1,(m.2.1,(m.2.2.1,(m.2.2.2.1,(m.2.2.2.2.1,((m.2.2.2.2.2.1.1,m.2.2.2.2.2.1.2),(m.2.2.2.2.2.2.1,m.2.2.2.2.2.2.2))))))))with|none=>none|some r33=>(bif (!r33)then(some false)else(bif (m.1==4)then(none)else(bif (m.1==8)then(none)else(none)))))))|some s0=>(match(wC (m.1,(m.2.1,(m.2.2.1,(m.2.2.2.1,(m.2.2.2.2.1,((m.2.2.2.2.2.1.1,m.2.2.2.2.2.1.2),(m.2.2.2.2.2.2.1,m.2.2.2.2.2.2.2))))))))with|none=>none|some r=>(bif (r !=0)then(some false)else(match(jK (some s0) from_ (m.1,(m.2.1,(m.2.2.1,(m.2.2.2.1,(m.2.2.2.2.1,((m.2.2.2.2.2.1.1,m.2.2.2.2.2.1.2),(m.2.2.2.2.2.2.1,m.2.2.2.2.2.2.2))))))))with|none=>none|some r1=>(bif (!r1)then(some false)else(bif (m.1==4)then(bif (aR.vQ s0.1)then(none)else(bif (aR.isNil s0.1)then(match(oF none s0.2.1 m.2.2.2.2.2.1.1 m.2.2.2.2.2.1.2)with|none=>none|some r2=>(bif (!r2)then(some false)else(bif (aR.vQ s0.1)then(none)else(bif (aR.isNil s0.1)then(match(eF none m.2.2.2.2.2.1.1 m.2.2.2.2.2.1.2 (s0.2.2.1,(m.2.2.2.2.2.2.1,m.2.2.2.2.2.2.2)))with|none=>none|some r3=>(bif (!r3)then(some false)else(bif (aR.vQ s0.2.2.2.2.2.1)then(none)else(bif (aR.isNil s0.2.2.2.2.2.1)then(match(aZ none m.2.2.1 from_)with|none=>none|some r4=>(some (r4.2.2==0)))else(match(aZ (some (aR.val ((0,(0,(.nil,none))):Z08) s0.2.2.2.2.2.1)) m.2.2.1 from_)with|none=>none|some r5=>(some (r5.2.2==0)))))))else(match(eF (some (aR.val (((.nil,.nil),(λ_=>0)):GR) s0.1)) m.2.2.2.2.2.1.1 m.2.2.2.2.2.1.2 (s0.2.2.1,(m.2.2.2.2.2.2.1,m.2.2.2.2.2.2.2)))with|none=>none|some r6=>(bif (!r6)then(some false)else(bif (aR.vQ s0.2.2.2.2.2.1)then(none)else(bif (aR.isNil s0.2.2.2.2.2.1)then(match(aZ none m.2.2.1 from_)with|none=>none|some r7=>(some (r7.2.2==0)))else(match(aZ (some (aR.val ((0,(0,(.nil,none))):Z08) s0.2.2.2.2.2.1)) m.2.2.1 from_)with|none=>none|some r8=>(some (r8.2.2==0)))))))))))else(match(oF (some (aR.val (((.nil,.nil),(λ_=>0)):GR) s0.1)) s0.2.1 m.2.2.2.2.2.1.1 m.2.2.2.2.2.1.2)with|none=>none|some r9=>(bif (!r9)then(some false)else(bif (aR.vQ s0.1)then(none)else(bif (aR.isNil s0.1)then(match(eF none m.2.2.2.2.2.1.1 m.2.2.2.2.2.1.2 (s0.2.2.1,(m.2.2.2.2.2.2.1,m.2.2.2.2.2.2.2)))with|none=>none|some r10=>(bif (!r10)then(some false)else(bif (aR.vQ s0.2.2.2.2.2.1)then(none)else(bif (aR.isNil s0.2.2.2.2.2.1)then(match(aZ none m.2.2.1 from_)with|none=>none|some r11=>(some (r11.2.2==0)))else(match(aZ (some (aR.val ((0,(0,(.nil,none))):Z08) s0.2.2.2.2.2.1)) m.2.2.1 from_)with|none=>none|some r12=>(some (r12.2.2==0)))))))else(match(eF (some (aR.val (((.nil,.nil),(λ_=>0)):GR) s0.1)) m.2.2.2.2.2.1.1 m.2.2.2.2.2.1.2 (s0.2.2.1,(m.2.2.2.2.2.2.1,m.2.2.2.2.2.2.2)))with|none=>none|some r13=>(bif (!r13)then(some false)else(bif (aR.vQ s0.2.2.2.2.2.1)then(none)else(bif (aR.isNil s0.2.2.2.2.2.1)then(match(aZ none m.2.2.1 from_)with|none=>none|some r14=>(some (r14.2.2==0)))else(match(aZ (some (aR.val ((0,(0,(.nil,none))):Z08) s0.2.2.2.2.2.1)) m.2.2.1 from_)with|none=>none|some r15=>(some (r15.2.2==0)))))))))))))else(bif (m.1==8)then(bif (aR.vQ s0.1)then(none)else(bif (aR.isNil s0.1)then(match(oF none s0.2.1 m.2.2.2.2.2.1.1 m.2.2.2.2.2.1.2)with|none=>none|some r16=>(bif (!r16)then(some false)else(bif (aR.vQ s0.1)then(none)else(bif (aR.isNil s0.1)then(match(eF none m.2.2.2.2.2.1.1 m.2.2.2.2.2.1.2 (s0.2.2.1,(m.2.2.2.2.2.2.1,m.2.2.2.2.2.2.2)))with|none=>none|some r17=>(bif (!r17)then(some false)else(bif (aR.vQ s0.2.2.2.2.2.1)then(none)else(bif (aR.isNil s0.2.2.2.2.2.1)then(match(aZ none m.2.2.1 from_)with|none=>none|some r18=>(some (r18.2.2==0)))else(match(aZ (some (aR.val ((0,(0,(.nil,none))):Z08) s0.2.2.2.2.2.1)) m.2.2.1 from_)with|none=>none|some r19=>(some (r19.2.2==0)))))))else(match(eF (some (aR.val (((.nil,.nil),(λ_=>0)):GR) s0.1)) m.2.2.2.2.2.1.1 m.2.2.2.2.2.1.2 (s0.2.2.1,(m.2.2.2.2.2.2.1,m.2.2.2.2.2.2.2)))with|none=>none|some r20=>(bif (!r20)then(some false)else(bif (aR.vQ s0.2.2.2.2.2.1)then(none)else(bif (aR.isNil s0.2.2.2.2.2.1)then(match(aZ none m.2.2.1 from_)with|none=>none|some r21=>(some (r21.2.2==0)))else(match(aZ (some (aR.val ((0,(0,(.nil,none))):Z08) s0.2.2.2.2.2.1)) m.2.2.1 from_)with|none=>none|some r22=>(some (r22.2.2==0)))))))))))else(match(oF (some (aR.val (((.nil,.nil),(λ_=>0)):GR) s0.1)) s0.2.1 m.2.2.2.2.2.1.1 m.2.2.2.2.2.1.2)with|none=>none|some r23=>(bif (!r23)then(some false)else(bif (aR.vQ s0.1)then(none)else(bif (aR.isNil s0.1)then(match(eF none m.2.2.2.2.2.1.1 m.2.2.2.2.2.1.2 (s0.2.2.1,(m.2.2.2.2.2.2.1,m.2.2.2.2.2.2.2)))with|none=>none|some r24=>(bif (!r24)then(some false)else(bif (aR.vQ s0.2.2.2.2.2.1)then(none)else(bif (aR.isNil s0.2.2.2.2.2.1)then(match(aZ none m.2.2.1 from_)with|none=>none|some r25=>(some (r25.2.2==0)))else(match(aZ (some (aR.val ((0,(0,(.nil,none))):Z08) s0.2.2.2.2.2.1)) m.2.2.1 from_)with|none=>none|some r26=>(some (r26.2.2==0)))))))else(match(eF (some (aR.val (((.nil,.nil),(λ_=>0)):GR) s0.1)) m.2.2.2.2.2.1.1 m.2.2.2.2.2.1.2 (s0.2.2.1,(m.2.2.2.2.2.2.1,m.2.2.2.2.2.2.2)))with|none=>none|some r27=>(bif (!r27)then(some false)else(bif (aR.vQ s0.2.2.2.2.2.1)then(none)else(bif (aR.isNil s0.2.2.2.2.2.1)then(match(aZ none m.2.2.1 from_)with|none=>none|some r28=>(some (r28.2.2==0)))else(match(aZ (some (aR.val ((0,(0,(.nil,none))):Z08) s0.2.2.2.2.2.1)) m.2.2.1 from_)with|none=>none|some r29=>(some (r29.2.2==0)))))))))))))else(bif (aR.vQ s0.2.2.2.2.2.1)then(none)else(bif (aR.isNil s0.2.2.2.2.2.1)then(match(aZ none m.2.2.1 from_)with|none=>none|some r30=>(some (r30.2.2==0)))else(match(aZ (some (aR.val ((0,(0,(.nil,none))):Z08) s0.2.2.2.2.2.1)) m.2.2.1 from_)with|none=>none|some r31=>(some (r31.2.2==0)))))))))))
def BD:=veil sw
theorem I6:BD=sw:=au _
def mg(to_:Int)(m:Int)(m1:Int)(m2:ByteArray)(m3:(Int×Int))(m4:ByteArray)(nm:Nat)(m5:Nat->(SlV NI))(nm1:Nat)(m6:Nat->NI)(o:SR):Option Z0l:=bif ((Nat.ble ((o.1.2.2.2.2.2.2.2.1+1)*120) 140737488355328)&&(Nat.ble (o.1.2.2.2.2.2.2.2.1+1) 9223372036854775807))then(some ((),((o.1.1,(o.1.2.1,(o.1.2.2.1,(o.1.2.2.2.1,(o.1.2.2.2.2.1,((),(o.1.2.2.2.2.2.2.1,((o.1.2.2.2.2.2.2.2.1+1),(glue o.1.2.2.2.2.2.2.2.1 o.1.2.2.2.2.2.2.2.2 (λj=>(upd (λ_=>zOU) 0 (to_,(m,(m1,(m2,(m3,(m4,((.fz nm m5),(.fz nm1 m6))))))))) (0+j))))))))))),o.2)))else(none)
def bP:=veil mg
theorem qQ:bP=mg:=au _
def sD(v:VA)(p:(Int×Int))(digest:ByteArray):Option (Bool):=bif (eqF (.pair (.int .i64) (.int .i64)) v.1 p)then(some (sEq v.2.1 digest))else(some false)
def fG:=veil sD
theorem xX:fG=sD:=au _
abbrev fH(t:Int)(t1:Int)(o:Z0E):=(((),((),(t,(t1,())))),o)
abbrev yJ(o:Z0E):=((),o)
abbrev oH:Type:=((Unit×Z0r)×Z0E)
def bV:oH->Option (oH⊕(Unit×Z0E)):=λx=>let t:=x.1.2.2.1;let t1:=x.1.2.2.2.1;bif (decide (t1<t))then(bif (inb t1 4)then(bif (decide ((x.2.2.1.2.2.2.2 (Int.toNat t1)).2.2.1>0))then(match(bP (i64.wrap (x.2.1.2.2.2.1+(i64.wrap (t1+1)))) 3 (x.2.2.1.2.2.2.2 (Int.toNat t1)).2.2.1 x.2.2.1.2.1 x.2.2.1.1.1 x.2.2.1.1.2.1 x.2.2.1.1.2.2.1.1 x.2.2.1.1.2.2.1.2 x.2.2.1.1.2.2.2.1 x.2.2.1.1.2.2.2.2 (x.2.1,(x.2.2.1,(x.2.2.2.1,(x.2.2.2.2.1,(x.2.2.2.2.2.1,()))))))with|none=>none|some y=>(some (.inl (((),((),(t,((i64.wrap (t1+1)),())))),(y.2.1,(y.2.2.1,(y.2.2.2.1,(y.2.2.2.2.1,(y.2.2.2.2.2.1,((),((),())))))))))))else(some (.inl (((),((),(t,((i64.wrap (t1+1)),())))),(x.2.1,(x.2.2.1,(x.2.2.2.1,(x.2.2.2.2.1,(x.2.2.2.2.2.1,((),((),())))))))))))else(none))else(some (.inr ((),(x.2.1,(x.2.2.1,(x.2.2.2.1,(x.2.2.2.2.1,(x.2.2.2.2.2.1,((),((),()))))))))))
def oI(o:SR):Option Z0l:=match(aD bV (((),((),(o.1.2.2.2.2.1,(0,())))),(o.1,(o.2.1,(o.2.2.1,(o.2.2.2.1,(o.2.2.2.2.1,((),((),())))))))))with|none=>none|some y=>(some ((),(y.2.1,(y.2.2.1,(y.2.2.2.1,(y.2.2.2.2.1,(y.2.2.2.2.2.1,())))))))
def dD:=veil oI
theorem uO:dD=oI:=au _
def mh(p:(Int×Int))(o:CR):Option ((Z0q×CR)):=match(xD p o.1.1.1)with|none=>none|some r=>(some (((decide (r>0)),()),o))
def cK:=veil mh
theorem qR:cK=mh:=au _
def vB(p:(Int×Int))(o:CR):Option ((Z0q×CR)):=some (((decide ((i64.wrap (p.1-1))<=o.1.1.1.1)),()),o)
def iC:=veil vB
theorem sW:iC=vB:=au _
abbrev eY(kind:Int)(digest:ByteArray)(t:Int)(t1:Int)(o:(SO×(RC×(VT×(VT×(SP×((Int×Int)×Unit))))))):=(((),(kind,((),(digest,((),(t,(t1,()))))))),o)
abbrev xY(o:SR):=(((),((),())),o)
abbrev nL:Type:=((Unit×(Int×(Unit×(ByteArray×Z0r))))×(SO×(RC×(VT×(VT×(SP×((Int×Int)×Unit)))))))
def bR:nL->Option (nL⊕(Z0i×SR)):=λx=>let kind:=x.1.2.1;let digest:=x.1.2.2.2.1;let t:=x.1.2.2.2.2.2.1;let t1:=x.1.2.2.2.2.2.2.1;bif (decide (t1<t))then(bif ((i64.wrap (t1+1)) !=x.2.1.2.2.1)then(match(bP (i64.wrap (t1+1)) kind 0 x.2.2.1.2.1 x.2.2.2.2.2.2.1 digest 0 (λ_=>.nil) 0 zNN (x.2.1,(x.2.2.1,(x.2.2.2.1,(x.2.2.2.2.1,(x.2.2.2.2.2.1,()))))))with|none=>none|some y=>(some (.inl (((),(kind,((),(digest,((),(t,((i64.wrap (t1+1)),()))))))),(y.2.1,(y.2.2.1,(y.2.2.2.1,(y.2.2.2.2.1,(y.2.2.2.2.2.1,x.2.2.2.2.2.2)))))))))else(some (.inl (((),(kind,((),(digest,((),(t,((i64.wrap (t1+1)),()))))))),(x.2.1,(x.2.2.1,(x.2.2.2.1,(x.2.2.2.2.1,(x.2.2.2.2.2.1,x.2.2.2.2.2.2)))))))))else(some (.inr (((),((),())),(x.2.1,(x.2.2.1,(x.2.2.2.1,(x.2.2.2.2.1,(x.2.2.2.2.2.1,()))))))))
def jZ(kind:Int)(p:(Int×Int))(digest:ByteArray)(o:SR):Option Z0l:=match(aD bR (((),(kind,((),(digest,((),(o.1.2.2.2.1,(0,()))))))),(o.1,(o.2.1,(o.2.2.1,(o.2.2.2.1,(o.2.2.2.2.1,(p,()))))))))with|none=>none|some y=>(some ((),y.2))
def bJ:=veil jZ
theorem oJ:bJ=jZ:=au _
def iV(rec_:((Int×Int))->Z0u->(SR)->Option Z0l)(p:(Int×Int))(digest:ByteArray)(o:SR):Option Z0l:=
 let k:Z01->Option Z0l:=λx1=>(
 let enough:=x1.1.1;let k2:(Unit×SR)->Option Z0l:=λx3=>(
 let k3:(Z0q×CR)->Option Z0l:=λx4=>(
 let t1:=x4.1.1
 bif t1 then(
 match(rec_ p digest (x3.2.1,(x4.2.1,(x4.2.2.1,(x4.2.2.2.1,x3.2.2.2.2.2)))))with
 |none=>none
 |some y3=>(
 some y3))
 else(
 some ((),(x3.2.1,(x4.2.1,(x4.2.2.1,(x4.2.2.2.1,x3.2.2.2.2.2)))))))
 match(iI (some x3.2.2.2.2.1) p digest)with
 |none=>none
 |some r3=>(
 bif (decide (r3>(i64.wrap (2*x3.2.1.2.1))))then(
 match(cK p (x3.2.2.1,(x3.2.2.2.1,(x3.2.2.2.2.1,()))))with
 |none=>none
 |some y2=>(
 let r4:=y2.1.1
 k3 ((r4,()),y2.2)))
 else(
 k3 ((false,()),(x3.2.2.1,(x3.2.2.2.1,(x3.2.2.2.2.1,())))))))
 bif enough then(
 match(fF o.1.2.2.1 p digest o.2.2.2.1)with
 |none=>none
 |some y=>(
 let r2:=y.1.1;let o1:=y.2.1
 bif r2 then(
 match(bJ 6 p digest (o.1,(o.2.1,(o.2.2.1,(o1,o.2.2.2.2)))))with
 |none=>none
 |some y1=>(
 k2 y1))
 else(
 k2 ((),(o.1,(o.2.1,(o.2.2.1,(o1,o.2.2.2.2))))))))
 else(
 k2 ((),(o.1,(o.2.1,(o.2.2.1,(o.2.2.2.1,o.2.2.2.2)))))))
 match(iI (some o.2.2.1) p digest)with
 |none=>none
 |some r=>(
 bif (decide (r>(i64.wrap (2*o.1.2.1))))then(
 k ((true,()),()))
 else(
 match(iI (some o.2.2.2.1) p digest)with
 |none=>none
 |some r1=>(
 k (((decide (r1>o.1.2.1)),()),()))))
def dW:=veil iV
theorem qU:dW=iV:=au _
def iW(rec_:((Int×Int))->Z0u->(SR)->Option Z0l)(p:PR)(o:SR):Option Z0l:=
 bif (inb (i64.wrap (p.1.1.2-1)) 4)then(
 bif (inb (av .and .i64 p.1.1.1 1) 2)then(
 let k:(Unit×(RC×Unit))->Option Z0l:=λx1=>(
 match(fF o.1.2.2.1 p.1.1 p.1.2.1 o.2.2.1)with
 |none=>none
 |some y=>(
 let r:=y.1.1;let o1:=y.2.1
 bif r then(
 match(bJ 5 p.1.1 p.1.2.1 (o.1,(x1.2.1,(o1,o.2.2.2))))with
 |none=>none
 |some y1=>(
 match(dW rec_ p.1.1 p.1.2.1 y1.2)with
 |none=>none
 |some y2=>(
 some y2)))
 else(
 some ((),(o.1,(x1.2.1,(o1,o.2.2.2)))))))
 let t:=(decide (p.1.1.1>((o.2.1.2.2.2.2 (Int.toNat (i64.wrap (p.1.1.2-1)))).1 (Int.toNat (av .and .i64 p.1.1.1 1))).1.1.1))
 bif t then(
 let u:=(upd o.2.1.2.2.2.2 (Int.toNat (i64.wrap (p.1.1.2-1))) ((upd (o.2.1.2.2.2.2 (Int.toNat (i64.wrap (p.1.1.2-1)))).1 (Int.toNat (av .and .i64 p.1.1.1 1)) p),(o.2.1.2.2.2.2 (Int.toNat (i64.wrap (p.1.1.2-1)))).2))
 k ((),((o.2.1.1,(o.2.1.2.1,((),((),u)))),())))
 else(
 k ((),(o.2.1,()))))
 else(
 none))
 else(
 none)
def gq:=veil iW
theorem qV:gq=iW:=au _
abbrev aO(t:Int)(t1:Int)(o:Z0t):=(((),((),(t,(t1,())))),o)
def aS(rec_:((Int×Int))->Z0u->(SR)->Option Z0l):((Unit×Z0r)×Z0t)->Option Z04:=λx=>
 let t:=x.1.2.2.1;let t1:=x.1.2.2.2.1
 bif (decide (t1<t))then(
 bif (inb t1 4)then(
 let k1:(Unit×SR)->Option Z04:=λx2=>(
 let k3:(Unit×SR)->Option Z04:=λx4=>(
 let k4:(Z0q×CR)->Option Z04:=λx5=>(
 let t4:=x5.1.1
 bif t4 then(
 match(bP (i64.wrap (x4.2.1.2.2.2.1+(i64.wrap (t1+1)))) 7 (x5.2.1.2.2.2.2 (Int.toNat t1)).2.1.2 x5.2.1.2.1 (x5.2.1.2.2.2.2 (Int.toNat t1)).2.1.1.1 ByteArray.empty 0 (λ_=>.nil) 0 zNN (x4.2.1,(x5.2.1,(x5.2.2.1,(x5.2.2.2.1,x4.2.2.2.2.2)))))with
 |none=>none
 |some y5=>(
 let u2:=(upd y5.2.2.1.2.2.2.2 (Int.toNat t1) ((y5.2.2.1.2.2.2.2 (Int.toNat t1)).1,(((y5.2.2.1.2.2.2.2 (Int.toNat t1)).2.1.1,0),(y5.2.2.1.2.2.2.2 (Int.toNat t1)).2.2)))
 some (.inl (((),((),(t,((i64.wrap (t1+1)),())))),(y5.2.1,((y5.2.2.1.1,(y5.2.2.1.2.1,((),((),u2)))),(y5.2.2.2.1,(y5.2.2.2.2.1,(y5.2.2.2.2.2.1,x.2.2.2.2.2.2)))))))))
 else(
 some (.inl (((),((),(t,((i64.wrap (t1+1)),())))),(x4.2.1,(x5.2.1,(x5.2.2.1,(x5.2.2.2.1,(x4.2.2.2.2.2.1,x.2.2.2.2.2.2)))))))))
 bif (decide ((x4.2.2.1.2.2.2.2 (Int.toNat t1)).2.1.2>0))then(
 match(cK (x4.2.2.1.2.2.2.2 (Int.toNat t1)).2.1.1.1 (x4.2.2.1,(x4.2.2.2.1,(x4.2.2.2.2.1,()))))with
 |none=>none
 |some y4=>(
 let r2:=y4.1.1
 k4 (((!r2),()),y4.2)))
 else(
 k4 ((false,()),(x4.2.2.1,(x4.2.2.2.1,(x4.2.2.2.2.1,()))))))
 let k2:(Z0q×CR)->Option Z04:=λx3=>(
 let t3:=x3.1.1
 bif t3 then(
 match(bP (i64.wrap (x2.2.1.2.2.2.1+(i64.wrap (t1+1)))) 7 ((x3.2.1.2.2.2.2 (Int.toNat t1)).1 1).2 x3.2.1.2.1 ((x3.2.1.2.2.2.2 (Int.toNat t1)).1 1).1.1 ByteArray.empty 0 (λ_=>.nil) 0 zNN (x2.2.1,(x3.2.1,(x3.2.2.1,(x3.2.2.2.1,x2.2.2.2.2.2)))))with
 |none=>none
 |some y3=>(
 let u1:=(upd y3.2.2.1.2.2.2.2 (Int.toNat t1) ((upd (y3.2.2.1.2.2.2.2 (Int.toNat t1)).1 1 (((y3.2.2.1.2.2.2.2 (Int.toNat t1)).1 1).1,0)),(y3.2.2.1.2.2.2.2 (Int.toNat t1)).2))
 k3 ((),(y3.2.1,((y3.2.2.1.1,(y3.2.2.1.2.1,((),((),u1)))),y3.2.2.2)))))
 else(
 k3 ((),(x2.2.1,(x3.2.1,(x3.2.2.1,(x3.2.2.2.1,x2.2.2.2.2.2)))))))
 bif (decide (((x2.2.2.1.2.2.2.2 (Int.toNat t1)).1 1).2>0))then(
 match(cK ((x2.2.2.1.2.2.2.2 (Int.toNat t1)).1 1).1.1 (x2.2.2.1,(x2.2.2.2.1,(x2.2.2.2.2.1,()))))with
 |none=>none
 |some y2=>(
 let r1:=y2.1.1
 k2 (((!r1),()),y2.2)))
 else(
 k2 ((false,()),(x2.2.2.1,(x2.2.2.2.1,(x2.2.2.2.2.1,()))))))
 let k:(Z0q×CR)->Option Z04:=λx1=>(
 let t2:=x1.1.1
 bif t2 then(
 match(bP (i64.wrap (x.2.1.2.2.2.1+(i64.wrap (t1+1)))) 7 ((x1.2.1.2.2.2.2 (Int.toNat t1)).1 0).2 x1.2.1.2.1 ((x1.2.1.2.2.2.2 (Int.toNat t1)).1 0).1.1 ByteArray.empty 0 (λ_=>.nil) 0 zNN (x.2.1,(x1.2.1,(x1.2.2.1,(x1.2.2.2.1,(x.2.2.2.2.2.1,()))))))with
 |none=>none
 |some y1=>(
 let u:=(upd y1.2.2.1.2.2.2.2 (Int.toNat t1) ((upd (y1.2.2.1.2.2.2.2 (Int.toNat t1)).1 0 (((y1.2.2.1.2.2.2.2 (Int.toNat t1)).1 0).1,0)),(y1.2.2.1.2.2.2.2 (Int.toNat t1)).2))
 k1 ((),(y1.2.1,((y1.2.2.1.1,(y1.2.2.1.2.1,((),((),u)))),y1.2.2.2)))))
 else(
 k1 ((),(x.2.1,(x1.2.1,(x1.2.2.1,(x1.2.2.2.1,(x.2.2.2.2.2.1,()))))))))
 bif (decide (((x.2.2.1.2.2.2.2 (Int.toNat t1)).1 0).2>0))then(
 match(cK ((x.2.2.1.2.2.2.2 (Int.toNat t1)).1 0).1.1 (x.2.2.1,(x.2.2.2.1,(x.2.2.2.2.1,()))))with
 |none=>none
 |some y=>(
 let r:=y.1.1
 k (((!r),()),y.2)))
 else(
 k ((false,()),(x.2.2.1,(x.2.2.2.1,(x.2.2.2.2.1,()))))))
 else(
 none))
 else(
 some (.inr ((),x.2)))
abbrev cB:= @aO
def aN(rec_:((Int×Int))->Z0u->(SR)->Option Z0l):((Unit×Z0r)×Z0t)->Option Z04:=λx=>
 let t:=x.1.2.2.1;let t1:=x.1.2.2.2.1
 bif (decide (t1<t))then(
 bif (inb t1 4)then(
 let k:(Z0q×CR)->Option Z04:=λx1=>(
 let t2:=x1.1.1
 bif t2 then(
 let u:=(upd x1.2.1.2.2.2.2 (Int.toNat t1) ((x1.2.1.2.2.2.2 (Int.toNat t1)).1,(zPR,(x1.2.1.2.2.2.2 (Int.toNat t1)).2.2)))
 match(gq rec_ (x1.2.1.2.2.2.2 (Int.toNat t1)).2.1 (x.2.1,((x1.2.1.1,(x1.2.1.2.1,((),((),u)))),(x1.2.2.1,(x1.2.2.2.1,(x.2.2.2.2.2.1,()))))))with
 |none=>none
 |some y1=>(
 some (.inl (((),((),(t,((i64.wrap (t1+1)),())))),(y1.2.1,(y1.2.2.1,(y1.2.2.2.1,(y1.2.2.2.2.1,(y1.2.2.2.2.2.1,x.2.2.2.2.2.2)))))))))
 else(
 some (.inl (((),((),(t,((i64.wrap (t1+1)),())))),(x.2.1,(x1.2.1,(x1.2.2.1,(x1.2.2.2.1,(x.2.2.2.2.2.1,x.2.2.2.2.2.2)))))))))
 bif (decide ((x.2.2.1.2.2.2.2 (Int.toNat t1)).2.1.2>0))then(
 match(iC (x.2.2.1.2.2.2.2 (Int.toNat t1)).2.1.1.1 (x.2.2.1,(x.2.2.2.1,(x.2.2.2.2.1,()))))with
 |none=>none
 |some y=>(
 let r:=y.1.1
 k ((r,()),y.2)))
 else(
 k ((false,()),(x.2.2.1,(x.2.2.2.1,(x.2.2.2.2.1,()))))))
 else(
 none))
 else(
 some (.inr ((),x.2)))
def fI(rec_:((Int×Int))->Z0u->(SR)->Option Z0l)(p:(Int×Int))(digest:ByteArray)(o:SR):Option Z0l:=
 bif (inb (i64.wrap (p.2-1)) 4)then(
 let k:(Unit×(RC×Unit))->Option Z0l:=λx1=>(
 let k1:(Unit×(RC×Unit))->Option Z0l:=λx2=>(
 let t2:=(((o.2.1.2.2.2.2 (Int.toNat (i64.wrap (p.2-1)))).1 0):PR)
 match(fG (t2.1.1,(t2.1.2.1,(t2.1.2.2.1,t2.1.2.2.2))) p digest)with
 |none=>none
 |some r2=>(
 bif r2 then(
 match(dD (o.1,(((t2.1.1,(t2.1.2.1,(t2.1.2.2.1,t2.1.2.2.2))),x2.2.1.2),o.2.2)))with
 |none=>none
 |some y=>(
 match(aD (aS rec_) (((),((),(y.2.1.2.2.2.2.1,(0,())))),(y.2.1,(y.2.2.1,(y.2.2.2.1,(y.2.2.2.2.1,(y.2.2.2.2.2.1,((),((),(p,()))))))))))with
 |none=>none
 |some y1=>(
 match(aD (aN rec_) (((),((),(y1.2.1.2.2.2.2.1,(0,())))),y1.2))with
 |none=>none
 |some y2=>(
 some ((),(y2.2.1,(y2.2.2.1,(y2.2.2.2.1,(y2.2.2.2.2.1,(y2.2.2.2.2.2.1,()))))))))))
 else(
 match(dD (o.1,(x2.2.1,o.2.2)))with
 |none=>none
 |some y3=>(
 match(aD (aS rec_) (((),((),(y3.2.1.2.2.2.2.1,(0,())))),(y3.2.1,(y3.2.2.1,(y3.2.2.2.1,(y3.2.2.2.2.1,(y3.2.2.2.2.2.1,((),((),(p,()))))))))))with
 |none=>none
 |some y4=>(
 match(aD (aN rec_) (((),((),(y4.2.1.2.2.2.2.1,(0,())))),y4.2))with
 |none=>none
 |some y5=>(
 some ((),(y5.2.1,(y5.2.2.1,(y5.2.2.2.1,(y5.2.2.2.2.1,(y5.2.2.2.2.2.1,()))))))))))))
 let t1:=(((o.2.1.2.2.2.2 (Int.toNat (i64.wrap (p.2-1)))).1 1):PR)
 match(fG (t1.1.1,(t1.1.2.1,(t1.1.2.2.1,t1.1.2.2.2))) p digest)with
 |none=>none
 |some r1=>(
 bif r1 then(
 k1 ((),(((t1.1.1,(t1.1.2.1,(t1.1.2.2.1,t1.1.2.2.2))),x1.2.1.2),())))
 else(
 k1 x1)))
 let t:=((o.2.1.2.2.2.2 (Int.toNat (i64.wrap (p.2-1)))).2.1:PR)
 match(fG (t.1.1,(t.1.2.1,(t.1.2.2.1,t.1.2.2.2))) p digest)with
 |none=>none
 |some r=>(
 bif r then(
 k ((),(((t.1.1,(t.1.2.1,(t.1.2.2.1,t.1.2.2.2))),o.2.1.2),())))
 else(
 k ((),(((p,(digest,((0,zSN),(0,zNN)))),o.2.1.2),())))))
 else(
 none)
def aF:Nat->((Int×Int))->Z0u->(SR)->Option Z0l:=veil λn=>Nat.rec (motive:=λ_=>((Int×Int))->Z0u->(SR)->Option Z0l) (λ_ _ _=>none) (λ_ ih=>fI ih) n
theorem Am:aF 0=λ_ _ _=>none:=by rw[aF,au];rfl
theorem oK(n:Nat):aF (n+1)=fI (aF n):=by rw[aF,au]
def mo(from_:Int)(m:Int)(m1:Int)(m2:ByteArray)(m3:(Int×Int))(m4:ByteArray)(nm:Nat)(m5:Nat->(SlV NI))(nm1:Nat)(m6:Nat->NI)(o:SR):Option Z0l:=match(fF from_ m3 m4 o.2.2.1)with|none=>none|some y=>(let r:=y.1.1;let o1:=y.2.1;bif r then(match(dW (aF 5) m3 m4 (o.1,(o.2.1,(o1,o.2.2.2))))with|none=>none|some y1=>(some y1))else(some ((),(o.1,(o.2.1,(o1,o.2.2.2))))))
def jq:=veil mo
theorem qW:jq=mo:=au _
def kZ(from_:Int)(m:Int)(m1:Int)(m2:ByteArray)(m3:(Int×Int))(m4:ByteArray)(nm:Nat)(m5:Nat->(SlV NI))(nm1:Nat)(m6:Nat->NI)(o:SR):Option Z0l:=match(fF from_ m3 m4 o.2.2.2.1)with|none=>none|some y=>(let r:=y.1.1;let o1:=y.2.1;bif r then(match(dW (aF 5) m3 m4 (o.1,(o.2.1,(o.2.2.1,(o1,o.2.2.2.2)))))with|none=>none|some y1=>(some y1))else(some ((),(o.1,(o.2.1,(o.2.2.1,(o1,o.2.2.2.2)))))))
def iX:=veil kZ
theorem qg:iX=kZ:=au _
def mq(v:VA)(o:SR):Option Z0l:=match(fG (o.2.1.1.1,(o.2.1.1.2.1,(o.2.1.1.2.2.1,o.2.1.1.2.2.2))) v.1 v.2.1)with|none=>none|some r=>(bif r then(let t:=(((o.2.1.1.2.2.2.1:Nat):Int)==0);bif t then(match(dD (o.1,((v,o.2.1.2),o.2.2)))with|none=>none|some y=>(some y))else(some ((),o)))else(some ((),o)))
def gu:=veil mq
theorem qX:gu=mq:=au _
def jA(c:Int)(p:PR)(o:SR):Option Z0l:=bif (inb (i64.wrap (c-1)) 4)then(match(cK p.1.1 (o.2.1,(o.2.2.1,(o.2.2.2.1,()))))with|none=>none|some y=>(let r:=y.1.1;bif (!r)then(match(gu p.1 (o.1,(y.2.1,(y.2.2.1,(y.2.2.2.1,o.2.2.2.2)))))with|none=>none|some y1=>(match(bP (i64.wrap (y1.2.1.2.2.2.1+c)) 7 p.2 y1.2.2.1.2.1 p.1.1 ByteArray.empty 0 (λ_=>.nil) 0 zNN y1.2)with|none=>none|some y2=>(some y2)))else(match(iC p.1.1 y.2)with|none=>none|some y3=>(let r1:=y3.1.1;bif r1 then(match(gq (aF 5) p (o.1,(y3.2.1,(y3.2.2.1,(y3.2.2.2.1,o.2.2.2.2)))))with|none=>none|some y4=>(some y4))else(bif (decide (p.1.1.1>(y3.2.1.2.2.2.2 (Int.toNat (i64.wrap (c-1)))).2.1.1.1.1))then(let u:=(upd y3.2.1.2.2.2.2 (Int.toNat (i64.wrap (c-1))) ((y3.2.1.2.2.2.2 (Int.toNat (i64.wrap (c-1)))).1,(p,(y3.2.1.2.2.2.2 (Int.toNat (i64.wrap (c-1)))).2.2)));some ((),(o.1,((y3.2.1.1,(y3.2.1.2.1,((),((),u)))),(y3.2.2.1,(y3.2.2.2.1,o.2.2.2.2))))))else(some ((),(o.1,(y3.2.1,(y3.2.2.1,(y3.2.2.2.1,o.2.2.2.2)))))))))))else(none)
def iB:=veil jA
theorem nM:iB=jA:=au _
def gD(from_:Int)(m:Int)(m1:Int)(m2:ByteArray)(m3:(Int×Int))(m4:ByteArray)(nm:Nat)(m5:Nat->(SlV NI))(nm1:Nat)(m6:Nat->NI)(o:SS):Option (((Z0B×Unit)×SS)):=
 match(kG from_ m m1 m2 m3 m4 nm m5 nm1 m6 o)with
 |none=>none
 |some y=>(
 let r:=y.1.1
 bif (!r)then(
 some ((zNO,()),y.2))
 else(
 let k:(Unit×((GR×(Int×(Int×(Int×(Int×(Unit×((BG×Nat)×Unit)))))))×CR))->Option (((Z0B×Unit)×SS)):=λx1=>(
 bif (m==1)then(
 bif (inb (i64.wrap ((i64.wrap (from_-x1.2.1.2.2.2.1))-1)) 4)then(
 let k1:Z01->Option (((Z0B×Unit)×SS)):=λx2=>(
 let t:=x2.1.1
 bif t then(
 let u:=(upd x1.2.2.1.2.2.2.2 (Int.toNat (i64.wrap ((i64.wrap (from_-x1.2.1.2.2.2.1))-1))) ((x1.2.2.1.2.2.2.2 (Int.toNat (i64.wrap ((i64.wrap (from_-x1.2.1.2.2.2.1))-1)))).1,((x1.2.2.1.2.2.2.2 (Int.toNat (i64.wrap ((i64.wrap (from_-x1.2.1.2.2.2.1))-1)))).2.1,(m1,(x1.2.2.1.2.2.2.2 (Int.toNat (i64.wrap ((i64.wrap (from_-x1.2.1.2.2.2.1))-1)))).2.2.2))))
 bif (decide ((u (Int.toNat (i64.wrap ((i64.wrap (from_-x1.2.1.2.2.2.1))-1)))).2.2.1>0))then(
 match(bP (i64.wrap (x1.2.1.2.2.2.1+(i64.wrap (from_-x1.2.1.2.2.2.1)))) 3 (u (Int.toNat (i64.wrap ((i64.wrap (from_-x1.2.1.2.2.2.1))-1)))).2.2.1 x1.2.2.1.2.1 x1.2.2.1.1.1 x1.2.2.1.1.2.1 x1.2.2.1.1.2.2.1.1 x1.2.2.1.1.2.2.1.2 x1.2.2.1.1.2.2.2.1 x1.2.2.1.1.2.2.2.2 ((x1.2.1.1,(x1.2.1.2.1,(x1.2.1.2.2.1,(x1.2.1.2.2.2.1,(x1.2.1.2.2.2.2.1,((),(x1.2.1.2.2.2.2.2.2.1,zNO))))))),((x1.2.2.1.1,(x1.2.2.1.2.1,((),((),u)))),(x1.2.2.2.1,(x1.2.2.2.2.1,y.2.2)))))with
 |none=>none
 |some y3=>(
 some (((y3.2.1.2.2.2.2.2.2.2.1,(λj=>y3.2.1.2.2.2.2.2.2.2.2 (0+j))),()),((y3.2.1.1,(y3.2.1.2.1,(y3.2.1.2.2.1,(y3.2.1.2.2.2.1,(y3.2.1.2.2.2.2.1,((),((List.modify y3.2.1.2.2.2.2.2.2.1.1 y3.2.1.2.2.2.2.2.2.1.2 λe=>(e.1,((y3.2.2.1.1,(y3.2.2.1.2.1,(.nil,(.nil,y3.2.2.1.2.2.2.2)))),(y3.2.2.2.1,(y3.2.2.2.2.1,()))))),(y3.2.1.2.2.2.2.2.2.2.1,(λj=>y3.2.1.2.2.2.2.2.2.2.2 (0+j)))))))))),(y3.2.2.2.2.2.1,())))))
 else(
 some (((0,(λj=>(λ_=>zOU) (0+j))),()),((x1.2.1.1,(x1.2.1.2.1,(x1.2.1.2.2.1,(x1.2.1.2.2.2.1,(x1.2.1.2.2.2.2.1,((),((List.modify x1.2.1.2.2.2.2.2.2.1.1 x1.2.1.2.2.2.2.2.2.1.2 λe=>(e.1,((x1.2.2.1.1,(x1.2.2.1.2.1,(.nil,(.nil,u)))),x1.2.2.2))),(0,(λj=>(λ_=>zOU) (0+j)))))))))),(y.2.2.1,())))))
 else(
 some (((0,(λj=>(λ_=>zOU) (0+j))),()),((x1.2.1.1,(x1.2.1.2.1,(x1.2.1.2.2.1,(x1.2.1.2.2.2.1,(x1.2.1.2.2.2.2.1,((),((List.modify x1.2.1.2.2.2.2.2.2.1.1 x1.2.1.2.2.2.2.2.2.1.2 λe=>(e.1,((x1.2.2.1.1,(x1.2.2.1.2.1,(.nil,(.nil,x1.2.2.1.2.2.2.2)))),x1.2.2.2))),(0,(λj=>(λ_=>zOU) (0+j)))))))))),(y.2.2.1,())))))
 bif (decide (m1>(x1.2.2.1.2.2.2.2 (Int.toNat (i64.wrap ((i64.wrap (from_-x1.2.1.2.2.2.1))-1)))).2.2.2))then(
 k1 (((decide (m1>=(x1.2.2.1.2.2.2.2 (Int.toNat (i64.wrap ((i64.wrap (from_-x1.2.1.2.2.2.1))-1)))).2.2.1)),()),()))
 else(
 k1 ((false,()),())))
 else(
 none))
 else(
 bif (m==2)then(
 bif (inb (i64.wrap ((i64.wrap (from_-x1.2.1.2.2.2.1))-1)) 4)then(
 let t1:=(if(x1.2.2.1.2.2.2.2 (Int.toNat (i64.wrap ((i64.wrap (from_-x1.2.1.2.2.2.1))-1)))).2.2.2<m1 then m1 else(x1.2.2.1.2.2.2.2 (Int.toNat (i64.wrap ((i64.wrap (from_-x1.2.1.2.2.2.1))-1)))).2.2.2);let u1:=(upd x1.2.2.1.2.2.2.2 (Int.toNat (i64.wrap ((i64.wrap (from_-x1.2.1.2.2.2.1))-1))) ((x1.2.2.1.2.2.2.2 (Int.toNat (i64.wrap ((i64.wrap (from_-x1.2.1.2.2.2.1))-1)))).1,((x1.2.2.1.2.2.2.2 (Int.toNat (i64.wrap ((i64.wrap (from_-x1.2.1.2.2.2.1))-1)))).2.1,((x1.2.2.1.2.2.2.2 (Int.toNat (i64.wrap ((i64.wrap (from_-x1.2.1.2.2.2.1))-1)))).2.2.1,t1))))
 bif (decide ((u1 (Int.toNat (i64.wrap ((i64.wrap (from_-x1.2.1.2.2.2.1))-1)))).2.2.1<=m1))then(
 let u2:=(upd u1 (Int.toNat (i64.wrap ((i64.wrap (from_-x1.2.1.2.2.2.1))-1))) ((u1 (Int.toNat (i64.wrap ((i64.wrap (from_-x1.2.1.2.2.2.1))-1)))).1,((u1 (Int.toNat (i64.wrap ((i64.wrap (from_-x1.2.1.2.2.2.1))-1)))).2.1,(0,(u1 (Int.toNat (i64.wrap ((i64.wrap (from_-x1.2.1.2.2.2.1))-1)))).2.2.2))))
 some (((0,(λj=>(λ_=>zOU) (0+j))),()),((x1.2.1.1,(x1.2.1.2.1,(x1.2.1.2.2.1,(x1.2.1.2.2.2.1,(x1.2.1.2.2.2.2.1,((),((List.modify x1.2.1.2.2.2.2.2.2.1.1 x1.2.1.2.2.2.2.2.2.1.2 λe=>(e.1,((x1.2.2.1.1,(x1.2.2.1.2.1,(.nil,(.nil,u2)))),x1.2.2.2))),(0,(λj=>(λ_=>zOU) (0+j)))))))))),(y.2.2.1,()))))
 else(
 some (((0,(λj=>(λ_=>zOU) (0+j))),()),((x1.2.1.1,(x1.2.1.2.1,(x1.2.1.2.2.1,(x1.2.1.2.2.2.1,(x1.2.1.2.2.2.2.1,((),((List.modify x1.2.1.2.2.2.2.2.2.1.1 x1.2.1.2.2.2.2.2.2.1.2 λe=>(e.1,((x1.2.2.1.1,(x1.2.2.1.2.1,(.nil,(.nil,u1)))),x1.2.2.2))),(0,(λj=>(λ_=>zOU) (0+j)))))))))),(y.2.2.1,())))))
 else(
 none))
 else(
 bif (m==5)then(
 match(jq from_ m m1 m2 m3 m4 nm m5 nm1 m6 ((x1.2.1.1,(x1.2.1.2.1,(x1.2.1.2.2.1,(x1.2.1.2.2.2.1,(x1.2.1.2.2.2.2.1,((),(x1.2.1.2.2.2.2.2.2.1,zNO))))))),(x1.2.2.1,(x1.2.2.2.1,(x1.2.2.2.2.1,y.2.2)))))with
 |none=>none
 |some y4=>(
 some (((y4.2.1.2.2.2.2.2.2.2.1,(λj=>y4.2.1.2.2.2.2.2.2.2.2 (0+j))),()),((y4.2.1.1,(y4.2.1.2.1,(y4.2.1.2.2.1,(y4.2.1.2.2.2.1,(y4.2.1.2.2.2.2.1,((),((List.modify y4.2.1.2.2.2.2.2.2.1.1 y4.2.1.2.2.2.2.2.2.1.2 λe=>(e.1,((y4.2.2.1.1,(y4.2.2.1.2.1,(.nil,(.nil,y4.2.2.1.2.2.2.2)))),(y4.2.2.2.1,(y4.2.2.2.2.1,()))))),(y4.2.1.2.2.2.2.2.2.2.1,(λj=>y4.2.1.2.2.2.2.2.2.2.2 (0+j)))))))))),(y4.2.2.2.2.2.1,())))))
 else(
 bif (m==6)then(
 match(iX from_ m m1 m2 m3 m4 nm m5 nm1 m6 ((x1.2.1.1,(x1.2.1.2.1,(x1.2.1.2.2.1,(x1.2.1.2.2.2.1,(x1.2.1.2.2.2.2.1,((),(x1.2.1.2.2.2.2.2.2.1,zNO))))))),(x1.2.2.1,(x1.2.2.2.1,(x1.2.2.2.2.1,y.2.2)))))with
 |none=>none
 |some y5=>(
 some (((y5.2.1.2.2.2.2.2.2.2.1,(λj=>y5.2.1.2.2.2.2.2.2.2.2 (0+j))),()),((y5.2.1.1,(y5.2.1.2.1,(y5.2.1.2.2.1,(y5.2.1.2.2.2.1,(y5.2.1.2.2.2.2.1,((),((List.modify y5.2.1.2.2.2.2.2.2.1.1 y5.2.1.2.2.2.2.2.2.1.2 λe=>(e.1,((y5.2.2.1.1,(y5.2.2.1.2.1,(.nil,(.nil,y5.2.2.1.2.2.2.2)))),(y5.2.2.2.1,(y5.2.2.2.2.1,()))))),(y5.2.1.2.2.2.2.2.2.2.1,(λj=>y5.2.1.2.2.2.2.2.2.2.2 (0+j)))))))))),(y5.2.2.2.2.2.1,())))))
 else(
 match(qP nm m5)with
 |none=>none
 |some r3=>(
 bif (m==8)then(
 match(gu (m3,(r3,((nm,m5),(nm1,m6)))) ((x1.2.1.1,(x1.2.1.2.1,(x1.2.1.2.2.1,(x1.2.1.2.2.2.1,(x1.2.1.2.2.2.2.1,((),(x1.2.1.2.2.2.2.2.2.1,zNO))))))),(x1.2.2.1,(x1.2.2.2.1,(x1.2.2.2.2.1,y.2.2)))))with
 |none=>none
 |some y6=>(
 some (((y6.2.1.2.2.2.2.2.2.2.1,(λj=>y6.2.1.2.2.2.2.2.2.2.2 (0+j))),()),((y6.2.1.1,(y6.2.1.2.1,(y6.2.1.2.2.1,(y6.2.1.2.2.2.1,(y6.2.1.2.2.2.2.1,((),((List.modify y6.2.1.2.2.2.2.2.2.1.1 y6.2.1.2.2.2.2.2.2.1.2 λe=>(e.1,((y6.2.2.1.1,(y6.2.2.1.2.1,(.nil,(.nil,y6.2.2.1.2.2.2.2)))),(y6.2.2.2.1,(y6.2.2.2.2.1,()))))),(y6.2.1.2.2.2.2.2.2.2.1,(λj=>y6.2.1.2.2.2.2.2.2.2.2 (0+j)))))))))),(y6.2.2.2.2.2.1,())))))
 else(
 match(iB (i64.wrap (from_-x1.2.1.2.2.2.1)) ((m3,(r3,((nm,m5),(nm1,m6)))),m1) ((x1.2.1.1,(x1.2.1.2.1,(x1.2.1.2.2.1,(x1.2.1.2.2.2.1,(x1.2.1.2.2.2.2.1,((),(x1.2.1.2.2.2.2.2.2.1,zNO))))))),(x1.2.2.1,(x1.2.2.2.1,(x1.2.2.2.2.1,y.2.2)))))with
 |none=>none
 |some y7=>(
 some (((y7.2.1.2.2.2.2.2.2.2.1,(λj=>y7.2.1.2.2.2.2.2.2.2.2 (0+j))),()),((y7.2.1.1,(y7.2.1.2.1,(y7.2.1.2.2.1,(y7.2.1.2.2.2.1,(y7.2.1.2.2.2.2.1,((),((List.modify y7.2.1.2.2.2.2.2.2.1.1 y7.2.1.2.2.2.2.2.2.1.2 λe=>(e.1,((y7.2.2.1.1,(y7.2.2.1.2.1,(.nil,(.nil,y7.2.2.1.2.2.2.2)))),(y7.2.2.2.1,(y7.2.2.2.2.1,()))))),(y7.2.1.2.2.2.2.2.2.2.1,(λj=>y7.2.1.2.2.2.2.2.2.2.2 (0+j)))))))))),(y7.2.2.2.2.2.1,())))))))))))
 match(y.2.1.2.2.2.2.2.2.1[(bidx .str y.2.1.2.2.2.2.2.2.1 m2)]?)with
 |none=>(
 match(lZ y.2.1.2.2.2.1)with
 |none=>none
 |some y1=>(
 let r1:=y1.1.2.1;let o1:=y1.2.1
 match(lZ y.2.1.2.2.2.1)with
 |none=>none
 |some y2=>(
 let r2:=y2.1.2.1;let o2:=y2.2.1
 k ((),((y.2.1.1,(y.2.1.2.1,(y.2.1.2.2.1,(y.2.1.2.2.2.1,(y.2.1.2.2.2.2.1,((),(((WC .str tRC y.2.1.2.2.2.2.2.2.1 m2),(bidx .str y.2.1.2.2.2.2.2.2.1 m2)),()))))))),((zVA,(m2,((),((),zCS)))),(o1,(o2,()))))))))
 |some q=>(
 k ((),((y.2.1.1,(y.2.1.2.1,(y.2.1.2.2.1,(y.2.1.2.2.2.1,(y.2.1.2.2.2.2.1,((),((y.2.1.2.2.2.2.2.2.1,(bidx .str y.2.1.2.2.2.2.2.2.1 m2)),()))))))),((q.2.1.1,(q.2.1.2.1,((),((),q.2.1.2.2.2.2)))),(q.2.2.1,(q.2.2.2.1,()))))))))
def bn:=veil gD
theorem l8:bn=gD:=au _
def qz(s:Z03)(from_:Int)(m:Z0e):Option (Z0B):=match s with|none=>(some zNO)|some s0=>(bif (Option.isSome s0.2.2.2.2.2.2.1)then(none)else(some zNO))
def ig:=veil qz
theorem mZ:ig=qz:=au _
def ng(key:ByteArray)(o:SS):Option ((((Int×Int)×(ByteArray×Z0q))×SS)):=match(o.1.2.2.2.2.2.2.1[(bidx .str o.1.2.2.2.2.2.2.1 key)]?)with|none=>(some (((0,0),((ByteArray.mk #[]),(false,()))),o))|some q=>(some ((q.2.1.1.1,(q.2.1.1.2.1,((decide (((q.2.1.1.2.2.2.1:Nat):Int)>0)),()))),((o.1.1,(o.1.2.1,(o.1.2.2.1,(o.1.2.2.2.1,(o.1.2.2.2.2.1,((),((List.modify o.1.2.2.2.2.2.2.1 (bidx .str o.1.2.2.2.2.2.2.1 key) λe=>(e.1,((q.2.1.1,(q.2.1.2.1,(.nil,(.nil,q.2.1.2.2.2.2)))),(q.2.2.1,(q.2.2.2.1,()))))),o.1.2.2.2.2.2.2.2))))))),o.2)))
def iD:=veil ng
theorem sZ:iD=ng:=au _
def qA(s:Z03)(key:ByteArray):Option ((Int×Int)×ByteArray×Bool):=match s with|none=>(some ((0,0),(ByteArray.mk #[]),false))|some s0=>(bif (Option.isSome s0.2.2.2.2.2.2.1)then(none)else(some ((0,0),(ByteArray.mk #[]),false)))
def iq:=veil qA
theorem ni:iq=qA:=au _
def nk(o:SS):Option (((Z0h×Unit)×SS)):=match(gZ o.2.1.1 o.2.1.2.1 o.2.1.2.2.1.1 o.2.1.2.2.1.2 o.2.1.2.2.2)with|none=>none|some y=>(let nr:=y.1.1.1;let r:=y.1.1.2;let o1:=y.2.1.1;let o2:=y.2.1.2.1;let no:=y.2.1.2.2.1.1;let o3:=y.2.1.2.2.1.2;let o4:=y.2.1.2.2.2;some (((nr,r),()),(o.1,((o1,(o2,((no,o3),o4))),()))))
def jL:=veil nk
theorem tu:jL=nk:=au _
def kH(s:Z03):Option (Z0h):=match s with|none=>(some (0,(λ_=>ByteArray.empty)))|some s0=>(bif (aR.vQ s0.2.2.2.2.2.1)then(none)else(bif (aR.isNil s0.2.2.2.2.2.1)then(match(kV none)with|none=>none|some r=>(some (r.1,r.2)))else(match(kV (some (aR.val ((0,(0,(.nil,none))):Z08) s0.2.2.2.2.2.1)))with|none=>none|some r1=>(some (r1.1,r1.2)))))
def iw:=veil kH
theorem nu:iw=kH:=au _
abbrev bq(t:Int)(t1:Int)(o:Z0m):=(((),((),(t,(t1,())))),o)
abbrev dH:Type:=((Unit×Z0r)×Z0m)
def bS:dH->Option (dH⊕(Unit×Z0m)):=λx=>
 let t:=x.1.2.2.1;let t1:=x.1.2.2.2.1
 bif (decide (t1<t))then(
 bif (inb t1 4)then(
 let k1:(Unit×(SO×(SP×CR)))->Option (dH⊕(Unit×Z0m)):=λx2=>(
 let k2:(Unit×(SO×(SP×CR)))->Option (dH⊕(Unit×Z0m)):=λx3=>(
 match(ji (some x3.2.2.2.2.2.1) x3.2.1.2.2.1 (i64.wrap (t1+1)) 1)with
 |none=>none
 |some r3=>(
 bif (decide (r3.1.1>0))then(
 match(bJ 6 r3.1 r3.2 (x3.2.1,(x3.2.2.2.1,(x3.2.2.2.2.1,(x3.2.2.2.2.2.1,(x3.2.2.1,()))))))with
 |none=>none
 |some y3=>(
 some (.inl (((),((),(t,((i64.wrap (t1+1)),())))),(y3.2.1,(y3.2.2.2.2.2.1,((),(y3.2.2.1,(y3.2.2.2.1,(y3.2.2.2.2.1,((),())))))))))))
 else(
 some (.inl (((),((),(t,((i64.wrap (t1+1)),())))),(x3.2.1,(x3.2.2.1,((),(x3.2.2.2.1,(x3.2.2.2.2.1,(x3.2.2.2.2.2.1,((),()))))))))))))
 match(ji (some x2.2.2.2.2.1) x2.2.1.2.2.1 (i64.wrap (t1+1)) 1)with
 |none=>none
 |some r2=>(
 bif (decide (r2.1.1>0))then(
 match(bJ 5 r2.1 r2.2 (x2.2.1,(x2.2.2.2.1,(x2.2.2.2.2.1,(x2.2.2.2.2.2.1,(x2.2.2.1,()))))))with
 |none=>none
 |some y2=>(
 k2 ((),(y2.2.1,(y2.2.2.2.2.2.1,(y2.2.2.1,(y2.2.2.2.1,(y2.2.2.2.2.1,()))))))))
 else(
 k2 x2)))
 let k:(Unit×(SO×(SP×CR)))->Option (dH⊕(Unit×Z0m)):=λx1=>(
 match(ji (some x1.2.2.2.2.2.1) x1.2.1.2.2.1 (i64.wrap (t1+1)) 0)with
 |none=>none
 |some r1=>(
 bif (decide (r1.1.1>0))then(
 match(bJ 6 r1.1 r1.2 (x1.2.1,(x1.2.2.2.1,(x1.2.2.2.2.1,(x1.2.2.2.2.2.1,(x1.2.2.1,()))))))with
 |none=>none
 |some y1=>(
 k1 ((),(y1.2.1,(y1.2.2.2.2.2.1,(y1.2.2.1,(y1.2.2.2.1,(y1.2.2.2.2.1,()))))))))
 else(
 k1 x1)))
 match(ji (some x.2.2.2.2.2.1) x.2.1.2.2.1 (i64.wrap (t1+1)) 0)with
 |none=>none
 |some r=>(
 bif (decide (r.1.1>0))then(
 match(bJ 5 r.1 r.2 (x.2.1,(x.2.2.2.2.1,(x.2.2.2.2.2.1,(x.2.2.2.2.2.2.1,(x.2.2.1,()))))))with
 |none=>none
 |some y=>(
 k ((),(y.2.1,(y.2.2.2.2.2.1,(y.2.2.1,(y.2.2.2.1,(y.2.2.2.2.1,()))))))))
 else(
 k ((),(x.2.1,(x.2.2.1,(x.2.2.2.2.1,(x.2.2.2.2.2.1,(x.2.2.2.2.2.2.1,())))))))))
 else(
 none))
 else(
 some (.inr ((),(x.2.1,(x.2.2.1,((),(x.2.2.2.2.1,(x.2.2.2.2.2.1,(x.2.2.2.2.2.2.1,((),()))))))))))
abbrev kg(nt:Nat)(t:Nat->ByteArray)(t1:Int)(t2:Int)(o:(SN×(SP×Z07))):=(((),((),((nt,t),(t1,(t2,()))))),o)
abbrev Ao(o:(SN×(SP×Z07))):=(((),((),())),o)
abbrev qY:Type:=((Unit×(Unit×(Z0h×(Int×Z05))))×(SN×(SP×Z07)))
def dB:qY->Option (qY⊕(Z0i×(SN×(SP×Z07)))):=λx=>let nt:=x.1.2.2.1.1;let t:=x.1.2.2.1.2;let t1:=x.1.2.2.2.1;let t2:=x.1.2.2.2.2.1;bif (decide (t2<t1))then(bif (inb t2 nt)then(match(x.2.1.2.2.2.2.2.2.1[(bidx .str x.2.1.2.2.2.2.2.2.1 (t (Int.toNat t2)))]?)with|none=>(match(lZ x.2.1.2.2.2.1)with|none=>none|some y2=>(let r:=y2.1.2.1;let o:=y2.2.1;match(lZ x.2.1.2.2.2.1)with|none=>none|some y3=>(let r1:=y3.1.2.1;let o1:=y3.2.1;none)))|some q=>(match(aD bS (((),((),(x.2.1.2.2.2.2.1,(0,())))),((x.2.1.1,(x.2.1.2.1,(x.2.1.2.2.1,(x.2.1.2.2.2.1,(x.2.1.2.2.2.2.1,((),((x.2.1.2.2.2.2.2.2.1,(bidx .str x.2.1.2.2.2.2.2.2.1 (t (Int.toNat t2)))),x.2.1.2.2.2.2.2.2.2))))))),(x.2.2.1,((),((q.2.1.1,(q.2.1.2.1,((),((),q.2.1.2.2.2.2)))),(q.2.2.1,(q.2.2.2.1,((),())))))))))with|none=>none|some y=>(match(dD (y.2.1,(y.2.2.2.2.1,(y.2.2.2.2.2.1,(y.2.2.2.2.2.2.1,(y.2.2.1,()))))))with|none=>none|some y1=>(some (.inl (((),((),((nt,t),(t1,((i64.wrap (t2+1)),()))))),((y1.2.1.1,(y1.2.1.2.1,(y1.2.1.2.2.1,(y1.2.1.2.2.2.1,(y1.2.1.2.2.2.2.1,((),((List.modify y1.2.1.2.2.2.2.2.2.1.1 y1.2.1.2.2.2.2.2.2.1.2 λe=>(e.1,((y1.2.2.1.1,(y1.2.2.1.2.1,(.nil,(.nil,y1.2.2.1.2.2.2.2)))),(y1.2.2.2.1,(y1.2.2.2.2.1,()))))),y1.2.1.2.2.2.2.2.2.2))))))),(y1.2.2.2.2.2.1,((),())))))))))else(none))else(some (.inr (((),((),())),(x.2.1,(x.2.2.1,((),()))))))
def jr(o:SS):Option (((Z0B×Unit)×SS)):=match(gZ o.2.1.1 o.2.1.2.1 o.2.1.2.2.1.1 o.2.1.2.2.1.2 o.2.1.2.2.2)with|none=>none|some y=>(let nr:=y.1.1.1;let r:=y.1.1.2;let o1:=y.2.1.1;let o2:=y.2.1.2.1;let no:=y.2.1.2.2.1.1;let o3:=y.2.1.2.2.1.2;let o4:=y.2.1.2.2.2;match(aD dB (((),((),((nr,r),(((nr:Nat):Int),(0,()))))),((o.1.1,(o.1.2.1,(o.1.2.2.1,(o.1.2.2.2.1,(o.1.2.2.2.2.1,((),(o.1.2.2.2.2.2.2.1,zNO))))))),((o1,(o2,((no,o3),o4))),((),())))))with|none=>none|some y1=>(some (((y1.2.1.2.2.2.2.2.2.2.1,(λj=>y1.2.1.2.2.2.2.2.2.2.2 (0+j))),()),((y1.2.1.1,(y1.2.1.2.1,(y1.2.1.2.2.1,(y1.2.1.2.2.2.1,(y1.2.1.2.2.2.2.1,((),(y1.2.1.2.2.2.2.2.2.1,(y1.2.1.2.2.2.2.2.2.2.1,(λj=>y1.2.1.2.2.2.2.2.2.2.2 (0+j)))))))))),(y1.2.2.1,())))))
def dn:=veil jr
theorem tF:dn=jr:=au _
def qB(s:Z03):Option (Z0B):=match s with|none=>(some zNO)|some s0=>(bif (Option.isSome s0.2.2.2.2.2.2.1)then(none)else(some zNO))
def iy:=veil qB
theorem nA:iy=qB:=au _
open Go.IntKind (i64 u64 u32 u8)
open Go.IntKind (i64 u64 u32 u8)
open Go.IntKind (i64 u64 u32 u8)
open Go.IntKind (i64 u64 u32 u8)
open Go.IntKind (i64 u64 u32 u8)
open Go.IntKind (i64 u64 u32 u8)
open Go.IntKind (i64 u64 u32 u8)
open Go.IntKind (i64 u64 u32 u8)
open Go.IntKind (i64 u64 u32 u8)
open Go.IntKind (i64 u64 u32 u8)
open Go.IntKind (i64 u64 u32 u8)
end
end Go.Pl
