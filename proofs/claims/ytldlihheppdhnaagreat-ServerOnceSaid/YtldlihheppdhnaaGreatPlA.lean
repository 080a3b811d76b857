/-
  The functions, plainly.
-/
import Derived.Test.YtldlihheppdhnaaGreatDenI
set_option linter.unusedVariables false
set_option linter.unusedSimpArgs false
set_option maxRecDepth 100000
set_option maxHeartbeats 0
namespace Go.Pl
open Go.Den
abbrev Z00:Type:=(((aL (NI×(Int×(NI×NI))))×(aL (NI×(Int×(NI×NI)))))×NI)×(Int×(Int×(Int×(Int×(Unit×((List (ByteArray×((((Int×Int)×(ByteArray×((Nat×(Nat->(SlV NI)))×(Nat×(Nat->NI)))))×(ByteArray×((aL (Int×(Nat->(Nat->(Nat->((Int×Int)×ByteArray))))))×((aL (Int×(Nat->(Nat->(Nat->((Int×Int)×ByteArray))))))×(Nat->((Nat->(((Int×Int)×(ByteArray×((Nat×(Nat->(SlV NI)))×(Nat×(Nat->NI)))))×Int))×((((Int×Int)×(ByteArray×((Nat×(Nat->(SlV NI)))×(Nat×(Nat->NI)))))×Int)×(Int×Int))))))))×((Int×(Nat->(Nat->(Nat->((Int×Int)×ByteArray)))))×((Int×(Nat->(Nat->(Nat->((Int×Int)×ByteArray)))))×Unit)))))×(Nat×(Nat->(Int×(Int×(Int×(ByteArray×((Int×Int)×(ByteArray×((SlV (SlV NI))×(SlV NI))))))))))))))))
abbrev Z03:Type:=NI×(Int×(NI×NI))
abbrev Z05:Type:=Int×(Int×(ByteArray×((Int×Int)×(ByteArray×((SlV (SlV NI))×(SlV NI))))))
abbrev Z06:Type:=Int×Unit
abbrev Z07:Type:=(Int×(Int×((Nat×(Nat->ByteArray))×(List (Int×Int)))))×(Z00×((Int×(Int×Int))×((Int×Int)×((Int×(Int×(ByteArray×((Int×Int)×(ByteArray×((Nat×(Nat->(SlV NI)))×(Nat×(Nat->NI))))))))×Unit))))
abbrev Z08:Type:=Int×(Int×(Int×(Int×((Int×Int)×(Int×Int)))))
abbrev Z09:Type:=Unit×Unit
abbrev Z0a:Type:=NI×(NI×Unit)
abbrev Z0b:Type:=((aL Z03)×(aL Z03))×NI
abbrev Z0c:Type:=Int×(Int×((SlV ByteArray)×(Option Nat)))
abbrev Z0d:Type:=(Bool×Unit)×Unit
abbrev Z0e:Type:=Bool×(NI×(NI×Int))
abbrev Z0f:Type:=Nat×(Nat->(SlV NI))
abbrev Z0h:Type:=Unit×(Unit×Z06)
abbrev Z0j:Type:=Nat×(Nat->NI)
abbrev Z0k:Type:=Int×(Int×Int)
abbrev Z0l:Type:=Nat×(Nat->ByteArray)
abbrev Z0m:Type:=Unit×Z09
abbrev Z0n:Type:=Nat->Bool
abbrev Z0o:Type:=((Z0f×((Nat×(Nat->(Int×(SlV NI))))×Z06))×Unit)
abbrev Z0q:Type:=Unit×(Int×Z06)
abbrev Z0s:Type:=Int×(Int×(Z0l×(List (Int×Int))))
abbrev Z0t:Type:=(Nat×(Nat->(NI×Int)))×NI
abbrev Z0u:Type:=Bool×Unit
abbrev Z0v:Type:=Int×(Int×Z06)
abbrev Z0x:Type:=ByteArray
abbrev Z0y:Type:=NI×(NI×Z0a)
abbrev Z0z:Type:=Unit×Z06
abbrev Z0A:Type:=((Nat×NI)×Unit)×Unit
abbrev Z0B:Type:=Option Z0b
abbrev Z0C:Type:=Option Z03
abbrev Z0D:Type:=Unit×(Unit×Z0h)
abbrev Z0F:Type:=List Nat
abbrev Z0I:Type:=Nat×(Nat->(Nat->NI))
abbrev Z0J:Type:=Int×(Int×(Int×(Int×(Int×Z0v))))
abbrev Z0K:Type:=(Unit×(Nat×NI))×Unit
abbrev Z0L:Type:=Z06×Unit
abbrev Z0N:Type:=Int×(SlV NI)
abbrev Z0O:Type:=(Int×Int)×Unit
end Go.Pl
namespace Go.Pl
end Go.Pl
open Go Go.Den Go.Pl
namespace Go.Pl
noncomputable section
open Go.IntKind (i64 u64 u32 u8)
def Hl(x:Int)(y:Int):Option (Int×Int):=let t:=(bG .u64 (u64.wrap ((ak .and .u64 x 4294967295)*(ak .and .u64 y 4294967295))) 32);let t1:=(ak .and .u64 (u64.wrap ((u64.wrap ((bG .u64 x 32)*(ak .and .u64 y 4294967295)))+t)) 4294967295);let t2:=(bG .u64 (u64.wrap ((u64.wrap ((bG .u64 x 32)*(ak .and .u64 y 4294967295)))+t)) 32);let t3:=(bG .u64 (u64.wrap (t1+(u64.wrap ((ak .and .u64 x 4294967295)*(bG .u64 y 32))))) 32);let t4:=(u64.wrap ((u64.wrap ((u64.wrap ((bG .u64 x 32)*(bG .u64 y 32)))+t2))+t3));some (t4,(u64.wrap (x*y)))
def bits_Mul64:=veil Hl
theorem Kk:bits_Mul64=Hl:=aj _
def Ho(x:Int):Option (Int):=bif (decide (x>=4294967296))then(bif (decide ((bG .u64 x 32)>=65536))then(bif (decide ((bG .u64 (bG .u64 x 32) 16)>=256))then(bif (inb (u8.wrap (bG .u64 (bG .u64 (bG .u64 x 32) 16) 8)) 256)then(let t:=(((UInt8.toNat (List.getD (Array.toList (ByteArray.data (ByteArray.mk #[0,1,2,2,3,3,3,3,4,4,4,4,4,4,4,4,5,5,5,5,5,5,5,5,5,5,5,5,5,5,5,5,6,6,6,6,6,6,6,6,6,6,6,6,6,6,6,6,6,6,6,6,6,6,6,6,6,6,6,6,6,6,6,6,7,7,7,7,7,7,7,7,7,7,7,7,7,7,7,7,7,7,7,7,7,7,7,7,7,7,7,7,7,7,7,7,7,7,7,7,7,7,7,7,7,7,7,7,7,7,7,7,7,7,7,7,7,7,7,7,7,7,7,7,7,7,7,7,8,8,8,8,8,8,8,8,8,8,8,8,8,8,8,8,8,8,8,8,8,8,8,8,8,8,8,8,8,8,8,8,8,8,8,8,8,8,8,8,8,8,8,8,8,8,8,8,8,8,8,8,8,8,8,8,8,8,8,8,8,8,8,8,8,8,8,8,8,8,8,8,8,8,8,8,8,8,8,8,8,8,8,8,8,8,8,8,8,8,8,8,8,8,8,8,8,8,8,8,8,8,8,8,8,8,8,8,8,8,8,8,8,8,8,8,8,8,8,8,8,8,8,8,8,8,8,8]))) (Int.toNat (u8.wrap (bG .u64 (bG .u64 (bG .u64 x 32) 16) 8))) 0)):Nat):Int);some (i64.wrap (56+(i64.wrap t))))else(none))else(bif (inb (u8.wrap (bG .u64 (bG .u64 x 32) 16)) 256)then(let t1:=(((UInt8.toNat (List.getD (Array.toList (ByteArray.data (ByteArray.mk #[0,1,2,2,3,3,3,3,4,4,4,4,4,4,4,4,5,5,5,5,5,5,5,5,5,5,5,5,5,5,5,5,6,6,6,6,6,6,6,6,6,6,6,6,6,6,6,6,6,6,6,6,6,6,6,6,6,6,6,6,6,6,6,6,7,7,7,7,7,7,7,7,7,7,7,7,7,7,7,7,7,7,7,7,7,7,7,7,7,7,7,7,7,7,7,7,7,7,7,7,7,7,7,7,7,7,7,7,7,7,7,7,7,7,7,7,7,7,7,7,7,7,7,7,7,7,7,7,8,8,8,8,8,8,8,8,8,8,8,8,8,8,8,8,8,8,8,8,8,8,8,8,8,8,8,8,8,8,8,8,8,8,8,8,8,8,8,8,8,8,8,8,8,8,8,8,8,8,8,8,8,8,8,8,8,8,8,8,8,8,8,8,8,8,8,8,8,8,8,8,8,8,8,8,8,8,8,8,8,8,8,8,8,8,8,8,8,8,8,8,8,8,8,8,8,8,8,8,8,8,8,8,8,8,8,8,8,8,8,8,8,8,8,8,8,8,8,8,8,8,8,8,8,8,8,8]))) (Int.toNat (u8.wrap (bG .u64 (bG .u64 x 32) 16))) 0)):Nat):Int);some (i64.wrap (48+(i64.wrap t1))))else(none)))else(bif (decide ((bG .u64 x 32)>=256))then(bif (inb (u8.wrap (bG .u64 (bG .u64 x 32) 8)) 256)then(let t2:=(((UInt8.toNat (List.getD (Array.toList (ByteArray.data (ByteArray.mk #[0,1,2,2,3,3,3,3,4,4,4,4,4,4,4,4,5,5,5,5,5,5,5,5,5,5,5,5,5,5,5,5,6,6,6,6,6,6,6,6,6,6,6,6,6,6,6,6,6,6,6,6,6,6,6,6,6,6,6,6,6,6,6,6,7,7,7,7,7,7,7,7,7,7,7,7,7,7,7,7,7,7,7,7,7,7,7,7,7,7,7,7,7,7,7,7,7,7,7,7,7,7,7,7,7,7,7,7,7,7,7,7,7,7,7,7,7,7,7,7,7,7,7,7,7,7,7,7,8,8,8,8,8,8,8,8,8,8,8,8,8,8,8,8,8,8,8,8,8,8,8,8,8,8,8,8,8,8,8,8,8,8,8,8,8,8,8,8,8,8,8,8,8,8,8,8,8,8,8,8,8,8,8,8,8,8,8,8,8,8,8,8,8,8,8,8,8,8,8,8,8,8,8,8,8,8,8,8,8,8,8,8,8,8,8,8,8,8,8,8,8,8,8,8,8,8,8,8,8,8,8,8,8,8,8,8,8,8,8,8,8,8,8,8,8,8,8,8,8,8,8,8,8,8,8,8]))) (Int.toNat (u8.wrap (bG .u64 (bG .u64 x 32) 8))) 0)):Nat):Int);some (i64.wrap (40+(i64.wrap t2))))else(none))else(bif (inb (u8.wrap (bG .u64 x 32)) 256)then(let t3:=(i64.wrap (((UInt8.toNat (List.getD (Array.toList (ByteArray.data (ByteArray.mk #[0,1,2,2,3,3,3,3,4,4,4,4,4,4,4,4,5,5,5,5,5,5,5,5,5,5,5,5,5,5,5,5,6,6,6,6,6,6,6,6,6,6,6,6,6,6,6,6,6,6,6,6,6,6,6,6,6,6,6,6,6,6,6,6,7,7,7,7,7,7,7,7,7,7,7,7,7,7,7,7,7,7,7,7,7,7,7,7,7,7,7,7,7,7,7,7,7,7,7,7,7,7,7,7,7,7,7,7,7,7,7,7,7,7,7,7,7,7,7,7,7,7,7,7,7,7,7,7,8,8,8,8,8,8,8,8,8,8,8,8,8,8,8,8,8,8,8,8,8,8,8,8,8,8,8,8,8,8,8,8,8,8,8,8,8,8,8,8,8,8,8,8,8,8,8,8,8,8,8,8,8,8,8,8,8,8,8,8,8,8,8,8,8,8,8,8,8,8,8,8,8,8,8,8,8,8,8,8,8,8,8,8,8,8,8,8,8,8,8,8,8,8,8,8,8,8,8,8,8,8,8,8,8,8,8,8,8,8,8,8,8,8,8,8,8,8,8,8,8,8,8,8,8,8,8,8]))) (Int.toNat (u8.wrap (bG .u64 x 32))) 0)):Nat):Int));some (i64.wrap (32+t3)))else(none))))else(bif (decide (x>=65536))then(bif (decide ((bG .u64 x 16)>=256))then(bif (inb (u8.wrap (bG .u64 (bG .u64 x 16) 8)) 256)then(let t4:=(((UInt8.toNat (List.getD (Array.toList (ByteArray.data (ByteArray.mk #[0,1,2,2,3,3,3,3,4,4,4,4,4,4,4,4,5,5,5,5,5,5,5,5,5,5,5,5,5,5,5,5,6,6,6,6,6,6,6,6,6,6,6,6,6,6,6,6,6,6,6,6,6,6,6,6,6,6,6,6,6,6,6,6,7,7,7,7,7,7,7,7,7,7,7,7,7,7,7,7,7,7,7,7,7,7,7,7,7,7,7,7,7,7,7,7,7,7,7,7,7,7,7,7,7,7,7,7,7,7,7,7,7,7,7,7,7,7,7,7,7,7,7,7,7,7,7,7,8,8,8,8,8,8,8,8,8,8,8,8,8,8,8,8,8,8,8,8,8,8,8,8,8,8,8,8,8,8,8,8,8,8,8,8,8,8,8,8,8,8,8,8,8,8,8,8,8,8,8,8,8,8,8,8,8,8,8,8,8,8,8,8,8,8,8,8,8,8,8,8,8,8,8,8,8,8,8,8,8,8,8,8,8,8,8,8,8,8,8,8,8,8,8,8,8,8,8,8,8,8,8,8,8,8,8,8,8,8,8,8,8,8,8,8,8,8,8,8,8,8,8,8,8,8,8,8]))) (Int.toNat (u8.wrap (bG .u64 (bG .u64 x 16) 8))) 0)):Nat):Int);some (i64.wrap (24+(i64.wrap t4))))else(none))else(bif (inb (u8.wrap (bG .u64 x 16)) 256)then(let t5:=(i64.wrap (((UInt8.toNat (List.getD (Array.toList (ByteArray.data (ByteArray.mk #[0,1,2,2,3,3,3,3,4,4,4,4,4,4,4,4,5,5,5,5,5,5,5,5,5,5,5,5,5,5,5,5,6,6,6,6,6,6,6,6,6,6,6,6,6,6,6,6,6,6,6,6,6,6,6,6,6,6,6,6,6,6,6,6,7,7,7,7,7,7,7,7,7,7,7,7,7,7,7,7,7,7,7,7,7,7,7,7,7,7,7,7,7,7,7,7,7,7,7,7,7,7,7,7,7,7,7,7,7,7,7,7,7,7,7,7,7,7,7,7,7,7,7,7,7,7,7,7,8,8,8,8,8,8,8,8,8,8,8,8,8,8,8,8,8,8,8,8,8,8,8,8,8,8,8,8,8,8,8,8,8,8,8,8,8,8,8,8,8,8,8,8,8,8,8,8,8,8,8,8,8,8,8,8,8,8,8,8,8,8,8,8,8,8,8,8,8,8,8,8,8,8,8,8,8,8,8,8,8,8,8,8,8,8,8,8,8,8,8,8,8,8,8,8,8,8,8,8,8,8,8,8,8,8,8,8,8,8,8,8,8,8,8,8,8,8,8,8,8,8,8,8,8,8,8,8]))) (Int.toNat (u8.wrap (bG .u64 x 16))) 0)):Nat):Int));some (i64.wrap (16+t5)))else(none)))else(bif (decide (x>=256))then(bif (inb (u8.wrap (bG .u64 x 8)) 256)then(let t6:=(i64.wrap (((UInt8.toNat (List.getD (Array.toList (ByteArray.data (ByteArray.mk #[0,1,2,2,3,3,3,3,4,4,4,4,4,4,4,4,5,5,5,5,5,5,5,5,5,5,5,5,5,5,5,5,6,6,6,6,6,6,6,6,6,6,6,6,6,6,6,6,6,6,6,6,6,6,6,6,6,6,6,6,6,6,6,6,7,7,7,7,7,7,7,7,7,7,7,7,7,7,7,7,7,7,7,7,7,7,7,7,7,7,7,7,7,7,7,7,7,7,7,7,7,7,7,7,7,7,7,7,7,7,7,7,7,7,7,7,7,7,7,7,7,7,7,7,7,7,7,7,8,8,8,8,8,8,8,8,8,8,8,8,8,8,8,8,8,8,8,8,8,8,8,8,8,8,8,8,8,8,8,8,8,8,8,8,8,8,8,8,8,8,8,8,8,8,8,8,8,8,8,8,8,8,8,8,8,8,8,8,8,8,8,8,8,8,8,8,8,8,8,8,8,8,8,8,8,8,8,8,8,8,8,8,8,8,8,8,8,8,8,8,8,8,8,8,8,8,8,8,8,8,8,8,8,8,8,8,8,8,8,8,8,8,8,8,8,8,8,8,8,8,8,8,8,8,8,8]))) (Int.toNat (u8.wrap (bG .u64 x 8))) 0)):Nat):Int));some (i64.wrap (8+t6)))else(none))else(bif (inb (u8.wrap x) 256)then(let t7:=(i64.wrap (0+(i64.wrap (((UInt8.toNat (List.getD (Array.toList (ByteArray.data (ByteArray.mk #[0,1,2,2,3,3,3,3,4,4,4,4,4,4,4,4,5,5,5,5,5,5,5,5,5,5,5,5,5,5,5,5,6,6,6,6,6,6,6,6,6,6,6,6,6,6,6,6,6,6,6,6,6,6,6,6,6,6,6,6,6,6,6,6,7,7,7,7,7,7,7,7,7,7,7,7,7,7,7,7,7,7,7,7,7,7,7,7,7,7,7,7,7,7,7,7,7,7,7,7,7,7,7,7,7,7,7,7,7,7,7,7,7,7,7,7,7,7,7,7,7,7,7,7,7,7,7,7,8,8,8,8,8,8,8,8,8,8,8,8,8,8,8,8,8,8,8,8,8,8,8,8,8,8,8,8,8,8,8,8,8,8,8,8,8,8,8,8,8,8,8,8,8,8,8,8,8,8,8,8,8,8,8,8,8,8,8,8,8,8,8,8,8,8,8,8,8,8,8,8,8,8,8,8,8,8,8,8,8,8,8,8,8,8,8,8,8,8,8,8,8,8,8,8,8,8,8,8,8,8,8,8,8,8,8,8,8,8,8,8,8,8,8,8,8,8,8,8,8,8,8,8,8,8,8,8]))) (Int.toNat (u8.wrap x)) 0)):Nat):Int))));some t7)else(none))))
def bits_Len64:=veil Ho
theorem Kl:bits_Len64=Ho:=aj _
def nW(x:Int):Option (Int):=match(bits_Len64 x)with|none=>none|some r=>(some (i64.wrap (64-r)))
def bits_LeadingZeros64:=veil nW
theorem ug:bits_LeadingZeros64=nW:=aj _
abbrev Ae(y:Int)(s:Int)(yn1:Int)(yn0:Int)(un32:Int)(un1:Int)(un0:Int)(q1:Int)(rhat:Int):=((y,(s,(yn1,(yn0,(un32,(un1,(un0,(q1,(rhat,()))))))))),())
abbrev vX(y:Int)(s:Int)(yn1:Int)(yn0:Int)(un32:Int)(un1:Int)(un0:Int)(q1:Int):=((y,(s,(yn1,(yn0,(un32,(un1,(un0,(q1,())))))))),())
abbrev Hq:Type:=((Int×Z0J)×Unit)
def fH:Hq->Option (Hq⊕(Z0J×Unit)):=λx=>let y:=x.1.1;let s:=x.1.2.1;let yn1:=x.1.2.2.1;let yn0:=x.1.2.2.2.1;let un32:=x.1.2.2.2.2.1;let un1:=x.1.2.2.2.2.2.1;let un0:=x.1.2.2.2.2.2.2.1;let q1:=x.1.2.2.2.2.2.2.2.1;let rhat:=x.1.2.2.2.2.2.2.2.2.1;bif (decide (q1>=4294967296))then(bif (decide ((u64.wrap (rhat+yn1))>=4294967296))then(some (.inr ((y,(s,(yn1,(yn0,(un32,(un1,(un0,((u64.wrap (q1-1)),())))))))),())))else(some (.inl ((y,(s,(yn1,(yn0,(un32,(un1,(un0,((u64.wrap (q1-1)),((u64.wrap (rhat+yn1)),()))))))))),()))))else(bif (decide ((u64.wrap (q1*yn0))>(u64.wrap ((u64.wrap (4294967296*rhat))+un1))))then(bif (decide ((u64.wrap (rhat+yn1))>=4294967296))then(some (.inr ((y,(s,(yn1,(yn0,(un32,(un1,(un0,((u64.wrap (q1-1)),())))))))),())))else(some (.inl ((y,(s,(yn1,(yn0,(un32,(un1,(un0,((u64.wrap (q1-1)),((u64.wrap (rhat+yn1)),()))))))))),()))))else(some (.inr ((y,(s,(yn1,(yn0,(un32,(un1,(un0,(q1,())))))))),()))))
abbrev Af(y:Int)(s:Int)(yn1:Int)(yn0:Int)(un0:Int)(q1:Int)(rhat:Int)(un21:Int)(q0:Int):=((y,(s,(yn1,(yn0,(un0,(q1,(rhat,(un21,(q0,()))))))))),())
abbrev vY(y:Int)(s:Int)(un0:Int)(q1:Int)(un21:Int)(q0:Int):=((y,(s,(un0,(q1,(un21,(q0,())))))),())
abbrev Hr:Type:=((Int×Z0J)×Unit)
def fI:Hr->Option (Hr⊕((Int×(Int×(Int×Z0v)))×Unit)):=λx=>let y:=x.1.1;let s:=x.1.2.1;let yn1:=x.1.2.2.1;let yn0:=x.1.2.2.2.1;let un0:=x.1.2.2.2.2.1;let q1:=x.1.2.2.2.2.2.1;let rhat:=x.1.2.2.2.2.2.2.1;let un21:=x.1.2.2.2.2.2.2.2.1;let q0:=x.1.2.2.2.2.2.2.2.2.1;bif (decide (q0>=4294967296))then(bif (decide ((u64.wrap (rhat+yn1))>=4294967296))then(some (.inr ((y,(s,(un0,(q1,(un21,((u64.wrap (q0-1)),())))))),())))else(some (.inl ((y,(s,(yn1,(yn0,(un0,(q1,((u64.wrap (rhat+yn1)),(un21,((u64.wrap (q0-1)),()))))))))),()))))else(bif (decide ((u64.wrap (q0*yn0))>(u64.wrap ((u64.wrap (4294967296*rhat))+un0))))then(bif (decide ((u64.wrap (rhat+yn1))>=4294967296))then(some (.inr ((y,(s,(un0,(q1,(un21,((u64.wrap (q0-1)),())))))),())))else(some (.inl ((y,(s,(yn1,(yn0,(un0,(q1,((u64.wrap (rhat+yn1)),(un21,((u64.wrap (q0-1)),()))))))))),()))))else(some (.inr ((y,(s,(un0,(q1,(un21,(q0,())))))),()))))
def Ht(hi:Int)(lo:Int)(y:Int):Option (Int×Int):=bif (y==0)then(none)else(bif (decide (y<=hi))then(none)else(bif (hi==0)then(bif (decide (y=0))then(none)else(bif (decide (y=0))then(none)else(some ((u64.wrap (Int.tdiv lo y)),(Int.tmod lo y)))))else(match(bits_LeadingZeros64 y)with|none=>none|some r=>(bif (decide ((u64.wrap r)<0))then(none)else(bif (decide ((u64.wrap r)<0))then(none)else(bif (decide ((u64.wrap (64-(u64.wrap r)))<0))then(none)else(let t:=(ak .or .u64 (iL .u64 hi (u64.wrap r)) (bG .u64 lo (u64.wrap (64-(u64.wrap r)))));bif (decide ((u64.wrap r)<0))then(none)else(bif (decide ((bG .u64 (iL .u64 y (u64.wrap r)) 32)=0))then(none)else(let t1:=(u64.wrap ((u64.wrap (Int.tdiv t (bG .u64 (iL .u64 y (u64.wrap r)) 32)))*(bG .u64 (iL .u64 y (u64.wrap r)) 32)));match(aB fH (((iL .u64 y (u64.wrap r)),((u64.wrap r),((bG .u64 (iL .u64 y (u64.wrap r)) 32),((ak .and .u64 (iL .u64 y (u64.wrap r)) 4294967295),(t,((bG .u64 (iL .u64 lo (u64.wrap r)) 32),((ak .and .u64 (iL .u64 lo (u64.wrap r)) 4294967295),((u64.wrap (Int.tdiv t (bG .u64 (iL .u64 y (u64.wrap r)) 32))),((u64.wrap (t-t1)),()))))))))),()))with|none=>none|some y1=>(let y2:=y1.1.1;let s:=y1.1.2.1;let yn1:=y1.1.2.2.1;let yn0:=y1.1.2.2.2.1;let un32:=y1.1.2.2.2.2.1;let un1:=y1.1.2.2.2.2.2.1;let un0:=y1.1.2.2.2.2.2.2.1;let q1:=y1.1.2.2.2.2.2.2.2.1;bif (decide (yn1=0))then(none)else(let t2:=(u64.wrap (Int.tdiv (u64.wrap ((u64.wrap ((u64.wrap (un32*4294967296))+un1))-(u64.wrap (q1*y2)))) yn1));let t3:=(u64.wrap ((u64.wrap ((u64.wrap ((u64.wrap (un32*4294967296))+un1))-(u64.wrap (q1*y2))))-(u64.wrap (t2*yn1))));match(aB fI ((y2,(s,(yn1,(yn0,(un0,(q1,(t3,((u64.wrap ((u64.wrap ((u64.wrap (un32*4294967296))+un1))-(u64.wrap (q1*y2)))),(t2,()))))))))),()))with|none=>none|some y3=>(let y4:=y3.1.1;let s1:=y3.1.2.1;let un01:=y3.1.2.2.1;let q11:=y3.1.2.2.2.1;let un21:=y3.1.2.2.2.2.1;let q0:=y3.1.2.2.2.2.2.1;bif (decide (s1<0))then(none)else(let t4:=(bG .u64 (u64.wrap ((u64.wrap ((u64.wrap (un21*4294967296))+un01))-(u64.wrap (q0*y4)))) s1);some ((u64.wrap ((u64.wrap (q11*4294967296))+q0)),t4))))))))))))))
def nX:=veil Ht
theorem Km:nX=Ht:=aj _
def rG(x:Int)(k:Int):Option (Int):=bif (decide ((ak .and .u64 (u64.wrap k) 31)<0))then(none)else(bif (decide ((u64.wrap (32-(ak .and .u64 (u64.wrap k) 31)))<0))then(none)else(let t:=(ak .or .u32 (iL .u32 x (ak .and .u64 (u64.wrap k) 31)) (bG .u32 x (u64.wrap (32-(ak .and .u64 (u64.wrap k) 31)))));some t))
def uh:=veil rG
theorem xR:uh=rG:=aj _
open Go.IntKind (i64 u64 u32 u8)
def Uf(a:NI)(k:Int):Option (Int):=bif (decide (k<0))then(some 0)else(bif (decide (k>=256))then(some 0)else(bif (inb (i64.wrap (Int.tdiv k 64)) 4)then(bif (decide ((Int.tmod k 64)<0))then(none)else(let t:=(ak .and .u64 (bG .u64 (a (Int.toNat (i64.wrap (Int.tdiv k 64)))) (Int.tmod k 64)) 1);some (i64.wrap t)))else(none)))
def BA:=veil Uf
theorem Ug:BA=Uf:=aj _
abbrev a3P(limbs:Int)(by_:Int)(i:Int)(a:NI)(t:NI)(out:NI):=(((),((),((),(limbs,(by_,(i,())))))),(a,(t,(out,()))))
abbrev ZF(t:NI)(out:NI):=(((),((),())),(t,(out,())))
abbrev Uh:Type:=((Unit×(Unit×(Unit×Z0v)))×(NI×Z0a))
def nY:Uh->Option (Uh⊕(Z0m×Z0a)):=λx=>let limbs:=x.1.2.2.2.1;let by_:=x.1.2.2.2.2.1;let i:=x.1.2.2.2.2.2.1;let a:=x.2.1;let t:=x.2.2.1;let out:=x.2.2.2.1;bif (decide (i<4))then(bif (inb (i64.wrap (i-limbs)) 4)then(bif (decide (by_<0))then(none)else(bif (inb i 4)then(bif (decide (i>limbs))then(bif (inb i 4)then(let t1:=((upd out (Int.toNat i) (iL .u64 (a (Int.toNat (i64.wrap (i-limbs)))) by_)) (Int.toNat i));bif (inb (i64.wrap ((i64.wrap (i-limbs))-1)) 4)then(bif (decide ((i64.wrap (64-by_))<0))then(none)else(let t2:=(bG .u64 (a (Int.toNat (i64.wrap ((i64.wrap (i-limbs))-1)))) (i64.wrap (64-by_)));bif (inb i 4)then(some (.inl (((),((),((),(limbs,(by_,((i64.wrap (i+1)),())))))),(a,(t,((upd (upd out (Int.toNat i) (iL .u64 (a (Int.toNat (i64.wrap (i-limbs)))) by_)) (Int.toNat i) (ak .or .u64 t1 t2)),()))))))else(none)))else(none))else(none))else(some (.inl (((),((),((),(limbs,(by_,((i64.wrap (i+1)),())))))),(a,(t,((upd out (Int.toNat i) (iL .u64 (a (Int.toNat (i64.wrap (i-limbs)))) by_)),())))))))else(none)))else(none))else(some (.inr (((),((),())),(t,(out,())))))
def ZG(a:NI)(k:Int):Option (NI):=bif (decide (k<1))then(some a)else(bif (decide (k>=256))then(some (λ_=>0))else(match(aB nY (((),((),((),((i64.wrap (Int.tdiv k 64)),((Int.tmod k 64),((i64.wrap (Int.tdiv k 64)),())))))),(a,((λ_=>0),((λ_=>0),())))))with|none=>none|some y=>(let t:=y.2.1;let out:=y.2.2.1;some out)))
def Ui:=veil ZG
theorem Ym:Ui=ZG:=aj _
def Uj(a:NI)(b:NI):Option (NI×Int):=match(Fv (a 0) (b 0) 0)with|none=>none|some r=>(match(Fv (a 1) (b 1) r.2)with|none=>none|some r1=>(match(Fv (a 2) (b 2) r1.2)with|none=>none|some r2=>(match(Fv (a 3) (b 3) r2.2)with|none=>none|some r3=>(some ((upd (upd (upd (upd (λ_=>0) 0 r.1) 1 r1.1) 2 r2.1) 3 r3.1),(i64.wrap r3.2))))))
def wY:=veil Uj
theorem Uk:wY=Uj:=aj _
def Ul(a:NI)(b:NI):Option (Int):=bif (decide ((a 3)<(b 3)))then(some (-1))else(bif (decide ((a 3)>(b 3)))then(some 1)else(bif (decide ((a 2)<(b 2)))then(some (-1))else(bif (decide ((a 2)>(b 2)))then(some 1)else(bif (decide ((a 1)<(b 1)))then(some (-1))else(bif (decide ((a 1)>(b 1)))then(some 1)else(bif (decide ((a 0)<(b 0)))then(some (-1))else(bif (decide ((a 0)>(b 0)))then(some 1)else(some 0))))))))
def zx:=veil Ul
theorem Um:zx=Ul:=aj _
def ZH(n:Int):Option (NI):=some (upd (λ_=>0) 0 (u64.wrap (if n<0 then 0 else n)))
def cB:=veil ZH
theorem Yn:cB=ZH:=aj _
def Un(a:NI)(b:NI):Option (NI×Int):=match(bQ (a 0) (b 0) 0)with|none=>none|some r=>(match(bQ (a 1) (b 1) r.2)with|none=>none|some r1=>(match(bQ (a 2) (b 2) r1.2)with|none=>none|some r2=>(match(bQ (a 3) (b 3) r2.2)with|none=>none|some r3=>(some ((upd (upd (upd (upd (λ_=>0) 0 r.1) 1 r1.1) 2 r2.1) 3 r3.1),(i64.wrap r3.2))))))
def Ti:=veil Un
theorem Uo:Ti=Un:=aj _
def Uq(a:NI):Option (Int):=bif ((a 3) !=0)then(match(bits_Len64 (a 3))with|none=>none|some r=>(some (i64.wrap (192+r))))else(bif ((a 2) !=0)then(match(bits_Len64 (a 2))with|none=>none|some r1=>(some (i64.wrap (128+r1))))else(bif ((a 1) !=0)then(match(bits_Len64 (a 1))with|none=>none|some r2=>(some (i64.wrap (64+r2))))else(bif ((a 0) !=0)then(match(bits_Len64 (a 0))with|none=>none|some r3=>(some (i64.wrap (0+r3))))else(some 0))))
def zy:=veil Uq
theorem Ur:zy=Uq:=aj _
abbrev ZI(limbs:Int)(by_:Int)(t:Int)(t1:Int)(a:NI)(t2:NI)(out:NI):=(((),((),((),(limbs,(by_,(t,(t1,()))))))),(a,(t2,(out,()))))
abbrev Us(t:NI)(out:NI):=(((),((),())),(t,(out,())))
abbrev Nu:Type:=((Unit×(Unit×(Unit×(Int×Z0v))))×(NI×Z0a))
def lT:Nu->Option (Nu⊕(Z0m×Z0a)):=λx=>let limbs:=x.1.2.2.2.1;let by_:=x.1.2.2.2.2.1;let t:=x.1.2.2.2.2.2.1;let t1:=x.1.2.2.2.2.2.2.1;let a:=x.2.1;let t2:=x.2.2.1;let out:=x.2.2.2.1;bif (decide (t1<t))then(bif (inb (i64.wrap (t1+limbs)) 4)then(bif (decide (by_<0))then(none)else(bif (inb t1 4)then(bif (decide ((i64.wrap ((i64.wrap (t1+limbs))+1))<4))then(bif (inb t1 4)then(let t3:=((upd out (Int.toNat t1) (bG .u64 (a (Int.toNat (i64.wrap (t1+limbs)))) by_)) (Int.toNat t1));bif (inb (i64.wrap ((i64.wrap (t1+limbs))+1)) 4)then(bif (decide ((i64.wrap (64-by_))<0))then(none)else(let t4:=(iL .u64 (a (Int.toNat (i64.wrap ((i64.wrap (t1+limbs))+1)))) (i64.wrap (64-by_)));bif (inb t1 4)then(some (.inl (((),((),((),(limbs,(by_,(t,((i64.wrap (t1+1)),()))))))),(a,(t2,((upd (upd out (Int.toNat t1) (bG .u64 (a (Int.toNat (i64.wrap (t1+limbs)))) by_)) (Int.toNat t1) (ak .or .u64 t3 t4)),()))))))else(none)))else(none))else(none))else(some (.inl (((),((),((),(limbs,(by_,(t,((i64.wrap (t1+1)),()))))))),(a,(t2,((upd out (Int.toNat t1) (bG .u64 (a (Int.toNat (i64.wrap (t1+limbs)))) by_)),())))))))else(none)))else(none))else(some (.inr (((),((),())),(t2,(out,())))))
def Pw(a:NI)(k:Int):Option (NI):=bif (decide (k<1))then(some a)else(bif (decide (k>=256))then(some (λ_=>0))else(match(aB lT (((),((),((),((i64.wrap (Int.tdiv k 64)),((Int.tmod k 64),((i64.wrap (4-(i64.wrap (Int.tdiv k 64)))),(0,()))))))),(a,((λ_=>0),((λ_=>0),())))))with|none=>none|some y=>(let t:=y.2.1;let out:=y.2.2.1;some out)))
def Hu:=veil Pw
theorem R8:Hu=Pw:=aj _
def Ut(a:NI):Option (Int×Bool):=bif (!(eqF (.arr 4 (.int .u64)) a (upd (λ_=>0) 0 (a 0))))then(some (0,false))else(bif (decide ((a 0)>9223372036854775807))then(some (0,false))else(some ((i64.wrap (a 0)),true)))
def Nv:=veil Ut
theorem Uu:Nv=Ut:=aj _
abbrev Cv(n:Int)(nout:Nat)(out:Nat->Int)(t:Int)(t1:Int)(a:NI):=(((),(n,((nout,out),(t,(t1,()))))),(a,()))
abbrev Fy(nout:Nat)(out:Nat->Int):=(((nout,out),()),())
abbrev Kn:Type:=((Unit×(Int×((Nat×NI)×(Int×Z06))))×(NI×Unit))
def mO:Kn->Option (Kn⊕Z0A):=λx=>let n:=x.1.2.1;let nout:=x.1.2.2.1.1;let out:=x.1.2.2.1.2;let t:=x.1.2.2.2.1;let t1:=x.1.2.2.2.2.1;let a:=x.2.1;bif (decide (t1<t))then(bif (inb (i64.wrap (Int.tdiv t1 8)) 4)then(bif (decide ((i64.wrap (8*(Int.tmod t1 8)))<0))then(none)else(let t2:=(bG .u64 (a (Int.toNat (i64.wrap (Int.tdiv t1 8)))) (i64.wrap (8*(Int.tmod t1 8))));bif (inb (i64.wrap ((i64.wrap (n-1))-t1)) nout)then(some (.inl (((),(n,((nout,(upd out (0+(Int.toNat (i64.wrap ((i64.wrap (n-1))-t1)))) (u8.wrap t2))),(t,((i64.wrap (t1+1)),()))))),(a,()))))else(none)))else(none))else(some (.inr (((nout,out),()),())))
def LD(a:NI):Option Z0x:=match(zy a)with|none=>none|some r=>(bif ((((decide (0<=(i64.wrap (Int.tdiv (i64.wrap (r+7)) 8))))&&(decide ((i64.wrap (Int.tdiv (i64.wrap (r+7)) 8))<=(i64.wrap (Int.tdiv (i64.wrap (r+7)) 8)))))&&(decide ((((1:Nat):Int)*(i64.wrap (Int.tdiv (i64.wrap (r+7)) 8)))<=281474976710656)))&&(decide ((i64.wrap (Int.tdiv (i64.wrap (r+7)) 8))<=9223372036854775807)))then(match(aB mO (((),((i64.wrap (Int.tdiv (i64.wrap (r+7)) 8)),(((Int.toNat (i64.wrap (Int.tdiv (i64.wrap (r+7)) 8))),(λ_=>0)),((i64.wrap (Int.tdiv (i64.wrap (r+7)) 8)),(0,()))))),(a,())))with|none=>none|some y=>(let nout:=y.1.1.1;let out:=y.1.1.2;some (bytesOf nout (λj=>out (0+j)))))else(none))
def Jr:=veil LD
theorem Nw:Jr=LD:=aj _
open Go.IntKind (i64 u64 u32 u8)
def Px(a:NI)(b:NI):Option (NI×NI):=match(bits_Mul64 (a 0) (b 0))with|none=>none|some r=>(match(bQ r.2 0 0)with|none=>none|some r1=>(match(bQ r1.1 0 0)with|none=>none|some r2=>(match(bits_Mul64 (a 0) (b 1))with|none=>none|some r3=>(match(bQ r3.2 0 0)with|none=>none|some r4=>(match(bQ r4.1 (u64.wrap ((u64.wrap (r.1+r1.2))+r2.2)) 0)with|none=>none|some r5=>(match(bits_Mul64 (a 0) (b 2))with|none=>none|some r6=>(match(bQ r6.2 0 0)with|none=>none|some r7=>(match(bQ r7.1 (u64.wrap ((u64.wrap (r3.1+r4.2))+r5.2)) 0)with|none=>none|some r8=>(match(bits_Mul64 (a 0) (b 3))with|none=>none|some r9=>(match(bQ r9.2 0 0)with|none=>none|some r10=>(match(bQ r10.1 (u64.wrap ((u64.wrap (r6.1+r7.2))+r8.2)) 0)with|none=>none|some r11=>(match(bits_Mul64 (a 1) (b 0))with|none=>none|some r12=>(match(bQ r12.2 r5.1 0)with|none=>none|some r13=>(match(bQ r13.1 0 0)with|none=>none|some r14=>(match(bits_Mul64 (a 1) (b 1))with|none=>none|some r15=>(match(bQ r15.2 r8.1 0)with|none=>none|some r16=>(match(bQ r16.1 (u64.wrap ((u64.wrap (r12.1+r13.2))+r14.2)) 0)with|none=>none|some r17=>(match(bits_Mul64 (a 1) (b 2))with|none=>none|some r18=>(match(bQ r18.2 r11.1 0)with|none=>none|some r19=>(match(bQ r19.1 (u64.wrap ((u64.wrap (r15.1+r16.2))+r17.2)) 0)with|none=>none|some r20=>(match(bits_Mul64 (a 1) (b 3))with|none=>none|some r21=>(match(bQ r21.2 (u64.wrap ((u64.wrap (r9.1+r10.2))+r11.2)) 0)with|none=>none|some r22=>(match(bQ r22.1 (u64.wrap ((u64.wrap (r18.1+r19.2))+r20.2)) 0)with|none=>none|some r23=>(match(bits_Mul64 (a 2) (b 0))with|none=>none|some r24=>(match(bQ r24.2 r17.1 0)with|none=>none|some r25=>(match(bQ r25.1 0 0)with|none=>none|some r26=>(match(bits_Mul64 (a 2) (b 1))with|none=>none|some r27=>(match(bQ r27.2 r20.1 0)with|none=>none|some r28=>(match(bQ r28.1 (u64.wrap ((u64.wrap (r24.1+r25.2))+r26.2)) 0)with|none=>none|some r29=>(match(bits_Mul64 (a 2) (b 2))with|none=>none|some r30=>(match(bQ r30.2 r23.1 0)with|none=>none|some r31=>(match(bQ r31.1 (u64.wrap ((u64.wrap (r27.1+r28.2))+r29.2)) 0)with|none=>none|some r32=>(match(bits_Mul64 (a 2) (b 3))with|none=>none|some r33=>(match(bQ r33.2 (u64.wrap ((u64.wrap (r21.1+r22.2))+r23.2)) 0)with|none=>none|some r34=>(match(bQ r34.1 (u64.wrap ((u64.wrap (r30.1+r31.2))+r32.2)) 0)with|none=>none|some r35=>(match(bits_Mul64 (a 3) (b 0))with|none=>none|some r36=>(match(bQ r36.2 r29.1 0)with|none=>none|some r37=>(match(bQ r37.1 0 0)with|none=>none|some r38=>(match(bits_Mul64 (a 3) (b 1))with|none=>none|some r39=>(match(bQ r39.2 r32.1 0)with|none=>none|some r40=>(match(bQ r40.1 (u64.wrap ((u64.wrap (r36.1+r37.2))+r38.2)) 0)with|none=>none|some r41=>(match(bits_Mul64 (a 3) (b 2))with|none=>none|some r42=>(match(bQ r42.2 r35.1 0)with|none=>none|some r43=>(match(bQ r43.1 (u64.wrap ((u64.wrap (r39.1+r40.2))+r41.2)) 0)with|none=>none|some r44=>(match(bits_Mul64 (a 3) (b 3))with|none=>none|some r45=>(match(bQ r45.2 (u64.wrap ((u64.wrap (r33.1+r34.2))+r35.2)) 0)with|none=>none|some r46=>(match(bQ r46.1 (u64.wrap ((u64.wrap (r42.1+r43.2))+r44.2)) 0)with|none=>none|some r47=>(some ((λj=>(upd (upd (upd (upd (upd (upd (upd (upd (upd (upd (upd (upd (upd (upd (upd (upd (upd (upd (upd (upd (λ_=>0) 0 r2.1) 1 r5.1) 2 r8.1) 3 r11.1) 4 (u64.wrap ((u64.wrap (r9.1+r10.2))+r11.2))) 1 r14.1) 2 r17.1) 3 r20.1) 4 r23.1) 5 (u64.wrap ((u64.wrap (r21.1+r22.2))+r23.2))) 2 r26.1) 3 r29.1) 4 r32.1) 5 r35.1) 6 (u64.wrap ((u64.wrap (r33.1+r34.2))+r35.2))) 3 r38.1) 4 r41.1) 5 r44.1) 6 r47.1) 7 (u64.wrap ((u64.wrap (r45.1+r46.2))+r47.2))) (0+j)),(λj=>(upd (upd (upd (upd (upd (upd (upd (upd (upd (upd (upd (upd (upd (upd (upd (upd (upd (upd (upd (upd (λ_=>0) 0 r2.1) 1 r5.1) 2 r8.1) 3 r11.1) 4 (u64.wrap ((u64.wrap (r9.1+r10.2))+r11.2))) 1 r14.1) 2 r17.1) 3 r20.1) 4 r23.1) 5 (u64.wrap ((u64.wrap (r21.1+r22.2))+r23.2))) 2 r26.1) 3 r29.1) 4 r32.1) 5 r35.1) 6 (u64.wrap ((u64.wrap (r33.1+r34.2))+r35.2))) 3 r38.1) 4 r41.1) 5 r44.1) 6 r47.1) 7 (u64.wrap ((u64.wrap (r45.1+r46.2))+r47.2))) (4+j)))))))))))))))))))))))))))))))))))))))))))))))))))
def Dk:=veil Px
theorem R9:Dk=Px:=aj _
def Hw(a:NI)(left_:Int)(m:Int):Option (NI×NI):=match(nX left_ (a 3) m)with|none=>none|some r=>(match(nX r.2 (a 2) m)with|none=>none|some r1=>(match(nX r1.2 (a 1) m)with|none=>none|some r2=>(match(nX r2.2 (a 0) m)with|none=>none|some r3=>(some ((upd (upd (upd (upd (λ_=>0) 3 r.1) 2 r1.1) 1 r2.1) 0 r3.1),(upd (λ_=>0) 0 r3.2))))))
def Ew:=veil Hw
theorem Kq:Ew=Hw:=aj _
abbrev Sk(t:Int)(a:NI)(left_:NI)(m:NI)(t1:NI)(t2:NI)(q:NI):=(((),((),((),((),((),((),(t,()))))))),(a,(left_,(m,(t1,(t2,(q,())))))))
abbrev Ny(left_:NI)(t:NI)(t1:NI)(q:NI):=(((),((),((),((),())))),(left_,(t,(t1,(q,())))))
abbrev FB:Type:=((Unit×(Unit×Z0D))×(NI×(NI×Z0y)))
def gF:FB->Option (FB⊕((Unit×(Unit×Z0m))×Z0y)):=λx=>let t:=x.1.2.2.2.2.2.2.1;let a:=x.2.1;let left_:=x.2.2.1;let m:=x.2.2.2.1;let t1:=x.2.2.2.2.1;let t2:=x.2.2.2.2.2.1;let q:=x.2.2.2.2.2.2.1;bif (decide (t<256))then(match(BA left_ 255)with|none=>none|some r=>(match(Ui left_ 1)with|none=>none|some r1=>(match(BA a (i64.wrap (255-t)))with|none=>none|some r2=>(bif (r==1)then(match(wY (upd r1 0 (ak .or .u64 (r1 0) (u64.wrap r2))) m)with|none=>none|some r3=>(bif (inb (i64.wrap (Int.tdiv (i64.wrap (255-t)) 64)) 4)then(bif (decide ((Int.tmod (i64.wrap (255-t)) 64)<0))then(none)else(let t3:=(ak .or .u64 (q (Int.toNat (i64.wrap (Int.tdiv (i64.wrap (255-t)) 64)))) (iL .u64 1 (Int.tmod (i64.wrap (255-t)) 64)));bif (inb (i64.wrap (Int.tdiv (i64.wrap (255-t)) 64)) 4)then(some (.inl (((),((),((),((),((),((),((i64.wrap (t+1)),()))))))),(a,(r3.1,(m,(t1,(t2,((upd q (Int.toNat (i64.wrap (Int.tdiv (i64.wrap (255-t)) 64))) t3),())))))))))else(none)))else(none)))else(match(zx (upd r1 0 (ak .or .u64 (r1 0) (u64.wrap r2))) m)with|none=>none|some r4=>(bif (decide (r4>=0))then(match(wY (upd r1 0 (ak .or .u64 (r1 0) (u64.wrap r2))) m)with|none=>none|some r5=>(bif (inb (i64.wrap (Int.tdiv (i64.wrap (255-t)) 64)) 4)then(bif (decide ((Int.tmod (i64.wrap (255-t)) 64)<0))then(none)else(let t4:=(ak .or .u64 (q (Int.toNat (i64.wrap (Int.tdiv (i64.wrap (255-t)) 64)))) (iL .u64 1 (Int.tmod (i64.wrap (255-t)) 64)));bif (inb (i64.wrap (Int.tdiv (i64.wrap (255-t)) 64)) 4)then(some (.inl (((),((),((),((),((),((),((i64.wrap (t+1)),()))))))),(a,(r5.1,(m,(t1,(t2,((upd q (Int.toNat (i64.wrap (Int.tdiv (i64.wrap (255-t)) 64))) t4),())))))))))else(none)))else(none)))else(some (.inl (((),((),((),((),((),((),((i64.wrap (t+1)),()))))))),(a,((upd r1 0 (ak .or .u64 (r1 0) (u64.wrap r2))),(m,(t1,(t2,(q,())))))))))))))))else(some (.inr (((),((),((),((),())))),(left_,(t1,(t2,(q,())))))))
def Ey(a:NI)(left_:NI)(m:NI):Option (NI×NI):=bif (eqF (.arr 4 (.int .u64)) m (upd (λ_=>0) 0 (m 0)))then(match(Ew a (left_ 0) (m 0))with|none=>none|some r=>(some (r.1,r.2)))else(match(aB gF (((),((),((),((),((),((),(0,()))))))),(a,(left_,(m,((λ_=>0),((λ_=>0),((λ_=>0),()))))))))with|none=>none|some y=>(let left_1:=y.2.1;let t:=y.2.2.1;let t1:=y.2.2.2.1;let q:=y.2.2.2.2.1;some (q,left_1)))
def sU:=veil Ey
theorem Hy:sU=Ey:=aj _
def Py(low:NI)(high:NI)(m:NI):Option (NI×Int):=bif (eqF (.arr 4 (.int .u64)) m (λ_=>0))then(some ((λ_=>0),1))else(match(sU high (λ_=>0) m)with|none=>none|some r=>(match(sU low r.2 m)with|none=>none|some r1=>(some (r1.2,0))))
def uj:=veil Py
theorem Ra:uj=Py:=aj _
def Pz(a:NI)(b:NI):Option (NI×NI×Int):=bif (eqF (.arr 4 (.int .u64)) b (λ_=>0))then(some ((λ_=>0),(λ_=>0),1))else(match(sU a (λ_=>0) b)with|none=>none|some r=>(some (r.1,r.2,0)))
def Dl:=veil Pz
theorem Rb:Dl=Pz:=aj _
def Ez(a:NI)(b:NI)(m:NI):Option (NI×Int):=match(Dk a b)with|none=>none|some r=>(match(uj r.1 r.2 m)with|none=>none|some r1=>(some (r1.1,r1.2)))
def BD:=veil Ez
theorem Hz:BD=Ez:=aj _
def EA(a:NI)(b:NI)(m:NI):Option (NI×Int):=match(uj a (λ_=>0) m)with|none=>none|some r=>(bif (r.2 !=0)then(some ((λ_=>0),r.2))else(match(uj b (λ_=>0) m)with|none=>none|some r1=>(match(wY r.1 r1.1)with|none=>none|some r2=>(bif (r2.2==1)then(match(Ti r2.1 m)with|none=>none|some r3=>(some (r3.1,0)))else(some (r2.1,0))))))
def nZ:=veil EA
theorem HV:nZ=EA:=aj _
abbrev Nz(a:NI)(b:NI)(t:NI):=(((),((),((),()))),(a,(b,(t,()))))
abbrev Uv(a:NI)(t:NI):=(((),((),())),(a,(t,())))
abbrev NA:Type:=((Unit×Z0m)×(NI×Z0a))
def lU:NA->Option (NA⊕(Z0m×Z0a)):=λx=>let a:=x.2.1;let b:=x.2.2.1;let t:=x.2.2.2.1;bif (!(eqF (.arr 4 (.int .u64)) b (λ_=>0)))then(match(Dl a b)with|none=>none|some r=>(some (.inl (((),((),((),()))),(b,(r.2.1,(t,())))))))else(some (.inr (((),((),())),(a,(t,())))))
def PD(a:NI)(b:NI):Option (NI):=match(aB lU (((),((),((),()))),(a,(b,((λ_=>0),())))))with|none=>none|some y=>(let a1:=y.2.1;let t:=y.2.2.1;some a1)
def Ag:=veil PD
theorem Rf:Ag=PD:=aj _
open Go.IntKind (i64 u64 u32 u8)
def PE(m:NI):Option (Z0C×Int):=bif ((ak .and .u64 (m 0) 1)==0)then(some (none,1))else(match(cB 1)with|none=>none|some r=>(bif (eqF (.arr 4 (.int .u64)) m r)then(some (none,1))else(let t:=(u64.wrap ((m 0)*(u64.wrap (2-(u64.wrap ((m 0)*(m 0)))))));let t1:=(u64.wrap ((m 0)*(u64.wrap (t*(u64.wrap (2-(u64.wrap ((m 0)*t))))))));let t2:=(u64.wrap ((u64.wrap (t*(u64.wrap (2-(u64.wrap ((m 0)*t))))))*(u64.wrap (2-t1))));let t3:=(u64.wrap ((m 0)*(u64.wrap (t2*(u64.wrap (2-(u64.wrap ((m 0)*t2))))))));let t4:=(u64.wrap ((u64.wrap (t2*(u64.wrap (2-(u64.wrap ((m 0)*t2))))))*(u64.wrap (2-t3))));match(cB 1)with|none=>none|some r1=>(match(uj (λ_=>0) r1 m)with|none=>none|some r2=>(match(BD r2.1 r2.1 m)with|none=>none|some r3=>(some ((some (m,((u64.wrap (0-t4)),(r2.1,r3.1)))),0)))))))
def xS:=veil PE
theorem Rh:xS=PE:=aj _
def p9(r:Z0C):Option (Bool):=match r with|none=>(some false)|some r0=>(some (r0.2.1 !=0))
def dn:=veil p9
theorem Ah:dn=p9:=aj _
def um(r:Z0C)(a:NI):Option (NI):=match r with|none=>(none)|some r0=>(match(zx a r0.1)with|none=>none|some r1=>(bif (decide (r1<0))then(some a)else(match(uj a (λ_=>0) r0.1)with|none=>none|some r2=>(some r2.1))))
def qG:=veil um
theorem Dm:qG=um:=aj _
def LG(t:NI)(x:Int)(b:NI):Option (NI):=match(bits_Mul64 x (b 0))with|none=>none|some r=>(match(bQ r.2 (t 0) 0)with|none=>none|some r1=>(match(bQ r1.1 0 0)with|none=>none|some r2=>(match(bits_Mul64 x (b 1))with|none=>none|some r3=>(match(bQ r3.2 (t 1) 0)with|none=>none|some r4=>(match(bQ r4.1 (u64.wrap ((u64.wrap (r.1+r1.2))+r2.2)) 0)with|none=>none|some r5=>(match(bits_Mul64 x (b 2))with|none=>none|some r6=>(match(bQ r6.2 (t 2) 0)with|none=>none|some r7=>(match(bQ r7.1 (u64.wrap ((u64.wrap (r3.1+r4.2))+r5.2)) 0)with|none=>none|some r8=>(match(bits_Mul64 x (b 3))with|none=>none|some r9=>(match(bQ r9.2 (t 3) 0)with|none=>none|some r10=>(match(bQ r10.1 (u64.wrap ((u64.wrap (r6.1+r7.2))+r8.2)) 0)with|none=>none|some r11=>(match(bQ (t 4) (u64.wrap ((u64.wrap (r9.1+r10.2))+r11.2)) 0)with|none=>none|some r12=>(some (upd (upd (upd (upd (upd (upd t 0 r2.1) 1 r5.1) 2 r8.1) 3 r11.1) 4 r12.1) 5 (u64.wrap ((t 5)+r12.2))))))))))))))))
def iO:=veil LG
theorem NC:iO=LG:=aj _
def rz(r:Z0C)(a:NI)(b:NI):Option (NI):=match r with|none=>(match(iO (λ_=>0) (a 0) b)with|none=>none|some r12=>(none))|some r0=>(match(iO (λ_=>0) (a 0) b)with|none=>none|some r1=>(match(iO r1 (u64.wrap ((r1 0)*r0.2.1)) r0.1)with|none=>none|some r2=>(match(iO (upd (tX r2 0 5 (λj=>r2 (1+j))) 5 0) (a 1) b)with|none=>none|some r3=>(match(iO r3 (u64.wrap ((r3 0)*r0.2.1)) r0.1)with|none=>none|some r4=>(match(iO (upd (tX r4 0 5 (λj=>r4 (1+j))) 5 0) (a 2) b)with|none=>none|some r5=>(match(iO r5 (u64.wrap ((r5 0)*r0.2.1)) r0.1)with|none=>none|some r6=>(match(iO (upd (tX r6 0 5 (λj=>r6 (1+j))) 5 0) (a 3) b)with|none=>none|some r7=>(match(iO r7 (u64.wrap ((r7 0)*r0.2.1)) r0.1)with|none=>none|some r8=>(bif ((r8 5) !=0)then(match(wY (λj=>(upd (tX r8 0 5 (λj=>r8 (1+j))) 5 0) (0+j)) r0.1)with|none=>none|some r9=>(some r9.1))else(match(zx (λj=>(upd (tX r8 0 5 (λj=>r8 (1+j))) 5 0) (0+j)) r0.1)with|none=>none|some r10=>(bif (decide (r10>=0))then(match(wY (λj=>(upd (tX r8 0 5 (λj=>r8 (1+j))) 5 0) (0+j)) r0.1)with|none=>none|some r11=>(some r11.1))else(some (λj=>(upd (tX r8 0 5 (λj=>r8 (1+j))) 5 0) (0+j))))))))))))))
def cK:=veil rz
theorem BF:cK=rz:=aj _
def rA(r:Z0C)(a:NI):Option (NI):=match r with|none=>(match(dn none)with|none=>none|some r4=>(bif (!r4)then(some (λ_=>0))else(match(qG none a)with|none=>none|some r5=>(none))))|some r0=>(match(dn (some r0))with|none=>none|some r1=>(bif (!r1)then(some (λ_=>0))else(match(qG (some r0) a)with|none=>none|some r2=>(match(cK (some r0) r2 r0.2.2.2)with|none=>none|some r3=>(some r3)))))
def og:=veil rA
theorem BH:og=rA:=aj _
abbrev HY(r:Z03)(k:Int)(t:(Nat->NI))(out:(Nat->NI))(form:NI):=((r,((),((),((),(k,()))))),(t,(out,(form,()))))
abbrev EB(t:(Nat->NI))(out:(Nat->NI)):=(((),((),())),(t,(out,())))
abbrev xU:Type:=((Z03×(Unit×Z0h))×((Nat->NI)×((Nat->NI)×(NI×Unit))))
def fu:xU->Option (xU⊕(Z0m×((Nat->NI)×((Nat->NI)×Unit)))):=λx=>let r:=x.1.1;let k:=x.1.2.2.2.2.1;let t:=x.2.1;let out:=x.2.2.1;let form:=x.2.2.2.1;bif (decide (k<16))then(bif (inb (i64.wrap (k-1)) 16)then(match(cK (some r) (out (Int.toNat (i64.wrap (k-1)))) form)with|none=>none|some r1=>(bif (inb k 16)then(some (.inl ((r,((),((),((),((i64.wrap (k+1)),()))))),(t,((upd out (Int.toNat k) r1),(form,()))))))else(none)))else(none))else(some (.inr (((),((),())),(t,(out,())))))
def nG(r:Z0C)(a:NI):Option ((Nat->NI)):=match r with|none=>(match(og none a)with|none=>none|some r2=>(none))|some r0=>(match(og (some r0) a)with|none=>none|some r1=>(match(aB fu ((r0,((),((),((),(1,()))))),((λ_=>(λ_=>0)),((upd (λ_=>(λ_=>0)) 0 r0.2.2.1),(r1,())))))with|none=>none|some y=>(let t:=y.2.1;let out:=y.2.2.1;some out)))
def pE:=veil nG
theorem yV:pE=nG:=aj _
def uo(e:NI)(at_:Int):Option (Int):=match(Hu e at_)with|none=>none|some r=>(match(Ui r 252)with|none=>none|some r1=>(match(Hu r1 252)with|none=>none|some r2=>(match(Nv r2)with|none=>none|some r3=>(some r3.1))))
def pF:=veil uo
theorem yX:pF=uo:=aj _
abbrev LH(r:Z03)(nexps:Nat)(exps:Nat->NI)(ntables:Nat)(tables:Nat->(Nat->NI))(longest:Int)(nt:Nat)(t:Nat->NI)(t1:Int)(t2:Int)(t3:NI):=((r,((nexps,exps),((),((ntables,tables),(longest,((nt,t),(t1,(t2,())))))))),(t3,()))
abbrev HZ(r:Z03)(nexps:Nat)(exps:Nat->NI)(ntables:Nat)(tables:Nat->(Nat->NI))(longest:Int)(t:NI):=((r,((nexps,exps),((),((ntables,tables),(longest,()))))),(t,()))
abbrev Ai:Type:=((Z03×(Z0j×(Unit×(Z0I×(Int×(Z0j×(Int×Z06)))))))×(NI×Unit))
def gU:Ai->Option (Ai⊕((Z03×(Z0j×(Unit×(Z0I×Z06))))×(NI×Unit))):=λx=>let r:=x.1.1;let nexps:=x.1.2.1.1;let exps:=x.1.2.1.2;let ntables:=x.1.2.2.2.1.1;let tables:=x.1.2.2.2.1.2;let longest:=x.1.2.2.2.2.1;let nt:=x.1.2.2.2.2.2.1.1;let t:=x.1.2.2.2.2.2.1.2;let t1:=x.1.2.2.2.2.2.2.1;let t2:=x.1.2.2.2.2.2.2.2.1;let t3:=x.2.1;bif (decide (t2<t1))then(bif (inb t2 nt)then(match(pE (some r) (t (Int.toNat t2)))with|none=>none|some r1=>(bif ((Nat.ble ((ntables+1)*512) 140737488355328)&&(Nat.ble (ntables+1) 9223372036854775807))then(bif (inb t2 nexps)then(match(zy (exps (Int.toNat t2)))with|none=>none|some r2=>(some (.inl ((r,((nexps,exps),((),(((ntables+1),(glue ntables tables (λj=>(upd (λ_=>(λ_=>(λ_=>0))) 0 r1) (0+j)))),((if longest<r2 then r2 else longest),((nt,t),(t1,((i64.wrap (t2+1)),())))))))),(t3,())))))else(none))else(none)))else(none))else(some (.inr ((r,((nexps,exps),((),((ntables,tables),(longest,()))))),(t3,()))))
abbrev rH(r:Z03)(nexps:Nat)(exps:Nat->NI)(ntables:Nat)(tables:Nat->(Nat->NI))(at_:Int)(nt:Nat)(t:Nat->NI)(t1:Int)(t2:Int)(t3:NI)(out:NI):=((r,((nexps,exps),((),((ntables,tables),((),((),(at_,((nt,t),(t1,(t2,())))))))))),(t3,(out,())))
abbrev I4(r:Z03)(nexps:Nat)(exps:Nat->NI)(ntables:Nat)(tables:Nat->(Nat->NI))(at_:Int)(t:NI)(out:NI):=((r,((nexps,exps),((),((ntables,tables),((),((),(at_,()))))))),(t,(out,())))
abbrev Aj:Type:=((Z03×(Z0j×(Unit×(Z0I×(Unit×(Unit×(Int×(Z0j×(Int×Z06)))))))))×Z0a)
def gV:Aj->Option (Aj⊕((Z03×(Z0j×(Unit×(Z0I×Z0h))))×Z0a)):=λx=>let r:=x.1.1;let nexps:=x.1.2.1.1;let exps:=x.1.2.1.2;let ntables:=x.1.2.2.2.1.1;let tables:=x.1.2.2.2.1.2;let at_:=x.1.2.2.2.2.2.2.1;let nt:=x.1.2.2.2.2.2.2.2.1.1;let t:=x.1.2.2.2.2.2.2.2.1.2;let t1:=x.1.2.2.2.2.2.2.2.2.1;let t2:=x.1.2.2.2.2.2.2.2.2.2.1;let t3:=x.2.1;let out:=x.2.2.1;bif (decide (t2<t1))then(bif (inb t2 nt)then(match(pF (t (Int.toNat t2)) at_)with|none=>none|some r1=>(bif (inb t2 ntables)then(bif (inb r1 16)then(match(cK (some r) out ((tables (0+(Int.toNat t2))) (Int.toNat r1)))with|none=>none|some r2=>(some (.inl ((r,((nexps,exps),((),((ntables,tables),((),((),(at_,((nt,t),(t1,((i64.wrap (t2+1)),())))))))))),(t3,(r2,()))))))else(none))else(none)))else(none))else(some (.inr ((r,((nexps,exps),((),((ntables,tables),((),((),(at_,()))))))),(t3,(out,())))))
abbrev LJ(r:Z03)(nexps:Nat)(exps:Nat->NI)(ntables:Nat)(tables:Nat->(Nat->NI))(at_:Int)(t:NI)(out:NI):=((r,((nexps,exps),((),((ntables,tables),((),((),(at_,()))))))),(t,(out,())))
abbrev I5(r:Z03)(t:NI)(out:NI):=((r,((),((),()))),(t,(out,())))
abbrev Ak:Type:=((Z03×(Z0j×(Unit×(Z0I×Z0h))))×Z0a)
def eX:Ak->Option (Ak⊕((Z03×Z0m)×Z0a)):=λx=>let r:=x.1.1;let nexps:=x.1.2.1.1;let exps:=x.1.2.1.2;let ntables:=x.1.2.2.2.1.1;let tables:=x.1.2.2.2.1.2;let at_:=x.1.2.2.2.2.2.2.1;let t:=x.2.1;let out:=x.2.2.1;bif (decide (at_>0))then(match(cK (some r) out out)with|none=>none|some r1=>(match(cK (some r) r1 r1)with|none=>none|some r2=>(match(cK (some r) r2 r2)with|none=>none|some r3=>(match(cK (some r) r3 r3)with|none=>none|some r4=>(match(aB gV ((r,((nexps,exps),((),((ntables,tables),((),((),((i64.wrap (at_-4)),((nexps,exps),(((nexps:Nat):Int),(0,())))))))))),(t,(r4,()))))with|none=>none|some y=>(let r5:=y.1.1;let nexps1:=y.1.2.1.1;let exps1:=y.1.2.1.2;let ntables1:=y.1.2.2.2.1.1;let tables1:=y.1.2.2.2.1.2;let at_1:=y.1.2.2.2.2.2.2.1;let t1:=y.2.1;let out1:=y.2.2.1;some (.inl ((r5,((nexps1,exps1),((),((ntables1,tables1),((),((),(at_1,()))))))),(t1,(out1,()))))))))))else(some (.inr ((r,((),((),()))),(t,(out,())))))
def rC(r:Z0C)(nbases:Nat)(bases:Nat->NI)(nexps:Nat)(exps:Nat->NI):Option (NI×Int):=match r with|none=>(match(dn none)with|none=>none|some r6=>(bif (!r6)then(some ((λ_=>0),1))else(bif (((nbases:Nat):Int) !=((nexps:Nat):Int))then(some ((λ_=>0),1))else(bif (decide (((nbases:Nat):Int)>64))then(some ((λ_=>0),1))else(none)))))|some r0=>(match(dn (some r0))with|none=>none|some r1=>(bif (!r1)then(some ((λ_=>0),1))else(bif (((nbases:Nat):Int) !=((nexps:Nat):Int))then(some ((λ_=>0),1))else(bif (decide (((nbases:Nat):Int)>64))then(some ((λ_=>0),1))else(match(aB gU ((r0,((nexps,exps),((),((0,(λ_=>(λ_=>(λ_=>0)))),(0,((nbases,bases),(((nbases:Nat):Int),(0,())))))))),((λ_=>0),())))with|none=>none|some y=>(let r2:=y.1.1;let nexps1:=y.1.2.1.1;let exps1:=y.1.2.1.2;let ntables:=y.1.2.2.2.1.1;let tables:=y.1.2.2.2.1.2;let longest:=y.1.2.2.2.2.1;let t:=y.2.1;match(aB eX ((r2,((nexps1,exps1),((),((ntables,tables),((),((),((i64.wrap ((i64.wrap (Int.tdiv (i64.wrap ((i64.wrap (longest+4))-1)) 4))*4)),()))))))),(t,(r2.2.2.1,()))))with|none=>none|some y1=>(let r3:=y1.1.1;let t1:=y1.2.1;let out:=y1.2.2.1;match(cB 1)with|none=>none|some r4=>(match(cK (some r3) out r4)with|none=>none|some r5=>(some (r5,0))))))))))
def fJ:=veil rC
theorem BI:fJ=rC:=aj _
def uq(r:Z0C)(a:NI)(e:NI):Option (NI):=match r with|none=>(match(fJ none 1 (λj=>(upd (λ_=>(λ_=>0)) 0 a) (0+j)) 1 (λj=>(upd (λ_=>(λ_=>0)) 0 e) (0+j)))with|none=>none|some r2=>(some r2.1))|some r0=>(match(fJ (some r0) 1 (λj=>(upd (λ_=>(λ_=>0)) 0 a) (0+j)) 1 (λj=>(upd (λ_=>(λ_=>0)) 0 e) (0+j)))with|none=>none|some r1=>(some r1.1))
def aR:=veil uq
theorem Dn:aR=uq:=aj _
def zA(r:Z0C):Option (NI):=match r with|none=>(match(dn none)with|none=>none|some r2=>(bif (!r2)then(some (λ_=>0))else(none)))|some r0=>(match(dn (some r0))with|none=>none|some r1=>(bif (!r1)then(some (λ_=>0))else(some r0.1)))
def oh:=veil zA
theorem I6:oh=zA:=aj _
def wZ(r:Z0C)(a:NI):Option (Bool):=match r with|none=>(match(dn none)with|none=>none|some r3=>(bif r3 then(none)else(some false)))|some r0=>(match(dn (some r0))with|none=>none|some r1=>(bif r1 then(match(zx a r0.1)with|none=>none|some r2=>(some (decide (r2<0))))else(some false)))
def d9:=veil wZ
theorem FC:d9=wZ:=aj _
open Go.IntKind (i64 u64 u32 u8)
abbrev FD(n:Int)(is_:Bool)(t:Int)(t1:Int):=((n,(is_,(t,(t1,())))),())
abbrev BJ(is_:Bool):=((is_,()),())
abbrev FE:Type:=((Int×(Bool×(Int×Z06)))×Unit)
def dV:FE->Option (FE⊕Z0d):=λx=>let n:=x.1.1;let is_:=x.1.2.1;let t:=x.1.2.2.1;let t1:=x.1.2.2.2.1;bif (decide (t1<t))then(bif (decide (t1<2))then(some (.inl ((n,(is_,(t,((i64.wrap (t1+1)),())))),())))else(bif (decide ((i64.wrap (t1*t1))>n))then(some (.inr ((is_,()),())))else(bif (decide (t1=0))then(none)else(bif ((Int.tmod n t1)==0)then(some (.inr ((false,()),())))else(some (.inl ((n,(is_,(t,((i64.wrap (t1+1)),())))),())))))))else(some (.inr ((is_,()),())))
def EC(n:Int):Option (Bool):=bif (decide (n<2))then(some false)else(bif (decide (n>=65536))then(some false)else(match(aB dV ((n,(true,(n,(0,())))),()))with|none=>none|some y=>(let is_:=y.1.1;some is_)))
def BK:=veil EC
theorem I7:BK=EC:=aj _
def I8(n:NI)(factor:NI)(witness:Int):Option (Bool):=match(xS n)with|none=>none|some r=>(match r.1 with|none=>(bif (r.2 !=0)then(some false)else(bif (decide (witness<2))then(some false)else(bif (decide (witness>=65536))then(some false)else(bif (eqF (.arr 4 (.int .u64)) factor (λ_=>0))then(some false)else(match(cB 1)with|none=>none|some r22=>(match(wY n r22)with|none=>none|some r23=>(match(Dl r23.1 factor)with|none=>none|some r24=>(match(Dk factor factor)with|none=>none|some r25=>(bif (!(eqF (.arr 4 (.int .u64)) r24.2.1 (λ_=>0)))then(some false)else(bif (eqF (.arr 4 (.int .u64)) r25.2 (λ_=>0))then(match(zx r25.1 n)with|none=>none|some r26=>(bif (decide (r26<=0))then(some false)else(match(cB witness)with|none=>none|some r27=>(match(aR none r27 r24.1)with|none=>none|some r28=>(match(aR none r28 factor)with|none=>none|some r29=>(match(cB 1)with|none=>none|some r30=>(bif (!(eqF (.arr 4 (.int .u64)) r29 r30))then(some false)else(match(cB 1)with|none=>none|some r31=>(match(nZ r28 r31 n)with|none=>none|some r32=>(match(Ag r32.1 n)with|none=>none|some r33=>(match(cB 1)with|none=>none|some r34=>(some (eqF (.arr 4 (.int .u64)) r33 r34)))))))))))))else(match(cB witness)with|none=>none|some r35=>(match(aR none r35 r24.1)with|none=>none|some r36=>(match(aR none r36 factor)with|none=>none|some r37=>(match(cB 1)with|none=>none|some r38=>(bif (!(eqF (.arr 4 (.int .u64)) r37 r38))then(some false)else(match(cB 1)with|none=>none|some r39=>(match(nZ r36 r39 n)with|none=>none|some r40=>(match(Ag r40.1 n)with|none=>none|some r41=>(match(cB 1)with|none=>none|some r42=>(some (eqF (.arr 4 (.int .u64)) r41 r42)))))))))))))))))))))|some p=>(bif (r.2 !=0)then(some false)else(bif (decide (witness<2))then(some false)else(bif (decide (witness>=65536))then(some false)else(bif (eqF (.arr 4 (.int .u64)) factor (λ_=>0))then(some false)else(match(cB 1)with|none=>none|some r1=>(match(wY n r1)with|none=>none|some r2=>(match(Dl r2.1 factor)with|none=>none|some r3=>(match(Dk factor factor)with|none=>none|some r4=>(bif (!(eqF (.arr 4 (.int .u64)) r3.2.1 (λ_=>0)))then(some false)else(bif (eqF (.arr 4 (.int .u64)) r4.2 (λ_=>0))then(match(zx r4.1 n)with|none=>none|some r5=>(bif (decide (r5<=0))then(some false)else(match(cB witness)with|none=>none|some r6=>(match(aR (some p) r6 r3.1)with|none=>none|some r7=>(match(aR (some p) r7 factor)with|none=>none|some r8=>(match(cB 1)with|none=>none|some r9=>(bif (!(eqF (.arr 4 (.int .u64)) r8 r9))then(some false)else(match(cB 1)with|none=>none|some r10=>(match(nZ r7 r10 n)with|none=>none|some r11=>(match(Ag r11.1 n)with|none=>none|some r12=>(match(cB 1)with|none=>none|some r13=>(some (eqF (.arr 4 (.int .u64)) r12 r13)))))))))))))else(match(cB witness)with|none=>none|some r14=>(match(aR (some p) r14 r3.1)with|none=>none|some r15=>(match(aR (some p) r15 factor)with|none=>none|some r16=>(match(cB 1)with|none=>none|some r17=>(bif (!(eqF (.arr 4 (.int .u64)) r16 r17))then(some false)else(match(cB 1)with|none=>none|some r18=>(match(nZ r15 r18 n)with|none=>none|some r19=>(match(Ag r19.1 n)with|none=>none|some r20=>(match(cB 1)with|none=>none|some r21=>(some (eqF (.arr 4 (.int .u64)) r20 r21))))))))))))))))))))))
def ED:=veil I8
theorem Kr:ED=I8:=aj _
abbrev FH(nl:Nat)(l:Nat->(NI×Int))(k:Int):=(((nl,l),(k,())),())
abbrev yE:Type:=(Z0L⊕Z09)
abbrev BL(t:Int):yE:=(.inl ((t,()),()))
abbrev BM:yE:=(.inr ((),()))
abbrev FI:Type:=(((Nat×(Nat->(NI×Int)))×Z06)×Unit)
def gG:FI->Option (FI⊕yE):=λx=>let nl:=x.1.1.1;let l:=x.1.1.2;let k:=x.1.2.1;bif (decide (k<((nl:Nat):Int)))then(bif (inb k nl)then(bif (inb (i64.wrap (k-1)) nl)then(bif (inb k nl)then(match(ED (l (Int.toNat k)).1 (l (Int.toNat (i64.wrap (k-1)))).1 (l (Int.toNat k)).2)with|none=>none|some r=>(bif (!r)then(some (.inr (.inl ((4,()),()))))else(some (.inl (((nl,l),((i64.wrap (k+1)),())),())))))else(none))else(none))else(none))else(some (.inr (.inr ((),()))))
def EF(nl:Nat)(l:Nat->(NI×Int)):Option (Int):=bif (decide (((nl:Nat):Int)<1))then(some 4)else(bif (decide (((nl:Nat):Int)>8))then(some 4)else(bif (inb 0 nl)then(match(Nv (l 0).1)with|none=>none|some r=>(bif (!r.2)then(some 4)else(match(BK r.1)with|none=>none|some r1=>(bif (!r1)then(some 4)else(bif (inb 0 nl)then(bif ((l 0).2 !=0)then(some 4)else(match(aB gG (((nl,l),(1,())),()))with|none=>none|some y=>(match y with| .inl y1=>(let t:=y1.1.1;some t)| .inr y1=>(some 0))))else(none))))))else(none)))
def sV:=veil EF
theorem I9:sV=EF:=aj _
open Go.IntKind (i64 u64 u32 u8)
def LK(p:Z0t):Option (Z0B×Int):=bif (decide (((p.1.1:Nat):Int)<2))then(some (none,4))else(match(sV p.1.1 p.1.2)with|none=>none|some r=>(bif (r !=0)then(some (none,4))else(bif (inb (i64.wrap (((p.1.1:Nat):Int)-1)) p.1.1)then(match(xS (p.1.2 (Int.toNat (i64.wrap (((p.1.1:Nat):Int)-1)))).1)with|none=>none|some r1=>(match r1.1 with|none=>(bif (r1.2 !=0)then(some (none,4))else(bif (inb (i64.wrap (((p.1.1:Nat):Int)-2)) p.1.1)then(match(xS (p.1.2 (Int.toNat (i64.wrap (((p.1.1:Nat):Int)-2)))).1)with|none=>none|some r13=>(match r13.1 with|none=>(bif (r13.2 !=0)then(some (none,4))else(match(zy (p.1.2 (Int.toNat (i64.wrap (((p.1.1:Nat):Int)-2)))).1)with|none=>none|some r19=>(bif (decide (r19<10))then(some (none,4))else(bif (eqF (.arr 4 (.int .u64)) p.2 (λ_=>0))then(some (none,4))else(match(cB 1)with|none=>none|some r20=>(bif (eqF (.arr 4 (.int .u64)) p.2 r20)then(some (none,4))else(match(d9 none p.2)with|none=>none|some r21=>(bif (!r21)then(some (none,4))else(match(aR none p.2 (p.1.2 (Int.toNat (i64.wrap (((p.1.1:Nat):Int)-2)))).1)with|none=>none|some r22=>(match(cB 1)with|none=>none|some r23=>(bif (!(eqF (.arr 4 (.int .u64)) r22 r23))then(some (none,4))else(some ((some ((.nil,.nil),p.2)),0)))))))))))))|some p3=>(bif (r13.2 !=0)then(some (none,4))else(match(zy (p.1.2 (Int.toNat (i64.wrap (((p.1.1:Nat):Int)-2)))).1)with|none=>none|some r14=>(bif (decide (r14<10))then(some (none,4))else(bif (eqF (.arr 4 (.int .u64)) p.2 (λ_=>0))then(some (none,4))else(match(cB 1)with|none=>none|some r15=>(bif (eqF (.arr 4 (.int .u64)) p.2 r15)then(some (none,4))else(match(d9 none p.2)with|none=>none|some r16=>(bif (!r16)then(some (none,4))else(match(aR none p.2 (p.1.2 (Int.toNat (i64.wrap (((p.1.1:Nat):Int)-2)))).1)with|none=>none|some r17=>(match(cB 1)with|none=>none|some r18=>(bif (!(eqF (.arr 4 (.int .u64)) r17 r18))then(some (none,4))else(some ((some ((.nil,(.fz p3)),p.2)),0)))))))))))))))else(none)))|some p1=>(bif (r1.2 !=0)then(some (none,4))else(bif (inb (i64.wrap (((p.1.1:Nat):Int)-2)) p.1.1)then(match(xS (p.1.2 (Int.toNat (i64.wrap (((p.1.1:Nat):Int)-2)))).1)with|none=>none|some r2=>(match r2.1 with|none=>(bif (r2.2 !=0)then(some (none,4))else(match(zy (p.1.2 (Int.toNat (i64.wrap (((p.1.1:Nat):Int)-2)))).1)with|none=>none|some r8=>(bif (decide (r8<10))then(some (none,4))else(bif (eqF (.arr 4 (.int .u64)) p.2 (λ_=>0))then(some (none,4))else(match(cB 1)with|none=>none|some r9=>(bif (eqF (.arr 4 (.int .u64)) p.2 r9)then(some (none,4))else(match(d9 (some p1) p.2)with|none=>none|some r10=>(bif (!r10)then(some (none,4))else(match(aR (some p1) p.2 (p.1.2 (Int.toNat (i64.wrap (((p.1.1:Nat):Int)-2)))).1)with|none=>none|some r11=>(match(cB 1)with|none=>none|some r12=>(bif (!(eqF (.arr 4 (.int .u64)) r11 r12))then(some (none,4))else(some ((some (((.fz p1),.nil),p.2)),0)))))))))))))|some p2=>(bif (r2.2 !=0)then(some (none,4))else(match(zy (p.1.2 (Int.toNat (i64.wrap (((p.1.1:Nat):Int)-2)))).1)with|none=>none|some r3=>(bif (decide (r3<10))then(some (none,4))else(bif (eqF (.arr 4 (.int .u64)) p.2 (λ_=>0))then(some (none,4))else(match(cB 1)with|none=>none|some r4=>(bif (eqF (.arr 4 (.int .u64)) p.2 r4)then(some (none,4))else(match(d9 (some p1) p.2)with|none=>none|some r5=>(bif (!r5)then(some (none,4))else(match(aR (some p1) p.2 (p.1.2 (Int.toNat (i64.wrap (((p.1.1:Nat):Int)-2)))).1)with|none=>none|some r6=>(match(cB 1)with|none=>none|some r7=>(bif (!(eqF (.arr 4 (.int .u64)) r6 r7))then(some (none,4))else(some ((some (((.fz p1),(.fz p2)),p.2)),0)))))))))))))))else(none)))))else(none))))
def sW:=veil LK
theorem ND:sW=LK:=aj _
def nH(g:Z0B):Option (Z0C):=match g with|none=>(some none)|some g0=>(bif (aL.vW g0.1.1)then(none)else(bif (aL.isNil g0.1.1)then(some none)else(some (some (aL.val (((λ_=>0),(0,((λ_=>0),(λ_=>0)))):Z03) g0.1.1)))))
def bP:=veil nH
theorem yY:bP=nH:=aj _
def Al(g:Z0B):Option (NI):=match g with|none=>(some (λ_=>0))|some g0=>(some g0.2)
def qH:=veil Al
theorem Dp:qH=Al:=aj _
def lV(g:Z0B):Option (Z0C):=match g with|none=>(some none)|some g0=>(bif (aL.vW g0.1.2)then(none)else(bif (aL.isNil g0.1.2)then(some none)else(some (some (aL.val (((λ_=>0),(0,((λ_=>0),(λ_=>0)))):Z03) g0.1.2)))))
def dD:=veil lV
theorem xV:dD=lV:=aj _
def uw(g:Z0B):Option (NI):=match g with|none=>(match(dD none)with|none=>none|some r3=>(match r3 with|none=>(match(oh none)with|none=>none|some r5=>(some r5))|some p1=>(match(oh (some p1))with|none=>none|some r4=>(some r4))))|some g0=>(match(dD (some g0))with|none=>none|some r=>(match r with|none=>(match(oh none)with|none=>none|some r2=>(some r2))|some p=>(match(oh (some p))with|none=>none|some r1=>(some r1))))
def eG:=veil uw
theorem Dq:eG=uw:=aj _
open Go.IntKind (i64 u64 u32 u8)
abbrev a1u(k:Int)(b:Z0n)(t:NI)(out:NI):=(((),((),((),(k,())))),(b,(t,(out,()))))
abbrev Xq(t:NI)(out:NI):=(((),((),())),(t,(out,())))
abbrev Ri:Type:=((Unit×Z0h)×(Z0n×Z0a))
def om:Ri->Option (Ri⊕(Z0m×Z0a)):=λx=>let k:=x.1.2.2.2.1;let b:=x.2.1;let t:=x.2.2.1;let out:=x.2.2.2.1;bif (decide (k<256))then(bif (inb k 256)then(bif (b (Int.toNat k))then(bif (inb (i64.wrap (Int.tdiv k 64)) 4)then(bif (decide ((Int.tmod k 64)<0))then(none)else(let t1:=(ak .or .u64 (out (Int.toNat (i64.wrap (Int.tdiv k 64)))) (iL .u64 1 (Int.tmod k 64)));bif (inb (i64.wrap (Int.tdiv k 64)) 4)then(some (.inl (((),((),((),((i64.wrap (k+1)),())))),(b,(t,((upd out (Int.toNat (i64.wrap (Int.tdiv k 64))) t1),()))))))else(none)))else(none))else(some (.inl (((),((),((),((i64.wrap (k+1)),())))),(b,(t,(out,())))))))else(none))else(some (.inr (((),((),())),(t,(out,())))))
def Uw(b:Z0n):Option (NI):=match(aB om (((),((),((),(0,())))),(b,((λ_=>0),((λ_=>0),())))))with|none=>none|some y=>(let t:=y.2.1;let out:=y.2.2.1;some out)
def Tj:=veil Uw
theorem Ux:Tj=Uw:=aj _
abbrev a1v(n:Int)(k:Int)(t:NI)(b:Z0n):=((n,((),((),(k,())))),(t,(b,())))
abbrev Kt(t:NI)(b:Z0n):=(((),((),())),(t,(b,())))
abbrev Rj:Type:=((Int×Z0h)×(NI×(Z0n×Unit)))
def oq:Rj->Option (Rj⊕(Z0m×(NI×(Z0n×Unit)))):=λx=>let n:=x.1.1;let k:=x.1.2.2.2.1;let t:=x.2.1;let b:=x.2.2.1;bif (decide (k<63))then(bif (decide (n>0))then(bif (decide (k<0))then(none)else(bif (inb k 256)then(some (.inl ((n,((),((),((i64.wrap (k+1)),())))),(t,((upd b (Int.toNat k) ((ak .and .i64 (bG .i64 n k) 1)==1)),())))))else(none)))else(some (.inr (((),((),())),(t,(b,()))))))else(some (.inr (((),((),())),(t,(b,())))))
def Uy(n:Int):Option (NI):=match(aB oq ((n,((),((),(0,())))),((λ_=>0),((λ_=>false),()))))with|none=>none|some y=>(let t:=y.2.1;let b:=y.2.2.1;match(Tj b)with|none=>none|some r=>(some r))
def aT:=veil Uy
theorem Uz:aT=Uy:=aj _
abbrev a3Q(k:Int)(a:NI)(t:Z0n)(out:Z0n):=(((),((),((),(k,())))),(a,(t,(out,()))))
abbrev ZJ(t:Z0n)(out:Z0n):=(((),((),())),(t,(out,())))
abbrev UA:Type:=((Unit×Z0h)×(NI×(Z0n×(Z0n×Unit))))
def vZ:UA->Option (UA⊕(Z0m×(Z0n×(Z0n×Unit)))):=λx=>let k:=x.1.2.2.2.1;let a:=x.2.1;let t:=x.2.2.1;let out:=x.2.2.2.1;bif (decide (k<256))then(bif (inb (i64.wrap (Int.tdiv k 64)) 4)then(bif (decide ((Int.tmod k 64)<0))then(none)else(let t1:=(ak .and .u64 (bG .u64 (a (Int.toNat (i64.wrap (Int.tdiv k 64)))) (Int.tmod k 64)) 1);bif (inb k 256)then(some (.inl (((),((),((),((i64.wrap (k+1)),())))),(a,(t,((upd out (Int.toNat k) (t1==1)),()))))))else(none)))else(none))else(some (.inr (((),((),())),(t,(out,())))))
def ZK(a:NI):Option (Z0n):=match(aB vZ (((),((),((),(0,())))),(a,((λ_=>false),((λ_=>false),())))))with|none=>none|some y=>(let t:=y.2.1;let out:=y.2.2.1;some out)
def Ia:=veil ZK
theorem Yo:Ia=ZK:=aj _
abbrev a1w(k:Int)(x1:Z0n)(y:Z0n):=(((),((),(k,()))),(x1,(y,())))
abbrev Ib:Type:=(Z0L⊕Z09)
abbrev Xr(t:Int):Ib:=(.inl ((t,()),()))
abbrev Xt:Ib:=(.inr ((),()))
abbrev Rk:Type:=(Z0h×(Z0n×(Z0n×Unit)))
def jK:Rk->Option (Rk⊕Ib):=λx=>let k:=x.1.2.2.1;let x1:=x.2.1;let y:=x.2.2.1;bif (decide (k>=0))then(bif (inb k 256)then(bif (inb k 256)then(bif (!((x1 (Int.toNat k))==(y (Int.toNat k))))then(bif (inb k 256)then(bif (x1 (Int.toNat k))then(some (.inr (.inl ((1,()),()))))else(some (.inr (.inl (((-1),()),())))))else(none))else(some (.inl (((),((),((i64.wrap (k-1)),()))),(x1,(y,()))))))else(none))else(none))else(some (.inr (.inr ((),()))))
def UC(a:NI)(b:NI):Option (Int):=match(Ia a)with|none=>none|some r=>(match(Ia b)with|none=>none|some r1=>(match(aB jK (((),((),(255,()))),(r,(r1,()))))with|none=>none|some y=>(match y with| .inl y1=>(let t:=y1.1.1;some t)| .inr y1=>(some 0))))
def Tk:=veil UC
theorem UD:Tk=UC:=aj _
abbrev a1x(k:Int)(b:Z0n):=(((),(k,())),(b,()))
abbrev Ic:Type:=(Z0L⊕Z09)
abbrev Xu(t:Int):Ic:=(.inl ((t,()),()))
abbrev Xv:Ic:=(.inr ((),()))
abbrev Rl:Type:=(Z0z×(Z0n×Unit))
def ou:Rl->Option (Rl⊕Ic):=λx=>let k:=x.1.2.1;let b:=x.2.1;bif (decide (k>=0))then(bif (inb k 256)then(bif (b (Int.toNat k))then(some (.inr (.inl (((i64.wrap (k+1)),()),()))))else(some (.inl (((),((i64.wrap (k-1)),())),(b,())))))else(none))else(some (.inr (.inr ((),()))))
def UE(a:NI):Option (Int):=match(Ia a)with|none=>none|some r=>(match(aB ou (((),(255,())),(r,())))with|none=>none|some y=>(match y with| .inl y1=>(let t:=y1.1.1;some t)| .inr y1=>(some 0)))
def Js:=veil UE
theorem UF:Js=UE:=aj _
abbrev a1y(n:Int)(k:Int)(b:Z0n):=((n,((),(k,()))),(b,()))
abbrev Xw(n:Int):=((n,()),())
abbrev Rm:Type:=((Int×Z0z)×(Z0n×Unit))
def ow:Rm->Option (Rm⊕Z0L):=λx=>let n:=x.1.1;let k:=x.1.2.2.1;let b:=x.2.1;bif (decide (k<63))then(bif (inb k 256)then(bif (b (Int.toNat k))then(bif (decide (k<0))then(none)else(some (.inl (((ak .or .i64 n (iL .i64 1 k)),((),((i64.wrap (k+1)),()))),(b,())))))else(some (.inl ((n,((),((i64.wrap (k+1)),()))),(b,())))))else(none))else(some (.inr ((n,()),())))
def UG(a:NI):Option (Int×Bool):=match(Js a)with|none=>none|some r=>(bif (decide (r>63))then(some (0,false))else(match(Ia a)with|none=>none|some r1=>(match(aB ow ((0,((),(0,()))),(r1,())))with|none=>none|some y=>(let n:=y.1.1;some (n,true)))))
def EG:=veil UG
theorem UH:EG=UG:=aj _
def UJ(a:NI)(k:Int):Option (Int):=match(Ia a)with|none=>none|some r=>(bif (decide (k>=0))then(bif (decide (k<256))then(bif (inb k 256)then(bif (r (Int.toNat k))then(some 1)else(some 0))else(none))else(some 0))else(some 0))
def NG:=veil UJ
theorem UK:NG=UJ:=aj _
abbrev Cw(nout:Nat)(out:Nat->Int)(i:Int)(x1:Int)(k:Int)(a:NI):=(((),((nout,out),(i,(x1,(k,()))))),(a,()))
abbrev FJ(nout:Nat)(out:Nat->Int)(i:Int)(x1:Int)(a:NI):=(((),((nout,out),(i,(x1,())))),(a,()))
abbrev Ku:Type:=((Unit×((Nat×NI)×Z0v))×(NI×Unit))
def mP:Ku->Option (Ku⊕((Unit×((Nat×NI)×(Int×Z06)))×(NI×Unit))):=λx=>let nout:=x.1.2.1.1;let out:=x.1.2.1.2;let i:=x.1.2.2.1;let x1:=x.1.2.2.2.1;let k:=x.1.2.2.2.2.1;let a:=x.2.1;bif (decide (k<8))then(match(NG a (i64.wrap ((i64.wrap (8*i))+k)))with|none=>none|some r=>(bif (decide (k<0))then(none)else(some (.inl (((),((nout,out),(i,((ak .or .i64 x1 (iL .i64 r k)),((i64.wrap (k+1)),()))))),(a,()))))))else(some (.inr (((),((nout,out),(i,(x1,())))),(a,()))))
abbrev Cy(nout:Nat)(out:Nat->Int)(i:Int)(a:NI):=(((),((nout,out),(i,()))),(a,()))
abbrev yF(nout:Nat)(out:Nat->Int):=(((nout,out),()),())
abbrev Kv:Type:=((Unit×((Nat×NI)×Z06))×(NI×Unit))
def jW:Kv->Option (Kv⊕Z0A):=λx=>let nout:=x.1.2.1.1;let out:=x.1.2.1.2;let i:=x.1.2.2.1;let a:=x.2.1;bif (decide (i>=0))then(match(aB mP (((),((nout,out),(i,(0,(0,()))))),(a,())))with|none=>none|some y=>(let nout1:=y.1.2.1.1;let out1:=y.1.2.1.2;let i1:=y.1.2.2.1;let x1:=y.1.2.2.2.1;let a1:=y.2.1;bif ((Nat.ble ((nout1+1)*1) 140737488355328)&&(Nat.ble (nout1+1) 9223372036854775807))then(some (.inl (((),(((nout1+1),(glue nout1 out1 (λj=>(upd (λ_=>0) 0 (u8.wrap (ak .and .i64 x1 255))) (0+j)))),((i64.wrap (i1-1)),()))),(a1,()))))else(none)))else(some (.inr (((nout,out),()),())))
def LM(a:NI):Option Z0x:=match(Js a)with|none=>none|some r=>(match(aB jW (((),((0,(λ_=>0)),((i64.wrap ((i64.wrap (Int.tdiv (i64.wrap (r+7)) 8))-1)),()))),(a,())))with|none=>none|some y=>(let nout:=y.1.1.1;let out:=y.1.1.2;some (bytesOf nout (λj=>out (0+j)))))
def Jt:=veil LM
theorem NH:Jt=LM:=aj _
open Go.IntKind (i64 u64 u32 u8)
abbrev a3R(k:Int)(low:NI)(high:NI)(t:NI)(out:NI):=(((),((),((),((),(k,()))))),(low,(high,(t,(out,())))))
abbrev ZL(t:NI)(out:NI):=(((),((),())),(t,(out,())))
abbrev UL:Type:=(Z0D×Z0y)
def w9:UL->Option (UL⊕(Z0m×Z0a)):=λx=>let k:=x.1.2.2.2.2.1;let low:=x.2.1;let high:=x.2.2.1;let t:=x.2.2.2.1;let out:=x.2.2.2.2.1;bif (decide (k<16))then(bif (inb (i64.wrap (Int.tdiv k 4)) 4)then(bif (decide ((i64.wrap (16*(Int.tmod k 4)))<0))then(none)else(let t1:=(bG .u64 (low (Int.toNat (i64.wrap (Int.tdiv k 4)))) (i64.wrap (16*(Int.tmod k 4))));bif (inb k 32)then(bif (inb (i64.wrap (Int.tdiv k 4)) 4)then(bif (decide ((i64.wrap (16*(Int.tmod k 4)))<0))then(none)else(let t2:=(bG .u64 (high (Int.toNat (i64.wrap (Int.tdiv k 4)))) (i64.wrap (16*(Int.tmod k 4))));bif (inb (i64.wrap (16+k)) 32)then(some (.inl (((),((),((),((),((i64.wrap (k+1)),()))))),(low,(high,(t,((upd (upd out (Int.toNat k) (i64.wrap (ak .and .u64 t1 65535))) (Int.toNat (i64.wrap (16+k))) (i64.wrap (ak .and .u64 t2 65535))),())))))))else(none)))else(none))else(none)))else(none))else(some (.inr (((),((),())),(t,(out,())))))
def ZM(low:NI)(high:NI):Option (NI):=match(aB w9 (((),((),((),((),(0,()))))),(low,(high,((λ_=>0),((λ_=>0),()))))))with|none=>none|some y=>(let t:=y.2.1;let out:=y.2.2.1;some out)
def UM:=veil ZM
theorem Yp:UM=ZM:=aj _
abbrev ZN(k:Int)(d:NI)(t:NI)(t1:NI)(low:NI)(high:NI):=(((),((),((),((),((),(k,())))))),(d,(t,(t1,(low,(high,()))))))
abbrev UN(t:NI)(t1:NI)(low:NI)(high:NI):=(((),((),((),((),())))),(t,(t1,(low,(high,())))))
abbrev NJ:Type:=((Unit×Z0D)×(NI×Z0y))
def pG:NJ->Option (NJ⊕((Unit×(Unit×Z0m))×Z0y)):=λx=>let k:=x.1.2.2.2.2.2.1;let d:=x.2.1;let t:=x.2.2.1;let t1:=x.2.2.2.1;let low:=x.2.2.2.2.1;let high:=x.2.2.2.2.2.1;bif (decide (k<16))then(bif (inb (i64.wrap (Int.tdiv k 4)) 4)then(bif (inb k 32)then(bif (decide ((i64.wrap (16*(Int.tmod k 4)))<0))then(none)else(let t2:=(ak .or .u64 (low (Int.toNat (i64.wrap (Int.tdiv k 4)))) (iL .u64 (u64.wrap (d (Int.toNat k))) (i64.wrap (16*(Int.tmod k 4)))));bif (inb (i64.wrap (Int.tdiv k 4)) 4)then(bif (inb (i64.wrap (Int.tdiv k 4)) 4)then(bif (inb (i64.wrap (16+k)) 32)then(bif (decide ((i64.wrap (16*(Int.tmod k 4)))<0))then(none)else(let t3:=(iL .u64 (u64.wrap (d (Int.toNat (i64.wrap (16+k))))) (i64.wrap (16*(Int.tmod k 4))));bif (inb (i64.wrap (Int.tdiv k 4)) 4)then(some (.inl (((),((),((),((),((),((i64.wrap (k+1)),())))))),(d,(t,(t1,((upd low (Int.toNat (i64.wrap (Int.tdiv k 4))) t2),((upd high (Int.toNat (i64.wrap (Int.tdiv k 4))) (ak .or .u64 (high (Int.toNat (i64.wrap (Int.tdiv k 4)))) t3)),()))))))))else(none)))else(none))else(none))else(none)))else(none))else(none))else(some (.inr (((),((),((),((),())))),(t,(t1,(low,(high,())))))))
def PG(d:NI):Option (NI×NI):=match(aB pG (((),((),((),((),((),(0,())))))),(d,((λ_=>0),((λ_=>0),((λ_=>0),((λ_=>0),())))))))with|none=>none|some y=>(let t:=y.2.1;let t1:=y.2.2.1;let low:=y.2.2.2.1;let high:=y.2.2.2.2.1;some (low,high))
def NK:=veil PG
theorem Rn:NK=PG:=aj _
abbrev Xx(carry:Int)(k:Int)(a:NI)(t:NI)(out:NI):=(((),((),((),(carry,(k,()))))),(a,(t,(out,()))))
abbrev Sl(t:NI)(out:NI):=(((),((),())),(t,(out,())))
abbrev Kw:Type:=((Unit×(Unit×Z0q))×(NI×Z0a))
def mQ:Kw->Option (Kw⊕(Z0m×Z0a)):=λx=>let carry:=x.1.2.2.2.1;let k:=x.1.2.2.2.2.1;let a:=x.2.1;let t:=x.2.2.1;let out:=x.2.2.2.1;bif (decide (k<32))then(bif (inb k 32)then(bif (inb k 32)then(some (.inl (((),((),((),((bG .i64 (i64.wrap ((i64.wrap (2*(a (Int.toNat k))))+carry)) 16),((i64.wrap (k+1)),()))))),(a,(t,((upd out (Int.toNat k) (ak .and .i64 (i64.wrap ((i64.wrap (2*(a (Int.toNat k))))+carry)) 65535)),()))))))else(none))else(none))else(some (.inr (((),((),())),(t,(out,())))))
def LP(a:NI)(one:Int):Option (NI):=match(aB mQ (((),((),((),(one,(0,()))))),(a,((λ_=>0),((λ_=>0),())))))with|none=>none|some y=>(let t:=y.2.1;let out:=y.2.2.1;some out)
def Ju:=veil LP
theorem NM:Ju=LP:=aj _
abbrev Xy(k:Int)(a:NI)(b:NI):=(((),((),(k,()))),(a,(b,())))
abbrev Cz:Type:=(Z0d⊕Z09)
abbrev Sm(t:Bool):Cz:=(.inl ((t,()),()))
abbrev Sn:Cz:=(.inr ((),()))
abbrev Ky:Type:=(Z0h×Z0a)
def jX:Ky->Option (Ky⊕Cz):=λx=>let k:=x.1.2.2.1;let a:=x.2.1;let b:=x.2.2.1;bif (decide (k>=0))then(bif (inb k 32)then(bif (inb k 32)then(bif ((a (Int.toNat k)) !=(b (Int.toNat k)))then(bif (inb k 32)then(bif (inb k 32)then(some (.inr (.inl (((decide ((a (Int.toNat k))<(b (Int.toNat k)))),()),()))))else(none))else(none))else(some (.inl (((),((),((i64.wrap (k-1)),()))),(a,(b,()))))))else(none))else(none))else(some (.inr (.inr ((),()))))
def LQ(a:NI)(b:NI):Option (Bool):=match(aB jX (((),((),(31,()))),(a,(b,()))))with|none=>none|some y=>(match y with| .inl y1=>(let t:=y1.1.1;some t)| .inr y1=>(some false))
def Jv:=veil LQ
theorem NN:Jv=LQ:=aj _
abbrev ZO(borrow:Int)(k:Int)(a:NI)(b:NI)(t:NI)(out:NI):=(((),((),((),(borrow,((),(k,())))))),(a,(b,(t,(out,())))))
abbrev UO(t:NI)(out:NI):=(((),((),())),(t,(out,())))
abbrev NP:Type:=((Unit×(Unit×(Unit×(Int×Z0z))))×Z0y)
def lW:NP->Option (NP⊕(Z0m×Z0a)):=λx=>let borrow:=x.1.2.2.2.1;let k:=x.1.2.2.2.2.2.1;let a:=x.2.1;let b:=x.2.2.1;let t:=x.2.2.2.1;let out:=x.2.2.2.2.1;bif (decide (k<32))then(bif (inb k 32)then(bif (inb k 32)then(let t1:=(decide ((i64.wrap ((i64.wrap ((a (Int.toNat k))-(b (Int.toNat k))))-borrow))<0));bif t1 then(let t2:=(i64.wrap ((i64.wrap ((i64.wrap ((a (Int.toNat k))-(b (Int.toNat k))))-borrow))+65536));bif (inb k 32)then(some (.inl (((),((),((),(1,((),((i64.wrap (k+1)),())))))),(a,(b,(t,((upd out (Int.toNat k) t2),())))))))else(none))else(bif (inb k 32)then(some (.inl (((),((),((),(0,((),((i64.wrap (k+1)),())))))),(a,(b,(t,((upd out (Int.toNat k) (i64.wrap ((i64.wrap ((a (Int.toNat k))-(b (Int.toNat k))))-borrow))),())))))))else(none)))else(none))else(none))else(some (.inr (((),((),())),(t,(out,())))))
def PI(a:NI)(b:NI):Option (NI):=match(aB lW (((),((),((),(0,((),(0,())))))),(a,(b,((λ_=>0),((λ_=>0),()))))))with|none=>none|some y=>(let t:=y.2.1;let out:=y.2.2.1;some out)
def NQ:=veil PI
theorem Ro:NQ=PI:=aj _
abbrev UQ(k:Int)(a:NI)(m:NI)(t:NI)(t1:NI)(q:NI)(r:NI):=(((),((),((),((),((),((),(k,()))))))),(a,(m,(t,(t1,(q,(r,())))))))
abbrev PK(t:NI)(t1:NI)(q:NI)(r:NI):=(((),((),((),((),())))),(t,(t1,(q,(r,())))))
abbrev Ie:Type:=((Unit×(Unit×Z0D))×(NI×(NI×Z0y)))
def jg:Ie->Option (Ie⊕((Unit×(Unit×Z0m))×Z0y)):=λx=>let k:=x.1.2.2.2.2.2.2.1;let a:=x.2.1;let m:=x.2.2.1;let t:=x.2.2.2.1;let t1:=x.2.2.2.2.1;let q:=x.2.2.2.2.2.1;let r:=x.2.2.2.2.2.2.1;bif (decide (k>=0))then(bif (inb (i64.wrap (Int.tdiv k 16)) 32)then(bif (decide ((Int.tmod k 16)<0))then(none)else(let t2:=(ak .and .i64 (bG .i64 (a (Int.toNat (i64.wrap (Int.tdiv k 16)))) (Int.tmod k 16)) 1);match(Ju r t2)with|none=>none|some r1=>(match(Jv r1 m)with|none=>none|some r2=>(bif (!r2)then(match(NQ r1 m)with|none=>none|some r3=>(bif (inb (i64.wrap (Int.tdiv k 16)) 32)then(bif (decide ((Int.tmod k 16)<0))then(none)else(let t3:=(ak .or .i64 (q (Int.toNat (i64.wrap (Int.tdiv k 16)))) (iL .i64 1 (Int.tmod k 16)));bif (inb (i64.wrap (Int.tdiv k 16)) 32)then(some (.inl (((),((),((),((),((),((),((i64.wrap (k-1)),()))))))),(a,(m,(t,(t1,((upd q (Int.toNat (i64.wrap (Int.tdiv k 16))) t3),(r3,())))))))))else(none)))else(none)))else(some (.inl (((),((),((),((),((),((),((i64.wrap (k-1)),()))))))),(a,(m,(t,(t1,(q,(r1,())))))))))))))else(none))else(some (.inr (((),((),((),((),())))),(t,(t1,(q,(r,())))))))
def Ig(a:NI)(m:NI):Option (NI×NI):=match(aB jg (((),((),((),((),((),((),(511,()))))))),(a,(m,((λ_=>0),((λ_=>0),((λ_=>0),((λ_=>0),()))))))))with|none=>none|some y=>(let t:=y.2.1;let t1:=y.2.2.1;let q:=y.2.2.2.1;let r:=y.2.2.2.2.1;some (q,r))
def EH:=veil Ig
theorem Kz:EH=Ig:=aj _
def UR(low:NI)(high:NI)(m:NI):Option (NI×Int):=bif (eqF (.arr 4 (.int .u64)) m (λ_=>0))then(some ((λ_=>0),1))else(match(UM low high)with|none=>none|some r=>(match(UM m (λ_=>0))with|none=>none|some r1=>(match(EH r r1)with|none=>none|some r2=>(match(NK r2.2)with|none=>none|some r3=>(some (r3.1,0))))))
def NR:=veil UR
theorem UU:NR=UR:=aj _
open Go.IntKind (i64 u64 u32 u8)
def LU(a:Int)(b:Int)(m:Int):Option (Int):=bif (decide (m=0))then(none)else(bif (decide (m=0))then(none)else(match(bits_Mul64 (u64.wrap (Int.tmod a m)) (u64.wrap (Int.tmod b m)))with|none=>none|some r=>(match(nX r.1 r.2 (u64.wrap m))with|none=>none|some r1=>(some (i64.wrap r1.2)))))
def zP:=veil LU
theorem NS:zP=LU:=aj _
abbrev Xz(a:Int)(m:Int)(out:Int)(k:Int)(e:NI):=((a,(m,((),(out,(k,()))))),(e,()))
abbrev Sq(out:Int):=((out,()),())
abbrev KA:Type:=((Int×(Int×Z0q))×(NI×Unit))
def jY:KA->Option (KA⊕Z0L):=λx=>let a:=x.1.1;let m:=x.1.2.1;let out:=x.1.2.2.2.1;let k:=x.1.2.2.2.2.1;let e:=x.2.1;bif (decide (k>=0))then(match(zP out out m)with|none=>none|some r=>(match(NG e k)with|none=>none|some r1=>(bif (r1==1)then(match(zP r a m)with|none=>none|some r2=>(some (.inl ((a,(m,((),(r2,((i64.wrap (k-1)),()))))),(e,())))))else(some (.inl ((a,(m,((),(r,((i64.wrap (k-1)),()))))),(e,())))))))else(some (.inr ((out,()),())))
def LV(a:Int)(e:NI)(m:Int):Option (Int):=bif (decide (m=0))then(none)else(match(Js e)with|none=>none|some r=>(match(aB jY ((a,(m,((),((Int.tmod 1 m),((i64.wrap (r-1)),()))))),(e,())))with|none=>none|some y=>(let out:=y.1.1;some out)))
def Jw:=veil LV
theorem NT:Jw=LV:=aj _
open Go.IntKind (i64 u64 u32 u8)
open Go.IntKind (i64 u64 u32 u8)
def UW:Option (Z0t):=some ((3,(λj=>(upd (upd (upd (λ_=>((λ_=>0),0)) 0 ((upd (λ_=>0) 0 65521),0)) 1 ((upd (λ_=>0) 0 1966023127),2)) 2 ((upd (λ_=>0) 0 1055500680322183127),2)) (0+j))),(upd (λ_=>0) 0 316543771439780984))
def Jy:=veil UW
theorem NU:Jy=UW:=aj _
def UY:Option (Z0t):=some ((3,(λj=>(upd (upd (upd (λ_=>((λ_=>0),0)) 0 ((upd (λ_=>0) 0 64817),0)) 1 ((upd (λ_=>0) 0 1815135269),2)) 2 ((upd (λ_=>0) 0 487269091447081429),2)) (0+j))),(upd (λ_=>0) 0 54624333139524128))
def Jz:=veil UY
theorem NV:Jz=UY:=aj _
def PL(which:Int):Option (Z0t):=bif ((ak .and .i64 which 1)==1)then(match Jz with|none=>none|some r=>(some ((r.1.1,r.1.2),r.2)))else(match Jy with|none=>none|some r1=>(some ((r1.1.1,r1.1.2),r1.2)))
def NW:=veil PL
theorem Rp:NW=PL:=aj _
def a3S(p:Z0t):Option (NI):=bif (decide (((p.1.1:Nat):Int)<2))then(some (λ_=>0))else(bif (inb (i64.wrap (((p.1.1:Nat):Int)-1)) p.1.1)then(some (p.1.2 (Int.toNat (i64.wrap (((p.1.1:Nat):Int)-1)))).1)else(none))
def a5t:=veil a3S
theorem a1z:a5t=a3S:=aj _
def a3T(p:Z0t):Option (NI):=bif (decide (((p.1.1:Nat):Int)<2))then(some (λ_=>0))else(bif (inb (i64.wrap (((p.1.1:Nat):Int)-2)) p.1.1)then(some (p.1.2 (Int.toNat (i64.wrap (((p.1.1:Nat):Int)-2)))).1)else(none))
def a5u:=veil a3T
theorem a1A:a5u=a3T:=aj _
open Go.IntKind (i64 u64 u32 u8)
def ZP(a:NI)(q:Int):Option (Int):=match(aT q)with|none=>none|some r=>(match(NR a (λ_=>0) r)with|none=>none|some r1=>(match(EG r1.1)with|none=>none|some r2=>(some r2.1)))
def ZQ:=veil ZP
theorem Yq:ZQ=ZP:=aj _
def UZ(a:Int)(b:Int)(q:Int):Option (Int):=bif (decide (q=0))then(none)else(some (Int.tmod (i64.wrap (a+b)) q))
def Tm:=veil UZ
theorem V5:Tm=UZ:=aj _
def V6(a:Int)(b:Int)(q:Int):Option (Int):=match(zP a b q)with|none=>none|some r=>(some r)
def NY:=veil V6
theorem V7:NY=V6:=aj _
abbrev a1B(nl:Nat)(l:Nat->NI)(q:Int)(nout:Nat)(out:Nat->Int)(i:Int):=(((nl,l),(q,((nout,out),(i,())))),())
abbrev KC(nout:Nat)(out:Nat->Int):=(((nout,out),()),())
abbrev Rq:Type:=((Z0j×(Int×((Nat×NI)×Z06)))×Unit)
def sZ:Rq->Option (Rq⊕Z0A):=λx=>let nl:=x.1.1.1;let l:=x.1.1.2;let q:=x.1.2.1;let nout:=x.1.2.2.1.1;let out:=x.1.2.2.1.2;let i:=x.1.2.2.2.1;bif (decide (i<((nl:Nat):Int)))then(bif (inb i nl)then(match(ZQ (l (Int.toNat i)) q)with|none=>none|some r=>(bif ((Nat.ble ((nout+1)*8) 140737488355328)&&(Nat.ble (nout+1) 9223372036854775807))then(some (.inl (((nl,l),(q,(((nout+1),(glue nout out (λj=>(upd (λ_=>0) 0 r) (0+j)))),((i64.wrap (i+1)),())))),())))else(none)))else(none))else(some (.inr (((nout,out),()),())))
def V8(nl:Nat)(l:Nat->NI)(q:Int):Option ((Nat×NI)):=match(aB sZ (((nl,l),(q,((0,(λ_=>0)),(0,())))),()))with|none=>none|some y=>(let nout:=y.1.1.1;let out:=y.1.1.2;some (nout,(λj=>out (0+j))))
def x9:=veil V8
theorem V9:x9=V8:=aj _
open Go.IntKind (i64 u64 u32 u8)
def ZR(p:Z0t):Option (Z0k):=match(a5t ((p.1.1,p.1.2),p.2))with|none=>none|some r=>(match(EG r)with|none=>none|some r1=>(match(a5u ((p.1.1,p.1.2),p.2))with|none=>none|some r2=>(match(EG r2)with|none=>none|some r3=>(match(EG p.2)with|none=>none|some r4=>(some (r1.1,(r3.1,r4.1)))))))
def LW:=veil ZR
theorem Yr:LW=ZR:=aj _
def Va(s:Z0k)(a:Int)(e:NI):Option (Int):=match(Jw a e s.1)with|none=>none|some r=>(some r)
def NZ:=veil Va
theorem Vb:NZ=Va:=aj _
open Go.IntKind (i64 u64 u32 u8)
def JA(g:Z0B)(a:NI):Option (Bool):=match g with|none=>(match(dD none)with|none=>none|some r3=>(match r3 with|none=>(match(d9 none a)with|none=>none|some r5=>(some r5))|some p1=>(match(d9 (some p1) a)with|none=>none|some r4=>(some r4))))|some g0=>(match(dD (some g0))with|none=>none|some r=>(match r with|none=>(match(d9 none a)with|none=>none|some r2=>(some r2))|some p=>(match(d9 (some p) a)with|none=>none|some r1=>(some r1))))
def Ih:=veil JA
theorem Rs:Ih=JA:=aj _
open Go.IntKind (i64 u64 u32 u8)
def zB(g:Z0B)(nbases:Nat)(bases:Nat->NI)(nexps:Nat)(exps:Nat->NI):Option (NI×Int):=match g with|none=>(match(bP none)with|none=>none|some r3=>(match r3 with|none=>(match(fJ none nbases bases nexps exps)with|none=>none|some r5=>(some (r5.1,r5.2)))|some p1=>(match(fJ (some p1) nbases bases nexps exps)with|none=>none|some r4=>(some (r4.1,r4.2)))))|some g0=>(match(bP (some g0))with|none=>none|some r=>(match r with|none=>(match(fJ none nbases bases nexps exps)with|none=>none|some r2=>(some (r2.1,r2.2)))|some p=>(match(fJ (some p) nbases bases nexps exps)with|none=>none|some r1=>(some (r1.1,r1.2)))))
def BN:=veil zB
theorem Ii:BN=zB:=aj _
def EI(g:Z0B)(a:NI)(e:NI):Option (NI):=match g with|none=>(match(bP none)with|none=>none|some r3=>(match r3 with|none=>(match(aR none a e)with|none=>none|some r5=>(some r5))|some p1=>(match(aR (some p1) a e)with|none=>none|some r4=>(some r4))))|some g0=>(match(bP (some g0))with|none=>none|some r=>(match r with|none=>(match(aR none a e)with|none=>none|some r2=>(some r2))|some p=>(match(aR (some p) a e)with|none=>none|some r1=>(some r1))))
def Dr:=veil EI
theorem O0:Dr=EI:=aj _
def JB(g:Z0B)(e:NI):Option (NI):=match g with|none=>(match(qH none)with|none=>none|some r2=>(match(Dr none r2 e)with|none=>none|some r3=>(some r3)))|some g0=>(match(qH (some g0))with|none=>none|some r=>(match(Dr (some g0) r e)with|none=>none|some r1=>(some r1)))
def Ij:=veil JB
theorem Rt:Ij=JB:=aj _
def JC(g:Z0B)(a:NI):Option (Bool):=match g with|none=>(bif (!(eqF (.arr 4 (.int .u64)) a (λ_=>0)))then(match(bP none)with|none=>none|some r17=>(match r17 with|none=>(match(d9 none a)with|none=>none|some r26=>(bif r26 then(match(bP none)with|none=>none|some r27=>(match r27 with|none=>(match(eG none)with|none=>none|some r31=>(match(aR none a r31)with|none=>none|some r32=>(match(cB 1)with|none=>none|some r33=>(some (eqF (.arr 4 (.int .u64)) r32 r33)))))|some p5=>(match(eG none)with|none=>none|some r28=>(match(aR (some p5) a r28)with|none=>none|some r29=>(match(cB 1)with|none=>none|some r30=>(some (eqF (.arr 4 (.int .u64)) r29 r30)))))))else(some false)))|some p3=>(match(d9 (some p3) a)with|none=>none|some r18=>(bif r18 then(match(bP none)with|none=>none|some r19=>(match r19 with|none=>(match(eG none)with|none=>none|some r23=>(match(aR none a r23)with|none=>none|some r24=>(match(cB 1)with|none=>none|some r25=>(some (eqF (.arr 4 (.int .u64)) r24 r25)))))|some p4=>(match(eG none)with|none=>none|some r20=>(match(aR (some p4) a r20)with|none=>none|some r21=>(match(cB 1)with|none=>none|some r22=>(some (eqF (.arr 4 (.int .u64)) r21 r22)))))))else(some false)))))else(some false))|some g0=>(bif (!(eqF (.arr 4 (.int .u64)) a (λ_=>0)))then(match(bP (some g0))with|none=>none|some r=>(match r with|none=>(match(d9 none a)with|none=>none|some r9=>(bif r9 then(match(bP (some g0))with|none=>none|some r10=>(match r10 with|none=>(match(eG (some g0))with|none=>none|some r14=>(match(aR none a r14)with|none=>none|some r15=>(match(cB 1)with|none=>none|some r16=>(some (eqF (.arr 4 (.int .u64)) r15 r16)))))|some p2=>(match(eG (some g0))with|none=>none|some r11=>(match(aR (some p2) a r11)with|none=>none|some r12=>(match(cB 1)with|none=>none|some r13=>(some (eqF (.arr 4 (.int .u64)) r12 r13)))))))else(some false)))|some p=>(match(d9 (some p) a)with|none=>none|some r1=>(bif r1 then(match(bP (some g0))with|none=>none|some r2=>(match r2 with|none=>(match(eG (some g0))with|none=>none|some r6=>(match(aR none a r6)with|none=>none|some r7=>(match(cB 1)with|none=>none|some r8=>(some (eqF (.arr 4 (.int .u64)) r7 r8)))))|some p1=>(match(eG (some g0))with|none=>none|some r3=>(match(aR (some p1) a r3)with|none=>none|some r4=>(match(cB 1)with|none=>none|some r5=>(some (eqF (.arr 4 (.int .u64)) r4 r5)))))))else(some false)))))else(some false))
def O1:=veil JC
theorem Ru:O1=JC:=aj _
end
end Go.Pl
