/-
  The functions, plainly.
-/
import Derived.Test.YtldlihheppdhnaaGreatDenI
set_option linter.unusedVariables false
set_option linter.unusedSimpArgs false
set_option maxRecDepth 100000
set_option maxHeartbeats 0
namespace Go.Pl
open Go.Den
abbrev Z00:Type:=(((aR (NI×(Int×(NI×NI))))×(aR (NI×(Int×(NI×NI)))))×NI)×(Int×(Int×(Int×(Int×(Unit×((List (ByteArray×((((Int×Int)×(ByteArray×((Nat×(Nat->(SlV NI)))×(Nat×(Nat->NI)))))×(ByteArray×((aR (Int×(Nat->(Nat->(Nat->((Int×Int)×ByteArray))))))×((aR (Int×(Nat->(Nat->(Nat->((Int×Int)×ByteArray))))))×(Nat->((Nat->(((Int×Int)×(ByteArray×((Nat×(Nat->(SlV NI)))×(Nat×(Nat->NI)))))×Int))×((((Int×Int)×(ByteArray×((Nat×(Nat->(SlV NI)))×(Nat×(Nat->NI)))))×Int)×(Int×Int))))))))×((Int×(Nat->(Nat->(Nat->((Int×Int)×ByteArray)))))×((Int×(Nat->(Nat->(Nat->((Int×Int)×ByteArray)))))×Unit)))))×(Nat×(Nat->(Int×(Int×(Int×(ByteArray×((Int×Int)×(ByteArray×((SlV (SlV NI))×(SlV NI))))))))))))))))
abbrev Z01:Type:=(Bool×Unit)×Unit
abbrev Z02:Type:=((aR (NI×(Int×(NI×NI))))×(aR (NI×(Int×(NI×NI)))))×NI
abbrev Z05:Type:=Int×Unit
abbrev Z06:Type:=NI×(NI×Unit)
abbrev Z07:Type:=Unit×Unit
abbrev Z08:Type:=Int×(Int×((SlV ByteArray)×(Option Nat)))
abbrev Z09:Type:=NI×(Int×(NI×NI))
abbrev Z0a:Type:=Nat×(Nat->(SlV NI))
abbrev Z0b:Type:=Bool×(NI×(NI×Int))
abbrev Z0c:Type:=Unit×(Unit×Z05)
abbrev Z0d:Type:=Nat×(Nat->NI)
abbrev Z0g:Type:=Int×(Int×Int)
abbrev Z0h:Type:=Nat×(Nat->ByteArray)
abbrev Z0i:Type:=Unit×Z07
abbrev Z0j:Type:=Nat->Bool
abbrev Z0k:Type:=((Z0a×((Nat×(Nat->(Int×(SlV NI))))×Z05))×Unit)
abbrev Z0o:Type:=Int×(Int×(Int×((Int×Int)×(Int×Int))))
abbrev Z0p:Type:=(Nat×(Nat->(NI×Int)))×NI
abbrev Z0q:Type:=Bool×Unit
abbrev Z0r:Type:=Unit×(Int×Z05)
abbrev Z0s:Type:=Int×(Int×Z05)
abbrev Z0u:Type:=ByteArray
abbrev Z0v:Type:=NI×(NI×Z06)
abbrev Z0w:Type:=Option Z02
abbrev Z0x:Type:=((Nat×NI)×Unit)×Unit
abbrev Z0y:Type:=(Int×(Int×(Z0h×(List (Int×Int)))))×(Z00×(Z0g×((Int×(Int×(Z0h×(List (Int×Int)))))×(Z00×Unit))))
abbrev Z0z:Type:=Option Z09
abbrev Z0C:Type:=Unit×(Unit×Z0c)
abbrev Z0D:Type:=Unit×Z05
abbrev Z0F:Type:=Nat×(Nat->(Nat->NI))
abbrev Z0G:Type:=List Nat
abbrev Z0H:Type:=Z05×Unit
abbrev Z0I:Type:=Int×(Int×(Int×(Int×(Int×Z0s))))
abbrev Z0J:Type:=(Unit×(Nat×NI))×Unit
abbrev Z0K:Type:=Int×(SlV NI)
end Go.Pl
namespace Go.Pl
end Go.Pl
open Go Go.Den Go.Pl
namespace Go.Pl
noncomputable section
open Go.IntKind (i64 u64 u32 u8)
def Gn(x:Int)(y:Int):Option (Int×Int):=let t:=(bL .u64 (u64.wrap ((av .and .u64 x 4294967295)*(av .and .u64 y 4294967295))) 32);let t1:=(av .and .u64 (u64.wrap ((u64.wrap ((bL .u64 x 32)*(av .and .u64 y 4294967295)))+t)) 4294967295);let t2:=(bL .u64 (u64.wrap ((u64.wrap ((bL .u64 x 32)*(av .and .u64 y 4294967295)))+t)) 32);let t3:=(bL .u64 (u64.wrap (t1+(u64.wrap ((av .and .u64 x 4294967295)*(bL .u64 y 32))))) 32);let t4:=(u64.wrap ((u64.wrap ((u64.wrap ((bL .u64 x 32)*(bL .u64 y 32)))+t2))+t3));some (t4,(u64.wrap (x*y)))
def bits_Mul64:=veil Gn
theorem JJ:bits_Mul64=Gn:=au _
def Gp(x:Int):Option (Int):=bif (decide (x>=4294967296))then(bif (decide ((bL .u64 x 32)>=65536))then(bif (decide ((bL .u64 (bL .u64 x 32) 16)>=256))then(bif (inb (u8.wrap (bL .u64 (bL .u64 (bL .u64 x 32) 16) 8)) 256)then(let t:=(((UInt8.toNat (List.getD (Array.toList (ByteArray.data (ByteArray.mk #[0,1,2,2,3,3,3,3,4,4,4,4,4,4,4,4,5,5,5,5,5,5,5,5,5,5,5,5,5,5,5,5,6,6,6,6,6,6,6,6,6,6,6,6,6,6,6,6,6,6,6,6,6,6,6,6,6,6,6,6,6,6,6,6,7,7,7,7,7,7,7,7,7,7,7,7,7,7,7,7,7,7,7,7,7,7,7,7,7,7,7,7,7,7,7,7,7,7,7,7,7,7,7,7,7,7,7,7,7,7,7,7,7,7,7,7,7,7,7,7,7,7,7,7,7,7,7,7,8,8,8,8,8,8,8,8,8,8,8,8,8,8,8,8,8,8,8,8,8,8,8,8,8,8,8,8,8,8,8,8,8,8,8,8,8,8,8,8,8,8,8,8,8,8,8,8,8,8,8,8,8,8,8,8,8,8,8,8,8,8,8,8,8,8,8,8,8,8,8,8,8,8,8,8,8,8,8,8,8,8,8,8,8,8,8,8,8,8,8,8,8,8,8,8,8,8,8,8,8,8,8,8,8,8,8,8,8,8,8,8,8,8,8,8,8,8,8,8,8,8,8,8,8,8,8,8]))) (Int.toNat (u8.wrap (bL .u64 (bL .u64 (bL .u64 x 32) 16) 8))) 0)):Nat):Int);some (i64.wrap (56+(i64.wrap t))))else(none))else(bif (inb (u8.wrap (bL .u64 (bL .u64 x 32) 16)) 256)then(let t1:=(((UInt8.toNat (List.getD (Array.toList (ByteArray.data (ByteArray.mk #[0,1,2,2,3,3,3,3,4,4,4,4,4,4,4,4,5,5,5,5,5,5,5,5,5,5,5,5,5,5,5,5,6,6,6,6,6,6,6,6,6,6,6,6,6,6,6,6,6,6,6,6,6,6,6,6,6,6,6,6,6,6,6,6,7,7,7,7,7,7,7,7,7,7,7,7,7,7,7,7,7,7,7,7,7,7,7,7,7,7,7,7,7,7,7,7,7,7,7,7,7,7,7,7,7,7,7,7,7,7,7,7,7,7,7,7,7,7,7,7,7,7,7,7,7,7,7,7,8,8,8,8,8,8,8,8,8,8,8,8,8,8,8,8,8,8,8,8,8,8,8,8,8,8,8,8,8,8,8,8,8,8,8,8,8,8,8,8,8,8,8,8,8,8,8,8,8,8,8,8,8,8,8,8,8,8,8,8,8,8,8,8,8,8,8,8,8,8,8,8,8,8,8,8,8,8,8,8,8,8,8,8,8,8,8,8,8,8,8,8,8,8,8,8,8,8,8,8,8,8,8,8,8,8,8,8,8,8,8,8,8,8,8,8,8,8,8,8,8,8,8,8,8,8,8,8]))) (Int.toNat (u8.wrap (bL .u64 (bL .u64 x 32) 16))) 0)):Nat):Int);some (i64.wrap (48+(i64.wrap t1))))else(none)))else(bif (decide ((bL .u64 x 32)>=256))then(bif (inb (u8.wrap (bL .u64 (bL .u64 x 32) 8)) 256)then(let t2:=(((UInt8.toNat (List.getD (Array.toList (ByteArray.data (ByteArray.mk #[0,1,2,2,3,3,3,3,4,4,4,4,4,4,4,4,5,5,5,5,5,5,5,5,5,5,5,5,5,5,5,5,6,6,6,6,6,6,6,6,6,6,6,6,6,6,6,6,6,6,6,6,6,6,6,6,6,6,6,6,6,6,6,6,7,7,7,7,7,7,7,7,7,7,7,7,7,7,7,7,7,7,7,7,7,7,7,7,7,7,7,7,7,7,7,7,7,7,7,7,7,7,7,7,7,7,7,7,7,7,7,7,7,7,7,7,7,7,7,7,7,7,7,7,7,7,7,7,8,8,8,8,8,8,8,8,8,8,8,8,8,8,8,8,8,8,8,8,8,8,8,8,8,8,8,8,8,8,8,8,8,8,8,8,8,8,8,8,8,8,8,8,8,8,8,8,8,8,8,8,8,8,8,8,8,8,8,8,8,8,8,8,8,8,8,8,8,8,8,8,8,8,8,8,8,8,8,8,8,8,8,8,8,8,8,8,8,8,8,8,8,8,8,8,8,8,8,8,8,8,8,8,8,8,8,8,8,8,8,8,8,8,8,8,8,8,8,8,8,8,8,8,8,8,8,8]))) (Int.toNat (u8.wrap (bL .u64 (bL .u64 x 32) 8))) 0)):Nat):Int);some (i64.wrap (40+(i64.wrap t2))))else(none))else(bif (inb (u8.wrap (bL .u64 x 32)) 256)then(let t3:=(i64.wrap (((UInt8.toNat (List.getD (Array.toList (ByteArray.data (ByteArray.mk #[0,1,2,2,3,3,3,3,4,4,4,4,4,4,4,4,5,5,5,5,5,5,5,5,5,5,5,5,5,5,5,5,6,6,6,6,6,6,6,6,6,6,6,6,6,6,6,6,6,6,6,6,6,6,6,6,6,6,6,6,6,6,6,6,7,7,7,7,7,7,7,7,7,7,7,7,7,7,7,7,7,7,7,7,7,7,7,7,7,7,7,7,7,7,7,7,7,7,7,7,7,7,7,7,7,7,7,7,7,7,7,7,7,7,7,7,7,7,7,7,7,7,7,7,7,7,7,7,8,8,8,8,8,8,8,8,8,8,8,8,8,8,8,8,8,8,8,8,8,8,8,8,8,8,8,8,8,8,8,8,8,8,8,8,8,8,8,8,8,8,8,8,8,8,8,8,8,8,8,8,8,8,8,8,8,8,8,8,8,8,8,8,8,8,8,8,8,8,8,8,8,8,8,8,8,8,8,8,8,8,8,8,8,8,8,8,8,8,8,8,8,8,8,8,8,8,8,8,8,8,8,8,8,8,8,8,8,8,8,8,8,8,8,8,8,8,8,8,8,8,8,8,8,8,8,8]))) (Int.toNat (u8.wrap (bL .u64 x 32))) 0)):Nat):Int));some (i64.wrap (32+t3)))else(none))))else(bif (decide (x>=65536))then(bif (decide ((bL .u64 x 16)>=256))then(bif (inb (u8.wrap (bL .u64 (bL .u64 x 16) 8)) 256)then(let t4:=(((UInt8.toNat (List.getD (Array.toList (ByteArray.data (ByteArray.mk #[0,1,2,2,3,3,3,3,4,4,4,4,4,4,4,4,5,5,5,5,5,5,5,5,5,5,5,5,5,5,5,5,6,6,6,6,6,6,6,6,6,6,6,6,6,6,6,6,6,6,6,6,6,6,6,6,6,6,6,6,6,6,6,6,7,7,7,7,7,7,7,7,7,7,7,7,7,7,7,7,7,7,7,7,7,7,7,7,7,7,7,7,7,7,7,7,7,7,7,7,7,7,7,7,7,7,7,7,7,7,7,7,7,7,7,7,7,7,7,7,7,7,7,7,7,7,7,7,8,8,8,8,8,8,8,8,8,8,8,8,8,8,8,8,8,8,8,8,8,8,8,8,8,8,8,8,8,8,8,8,8,8,8,8,8,8,8,8,8,8,8,8,8,8,8,8,8,8,8,8,8,8,8,8,8,8,8,8,8,8,8,8,8,8,8,8,8,8,8,8,8,8,8,8,8,8,8,8,8,8,8,8,8,8,8,8,8,8,8,8,8,8,8,8,8,8,8,8,8,8,8,8,8,8,8,8,8,8,8,8,8,8,8,8,8,8,8,8,8,8,8,8,8,8,8,8]))) (Int.toNat (u8.wrap (bL .u64 (bL .u64 x 16) 8))) 0)):Nat):Int);some (i64.wrap (24+(i64.wrap t4))))else(none))else(bif (inb (u8.wrap (bL .u64 x 16)) 256)then(let t5:=(i64.wrap (((UInt8.toNat (List.getD (Array.toList (ByteArray.data (ByteArray.mk #[0,1,2,2,3,3,3,3,4,4,4,4,4,4,4,4,5,5,5,5,5,5,5,5,5,5,5,5,5,5,5,5,6,6,6,6,6,6,6,6,6,6,6,6,6,6,6,6,6,6,6,6,6,6,6,6,6,6,6,6,6,6,6,6,7,7,7,7,7,7,7,7,7,7,7,7,7,7,7,7,7,7,7,7,7,7,7,7,7,7,7,7,7,7,7,7,7,7,7,7,7,7,7,7,7,7,7,7,7,7,7,7,7,7,7,7,7,7,7,7,7,7,7,7,7,7,7,7,8,8,8,8,8,8,8,8,8,8,8,8,8,8,8,8,8,8,8,8,8,8,8,8,8,8,8,8,8,8,8,8,8,8,8,8,8,8,8,8,8,8,8,8,8,8,8,8,8,8,8,8,8,8,8,8,8,8,8,8,8,8,8,8,8,8,8,8,8,8,8,8,8,8,8,8,8,8,8,8,8,8,8,8,8,8,8,8,8,8,8,8,8,8,8,8,8,8,8,8,8,8,8,8,8,8,8,8,8,8,8,8,8,8,8,8,8,8,8,8,8,8,8,8,8,8,8,8]))) (Int.toNat (u8.wrap (bL .u64 x 16))) 0)):Nat):Int));some (i64.wrap (16+t5)))else(none)))else(bif (decide (x>=256))then(bif (inb (u8.wrap (bL .u64 x 8)) 256)then(let t6:=(i64.wrap (((UInt8.toNat (List.getD (Array.toList (ByteArray.data (ByteArray.mk #[0,1,2,2,3,3,3,3,4,4,4,4,4,4,4,4,5,5,5,5,5,5,5,5,5,5,5,5,5,5,5,5,6,6,6,6,6,6,6,6,6,6,6,6,6,6,6,6,6,6,6,6,6,6,6,6,6,6,6,6,6,6,6,6,7,7,7,7,7,7,7,7,7,7,7,7,7,7,7,7,7,7,7,7,7,7,7,7,7,7,7,7,7,7,7,7,7,7,7,7,7,7,7,7,7,7,7,7,7,7,7,7,7,7,7,7,7,7,7,7,7,7,7,7,7,7,7,7,8,8,8,8,8,8,8,8,8,8,8,8,8,8,8,8,8,8,8,8,8,8,8,8,8,8,8,8,8,8,8,8,8,8,8,8,8,8,8,8,8,8,8,8,8,8,8,8,8,8,8,8,8,8,8,8,8,8,8,8,8,8,8,8,8,8,8,8,8,8,8,8,8,8,8,8,8,8,8,8,8,8,8,8,8,8,8,8,8,8,8,8,8,8,8,8,8,8,8,8,8,8,8,8,8,8,8,8,8,8,8,8,8,8,8,8,8,8,8,8,8,8,8,8,8,8,8,8]))) (Int.toNat (u8.wrap (bL .u64 x 8))) 0)):Nat):Int));some (i64.wrap (8+t6)))else(none))else(bif (inb (u8.wrap x) 256)then(let t7:=(i64.wrap (0+(i64.wrap (((UInt8.toNat (List.getD (Array.toList (ByteArray.data (ByteArray.mk #[0,1,2,2,3,3,3,3,4,4,4,4,4,4,4,4,5,5,5,5,5,5,5,5,5,5,5,5,5,5,5,5,6,6,6,6,6,6,6,6,6,6,6,6,6,6,6,6,6,6,6,6,6,6,6,6,6,6,6,6,6,6,6,6,7,7,7,7,7,7,7,7,7,7,7,7,7,7,7,7,7,7,7,7,7,7,7,7,7,7,7,7,7,7,7,7,7,7,7,7,7,7,7,7,7,7,7,7,7,7,7,7,7,7,7,7,7,7,7,7,7,7,7,7,7,7,7,7,8,8,8,8,8,8,8,8,8,8,8,8,8,8,8,8,8,8,8,8,8,8,8,8,8,8,8,8,8,8,8,8,8,8,8,8,8,8,8,8,8,8,8,8,8,8,8,8,8,8,8,8,8,8,8,8,8,8,8,8,8,8,8,8,8,8,8,8,8,8,8,8,8,8,8,8,8,8,8,8,8,8,8,8,8,8,8,8,8,8,8,8,8,8,8,8,8,8,8,8,8,8,8,8,8,8,8,8,8,8,8,8,8,8,8,8,8,8,8,8,8,8,8,8,8,8,8,8]))) (Int.toNat (u8.wrap x)) 0)):Nat):Int))));some t7)else(none))))
def bits_Len64:=veil Gp
theorem JK:bits_Len64=Gp:=au _
def nU(x:Int):Option (Int):=match(bits_Len64 x)with|none=>none|some r=>(some (i64.wrap (64-r)))
def bits_LeadingZeros64:=veil nU
theorem u6:bits_LeadingZeros64=nU:=au _
abbrev zX(y:Int)(s:Int)(yn1:Int)(yn0:Int)(un32:Int)(un1:Int)(un0:Int)(q1:Int)(rhat:Int):=((y,(s,(yn1,(yn0,(un32,(un1,(un0,(q1,(rhat,()))))))))),())
abbrev vR(y:Int)(s:Int)(yn1:Int)(yn0:Int)(un32:Int)(un1:Int)(un0:Int)(q1:Int):=((y,(s,(yn1,(yn0,(un32,(un1,(un0,(q1,())))))))),())
abbrev Gq:Type:=((Int×Z0I)×Unit)
def fB:Gq->Option (Gq⊕(Z0I×Unit)):=λx=>let y:=x.1.1;let s:=x.1.2.1;let yn1:=x.1.2.2.1;let yn0:=x.1.2.2.2.1;let un32:=x.1.2.2.2.2.1;let un1:=x.1.2.2.2.2.2.1;let un0:=x.1.2.2.2.2.2.2.1;let q1:=x.1.2.2.2.2.2.2.2.1;let rhat:=x.1.2.2.2.2.2.2.2.2.1;bif (decide (q1>=4294967296))then(bif (decide ((u64.wrap (rhat+yn1))>=4294967296))then(some (.inr ((y,(s,(yn1,(yn0,(un32,(un1,(un0,((u64.wrap (q1-1)),())))))))),())))else(some (.inl ((y,(s,(yn1,(yn0,(un32,(un1,(un0,((u64.wrap (q1-1)),((u64.wrap (rhat+yn1)),()))))))))),()))))else(bif (decide ((u64.wrap (q1*yn0))>(u64.wrap ((u64.wrap (4294967296*rhat))+un1))))then(bif (decide ((u64.wrap (rhat+yn1))>=4294967296))then(some (.inr ((y,(s,(yn1,(yn0,(un32,(un1,(un0,((u64.wrap (q1-1)),())))))))),())))else(some (.inl ((y,(s,(yn1,(yn0,(un32,(un1,(un0,((u64.wrap (q1-1)),((u64.wrap (rhat+yn1)),()))))))))),()))))else(some (.inr ((y,(s,(yn1,(yn0,(un32,(un1,(un0,(q1,())))))))),()))))
abbrev zY(y:Int)(s:Int)(yn1:Int)(yn0:Int)(un0:Int)(q1:Int)(rhat:Int)(un21:Int)(q0:Int):=((y,(s,(yn1,(yn0,(un0,(q1,(rhat,(un21,(q0,()))))))))),())
abbrev vS(y:Int)(s:Int)(un0:Int)(q1:Int)(un21:Int)(q0:Int):=((y,(s,(un0,(q1,(un21,(q0,())))))),())
abbrev Gr:Type:=((Int×Z0I)×Unit)
def fC:Gr->Option (Gr⊕((Int×(Int×(Int×Z0s)))×Unit)):=λx=>let y:=x.1.1;let s:=x.1.2.1;let yn1:=x.1.2.2.1;let yn0:=x.1.2.2.2.1;let un0:=x.1.2.2.2.2.1;let q1:=x.1.2.2.2.2.2.1;let rhat:=x.1.2.2.2.2.2.2.1;let un21:=x.1.2.2.2.2.2.2.2.1;let q0:=x.1.2.2.2.2.2.2.2.2.1;bif (decide (q0>=4294967296))then(bif (decide ((u64.wrap (rhat+yn1))>=4294967296))then(some (.inr ((y,(s,(un0,(q1,(un21,((u64.wrap (q0-1)),())))))),())))else(some (.inl ((y,(s,(yn1,(yn0,(un0,(q1,((u64.wrap (rhat+yn1)),(un21,((u64.wrap (q0-1)),()))))))))),()))))else(bif (decide ((u64.wrap (q0*yn0))>(u64.wrap ((u64.wrap (4294967296*rhat))+un0))))then(bif (decide ((u64.wrap (rhat+yn1))>=4294967296))then(some (.inr ((y,(s,(un0,(q1,(un21,((u64.wrap (q0-1)),())))))),())))else(some (.inl ((y,(s,(yn1,(yn0,(un0,(q1,((u64.wrap (rhat+yn1)),(un21,((u64.wrap (q0-1)),()))))))))),()))))else(some (.inr ((y,(s,(un0,(q1,(un21,(q0,())))))),()))))
def Gs(hi:Int)(lo:Int)(y:Int):Option (Int×Int):=bif (y==0)then(none)else(bif (decide (y<=hi))then(none)else(bif (hi==0)then(bif (decide (y=0))then(none)else(bif (decide (y=0))then(none)else(some ((u64.wrap (Int.tdiv lo y)),(Int.tmod lo y)))))else(match(bits_LeadingZeros64 y)with|none=>none|some r=>(bif (decide ((u64.wrap r)<0))then(none)else(bif (decide ((u64.wrap r)<0))then(none)else(bif (decide ((u64.wrap (64-(u64.wrap r)))<0))then(none)else(let t:=(av .or .u64 (iF .u64 hi (u64.wrap r)) (bL .u64 lo (u64.wrap (64-(u64.wrap r)))));bif (decide ((u64.wrap r)<0))then(none)else(bif (decide ((bL .u64 (iF .u64 y (u64.wrap r)) 32)=0))then(none)else(let t1:=(u64.wrap ((u64.wrap (Int.tdiv t (bL .u64 (iF .u64 y (u64.wrap r)) 32)))*(bL .u64 (iF .u64 y (u64.wrap r)) 32)));match(aD fB (((iF .u64 y (u64.wrap r)),((u64.wrap r),((bL .u64 (iF .u64 y (u64.wrap r)) 32),((av .and .u64 (iF .u64 y (u64.wrap r)) 4294967295),(t,((bL .u64 (iF .u64 lo (u64.wrap r)) 32),((av .and .u64 (iF .u64 lo (u64.wrap r)) 4294967295),((u64.wrap (Int.tdiv t (bL .u64 (iF .u64 y (u64.wrap r)) 32))),((u64.wrap (t-t1)),()))))))))),()))with|none=>none|some y1=>(let y2:=y1.1.1;let s:=y1.1.2.1;let yn1:=y1.1.2.2.1;let yn0:=y1.1.2.2.2.1;let un32:=y1.1.2.2.2.2.1;let un1:=y1.1.2.2.2.2.2.1;let un0:=y1.1.2.2.2.2.2.2.1;let q1:=y1.1.2.2.2.2.2.2.2.1;bif (decide (yn1=0))then(none)else(let t2:=(u64.wrap (Int.tdiv (u64.wrap ((u64.wrap ((u64.wrap (un32*4294967296))+un1))-(u64.wrap (q1*y2)))) yn1));let t3:=(u64.wrap ((u64.wrap ((u64.wrap ((u64.wrap (un32*4294967296))+un1))-(u64.wrap (q1*y2))))-(u64.wrap (t2*yn1))));match(aD fC ((y2,(s,(yn1,(yn0,(un0,(q1,(t3,((u64.wrap ((u64.wrap ((u64.wrap (un32*4294967296))+un1))-(u64.wrap (q1*y2)))),(t2,()))))))))),()))with|none=>none|some y3=>(let y4:=y3.1.1;let s1:=y3.1.2.1;let un01:=y3.1.2.2.1;let q11:=y3.1.2.2.2.1;let un21:=y3.1.2.2.2.2.1;let q0:=y3.1.2.2.2.2.2.1;bif (decide (s1<0))then(none)else(let t4:=(bL .u64 (u64.wrap ((u64.wrap ((u64.wrap (un21*4294967296))+un01))-(u64.wrap (q0*y4)))) s1);some ((u64.wrap ((u64.wrap (q11*4294967296))+q0)),t4))))))))))))))
def nW:=veil Gs
theorem JL:nW=Gs:=au _
def rM(x:Int)(k:Int):Option (Int):=bif (decide ((av .and .u64 (u64.wrap k) 31)<0))then(none)else(bif (decide ((u64.wrap (32-(av .and .u64 (u64.wrap k) 31)))<0))then(none)else(let t:=(av .or .u32 (iF .u32 x (av .and .u64 (u64.wrap k) 31)) (bL .u32 x (u64.wrap (32-(av .and .u64 (u64.wrap k) 31)))));some t))
def u7:=veil rM
theorem xP:u7=rM:=au _
open Go.IntKind (i64 u64 u32 u8)
def TK(a:NI)(k:Int):Option (Int):=bif (decide (k<0))then(some 0)else(bif (decide (k>=256))then(some 0)else(bif (inb (i64.wrap (Int.tdiv k 64)) 4)then(bif (decide ((Int.tmod k 64)<0))then(none)else(let t:=(av .and .u64 (bL .u64 (a (Int.toNat (i64.wrap (Int.tdiv k 64)))) (Int.tmod k 64)) 1);some (i64.wrap t)))else(none)))
def Bc:=veil TK
theorem TL:Bc=TK:=au _
abbrev a3g(limbs:Int)(by_:Int)(i:Int)(a:NI)(t:NI)(out:NI):=(((),((),((),(limbs,(by_,(i,())))))),(a,(t,(out,()))))
abbrev Z8(t:NI)(out:NI):=(((),((),())),(t,(out,())))
abbrev TM:Type:=((Unit×(Unit×(Unit×Z0s)))×(NI×Z06))
def nX:TM->Option (TM⊕(Z0i×Z06)):=λx=>let limbs:=x.1.2.2.2.1;let by_:=x.1.2.2.2.2.1;let i:=x.1.2.2.2.2.2.1;let a:=x.2.1;let t:=x.2.2.1;let out:=x.2.2.2.1;bif (decide (i<4))then(bif (inb (i64.wrap (i-limbs)) 4)then(bif (decide (by_<0))then(none)else(bif (inb i 4)then(bif (decide (i>limbs))then(bif (inb i 4)then(let t1:=((upd out (Int.toNat i) (iF .u64 (a (Int.toNat (i64.wrap (i-limbs)))) by_)) (Int.toNat i));bif (inb (i64.wrap ((i64.wrap (i-limbs))-1)) 4)then(bif (decide ((i64.wrap (64-by_))<0))then(none)else(let t2:=(bL .u64 (a (Int.toNat (i64.wrap ((i64.wrap (i-limbs))-1)))) (i64.wrap (64-by_)));bif (inb i 4)then(some (.inl (((),((),((),(limbs,(by_,((i64.wrap (i+1)),())))))),(a,(t,((upd (upd out (Int.toNat i) (iF .u64 (a (Int.toNat (i64.wrap (i-limbs)))) by_)) (Int.toNat i) (av .or .u64 t1 t2)),()))))))else(none)))else(none))else(none))else(some (.inl (((),((),((),(limbs,(by_,((i64.wrap (i+1)),())))))),(a,(t,((upd out (Int.toNat i) (iF .u64 (a (Int.toNat (i64.wrap (i-limbs)))) by_)),())))))))else(none)))else(none))else(some (.inr (((),((),())),(t,(out,())))))
def Z9(a:NI)(k:Int):Option (NI):=bif (decide (k<1))then(some a)else(bif (decide (k>=256))then(some (λ_=>0))else(match(aD nX (((),((),((),((i64.wrap (Int.tdiv k 64)),((Int.tmod k 64),((i64.wrap (Int.tdiv k 64)),())))))),(a,((λ_=>0),((λ_=>0),())))))with|none=>none|some y=>(let t:=y.2.1;let out:=y.2.2.1;some out)))
def TN:=veil Z9
theorem XU:TN=Z9:=au _
def TP(a:NI)(b:NI):Option (NI×Int):=match(EW (a 0) (b 0) 0)with|none=>none|some r=>(match(EW (a 1) (b 1) r.2)with|none=>none|some r1=>(match(EW (a 2) (b 2) r1.2)with|none=>none|some r2=>(match(EW (a 3) (b 3) r2.2)with|none=>none|some r3=>(some ((upd (upd (upd (upd (λ_=>0) 0 r.1) 1 r1.1) 2 r2.1) 3 r3.1),(i64.wrap r3.2))))))
def wX:=veil TP
theorem TQ:wX=TP:=au _
def TR(a:NI)(b:NI):Option (Int):=bif (decide ((a 3)<(b 3)))then(some (-1))else(bif (decide ((a 3)>(b 3)))then(some 1)else(bif (decide ((a 2)<(b 2)))then(some (-1))else(bif (decide ((a 2)>(b 2)))then(some 1)else(bif (decide ((a 1)<(b 1)))then(some (-1))else(bif (decide ((a 1)>(b 1)))then(some 1)else(bif (decide ((a 0)<(b 0)))then(some (-1))else(bif (decide ((a 0)>(b 0)))then(some 1)else(some 0))))))))
def zk:=veil TR
theorem TS:zk=TR:=au _
def Za(n:Int):Option (NI):=some (upd (λ_=>0) 0 (u64.wrap (if n<0 then 0 else n)))
def cZ:=veil Za
theorem XV:cZ=Za:=au _
def TT(a:NI)(b:NI):Option (NI×Int):=match(bU (a 0) (b 0) 0)with|none=>none|some r=>(match(bU (a 1) (b 1) r.2)with|none=>none|some r1=>(match(bU (a 2) (b 2) r1.2)with|none=>none|some r2=>(match(bU (a 3) (b 3) r2.2)with|none=>none|some r3=>(some ((upd (upd (upd (upd (λ_=>0) 0 r.1) 1 r1.1) 2 r2.1) 3 r3.1),(i64.wrap r3.2))))))
def Sl:=veil TT
theorem TU:Sl=TT:=au _
def TV(a:NI):Option (Int):=bif ((a 3) !=0)then(match(bits_Len64 (a 3))with|none=>none|some r=>(some (i64.wrap (192+r))))else(bif ((a 2) !=0)then(match(bits_Len64 (a 2))with|none=>none|some r1=>(some (i64.wrap (128+r1))))else(bif ((a 1) !=0)then(match(bits_Len64 (a 1))with|none=>none|some r2=>(some (i64.wrap (64+r2))))else(bif ((a 0) !=0)then(match(bits_Len64 (a 0))with|none=>none|some r3=>(some (i64.wrap (0+r3))))else(some 0))))
def zl:=veil TV
theorem TW:zl=TV:=au _
abbrev Zb(limbs:Int)(by_:Int)(t:Int)(t1:Int)(a:NI)(t2:NI)(out:NI):=(((),((),((),(limbs,(by_,(t,(t1,()))))))),(a,(t2,(out,()))))
abbrev TY(t:NI)(out:NI):=(((),((),())),(t,(out,())))
abbrev MJ:Type:=((Unit×(Unit×(Unit×(Int×Z0s))))×(NI×Z06))
def lN:MJ->Option (MJ⊕(Z0i×Z06)):=λx=>let limbs:=x.1.2.2.2.1;let by_:=x.1.2.2.2.2.1;let t:=x.1.2.2.2.2.2.1;let t1:=x.1.2.2.2.2.2.2.1;let a:=x.2.1;let t2:=x.2.2.1;let out:=x.2.2.2.1;bif (decide (t1<t))then(bif (inb (i64.wrap (t1+limbs)) 4)then(bif (decide (by_<0))then(none)else(bif (inb t1 4)then(bif (decide ((i64.wrap ((i64.wrap (t1+limbs))+1))<4))then(bif (inb t1 4)then(let t3:=((upd out (Int.toNat t1) (bL .u64 (a (Int.toNat (i64.wrap (t1+limbs)))) by_)) (Int.toNat t1));bif (inb (i64.wrap ((i64.wrap (t1+limbs))+1)) 4)then(bif (decide ((i64.wrap (64-by_))<0))then(none)else(let t4:=(iF .u64 (a (Int.toNat (i64.wrap ((i64.wrap (t1+limbs))+1)))) (i64.wrap (64-by_)));bif (inb t1 4)then(some (.inl (((),((),((),(limbs,(by_,(t,((i64.wrap (t1+1)),()))))))),(a,(t2,((upd (upd out (Int.toNat t1) (bL .u64 (a (Int.toNat (i64.wrap (t1+limbs)))) by_)) (Int.toNat t1) (av .or .u64 t3 t4)),()))))))else(none)))else(none))else(none))else(some (.inl (((),((),((),(limbs,(by_,(t,((i64.wrap (t1+1)),()))))))),(a,(t2,((upd out (Int.toNat t1) (bL .u64 (a (Int.toNat (i64.wrap (t1+limbs)))) by_)),())))))))else(none)))else(none))else(some (.inr (((),((),())),(t2,(out,())))))
def OI(a:NI)(k:Int):Option (NI):=bif (decide (k<1))then(some a)else(bif (decide (k>=256))then(some (λ_=>0))else(match(aD lN (((),((),((),((i64.wrap (Int.tdiv k 64)),((Int.tmod k 64),((i64.wrap (4-(i64.wrap (Int.tdiv k 64)))),(0,()))))))),(a,((λ_=>0),((λ_=>0),())))))with|none=>none|some y=>(let t:=y.2.1;let out:=y.2.2.1;some out)))
def Gt:=veil OI
theorem Qt:Gt=OI:=au _
def U0(a:NI):Option (Int×Bool):=bif (!(eqF (.arr 4 (.int .u64)) a (upd (λ_=>0) 0 (a 0))))then(some (0,false))else(bif (decide ((a 0)>9223372036854775807))then(some (0,false))else(some ((i64.wrap (a 0)),true)))
def MK:=veil U0
theorem U1:MK=U0:=au _
abbrev Ca(n:Int)(nout:Nat)(out:Nat->Int)(t:Int)(t1:Int)(a:NI):=(((),(n,((nout,out),(t,(t1,()))))),(a,()))
abbrev EY(nout:Nat)(out:Nat->Int):=(((nout,out),()),())
abbrev JM:Type:=((Unit×(Int×((Nat×NI)×(Int×Z05))))×(NI×Unit))
def mK:JM->Option (JM⊕Z0x):=λx=>let n:=x.1.2.1;let nout:=x.1.2.2.1.1;let out:=x.1.2.2.1.2;let t:=x.1.2.2.2.1;let t1:=x.1.2.2.2.2.1;let a:=x.2.1;bif (decide (t1<t))then(bif (inb (i64.wrap (Int.tdiv t1 8)) 4)then(bif (decide ((i64.wrap (8*(Int.tmod t1 8)))<0))then(none)else(let t2:=(bL .u64 (a (Int.toNat (i64.wrap (Int.tdiv t1 8)))) (i64.wrap (8*(Int.tmod t1 8))));bif (inb (i64.wrap ((i64.wrap (n-1))-t1)) nout)then(some (.inl (((),(n,((nout,(upd out (0+(Int.toNat (i64.wrap ((i64.wrap (n-1))-t1)))) (u8.wrap t2))),(t,((i64.wrap (t1+1)),()))))),(a,()))))else(none)))else(none))else(some (.inr (((nout,out),()),())))
def KZ(a:NI):Option Z0u:=match(zl a)with|none=>none|some r=>(bif ((((decide (0<=(i64.wrap (Int.tdiv (i64.wrap (r+7)) 8))))&&(decide ((i64.wrap (Int.tdiv (i64.wrap (r+7)) 8))<=(i64.wrap (Int.tdiv (i64.wrap (r+7)) 8)))))&&(decide ((((1:Nat):Int)*(i64.wrap (Int.tdiv (i64.wrap (r+7)) 8)))<=281474976710656)))&&(decide ((i64.wrap (Int.tdiv (i64.wrap (r+7)) 8))<=9223372036854775807)))then(match(aD mK (((),((i64.wrap (Int.tdiv (i64.wrap (r+7)) 8)),(((Int.toNat (i64.wrap (Int.tdiv (i64.wrap (r+7)) 8))),(λ_=>0)),((i64.wrap (Int.tdiv (i64.wrap (r+7)) 8)),(0,()))))),(a,())))with|none=>none|some y=>(let nout:=y.1.1.1;let out:=y.1.1.2;some (bytesOf nout (λj=>out (0+j)))))else(none))
def II:=veil KZ
theorem ML:II=KZ:=au _
open Go.IntKind (i64 u64 u32 u8)
def OJ(a:NI)(b:NI):Option (NI×NI):=match(bits_Mul64 (a 0) (b 0))with|none=>none|some r=>(match(bU r.2 0 0)with|none=>none|some r1=>(match(bU r1.1 0 0)with|none=>none|some r2=>(match(bits_Mul64 (a 0) (b 1))with|none=>none|some r3=>(match(bU r3.2 0 0)with|none=>none|some r4=>(match(bU r4.1 (u64.wrap ((u64.wrap (r.1+r1.2))+r2.2)) 0)with|none=>none|some r5=>(match(bits_Mul64 (a 0) (b 2))with|none=>none|some r6=>(match(bU r6.2 0 0)with|none=>none|some r7=>(match(bU r7.1 (u64.wrap ((u64.wrap (r3.1+r4.2))+r5.2)) 0)with|none=>none|some r8=>(match(bits_Mul64 (a 0) (b 3))with|none=>none|some r9=>(match(bU r9.2 0 0)with|none=>none|some r10=>(match(bU r10.1 (u64.wrap ((u64.wrap (r6.1+r7.2))+r8.2)) 0)with|none=>none|some r11=>(match(bits_Mul64 (a 1) (b 0))with|none=>none|some r12=>(match(bU r12.2 r5.1 0)with|none=>none|some r13=>(match(bU r13.1 0 0)with|none=>none|some r14=>(match(bits_Mul64 (a 1) (b 1))with|none=>none|some r15=>(match(bU r15.2 r8.1 0)with|none=>none|some r16=>(match(bU r16.1 (u64.wrap ((u64.wrap (r12.1+r13.2))+r14.2)) 0)with|none=>none|some r17=>(match(bits_Mul64 (a 1) (b 2))with|none=>none|some r18=>(match(bU r18.2 r11.1 0)with|none=>none|some r19=>(match(bU r19.1 (u64.wrap ((u64.wrap (r15.1+r16.2))+r17.2)) 0)with|none=>none|some r20=>(match(bits_Mul64 (a 1) (b 3))with|none=>none|some r21=>(match(bU r21.2 (u64.wrap ((u64.wrap (r9.1+r10.2))+r11.2)) 0)with|none=>none|some r22=>(match(bU r22.1 (u64.wrap ((u64.wrap (r18.1+r19.2))+r20.2)) 0)with|none=>none|some r23=>(match(bits_Mul64 (a 2) (b 0))with|none=>none|some r24=>(match(bU r24.2 r17.1 0)with|none=>none|some r25=>(match(bU r25.1 0 0)with|none=>none|some r26=>(match(bits_Mul64 (a 2) (b 1))with|none=>none|some r27=>(match(bU r27.2 r20.1 0)with|none=>none|some r28=>(match(bU r28.1 (u64.wrap ((u64.wrap (r24.1+r25.2))+r26.2)) 0)with|none=>none|some r29=>(match(bits_Mul64 (a 2) (b 2))with|none=>none|some r30=>(match(bU r30.2 r23.1 0)with|none=>none|some r31=>(match(bU r31.1 (u64.wrap ((u64.wrap (r27.1+r28.2))+r29.2)) 0)with|none=>none|some r32=>(match(bits_Mul64 (a 2) (b 3))with|none=>none|some r33=>(match(bU r33.2 (u64.wrap ((u64.wrap (r21.1+r22.2))+r23.2)) 0)with|none=>none|some r34=>(match(bU r34.1 (u64.wrap ((u64.wrap (r30.1+r31.2))+r32.2)) 0)with|none=>none|some r35=>(match(bits_Mul64 (a 3) (b 0))with|none=>none|some r36=>(match(bU r36.2 r29.1 0)with|none=>none|some r37=>(match(bU r37.1 0 0)with|none=>none|some r38=>(match(bits_Mul64 (a 3) (b 1))with|none=>none|some r39=>(match(bU r39.2 r32.1 0)with|none=>none|some r40=>(match(bU r40.1 (u64.wrap ((u64.wrap (r36.1+r37.2))+r38.2)) 0)with|none=>none|some r41=>(match(bits_Mul64 (a 3) (b 2))with|none=>none|some r42=>(match(bU r42.2 r35.1 0)with|none=>none|some r43=>(match(bU r43.1 (u64.wrap ((u64.wrap (r39.1+r40.2))+r41.2)) 0)with|none=>none|some r44=>(match(bits_Mul64 (a 3) (b 3))with|none=>none|some r45=>(match(bU r45.2 (u64.wrap ((u64.wrap (r33.1+r34.2))+r35.2)) 0)with|none=>none|some r46=>(match(bU r46.1 (u64.wrap ((u64.wrap (r42.1+r43.2))+r44.2)) 0)with|none=>none|some r47=>(some ((λj=>(upd (upd (upd (upd (upd (upd (upd (upd (upd (upd (upd (upd (upd (upd (upd (upd (upd (upd (upd (upd (λ_=>0) 0 r2.1) 1 r5.1) 2 r8.1) 3 r11.1) 4 (u64.wrap ((u64.wrap (r9.1+r10.2))+r11.2))) 1 r14.1) 2 r17.1) 3 r20.1) 4 r23.1) 5 (u64.wrap ((u64.wrap (r21.1+r22.2))+r23.2))) 2 r26.1) 3 r29.1) 4 r32.1) 5 r35.1) 6 (u64.wrap ((u64.wrap (r33.1+r34.2))+r35.2))) 3 r38.1) 4 r41.1) 5 r44.1) 6 r47.1) 7 (u64.wrap ((u64.wrap (r45.1+r46.2))+r47.2))) (0+j)),(λj=>(upd (upd (upd (upd (upd (upd (upd (upd (upd (upd (upd (upd (upd (upd (upd (upd (upd (upd (upd (upd (λ_=>0) 0 r2.1) 1 r5.1) 2 r8.1) 3 r11.1) 4 (u64.wrap ((u64.wrap (r9.1+r10.2))+r11.2))) 1 r14.1) 2 r17.1) 3 r20.1) 4 r23.1) 5 (u64.wrap ((u64.wrap (r21.1+r22.2))+r23.2))) 2 r26.1) 3 r29.1) 4 r32.1) 5 r35.1) 6 (u64.wrap ((u64.wrap (r33.1+r34.2))+r35.2))) 3 r38.1) 4 r41.1) 5 r44.1) 6 r47.1) 7 (u64.wrap ((u64.wrap (r45.1+r46.2))+r47.2))) (4+j)))))))))))))))))))))))))))))))))))))))))))))))))))
def CZ:=veil OJ
theorem Qu:CZ=OJ:=au _
def Gu(a:NI)(left_:Int)(m:Int):Option (NI×NI):=match(nW left_ (a 3) m)with|none=>none|some r=>(match(nW r.2 (a 2) m)with|none=>none|some r1=>(match(nW r1.2 (a 1) m)with|none=>none|some r2=>(match(nW r2.2 (a 0) m)with|none=>none|some r3=>(some ((upd (upd (upd (upd (λ_=>0) 3 r.1) 2 r1.1) 1 r2.1) 0 r3.1),(upd (λ_=>0) 0 r3.2))))))
def Ea:=veil Gu
theorem JN:Ea=Gu:=au _
abbrev Rw(t:Int)(a:NI)(left_:NI)(m:NI)(t1:NI)(t2:NI)(q:NI):=(((),((),((),((),((),((),(t,()))))))),(a,(left_,(m,(t1,(t2,(q,())))))))
abbrev MO(left_:NI)(t:NI)(t1:NI)(q:NI):=(((),((),((),((),())))),(left_,(t,(t1,(q,())))))
abbrev EZ:Type:=((Unit×(Unit×Z0C))×(NI×(NI×Z0v)))
def fQ:EZ->Option (EZ⊕((Unit×(Unit×Z0i))×Z0v)):=λx=>let t:=x.1.2.2.2.2.2.2.1;let a:=x.2.1;let left_:=x.2.2.1;let m:=x.2.2.2.1;let t1:=x.2.2.2.2.1;let t2:=x.2.2.2.2.2.1;let q:=x.2.2.2.2.2.2.1;bif (decide (t<256))then(match(Bc left_ 255)with|none=>none|some r=>(match(TN left_ 1)with|none=>none|some r1=>(match(Bc a (i64.wrap (255-t)))with|none=>none|some r2=>(bif (r==1)then(match(wX (upd r1 0 (av .or .u64 (r1 0) (u64.wrap r2))) m)with|none=>none|some r3=>(bif (inb (i64.wrap (Int.tdiv (i64.wrap (255-t)) 64)) 4)then(bif (decide ((Int.tmod (i64.wrap (255-t)) 64)<0))then(none)else(let t3:=(av .or .u64 (q (Int.toNat (i64.wrap (Int.tdiv (i64.wrap (255-t)) 64)))) (iF .u64 1 (Int.tmod (i64.wrap (255-t)) 64)));bif (inb (i64.wrap (Int.tdiv (i64.wrap (255-t)) 64)) 4)then(some (.inl (((),((),((),((),((),((),((i64.wrap (t+1)),()))))))),(a,(r3.1,(m,(t1,(t2,((upd q (Int.toNat (i64.wrap (Int.tdiv (i64.wrap (255-t)) 64))) t3),())))))))))else(none)))else(none)))else(match(zk (upd r1 0 (av .or .u64 (r1 0) (u64.wrap r2))) m)with|none=>none|some r4=>(bif (decide (r4>=0))then(match(wX (upd r1 0 (av .or .u64 (r1 0) (u64.wrap r2))) m)with|none=>none|some r5=>(bif (inb (i64.wrap (Int.tdiv (i64.wrap (255-t)) 64)) 4)then(bif (decide ((Int.tmod (i64.wrap (255-t)) 64)<0))then(none)else(let t4:=(av .or .u64 (q (Int.toNat (i64.wrap (Int.tdiv (i64.wrap (255-t)) 64)))) (iF .u64 1 (Int.tmod (i64.wrap (255-t)) 64)));bif (inb (i64.wrap (Int.tdiv (i64.wrap (255-t)) 64)) 4)then(some (.inl (((),((),((),((),((),((),((i64.wrap (t+1)),()))))))),(a,(r5.1,(m,(t1,(t2,((upd q (Int.toNat (i64.wrap (Int.tdiv (i64.wrap (255-t)) 64))) t4),())))))))))else(none)))else(none)))else(some (.inl (((),((),((),((),((),((),((i64.wrap (t+1)),()))))))),(a,((upd r1 0 (av .or .u64 (r1 0) (u64.wrap r2))),(m,(t1,(t2,(q,())))))))))))))))else(some (.inr (((),((),((),((),())))),(left_,(t1,(t2,(q,())))))))
def Eb(a:NI)(left_:NI)(m:NI):Option (NI×NI):=bif (eqF (.arr 4 (.int .u64)) m (upd (λ_=>0) 0 (m 0)))then(match(Ea a (left_ 0) (m 0))with|none=>none|some r=>(some (r.1,r.2)))else(match(aD fQ (((),((),((),((),((),((),(0,()))))))),(a,(left_,(m,((λ_=>0),((λ_=>0),((λ_=>0),()))))))))with|none=>none|some y=>(let left_1:=y.2.1;let t:=y.2.2.1;let t1:=y.2.2.2.1;let q:=y.2.2.2.2.1;some (q,left_1)))
def sN:=veil Eb
theorem Gw:sN=Eb:=au _
def OL(low:NI)(high:NI)(m:NI):Option (NI×Int):=bif (eqF (.arr 4 (.int .u64)) m (λ_=>0))then(some ((λ_=>0),1))else(match(sN high (λ_=>0) m)with|none=>none|some r=>(match(sN low r.2 m)with|none=>none|some r1=>(some (r1.2,0))))
def uf:=veil OL
theorem Qv:uf=OL:=au _
def OM(a:NI)(b:NI):Option (NI×NI×Int):=bif (eqF (.arr 4 (.int .u64)) b (λ_=>0))then(some ((λ_=>0),(λ_=>0),1))else(match(sN a (λ_=>0) b)with|none=>none|some r=>(some (r.1,r.2,0)))
def D5:=veil OM
theorem Qw:D5=OM:=au _
def Ec(a:NI)(b:NI)(m:NI):Option (NI×Int):=match(CZ a b)with|none=>none|some r=>(match(uf r.1 r.2 m)with|none=>none|some r1=>(some (r1.1,r1.2)))
def Bd:=veil Ec
theorem Gx:Bd=Ec:=au _
def Ed(a:NI)(b:NI)(m:NI):Option (NI×Int):=match(uf a (λ_=>0) m)with|none=>none|some r=>(bif (r.2 !=0)then(some ((λ_=>0),r.2))else(match(uf b (λ_=>0) m)with|none=>none|some r1=>(match(wX r.1 r1.1)with|none=>none|some r2=>(bif (r2.2==1)then(match(Sl r2.1 m)with|none=>none|some r3=>(some (r3.1,0)))else(some (r2.1,0))))))
def nY:=veil Ed
theorem Gy:nY=Ed:=au _
abbrev MP(a:NI)(b:NI)(t:NI):=(((),((),((),()))),(a,(b,(t,()))))
abbrev U2(a:NI)(t:NI):=(((),((),())),(a,(t,())))
abbrev MQ:Type:=((Unit×Z0i)×(NI×Z06))
def lQ:MQ->Option (MQ⊕(Z0i×Z06)):=λx=>let a:=x.2.1;let b:=x.2.2.1;let t:=x.2.2.2.1;bif (!(eqF (.arr 4 (.int .u64)) b (λ_=>0)))then(match(D5 a b)with|none=>none|some r=>(some (.inl (((),((),((),()))),(b,(r.2.1,(t,())))))))else(some (.inr (((),((),())),(a,(t,())))))
def OO(a:NI)(b:NI):Option (NI):=match(aD lQ (((),((),((),()))),(a,(b,((λ_=>0),())))))with|none=>none|some y=>(let a1:=y.2.1;let t:=y.2.2.1;some a1)
def zZ:=veil OO
theorem Qx:zZ=OO:=au _
open Go.IntKind (i64 u64 u32 u8)
def OP(m:NI):Option (Z0z×Int):=bif ((av .and .u64 (m 0) 1)==0)then(some (none,1))else(match(cZ 1)with|none=>none|some r=>(bif (eqF (.arr 4 (.int .u64)) m r)then(some (none,1))else(let t:=(u64.wrap ((m 0)*(u64.wrap (2-(u64.wrap ((m 0)*(m 0)))))));let t1:=(u64.wrap ((m 0)*(u64.wrap (t*(u64.wrap (2-(u64.wrap ((m 0)*t))))))));let t2:=(u64.wrap ((u64.wrap (t*(u64.wrap (2-(u64.wrap ((m 0)*t))))))*(u64.wrap (2-t1))));let t3:=(u64.wrap ((m 0)*(u64.wrap (t2*(u64.wrap (2-(u64.wrap ((m 0)*t2))))))));let t4:=(u64.wrap ((u64.wrap (t2*(u64.wrap (2-(u64.wrap ((m 0)*t2))))))*(u64.wrap (2-t3))));match(cZ 1)with|none=>none|some r1=>(match(uf (λ_=>0) r1 m)with|none=>none|some r2=>(match(Bd r2.1 r2.1 m)with|none=>none|some r3=>(some ((some (m,((u64.wrap (0-t4)),(r2.1,r3.1)))),0)))))))
def xQ:=veil OP
theorem Qy:xQ=OP:=au _
def pE(r:Z0z):Option (Bool):=match r with|none=>(some false)|some r0=>(some (r0.2.1 !=0))
def bX:=veil pE
theorem lS:bX=pE:=au _
def ug(r:Z0z)(a:NI):Option (NI):=match r with|none=>(none)|some r0=>(match(zk a r0.1)with|none=>none|some r1=>(bif (decide (r1<0))then(some a)else(match(uf a (λ_=>0) r0.1)with|none=>none|some r2=>(some r2.1))))
def qK:=veil ug
theorem D6:qK=ug:=au _
def L6(t:NI)(x:Int)(b:NI):Option (NI):=match(bits_Mul64 x (b 0))with|none=>none|some r=>(match(bU r.2 (t 0) 0)with|none=>none|some r1=>(match(bU r1.1 0 0)with|none=>none|some r2=>(match(bits_Mul64 x (b 1))with|none=>none|some r3=>(match(bU r3.2 (t 1) 0)with|none=>none|some r4=>(match(bU r4.1 (u64.wrap ((u64.wrap (r.1+r1.2))+r2.2)) 0)with|none=>none|some r5=>(match(bits_Mul64 x (b 2))with|none=>none|some r6=>(match(bU r6.2 (t 2) 0)with|none=>none|some r7=>(match(bU r7.1 (u64.wrap ((u64.wrap (r3.1+r4.2))+r5.2)) 0)with|none=>none|some r8=>(match(bits_Mul64 x (b 3))with|none=>none|some r9=>(match(bU r9.2 (t 3) 0)with|none=>none|some r10=>(match(bU r10.1 (u64.wrap ((u64.wrap (r6.1+r7.2))+r8.2)) 0)with|none=>none|some r11=>(match(bU (t 4) (u64.wrap ((u64.wrap (r9.1+r10.2))+r11.2)) 0)with|none=>none|some r12=>(some (upd (upd (upd (upd (upd (upd t 0 r2.1) 1 r5.1) 2 r8.1) 3 r11.1) 4 r12.1) 5 (u64.wrap ((t 5)+r12.2))))))))))))))))
def iH:=veil L6
theorem MR:iH=L6:=au _
def rE(r:Z0z)(a:NI)(b:NI):Option (NI):=match r with|none=>(match(iH (λ_=>0) (a 0) b)with|none=>none|some r12=>(none))|some r0=>(match(iH (λ_=>0) (a 0) b)with|none=>none|some r1=>(match(iH r1 (u64.wrap ((r1 0)*r0.2.1)) r0.1)with|none=>none|some r2=>(match(iH (upd (tO r2 0 5 (λj=>r2 (1+j))) 5 0) (a 1) b)with|none=>none|some r3=>(match(iH r3 (u64.wrap ((r3 0)*r0.2.1)) r0.1)with|none=>none|some r4=>(match(iH (upd (tO r4 0 5 (λj=>r4 (1+j))) 5 0) (a 2) b)with|none=>none|some r5=>(match(iH r5 (u64.wrap ((r5 0)*r0.2.1)) r0.1)with|none=>none|some r6=>(match(iH (upd (tO r6 0 5 (λj=>r6 (1+j))) 5 0) (a 3) b)with|none=>none|some r7=>(match(iH r7 (u64.wrap ((r7 0)*r0.2.1)) r0.1)with|none=>none|some r8=>(bif ((r8 5) !=0)then(match(wX (λj=>(upd (tO r8 0 5 (λj=>r8 (1+j))) 5 0) (0+j)) r0.1)with|none=>none|some r9=>(some r9.1))else(match(zk (λj=>(upd (tO r8 0 5 (λj=>r8 (1+j))) 5 0) (0+j)) r0.1)with|none=>none|some r10=>(bif (decide (r10>=0))then(match(wX (λj=>(upd (tO r8 0 5 (λj=>r8 (1+j))) 5 0) (0+j)) r0.1)with|none=>none|some r11=>(some r11.1))else(some (λj=>(upd (tO r8 0 5 (λj=>r8 (1+j))) 5 0) (0+j))))))))))))))
def d9:=veil rE
theorem Bf:d9=rE:=au _
def rF(r:Z0z)(a:NI):Option (NI):=match r with|none=>(match(bX none)with|none=>none|some r4=>(bif (!r4)then(some (λ_=>0))else(match(qK none a)with|none=>none|some r5=>(none))))|some r0=>(match(bX (some r0))with|none=>none|some r1=>(bif (!r1)then(some (λ_=>0))else(match(qK (some r0) a)with|none=>none|some r2=>(match(d9 (some r0) r2 r0.2.2.2)with|none=>none|some r3=>(some r3)))))
def nZ:=veil rF
theorem Bg:nZ=rF:=au _
abbrev Gz(r:Z09)(k:Int)(t:(Nat->NI))(out:(Nat->NI))(form:NI):=((r,((),((),((),(k,()))))),(t,(out,(form,()))))
abbrev Ee(t:(Nat->NI))(out:(Nat->NI)):=(((),((),())),(t,(out,())))
abbrev xR:Type:=((Z09×(Unit×Z0c))×((Nat->NI)×((Nat->NI)×(NI×Unit))))
def eU:xR->Option (xR⊕(Z0i×((Nat->NI)×((Nat->NI)×Unit)))):=λx=>let r:=x.1.1;let k:=x.1.2.2.2.2.1;let t:=x.2.1;let out:=x.2.2.1;let form:=x.2.2.2.1;bif (decide (k<16))then(bif (inb (i64.wrap (k-1)) 16)then(match(d9 (some r) (out (Int.toNat (i64.wrap (k-1)))) form)with|none=>none|some r1=>(bif (inb k 16)then(some (.inl ((r,((),((),((),((i64.wrap (k+1)),()))))),(t,((upd out (Int.toNat k) r1),(form,()))))))else(none)))else(none))else(some (.inr (((),((),())),(t,(out,())))))
def nI(r:Z0z)(a:NI):Option ((Nat->NI)):=match r with|none=>(match(nZ none a)with|none=>none|some r2=>(none))|some r0=>(match(nZ (some r0) a)with|none=>none|some r1=>(match(aD eU ((r0,((),((),((),(1,()))))),((λ_=>(λ_=>0)),((upd (λ_=>(λ_=>0)) 0 r0.2.2.1),(r1,())))))with|none=>none|some y=>(let t:=y.2.1;let out:=y.2.2.1;some out)))
def pF:=veil nI
theorem yO:pF=nI:=au _
def uh(e:NI)(at_:Int):Option (Int):=match(Gt e at_)with|none=>none|some r=>(match(TN r 252)with|none=>none|some r1=>(match(Gt r1 252)with|none=>none|some r2=>(match(MK r2)with|none=>none|some r3=>(some r3.1))))
def pG:=veil uh
theorem yP:pG=uh:=au _
abbrev L8(r:Z09)(nexps:Nat)(exps:Nat->NI)(ntables:Nat)(tables:Nat->(Nat->NI))(longest:Int)(nt:Nat)(t:Nat->NI)(t1:Int)(t2:Int)(t3:NI):=((r,((nexps,exps),((),((ntables,tables),(longest,((nt,t),(t1,(t2,())))))))),(t3,()))
abbrev GD(r:Z09)(nexps:Nat)(exps:Nat->NI)(ntables:Nat)(tables:Nat->(Nat->NI))(longest:Int)(t:NI):=((r,((nexps,exps),((),((ntables,tables),(longest,()))))),(t,()))
abbrev A8:Type:=((Z09×(Z0d×(Unit×(Z0F×(Int×(Z0d×(Int×Z05)))))))×(NI×Unit))
def gI:A8->Option (A8⊕((Z09×(Z0d×(Unit×(Z0F×Z05))))×(NI×Unit))):=λx=>let r:=x.1.1;let nexps:=x.1.2.1.1;let exps:=x.1.2.1.2;let ntables:=x.1.2.2.2.1.1;let tables:=x.1.2.2.2.1.2;let longest:=x.1.2.2.2.2.1;let nt:=x.1.2.2.2.2.2.1.1;let t:=x.1.2.2.2.2.2.1.2;let t1:=x.1.2.2.2.2.2.2.1;let t2:=x.1.2.2.2.2.2.2.2.1;let t3:=x.2.1;bif (decide (t2<t1))then(bif (inb t2 nt)then(match(pF (some r) (t (Int.toNat t2)))with|none=>none|some r1=>(bif ((Nat.ble ((ntables+1)*512) 140737488355328)&&(Nat.ble (ntables+1) 9223372036854775807))then(bif (inb t2 nexps)then(match(zl (exps (Int.toNat t2)))with|none=>none|some r2=>(some (.inl ((r,((nexps,exps),((),(((ntables+1),(glue ntables tables (λj=>(upd (λ_=>(λ_=>(λ_=>0))) 0 r1) (0+j)))),((if longest<r2 then r2 else longest),((nt,t),(t1,((i64.wrap (t2+1)),())))))))),(t3,())))))else(none))else(none)))else(none))else(some (.inr ((r,((nexps,exps),((),((ntables,tables),(longest,()))))),(t3,()))))
abbrev rO(r:Z09)(nexps:Nat)(exps:Nat->NI)(ntables:Nat)(tables:Nat->(Nat->NI))(at_:Int)(nt:Nat)(t:Nat->NI)(t1:Int)(t2:Int)(t3:NI)(out:NI):=((r,((nexps,exps),((),((ntables,tables),((),((),(at_,((nt,t),(t1,(t2,())))))))))),(t3,(out,())))
abbrev GH(r:Z09)(nexps:Nat)(exps:Nat->NI)(ntables:Nat)(tables:Nat->(Nat->NI))(at_:Int)(t:NI)(out:NI):=((r,((nexps,exps),((),((ntables,tables),((),((),(at_,()))))))),(t,(out,())))
abbrev A9:Type:=((Z09×(Z0d×(Unit×(Z0F×(Unit×(Unit×(Int×(Z0d×(Int×Z05)))))))))×Z06)
def gJ:A9->Option (A9⊕((Z09×(Z0d×(Unit×(Z0F×Z0c))))×Z06)):=λx=>let r:=x.1.1;let nexps:=x.1.2.1.1;let exps:=x.1.2.1.2;let ntables:=x.1.2.2.2.1.1;let tables:=x.1.2.2.2.1.2;let at_:=x.1.2.2.2.2.2.2.1;let nt:=x.1.2.2.2.2.2.2.2.1.1;let t:=x.1.2.2.2.2.2.2.2.1.2;let t1:=x.1.2.2.2.2.2.2.2.2.1;let t2:=x.1.2.2.2.2.2.2.2.2.2.1;let t3:=x.2.1;let out:=x.2.2.1;bif (decide (t2<t1))then(bif (inb t2 nt)then(match(pG (t (Int.toNat t2)) at_)with|none=>none|some r1=>(bif (inb t2 ntables)then(bif (inb r1 16)then(match(d9 (some r) out ((tables (0+(Int.toNat t2))) (Int.toNat r1)))with|none=>none|some r2=>(some (.inl ((r,((nexps,exps),((),((ntables,tables),((),((),(at_,((nt,t),(t1,((i64.wrap (t2+1)),())))))))))),(t3,(r2,()))))))else(none))else(none)))else(none))else(some (.inr ((r,((nexps,exps),((),((ntables,tables),((),((),(at_,()))))))),(t3,(out,())))))
abbrev L9(r:Z09)(nexps:Nat)(exps:Nat->NI)(ntables:Nat)(tables:Nat->(Nat->NI))(at_:Int)(t:NI)(out:NI):=((r,((nexps,exps),((),((ntables,tables),((),((),(at_,()))))))),(t,(out,())))
abbrev GJ(r:Z09)(t:NI)(out:NI):=((r,((),((),()))),(t,(out,())))
abbrev Aa:Type:=((Z09×(Z0d×(Unit×(Z0F×Z0c))))×Z06)
def eH:Aa->Option (Aa⊕((Z09×Z0i)×Z06)):=λx=>let r:=x.1.1;let nexps:=x.1.2.1.1;let exps:=x.1.2.1.2;let ntables:=x.1.2.2.2.1.1;let tables:=x.1.2.2.2.1.2;let at_:=x.1.2.2.2.2.2.2.1;let t:=x.2.1;let out:=x.2.2.1;bif (decide (at_>0))then(match(d9 (some r) out out)with|none=>none|some r1=>(match(d9 (some r) r1 r1)with|none=>none|some r2=>(match(d9 (some r) r2 r2)with|none=>none|some r3=>(match(d9 (some r) r3 r3)with|none=>none|some r4=>(match(aD gJ ((r,((nexps,exps),((),((ntables,tables),((),((),((i64.wrap (at_-4)),((nexps,exps),(((nexps:Nat):Int),(0,())))))))))),(t,(r4,()))))with|none=>none|some y=>(let r5:=y.1.1;let nexps1:=y.1.2.1.1;let exps1:=y.1.2.1.2;let ntables1:=y.1.2.2.2.1.1;let tables1:=y.1.2.2.2.1.2;let at_1:=y.1.2.2.2.2.2.2.1;let t1:=y.2.1;let out1:=y.2.2.1;some (.inl ((r5,((nexps1,exps1),((),((ntables1,tables1),((),((),(at_1,()))))))),(t1,(out1,()))))))))))else(some (.inr ((r,((),((),()))),(t,(out,())))))
def mE(r:Z0z)(nbases:Nat)(bases:Nat->NI)(nexps:Nat)(exps:Nat->NI):Option (NI×Int):=match r with|none=>(match(bX none)with|none=>none|some r6=>(bif (!r6)then(some ((λ_=>0),1))else(bif (((nbases:Nat):Int) !=((nexps:Nat):Int))then(some ((λ_=>0),1))else(bif (decide (((nbases:Nat):Int)>64))then(some ((λ_=>0),1))else(none)))))|some r0=>(match(bX (some r0))with|none=>none|some r1=>(bif (!r1)then(some ((λ_=>0),1))else(bif (((nbases:Nat):Int) !=((nexps:Nat):Int))then(some ((λ_=>0),1))else(bif (decide (((nbases:Nat):Int)>64))then(some ((λ_=>0),1))else(match(aD gI ((r0,((nexps,exps),((),((0,(λ_=>(λ_=>(λ_=>0)))),(0,((nbases,bases),(((nbases:Nat):Int),(0,())))))))),((λ_=>0),())))with|none=>none|some y=>(let r2:=y.1.1;let nexps1:=y.1.2.1.1;let exps1:=y.1.2.1.2;let ntables:=y.1.2.2.2.1.1;let tables:=y.1.2.2.2.1.2;let longest:=y.1.2.2.2.2.1;let t:=y.2.1;match(aD eH ((r2,((nexps1,exps1),((),((ntables,tables),((),((),((i64.wrap ((i64.wrap (Int.tdiv (i64.wrap ((i64.wrap (longest+4))-1)) 4))*4)),()))))))),(t,(r2.2.2.1,()))))with|none=>none|some y1=>(let r3:=y1.1.1;let t1:=y1.2.1;let out:=y1.2.2.1;match(cZ 1)with|none=>none|some r4=>(match(d9 (some r3) out r4)with|none=>none|some r5=>(some (r5,0))))))))))
def dY:=veil mE
theorem uj:dY=mE:=au _
def um(r:Z0z)(a:NI)(e:NI):Option (NI):=match r with|none=>(match(dY none 1 (λj=>(upd (λ_=>(λ_=>0)) 0 a) (0+j)) 1 (λj=>(upd (λ_=>(λ_=>0)) 0 e) (0+j)))with|none=>none|some r2=>(some r2.1))|some r0=>(match(dY (some r0) 1 (λj=>(upd (λ_=>(λ_=>0)) 0 a) (0+j)) 1 (λj=>(upd (λ_=>(λ_=>0)) 0 e) (0+j)))with|none=>none|some r1=>(some r1.1))
def aT:=veil um
theorem D7:aT=um:=au _
def uo(r:Z0z):Option (NI):=match r with|none=>(match(bX none)with|none=>none|some r2=>(bif (!r2)then(some (λ_=>0))else(none)))|some r0=>(match(bX (some r0))with|none=>none|some r1=>(bif (!r1)then(some (λ_=>0))else(some r0.1)))
def fT:=veil uo
theorem Ab:fT=uo:=au _
def wY(r:Z0z)(a:NI):Option (Bool):=match r with|none=>(match(bX none)with|none=>none|some r3=>(bif r3 then(none)else(some false)))|some r0=>(match(bX (some r0))with|none=>none|some r1=>(bif r1 then(match(zk a r0.1)with|none=>none|some r2=>(some (decide (r2<0))))else(some false)))
def dx:=veil wY
theorem F3:dx=wY:=au _
open Go.IntKind (i64 u64 u32 u8)
abbrev F4(n:Int)(is_:Bool)(t:Int)(t1:Int):=((n,(is_,(t,(t1,())))),())
abbrev Bh(is_:Bool):=((is_,()),())
abbrev F5:Type:=((Int×(Bool×(Int×Z05)))×Unit)
def dQ:F5->Option (F5⊕Z01):=λx=>let n:=x.1.1;let is_:=x.1.2.1;let t:=x.1.2.2.1;let t1:=x.1.2.2.2.1;bif (decide (t1<t))then(bif (decide (t1<2))then(some (.inl ((n,(is_,(t,((i64.wrap (t1+1)),())))),())))else(bif (decide ((i64.wrap (t1*t1))>n))then(some (.inr ((is_,()),())))else(bif (decide (t1=0))then(none)else(bif ((Int.tmod n t1)==0)then(some (.inr ((false,()),())))else(some (.inl ((n,(is_,(t,((i64.wrap (t1+1)),())))),())))))))else(some (.inr ((is_,()),())))
def Ef(n:Int):Option (Bool):=bif (decide (n<2))then(some false)else(bif (decide (n>=65536))then(some false)else(match(aD dQ ((n,(true,(n,(0,())))),()))with|none=>none|some y=>(let is_:=y.1.1;some is_)))
def Bj:=veil Ef
theorem GK:Bj=Ef:=au _
def GL(n:NI)(factor:NI)(witness:Int):Option (Bool):=match(xQ n)with|none=>none|some r=>(match r.1 with|none=>(bif (r.2 !=0)then(some false)else(bif (decide (witness<2))then(some false)else(bif (decide (witness>=65536))then(some false)else(bif (eqF (.arr 4 (.int .u64)) factor (λ_=>0))then(some false)else(match(cZ 1)with|none=>none|some r22=>(match(wX n r22)with|none=>none|some r23=>(match(D5 r23.1 factor)with|none=>none|some r24=>(match(CZ factor factor)with|none=>none|some r25=>(bif (!(eqF (.arr 4 (.int .u64)) r24.2.1 (λ_=>0)))then(some false)else(bif (eqF (.arr 4 (.int .u64)) r25.2 (λ_=>0))then(match(zk r25.1 n)with|none=>none|some r26=>(bif (decide (r26<=0))then(some false)else(match(cZ witness)with|none=>none|some r27=>(match(aT none r27 r24.1)with|none=>none|some r28=>(match(aT none r28 factor)with|none=>none|some r29=>(match(cZ 1)with|none=>none|some r30=>(bif (!(eqF (.arr 4 (.int .u64)) r29 r30))then(some false)else(match(cZ 1)with|none=>none|some r31=>(match(nY r28 r31 n)with|none=>none|some r32=>(match(zZ r32.1 n)with|none=>none|some r33=>(match(cZ 1)with|none=>none|some r34=>(some (eqF (.arr 4 (.int .u64)) r33 r34)))))))))))))else(match(cZ witness)with|none=>none|some r35=>(match(aT none r35 r24.1)with|none=>none|some r36=>(match(aT none r36 factor)with|none=>none|some r37=>(match(cZ 1)with|none=>none|some r38=>(bif (!(eqF (.arr 4 (.int .u64)) r37 r38))then(some false)else(match(cZ 1)with|none=>none|some r39=>(match(nY r36 r39 n)with|none=>none|some r40=>(match(zZ r40.1 n)with|none=>none|some r41=>(match(cZ 1)with|none=>none|some r42=>(some (eqF (.arr 4 (.int .u64)) r41 r42)))))))))))))))))))))|some p=>(bif (r.2 !=0)then(some false)else(bif (decide (witness<2))then(some false)else(bif (decide (witness>=65536))then(some false)else(bif (eqF (.arr 4 (.int .u64)) factor (λ_=>0))then(some false)else(match(cZ 1)with|none=>none|some r1=>(match(wX n r1)with|none=>none|some r2=>(match(D5 r2.1 factor)with|none=>none|some r3=>(match(CZ factor factor)with|none=>none|some r4=>(bif (!(eqF (.arr 4 (.int .u64)) r3.2.1 (λ_=>0)))then(some false)else(bif (eqF (.arr 4 (.int .u64)) r4.2 (λ_=>0))then(match(zk r4.1 n)with|none=>none|some r5=>(bif (decide (r5<=0))then(some false)else(match(cZ witness)with|none=>none|some r6=>(match(aT (some p) r6 r3.1)with|none=>none|some r7=>(match(aT (some p) r7 factor)with|none=>none|some r8=>(match(cZ 1)with|none=>none|some r9=>(bif (!(eqF (.arr 4 (.int .u64)) r8 r9))then(some false)else(match(cZ 1)with|none=>none|some r10=>(match(nY r7 r10 n)with|none=>none|some r11=>(match(zZ r11.1 n)with|none=>none|some r12=>(match(cZ 1)with|none=>none|some r13=>(some (eqF (.arr 4 (.int .u64)) r12 r13)))))))))))))else(match(cZ witness)with|none=>none|some r14=>(match(aT (some p) r14 r3.1)with|none=>none|some r15=>(match(aT (some p) r15 factor)with|none=>none|some r16=>(match(cZ 1)with|none=>none|some r17=>(bif (!(eqF (.arr 4 (.int .u64)) r16 r17))then(some false)else(match(cZ 1)with|none=>none|some r18=>(match(nY r15 r18 n)with|none=>none|some r19=>(match(zZ r19.1 n)with|none=>none|some r20=>(match(cZ 1)with|none=>none|some r21=>(some (eqF (.arr 4 (.int .u64)) r20 r21))))))))))))))))))))))
def Eh:=veil GL
theorem JO:Eh=GL:=au _
abbrev F6(nl:Nat)(l:Nat->(NI×Int))(k:Int):=(((nl,l),(k,())),())
abbrev yw:Type:=(Z0H⊕Z07)
abbrev Bl(t:Int):yw:=(.inl ((t,()),()))
abbrev Bn:yw:=(.inr ((),()))
abbrev F7:Type:=(((Nat×(Nat->(NI×Int)))×Z05)×Unit)
def fU:F7->Option (F7⊕yw):=λx=>let nl:=x.1.1.1;let l:=x.1.1.2;let k:=x.1.2.1;bif (decide (k<((nl:Nat):Int)))then(bif (inb k nl)then(bif (inb (i64.wrap (k-1)) nl)then(bif (inb k nl)then(match(Eh (l (Int.toNat k)).1 (l (Int.toNat (i64.wrap (k-1)))).1 (l (Int.toNat k)).2)with|none=>none|some r=>(bif (!r)then(some (.inr (.inl ((4,()),()))))else(some (.inl (((nl,l),((i64.wrap (k+1)),())),())))))else(none))else(none))else(none))else(some (.inr (.inr ((),()))))
def Ei(nl:Nat)(l:Nat->(NI×Int)):Option (Int):=bif (decide (((nl:Nat):Int)<1))then(some 4)else(bif (decide (((nl:Nat):Int)>8))then(some 4)else(bif (inb 0 nl)then(match(MK (l 0).1)with|none=>none|some r=>(bif (!r.2)then(some 4)else(match(Bj r.1)with|none=>none|some r1=>(bif (!r1)then(some 4)else(bif (inb 0 nl)then(bif ((l 0).2 !=0)then(some 4)else(match(aD fU (((nl,l),(1,())),()))with|none=>none|some y=>(match y with| .inl y1=>(let t:=y1.1.1;some t)| .inr y1=>(some 0))))else(none))))))else(none)))
def sO:=veil Ei
theorem GN:sO=Ei:=au _
open Go.IntKind (i64 u64 u32 u8)
def La(p:Z0p):Option (Z0w×Int):=bif (decide (((p.1.1:Nat):Int)<2))then(some (none,4))else(match(sO p.1.1 p.1.2)with|none=>none|some r=>(bif (r !=0)then(some (none,4))else(bif (inb (i64.wrap (((p.1.1:Nat):Int)-1)) p.1.1)then(match(xQ (p.1.2 (Int.toNat (i64.wrap (((p.1.1:Nat):Int)-1)))).1)with|none=>none|some r1=>(match r1.1 with|none=>(bif (r1.2 !=0)then(some (none,4))else(bif (inb (i64.wrap (((p.1.1:Nat):Int)-2)) p.1.1)then(match(xQ (p.1.2 (Int.toNat (i64.wrap (((p.1.1:Nat):Int)-2)))).1)with|none=>none|some r13=>(match r13.1 with|none=>(bif (r13.2 !=0)then(some (none,4))else(match(zl (p.1.2 (Int.toNat (i64.wrap (((p.1.1:Nat):Int)-2)))).1)with|none=>none|some r19=>(bif (decide (r19<10))then(some (none,4))else(bif (eqF (.arr 4 (.int .u64)) p.2 (λ_=>0))then(some (none,4))else(match(cZ 1)with|none=>none|some r20=>(bif (eqF (.arr 4 (.int .u64)) p.2 r20)then(some (none,4))else(match(dx none p.2)with|none=>none|some r21=>(bif (!r21)then(some (none,4))else(match(aT none p.2 (p.1.2 (Int.toNat (i64.wrap (((p.1.1:Nat):Int)-2)))).1)with|none=>none|some r22=>(match(cZ 1)with|none=>none|some r23=>(bif (!(eqF (.arr 4 (.int .u64)) r22 r23))then(some (none,4))else(some ((some ((.nil,.nil),p.2)),0)))))))))))))|some p3=>(bif (r13.2 !=0)then(some (none,4))else(match(zl (p.1.2 (Int.toNat (i64.wrap (((p.1.1:Nat):Int)-2)))).1)with|none=>none|some r14=>(bif (decide (r14<10))then(some (none,4))else(bif (eqF (.arr 4 (.int .u64)) p.2 (λ_=>0))then(some (none,4))else(match(cZ 1)with|none=>none|some r15=>(bif (eqF (.arr 4 (.int .u64)) p.2 r15)then(some (none,4))else(match(dx none p.2)with|none=>none|some r16=>(bif (!r16)then(some (none,4))else(match(aT none p.2 (p.1.2 (Int.toNat (i64.wrap (((p.1.1:Nat):Int)-2)))).1)with|none=>none|some r17=>(match(cZ 1)with|none=>none|some r18=>(bif (!(eqF (.arr 4 (.int .u64)) r17 r18))then(some (none,4))else(some ((some ((.nil,(.fz p3)),p.2)),0)))))))))))))))else(none)))|some p1=>(bif (r1.2 !=0)then(some (none,4))else(bif (inb (i64.wrap (((p.1.1:Nat):Int)-2)) p.1.1)then(match(xQ (p.1.2 (Int.toNat (i64.wrap (((p.1.1:Nat):Int)-2)))).1)with|none=>none|some r2=>(match r2.1 with|none=>(bif (r2.2 !=0)then(some (none,4))else(match(zl (p.1.2 (Int.toNat (i64.wrap (((p.1.1:Nat):Int)-2)))).1)with|none=>none|some r8=>(bif (decide (r8<10))then(some (none,4))else(bif (eqF (.arr 4 (.int .u64)) p.2 (λ_=>0))then(some (none,4))else(match(cZ 1)with|none=>none|some r9=>(bif (eqF (.arr 4 (.int .u64)) p.2 r9)then(some (none,4))else(match(dx (some p1) p.2)with|none=>none|some r10=>(bif (!r10)then(some (none,4))else(match(aT (some p1) p.2 (p.1.2 (Int.toNat (i64.wrap (((p.1.1:Nat):Int)-2)))).1)with|none=>none|some r11=>(match(cZ 1)with|none=>none|some r12=>(bif (!(eqF (.arr 4 (.int .u64)) r11 r12))then(some (none,4))else(some ((some (((.fz p1),.nil),p.2)),0)))))))))))))|some p2=>(bif (r2.2 !=0)then(some (none,4))else(match(zl (p.1.2 (Int.toNat (i64.wrap (((p.1.1:Nat):Int)-2)))).1)with|none=>none|some r3=>(bif (decide (r3<10))then(some (none,4))else(bif (eqF (.arr 4 (.int .u64)) p.2 (λ_=>0))then(some (none,4))else(match(cZ 1)with|none=>none|some r4=>(bif (eqF (.arr 4 (.int .u64)) p.2 r4)then(some (none,4))else(match(dx (some p1) p.2)with|none=>none|some r5=>(bif (!r5)then(some (none,4))else(match(aT (some p1) p.2 (p.1.2 (Int.toNat (i64.wrap (((p.1.1:Nat):Int)-2)))).1)with|none=>none|some r6=>(match(cZ 1)with|none=>none|some r7=>(bif (!(eqF (.arr 4 (.int .u64)) r6 r7))then(some (none,4))else(some ((some (((.fz p1),(.fz p2)),p.2)),0)))))))))))))))else(none)))))else(none))))
def pI:=veil La
theorem MU:pI=La:=au _
def jE(g:Z0w):Option (Z0z):=match g with|none=>(some none)|some g0=>(bif (aR.vQ g0.1.1)then(none)else(bif (aR.isNil g0.1.1)then(some none)else(some (some (aR.val (((λ_=>0),(0,((λ_=>0),(λ_=>0)))):Z09) g0.1.1)))))
def bH:=veil jE
theorem qj:bH=jE:=au _
def Ac(g:Z0w):Option (NI):=match g with|none=>(some (λ_=>0))|some g0=>(some g0.2)
def qL:=veil Ac
theorem D8:qL=Ac:=au _
def je(g:Z0w):Option (Z0z):=match g with|none=>(some none)|some g0=>(bif (aR.vQ g0.1.2)then(none)else(bif (aR.isNil g0.1.2)then(some none)else(some (some (aR.val (((λ_=>0),(0,((λ_=>0),(λ_=>0)))):Z09) g0.1.2)))))
def bZ:=veil je
theorem jF:bZ=je:=au _
def og(g:Z0w):Option (NI):=match g with|none=>(match(bZ none)with|none=>none|some r3=>(match r3 with|none=>(match(fT none)with|none=>none|some r5=>(some r5))|some p1=>(match(fT (some p1))with|none=>none|some r4=>(some r4))))|some g0=>(match(bZ (some g0))with|none=>none|some r=>(match r with|none=>(match(fT none)with|none=>none|some r2=>(some r2))|some p=>(match(fT (some p))with|none=>none|some r1=>(some r1))))
def dR:=veil og
theorem vU:dR=og:=au _
def Ad(g:Z0w):Option (NI):=match g with|none=>(match(bH none)with|none=>none|some r3=>(match r3 with|none=>(match(fT none)with|none=>none|some r5=>(some r5))|some p1=>(match(fT (some p1))with|none=>none|some r4=>(some r4))))|some g0=>(match(bH (some g0))with|none=>none|some r=>(match r with|none=>(match(fT none)with|none=>none|some r2=>(some r2))|some p=>(match(fT (some p))with|none=>none|some r1=>(some r1))))
def JQ:=veil Ad
theorem OQ:JQ=Ad:=au _
open Go.IntKind (i64 u64 u32 u8)
abbrev a0V(k:Int)(b:Z0j)(t:NI)(out:NI):=(((),((),((),(k,())))),(b,(t,(out,()))))
abbrev WZ(t:NI)(out:NI):=(((),((),())),(t,(out,())))
abbrev Qz:Type:=((Unit×Z0c)×(Z0j×Z06))
def oh:Qz->Option (Qz⊕(Z0i×Z06)):=λx=>let k:=x.1.2.2.2.1;let b:=x.2.1;let t:=x.2.2.1;let out:=x.2.2.2.1;bif (decide (k<256))then(bif (inb k 256)then(bif (b (Int.toNat k))then(bif (inb (i64.wrap (Int.tdiv k 64)) 4)then(bif (decide ((Int.tmod k 64)<0))then(none)else(let t1:=(av .or .u64 (out (Int.toNat (i64.wrap (Int.tdiv k 64)))) (iF .u64 1 (Int.tmod k 64)));bif (inb (i64.wrap (Int.tdiv k 64)) 4)then(some (.inl (((),((),((),((i64.wrap (k+1)),())))),(b,(t,((upd out (Int.toNat (i64.wrap (Int.tdiv k 64))) t1),()))))))else(none)))else(none))else(some (.inl (((),((),((),((i64.wrap (k+1)),())))),(b,(t,(out,())))))))else(none))else(some (.inr (((),((),())),(t,(out,())))))
def U3(b:Z0j):Option (NI):=match(aD oh (((),((),((),(0,())))),(b,((λ_=>0),((λ_=>0),())))))with|none=>none|some y=>(let t:=y.2.1;let out:=y.2.2.1;some out)
def Sm:=veil U3
theorem U4:Sm=U3:=au _
abbrev a0W(n:Int)(k:Int)(t:NI)(b:Z0j):=((n,((),((),(k,())))),(t,(b,())))
abbrev JR(t:NI)(b:Z0j):=(((),((),())),(t,(b,())))
abbrev QA:Type:=((Int×Z0c)×(NI×(Z0j×Unit)))
def om:QA->Option (QA⊕(Z0i×(NI×(Z0j×Unit)))):=λx=>let n:=x.1.1;let k:=x.1.2.2.2.1;let t:=x.2.1;let b:=x.2.2.1;bif (decide (k<63))then(bif (decide (n>0))then(bif (decide (k<0))then(none)else(bif (inb k 256)then(some (.inl ((n,((),((),((i64.wrap (k+1)),())))),(t,((upd b (Int.toNat k) ((av .and .i64 (bL .i64 n k) 1)==1)),())))))else(none)))else(some (.inr (((),((),())),(t,(b,()))))))else(some (.inr (((),((),())),(t,(b,())))))
def U5(n:Int):Option (NI):=match(aD om ((n,((),((),(0,())))),((λ_=>0),((λ_=>false),()))))with|none=>none|some y=>(let t:=y.2.1;let b:=y.2.2.1;match(Sm b)with|none=>none|some r=>(some r))
def aV:=veil U5
theorem U6:aV=U5:=au _
abbrev a3h(k:Int)(a:NI)(t:Z0j)(out:Z0j):=(((),((),((),(k,())))),(a,(t,(out,()))))
abbrev Zc(t:Z0j)(out:Z0j):=(((),((),())),(t,(out,())))
abbrev U7:Type:=((Unit×Z0c)×(NI×(Z0j×(Z0j×Unit))))
def vV:U7->Option (U7⊕(Z0i×(Z0j×(Z0j×Unit)))):=λx=>let k:=x.1.2.2.2.1;let a:=x.2.1;let t:=x.2.2.1;let out:=x.2.2.2.1;bif (decide (k<256))then(bif (inb (i64.wrap (Int.tdiv k 64)) 4)then(bif (decide ((Int.tmod k 64)<0))then(none)else(let t1:=(av .and .u64 (bL .u64 (a (Int.toNat (i64.wrap (Int.tdiv k 64)))) (Int.tmod k 64)) 1);bif (inb k 256)then(some (.inl (((),((),((),((i64.wrap (k+1)),())))),(a,(t,((upd out (Int.toNat k) (t1==1)),()))))))else(none)))else(none))else(some (.inr (((),((),())),(t,(out,())))))
def Zd(a:NI):Option (Z0j):=match(aD vV (((),((),((),(0,())))),(a,((λ_=>false),((λ_=>false),())))))with|none=>none|some y=>(let t:=y.2.1;let out:=y.2.2.1;some out)
def GQ:=veil Zd
theorem XW:GQ=Zd:=au _
abbrev a0X(k:Int)(x1:Z0j)(y:Z0j):=(((),((),(k,()))),(x1,(y,())))
abbrev GU:Type:=(Z0H⊕Z07)
abbrev X0(t:Int):GU:=(.inl ((t,()),()))
abbrev X3:GU:=(.inr ((),()))
abbrev QB:Type:=(Z0c×(Z0j×(Z0j×Unit)))
def jG:QB->Option (QB⊕GU):=λx=>let k:=x.1.2.2.1;let x1:=x.2.1;let y:=x.2.2.1;bif (decide (k>=0))then(bif (inb k 256)then(bif (inb k 256)then(bif (!((x1 (Int.toNat k))==(y (Int.toNat k))))then(bif (inb k 256)then(bif (x1 (Int.toNat k))then(some (.inr (.inl ((1,()),()))))else(some (.inr (.inl (((-1),()),())))))else(none))else(some (.inl (((),((),((i64.wrap (k-1)),()))),(x1,(y,()))))))else(none))else(none))else(some (.inr (.inr ((),()))))
def U8(a:NI)(b:NI):Option (Int):=match(GQ a)with|none=>none|some r=>(match(GQ b)with|none=>none|some r1=>(match(aD jG (((),((),(255,()))),(r,(r1,()))))with|none=>none|some y=>(match y with| .inl y1=>(let t:=y1.1.1;some t)| .inr y1=>(some 0))))
def Sn:=veil U8
theorem U9:Sn=U8:=au _
abbrev a0Y(k:Int)(b:Z0j):=(((),(k,())),(b,()))
abbrev GV:Type:=(Z0H⊕Z07)
abbrev X4(t:Int):GV:=(.inl ((t,()),()))
abbrev X5:GV:=(.inr ((),()))
abbrev QC:Type:=(Z0D×(Z0j×Unit))
def oq:QC->Option (QC⊕GV):=λx=>let k:=x.1.2.1;let b:=x.2.1;bif (decide (k>=0))then(bif (inb k 256)then(bif (b (Int.toNat k))then(some (.inr (.inl (((i64.wrap (k+1)),()),()))))else(some (.inl (((),((i64.wrap (k-1)),())),(b,())))))else(none))else(some (.inr (.inr ((),()))))
def Ua(a:NI):Option (Int):=match(GQ a)with|none=>none|some r=>(match(aD oq (((),(255,())),(r,())))with|none=>none|some y=>(match y with| .inl y1=>(let t:=y1.1.1;some t)| .inr y1=>(some 0)))
def IJ:=veil Ua
theorem Ub:IJ=Ua:=au _
abbrev a0Z(n:Int)(k:Int)(b:Z0j):=((n,((),(k,()))),(b,()))
abbrev X6(n:Int):=((n,()),())
abbrev QD:Type:=((Int×Z0D)×(Z0j×Unit))
def ow:QD->Option (QD⊕Z0H):=λx=>let n:=x.1.1;let k:=x.1.2.2.1;let b:=x.2.1;bif (decide (k<63))then(bif (inb k 256)then(bif (b (Int.toNat k))then(bif (decide (k<0))then(none)else(some (.inl (((av .or .i64 n (iF .i64 1 k)),((),((i64.wrap (k+1)),()))),(b,())))))else(some (.inl ((n,((),((i64.wrap (k+1)),()))),(b,())))))else(none))else(some (.inr ((n,()),())))
def Uc(a:NI):Option (Int×Bool):=match(IJ a)with|none=>none|some r=>(bif (decide (r>63))then(some (0,false))else(match(GQ a)with|none=>none|some r1=>(match(aD ow ((0,((),(0,()))),(r1,())))with|none=>none|some y=>(let n:=y.1.1;some (n,true)))))
def Ej:=veil Uc
theorem Ud:Ej=Uc:=au _
def Ue(a:NI)(k:Int):Option (Int):=match(GQ a)with|none=>none|some r=>(bif (decide (k>=0))then(bif (decide (k<256))then(bif (inb k 256)then(bif (r (Int.toNat k))then(some 1)else(some 0))else(none))else(some 0))else(some 0))
def MV:=veil Ue
theorem Uf:MV=Ue:=au _
abbrev Cb(nout:Nat)(out:Nat->Int)(i:Int)(x1:Int)(k:Int)(a:NI):=(((),((nout,out),(i,(x1,(k,()))))),(a,()))
abbrev F8(nout:Nat)(out:Nat->Int)(i:Int)(x1:Int)(a:NI):=(((),((nout,out),(i,(x1,())))),(a,()))
abbrev JU:Type:=((Unit×((Nat×NI)×Z0s))×(NI×Unit))
def mM:JU->Option (JU⊕((Unit×((Nat×NI)×(Int×Z05)))×(NI×Unit))):=λx=>let nout:=x.1.2.1.1;let out:=x.1.2.1.2;let i:=x.1.2.2.1;let x1:=x.1.2.2.2.1;let k:=x.1.2.2.2.2.1;let a:=x.2.1;bif (decide (k<8))then(match(MV a (i64.wrap ((i64.wrap (8*i))+k)))with|none=>none|some r=>(bif (decide (k<0))then(none)else(some (.inl (((),((nout,out),(i,((av .or .i64 x1 (iF .i64 r k)),((i64.wrap (k+1)),()))))),(a,()))))))else(some (.inr (((),((nout,out),(i,(x1,())))),(a,()))))
abbrev Cc(nout:Nat)(out:Nat->Int)(i:Int)(a:NI):=(((),((nout,out),(i,()))),(a,()))
abbrev yx(nout:Nat)(out:Nat->Int):=(((nout,out),()),())
abbrev JV:Type:=((Unit×((Nat×NI)×Z05))×(NI×Unit))
def jQ:JV->Option (JV⊕Z0x):=λx=>let nout:=x.1.2.1.1;let out:=x.1.2.1.2;let i:=x.1.2.2.1;let a:=x.2.1;bif (decide (i>=0))then(match(aD mM (((),((nout,out),(i,(0,(0,()))))),(a,())))with|none=>none|some y=>(let nout1:=y.1.2.1.1;let out1:=y.1.2.1.2;let i1:=y.1.2.2.1;let x1:=y.1.2.2.2.1;let a1:=y.2.1;bif ((Nat.ble ((nout1+1)*1) 140737488355328)&&(Nat.ble (nout1+1) 9223372036854775807))then(some (.inl (((),(((nout1+1),(glue nout1 out1 (λj=>(upd (λ_=>0) 0 (u8.wrap (av .and .i64 x1 255))) (0+j)))),((i64.wrap (i1-1)),()))),(a1,()))))else(none)))else(some (.inr (((nout,out),()),())))
def Lb(a:NI):Option Z0u:=match(IJ a)with|none=>none|some r=>(match(aD jQ (((),((0,(λ_=>0)),((i64.wrap ((i64.wrap (Int.tdiv (i64.wrap (r+7)) 8))-1)),()))),(a,())))with|none=>none|some y=>(let nout:=y.1.1.1;let out:=y.1.1.2;some (bytesOf nout (λj=>out (0+j)))))
def IK:=veil Lb
theorem MW:IK=Lb:=au _
open Go.IntKind (i64 u64 u32 u8)
abbrev a3i(k:Int)(low:NI)(high:NI)(t:NI)(out:NI):=(((),((),((),((),(k,()))))),(low,(high,(t,(out,())))))
abbrev Ze(t:NI)(out:NI):=(((),((),())),(t,(out,())))
abbrev Ug:Type:=(Z0C×Z0v)
def vW:Ug->Option (Ug⊕(Z0i×Z06)):=λx=>let k:=x.1.2.2.2.2.1;let low:=x.2.1;let high:=x.2.2.1;let t:=x.2.2.2.1;let out:=x.2.2.2.2.1;bif (decide (k<16))then(bif (inb (i64.wrap (Int.tdiv k 4)) 4)then(bif (decide ((i64.wrap (16*(Int.tmod k 4)))<0))then(none)else(let t1:=(bL .u64 (low (Int.toNat (i64.wrap (Int.tdiv k 4)))) (i64.wrap (16*(Int.tmod k 4))));bif (inb k 32)then(bif (inb (i64.wrap (Int.tdiv k 4)) 4)then(bif (decide ((i64.wrap (16*(Int.tmod k 4)))<0))then(none)else(let t2:=(bL .u64 (high (Int.toNat (i64.wrap (Int.tdiv k 4)))) (i64.wrap (16*(Int.tmod k 4))));bif (inb (i64.wrap (16+k)) 32)then(some (.inl (((),((),((),((),((i64.wrap (k+1)),()))))),(low,(high,(t,((upd (upd out (Int.toNat k) (i64.wrap (av .and .u64 t1 65535))) (Int.toNat (i64.wrap (16+k))) (i64.wrap (av .and .u64 t2 65535))),())))))))else(none)))else(none))else(none)))else(none))else(some (.inr (((),((),())),(t,(out,())))))
def Zf(low:NI)(high:NI):Option (NI):=match(aD vW (((),((),((),((),(0,()))))),(low,(high,((λ_=>0),((λ_=>0),()))))))with|none=>none|some y=>(let t:=y.2.1;let out:=y.2.2.1;some out)
def Uh:=veil Zf
theorem XY:Uh=Zf:=au _
abbrev Zg(k:Int)(d:NI)(t:NI)(t1:NI)(low:NI)(high:NI):=(((),((),((),((),((),(k,())))))),(d,(t,(t1,(low,(high,()))))))
abbrev Ui(t:NI)(t1:NI)(low:NI)(high:NI):=(((),((),((),((),())))),(t,(t1,(low,(high,())))))
abbrev MX:Type:=((Unit×Z0C)×(NI×Z0v))
def pJ:MX->Option (MX⊕((Unit×(Unit×Z0i))×Z0v)):=λx=>let k:=x.1.2.2.2.2.2.1;let d:=x.2.1;let t:=x.2.2.1;let t1:=x.2.2.2.1;let low:=x.2.2.2.2.1;let high:=x.2.2.2.2.2.1;bif (decide (k<16))then(bif (inb (i64.wrap (Int.tdiv k 4)) 4)then(bif (inb k 32)then(bif (decide ((i64.wrap (16*(Int.tmod k 4)))<0))then(none)else(let t2:=(av .or .u64 (low (Int.toNat (i64.wrap (Int.tdiv k 4)))) (iF .u64 (u64.wrap (d (Int.toNat k))) (i64.wrap (16*(Int.tmod k 4)))));bif (inb (i64.wrap (Int.tdiv k 4)) 4)then(bif (inb (i64.wrap (Int.tdiv k 4)) 4)then(bif (inb (i64.wrap (16+k)) 32)then(bif (decide ((i64.wrap (16*(Int.tmod k 4)))<0))then(none)else(let t3:=(iF .u64 (u64.wrap (d (Int.toNat (i64.wrap (16+k))))) (i64.wrap (16*(Int.tmod k 4))));bif (inb (i64.wrap (Int.tdiv k 4)) 4)then(some (.inl (((),((),((),((),((),((i64.wrap (k+1)),())))))),(d,(t,(t1,((upd low (Int.toNat (i64.wrap (Int.tdiv k 4))) t2),((upd high (Int.toNat (i64.wrap (Int.tdiv k 4))) (av .or .u64 (high (Int.toNat (i64.wrap (Int.tdiv k 4)))) t3)),()))))))))else(none)))else(none))else(none))else(none)))else(none))else(none))else(some (.inr (((),((),((),((),())))),(t,(t1,(low,(high,())))))))
def OT(d:NI):Option (NI×NI):=match(aD pJ (((),((),((),((),((),(0,())))))),(d,((λ_=>0),((λ_=>0),((λ_=>0),((λ_=>0),())))))))with|none=>none|some y=>(let t:=y.2.1;let t1:=y.2.2.1;let low:=y.2.2.2.1;let high:=y.2.2.2.2.1;some (low,high))
def MZ:=veil OT
theorem QE:MZ=OT:=au _
abbrev X7(carry:Int)(k:Int)(a:NI)(t:NI)(out:NI):=(((),((),((),(carry,(k,()))))),(a,(t,(out,()))))
abbrev Rx(t:NI)(out:NI):=(((),((),())),(t,(out,())))
abbrev JW:Type:=((Unit×(Unit×Z0r))×(NI×Z06))
def mO:JW->Option (JW⊕(Z0i×Z06)):=λx=>let carry:=x.1.2.2.2.1;let k:=x.1.2.2.2.2.1;let a:=x.2.1;let t:=x.2.2.1;let out:=x.2.2.2.1;bif (decide (k<32))then(bif (inb k 32)then(bif (inb k 32)then(some (.inl (((),((),((),((bL .i64 (i64.wrap ((i64.wrap (2*(a (Int.toNat k))))+carry)) 16),((i64.wrap (k+1)),()))))),(a,(t,((upd out (Int.toNat k) (av .and .i64 (i64.wrap ((i64.wrap (2*(a (Int.toNat k))))+carry)) 65535)),()))))))else(none))else(none))else(some (.inr (((),((),())),(t,(out,())))))
def Lc(a:NI)(one:Int):Option (NI):=match(aD mO (((),((),((),(one,(0,()))))),(a,((λ_=>0),((λ_=>0),())))))with|none=>none|some y=>(let t:=y.2.1;let out:=y.2.2.1;some out)
def IL:=veil Lc
theorem N7:IL=Lc:=au _
abbrev X8(k:Int)(a:NI)(b:NI):=(((),((),(k,()))),(a,(b,())))
abbrev Ce:Type:=(Z01⊕Z07)
abbrev Ry(t:Bool):Ce:=(.inl ((t,()),()))
abbrev Rz:Ce:=(.inr ((),()))
abbrev JX:Type:=(Z0c×Z06)
def jR:JX->Option (JX⊕Ce):=λx=>let k:=x.1.2.2.1;let a:=x.2.1;let b:=x.2.2.1;bif (decide (k>=0))then(bif (inb k 32)then(bif (inb k 32)then(bif ((a (Int.toNat k)) !=(b (Int.toNat k)))then(bif (inb k 32)then(bif (inb k 32)then(some (.inr (.inl (((decide ((a (Int.toNat k))<(b (Int.toNat k)))),()),()))))else(none))else(none))else(some (.inl (((),((),((i64.wrap (k-1)),()))),(a,(b,()))))))else(none))else(none))else(some (.inr (.inr ((),()))))
def Ld(a:NI)(b:NI):Option (Bool):=match(aD jR (((),((),(31,()))),(a,(b,()))))with|none=>none|some y=>(match y with| .inl y1=>(let t:=y1.1.1;some t)| .inr y1=>(some false))
def IQ:=veil Ld
theorem N8:IQ=Ld:=au _
abbrev Zh(borrow:Int)(k:Int)(a:NI)(b:NI)(t:NI)(out:NI):=(((),((),((),(borrow,((),(k,())))))),(a,(b,(t,(out,())))))
abbrev Uj(t:NI)(out:NI):=(((),((),())),(t,(out,())))
abbrev N9:Type:=((Unit×(Unit×(Unit×(Int×Z0D))))×Z0v)
def lT:N9->Option (N9⊕(Z0i×Z06)):=λx=>let borrow:=x.1.2.2.2.1;let k:=x.1.2.2.2.2.2.1;let a:=x.2.1;let b:=x.2.2.1;let t:=x.2.2.2.1;let out:=x.2.2.2.2.1;bif (decide (k<32))then(bif (inb k 32)then(bif (inb k 32)then(let t1:=(decide ((i64.wrap ((i64.wrap ((a (Int.toNat k))-(b (Int.toNat k))))-borrow))<0));bif t1 then(let t2:=(i64.wrap ((i64.wrap ((i64.wrap ((a (Int.toNat k))-(b (Int.toNat k))))-borrow))+65536));bif (inb k 32)then(some (.inl (((),((),((),(1,((),((i64.wrap (k+1)),())))))),(a,(b,(t,((upd out (Int.toNat k) t2),())))))))else(none))else(bif (inb k 32)then(some (.inl (((),((),((),(0,((),((i64.wrap (k+1)),())))))),(a,(b,(t,((upd out (Int.toNat k) (i64.wrap ((i64.wrap ((a (Int.toNat k))-(b (Int.toNat k))))-borrow))),())))))))else(none)))else(none))else(none))else(some (.inr (((),((),())),(t,(out,())))))
def OV(a:NI)(b:NI):Option (NI):=match(aD lT (((),((),((),(0,((),(0,())))))),(a,(b,((λ_=>0),((λ_=>0),()))))))with|none=>none|some y=>(let t:=y.2.1;let out:=y.2.2.1;some out)
def Na:=veil OV
theorem QF:Na=OV:=au _
abbrev Uk(k:Int)(a:NI)(m:NI)(t:NI)(t1:NI)(q:NI)(r:NI):=(((),((),((),((),((),((),(k,()))))))),(a,(m,(t,(t1,(q,(r,())))))))
abbrev OW(t:NI)(t1:NI)(q:NI)(r:NI):=(((),((),((),((),())))),(t,(t1,(q,(r,())))))
abbrev GX:Type:=((Unit×(Unit×Z0C))×(NI×(NI×Z0v)))
def jf:GX->Option (GX⊕((Unit×(Unit×Z0i))×Z0v)):=λx=>let k:=x.1.2.2.2.2.2.2.1;let a:=x.2.1;let m:=x.2.2.1;let t:=x.2.2.2.1;let t1:=x.2.2.2.2.1;let q:=x.2.2.2.2.2.1;let r:=x.2.2.2.2.2.2.1;bif (decide (k>=0))then(bif (inb (i64.wrap (Int.tdiv k 16)) 32)then(bif (decide ((Int.tmod k 16)<0))then(none)else(let t2:=(av .and .i64 (bL .i64 (a (Int.toNat (i64.wrap (Int.tdiv k 16)))) (Int.tmod k 16)) 1);match(IL r t2)with|none=>none|some r1=>(match(IQ r1 m)with|none=>none|some r2=>(bif (!r2)then(match(Na r1 m)with|none=>none|some r3=>(bif (inb (i64.wrap (Int.tdiv k 16)) 32)then(bif (decide ((Int.tmod k 16)<0))then(none)else(let t3:=(av .or .i64 (q (Int.toNat (i64.wrap (Int.tdiv k 16)))) (iF .i64 1 (Int.tmod k 16)));bif (inb (i64.wrap (Int.tdiv k 16)) 32)then(some (.inl (((),((),((),((),((),((),((i64.wrap (k-1)),()))))))),(a,(m,(t,(t1,((upd q (Int.toNat (i64.wrap (Int.tdiv k 16))) t3),(r3,())))))))))else(none)))else(none)))else(some (.inl (((),((),((),((),((),((),((i64.wrap (k-1)),()))))))),(a,(m,(t,(t1,(q,(r1,())))))))))))))else(none))else(some (.inr (((),((),((),((),())))),(t,(t1,(q,(r,())))))))
def GY(a:NI)(m:NI):Option (NI×NI):=match(aD jf (((),((),((),((),((),((),(511,()))))))),(a,(m,((λ_=>0),((λ_=>0),((λ_=>0),((λ_=>0),()))))))))with|none=>none|some y=>(let t:=y.2.1;let t1:=y.2.2.1;let q:=y.2.2.2.1;let r:=y.2.2.2.2.1;some (q,r))
def El:=veil GY
theorem JY:El=GY:=au _
def Ul(low:NI)(high:NI)(m:NI):Option (NI×Int):=bif (eqF (.arr 4 (.int .u64)) m (λ_=>0))then(some ((λ_=>0),1))else(match(Uh low high)with|none=>none|some r=>(match(Uh m (λ_=>0))with|none=>none|some r1=>(match(El r r1)with|none=>none|some r2=>(match(MZ r2.2)with|none=>none|some r3=>(some (r3.1,0))))))
def Nb:=veil Ul
theorem Um:Nb=Ul:=au _
open Go.IntKind (i64 u64 u32 u8)
def Le(a:Int)(b:Int)(m:Int):Option (Int):=bif (decide (m=0))then(none)else(bif (decide (m=0))then(none)else(match(bits_Mul64 (u64.wrap (Int.tmod a m)) (u64.wrap (Int.tmod b m)))with|none=>none|some r=>(match(nW r.1 r.2 (u64.wrap m))with|none=>none|some r1=>(some (i64.wrap r1.2)))))
def zI:=veil Le
theorem Nc:zI=Le:=au _
abbrev X9(a:Int)(m:Int)(out:Int)(k:Int)(e:NI):=((a,(m,((),(out,(k,()))))),(e,()))
abbrev RA(out:Int):=((out,()),())
abbrev JZ:Type:=((Int×(Int×Z0r))×(NI×Unit))
def jS:JZ->Option (JZ⊕Z0H):=λx=>let a:=x.1.1;let m:=x.1.2.1;let out:=x.1.2.2.2.1;let k:=x.1.2.2.2.2.1;let e:=x.2.1;bif (decide (k>=0))then(match(zI out out m)with|none=>none|some r=>(match(MV e k)with|none=>none|some r1=>(bif (r1==1)then(match(zI r a m)with|none=>none|some r2=>(some (.inl ((a,(m,((),(r2,((i64.wrap (k-1)),()))))),(e,())))))else(some (.inl ((a,(m,((),(r,((i64.wrap (k-1)),()))))),(e,())))))))else(some (.inr ((out,()),())))
def Lf(a:Int)(e:NI)(m:Int):Option (Int):=bif (decide (m=0))then(none)else(match(IJ e)with|none=>none|some r=>(match(aD jS ((a,(m,((),((Int.tmod 1 m),((i64.wrap (r-1)),()))))),(e,())))with|none=>none|some y=>(let out:=y.1.1;some out)))
def IU:=veil Lf
theorem Nf:IU=Lf:=au _
open Go.IntKind (i64 u64 u32 u8)
open Go.IntKind (i64 u64 u32 u8)
def Un:Option (Z0p):=some ((3,(λj=>(upd (upd (upd (λ_=>((λ_=>0),0)) 0 ((upd (λ_=>0) 0 65521),0)) 1 ((upd (λ_=>0) 0 1966023127),2)) 2 ((upd (λ_=>0) 0 1055500680322183127),2)) (0+j))),(upd (λ_=>0) 0 316543771439780984))
def D9:=veil Un
theorem Ng:D9=Un:=au _
def Uo:Option (Z0p):=some ((3,(λj=>(upd (upd (upd (λ_=>((λ_=>0),0)) 0 ((upd (λ_=>0) 0 64817),0)) 1 ((upd (λ_=>0) 0 1815135269),2)) 2 ((upd (λ_=>0) 0 487269091447081429),2)) (0+j))),(upd (λ_=>0) 0 54624333139524128))
def IV:=veil Uo
theorem Nh:IV=Uo:=au _
def OX(which:Int):Option (Z0p):=bif ((av .and .i64 which 1)==1)then(match IV with|none=>none|some r=>(some ((r.1.1,r.1.2),r.2)))else(match D9 with|none=>none|some r1=>(some ((r1.1.1,r1.1.2),r1.2)))
def Ni:=veil OX
theorem QG:Ni=OX:=au _
def a3j(p:Z0p):Option (NI):=bif (decide (((p.1.1:Nat):Int)<2))then(some (λ_=>0))else(bif (inb (i64.wrap (((p.1.1:Nat):Int)-1)) p.1.1)then(some (p.1.2 (Int.toNat (i64.wrap (((p.1.1:Nat):Int)-1)))).1)else(none))
def a4L:=veil a3j
theorem a10:a4L=a3j:=au _
def a3k(p:Z0p):Option (NI):=bif (decide (((p.1.1:Nat):Int)<2))then(some (λ_=>0))else(bif (inb (i64.wrap (((p.1.1:Nat):Int)-2)) p.1.1)then(some (p.1.2 (Int.toNat (i64.wrap (((p.1.1:Nat):Int)-2)))).1)else(none))
def a4M:=veil a3k
theorem a11:a4M=a3k:=au _
open Go.IntKind (i64 u64 u32 u8)
def Zi(a:NI)(q:Int):Option (Int):=match(aV q)with|none=>none|some r=>(match(Nb a (λ_=>0) r)with|none=>none|some r1=>(match(Ej r1.1)with|none=>none|some r2=>(some r2.1)))
def Zj:=veil Zi
theorem XZ:Zj=Zi:=au _
def Uq(a:Int)(b:Int)(q:Int):Option (Int):=bif (decide (q=0))then(none)else(some (Int.tmod (i64.wrap (a+b)) q))
def Sq:=veil Uq
theorem Ur:Sq=Uq:=au _
def Us(a:Int)(b:Int)(q:Int):Option (Int):=match(zI a b q)with|none=>none|some r=>(some r)
def Nj:=veil Us
theorem Ut:Nj=Us:=au _
abbrev zm(na:Nat)(a:Nat->NI)(nb:Nat)(b:Nat->NI)(i:Int):=(((na,a),((nb,b),(i,()))),())
abbrev Em:Type:=(Z01⊕Z07)
abbrev Uu(t:Bool):Em:=(.inl ((t,()),()))
abbrev Uv:Em:=(.inr ((),()))
abbrev Nk:Type:=((Z0d×(Z0d×Z05))×Unit)
def lU:Nk->Option (Nk⊕Em):=λx=>let na:=x.1.1.1;let a:=x.1.1.2;let nb:=x.1.2.1.1;let b:=x.1.2.1.2;let i:=x.1.2.2.1;bif (decide (i<((na:Nat):Int)))then(bif (inb i na)then(bif (inb i nb)then(bif (!(eqF (.arr 4 (.int .u64)) (a (Int.toNat i)) (b (Int.toNat i))))then(some (.inr (.inl ((false,()),()))))else(some (.inl (((na,a),((nb,b),((i64.wrap (i+1)),()))),()))))else(none))else(none))else(some (.inr (.inr ((),()))))
def OY(na:Nat)(a:Nat->NI)(nb:Nat)(b:Nat->NI):Option (Bool):=bif (((na:Nat):Int) !=((nb:Nat):Int))then(some false)else(match(aD lU (((na,a),((nb,b),(0,()))),()))with|none=>none|some y=>(match y with| .inl y1=>(let t:=y1.1.1;some t)| .inr y1=>(some true)))
def GZ:=veil OY
theorem QH:GZ=OY:=au _
abbrev a13(nl:Nat)(l:Nat->NI)(q:Int)(nout:Nat)(out:Nat->Int)(i:Int):=(((nl,l),(q,((nout,out),(i,())))),())
abbrev K4(nout:Nat)(out:Nat->Int):=(((nout,out),()),())
abbrev QI:Type:=((Z0d×(Int×((Nat×NI)×Z05)))×Unit)
def sP:QI->Option (QI⊕Z0x):=λx=>let nl:=x.1.1.1;let l:=x.1.1.2;let q:=x.1.2.1;let nout:=x.1.2.2.1.1;let out:=x.1.2.2.1.2;let i:=x.1.2.2.2.1;bif (decide (i<((nl:Nat):Int)))then(bif (inb i nl)then(match(Zj (l (Int.toNat i)) q)with|none=>none|some r=>(bif ((Nat.ble ((nout+1)*8) 140737488355328)&&(Nat.ble (nout+1) 9223372036854775807))then(some (.inl (((nl,l),(q,(((nout+1),(glue nout out (λj=>(upd (λ_=>0) 0 r) (0+j)))),((i64.wrap (i+1)),())))),())))else(none)))else(none))else(some (.inr (((nout,out),()),())))
def Uw(nl:Nat)(l:Nat->NI)(q:Int):Option ((Nat×NI)):=match(aD sP (((nl,l),(q,((0,(λ_=>0)),(0,())))),()))with|none=>none|some y=>(let nout:=y.1.1.1;let out:=y.1.1.2;some (nout,(λj=>out (0+j))))
def wZ:=veil Uw
theorem Ux:wZ=Uw:=au _
open Go.IntKind (i64 u64 u32 u8)
def Zk(p:Z0p):Option (Z0g):=match(a4L ((p.1.1,p.1.2),p.2))with|none=>none|some r=>(match(Ej r)with|none=>none|some r1=>(match(a4M ((p.1.1,p.1.2),p.2))with|none=>none|some r2=>(match(Ej r2)with|none=>none|some r3=>(match(Ej p.2)with|none=>none|some r4=>(some (r1.1,(r3.1,r4.1)))))))
def Lg:=veil Zk
theorem Y0:Lg=Zk:=au _
def Uy(s:Z0g)(a:Int)(e:NI):Option (Int):=match(IU a e s.1)with|none=>none|some r=>(some r)
def Nl:=veil Uy
theorem Uz:Nl=Uy:=au _
open Go.IntKind (i64 u64 u32 u8)
def IW(g:Z0w)(a:NI):Option (Bool):=match g with|none=>(match(bZ none)with|none=>none|some r3=>(match r3 with|none=>(match(dx none a)with|none=>none|some r5=>(some r5))|some p1=>(match(dx (some p1) a)with|none=>none|some r4=>(some r4))))|some g0=>(match(bZ (some g0))with|none=>none|some r=>(match r with|none=>(match(dx none a)with|none=>none|some r2=>(some r2))|some p=>(match(dx (some p) a)with|none=>none|some r1=>(some r1))))
def H6:=veil IW
theorem QJ:H6=IW:=au _
open Go.IntKind (i64 u64 u32 u8)
def zn(g:Z0w)(nbases:Nat)(bases:Nat->NI)(nexps:Nat)(exps:Nat->NI):Option (NI×Int):=match g with|none=>(match(bH none)with|none=>none|some r3=>(match r3 with|none=>(match(dY none nbases bases nexps exps)with|none=>none|some r5=>(some (r5.1,r5.2)))|some p1=>(match(dY (some p1) nbases bases nexps exps)with|none=>none|some r4=>(some (r4.1,r4.2)))))|some g0=>(match(bH (some g0))with|none=>none|some r=>(match r with|none=>(match(dY none nbases bases nexps exps)with|none=>none|some r2=>(some (r2.1,r2.2)))|some p=>(match(dY (some p) nbases bases nexps exps)with|none=>none|some r1=>(some (r1.1,r1.2)))))
def Bo:=veil zn
theorem H7:Bo=zn:=au _
def En(g:Z0w)(a:NI)(e:NI):Option (NI):=match g with|none=>(match(bH none)with|none=>none|some r3=>(match r3 with|none=>(match(aT none a e)with|none=>none|some r5=>(some r5))|some p1=>(match(aT (some p1) a e)with|none=>none|some r4=>(some r4))))|some g0=>(match(bH (some g0))with|none=>none|some r=>(match r with|none=>(match(aT none a e)with|none=>none|some r2=>(some r2))|some p=>(match(aT (some p) a e)with|none=>none|some r1=>(some r1))))
def Da:=veil En
theorem Nn:Da=En:=au _
def IX(g:Z0w)(e:NI):Option (NI):=match g with|none=>(match(qL none)with|none=>none|some r2=>(match(Da none r2 e)with|none=>none|some r3=>(some r3)))|some g0=>(match(qL (some g0))with|none=>none|some r=>(match(Da (some g0) r e)with|none=>none|some r1=>(some r1)))
def H8:=veil IX
theorem QK:H8=IX:=au _
def IY(g:Z0w)(a:NI):Option (Bool):=match g with|none=>(bif (!(eqF (.arr 4 (.int .u64)) a (λ_=>0)))then(match(bH none)with|none=>none|some r17=>(match r17 with|none=>(match(dx none a)with|none=>none|some r26=>(bif r26 then(match(bH none)with|none=>none|some r27=>(match r27 with|none=>(match(dR none)with|none=>none|some r31=>(match(aT none a r31)with|none=>none|some r32=>(match(cZ 1)with|none=>none|some r33=>(some (eqF (.arr 4 (.int .u64)) r32 r33)))))|some p5=>(match(dR none)with|none=>none|some r28=>(match(aT (some p5) a r28)with|none=>none|some r29=>(match(cZ 1)with|none=>none|some r30=>(some (eqF (.arr 4 (.int .u64)) r29 r30)))))))else(some false)))|some p3=>(match(dx (some p3) a)with|none=>none|some r18=>(bif r18 then(match(bH none)with|none=>none|some r19=>(match r19 with|none=>(match(dR none)with|none=>none|some r23=>(match(aT none a r23)with|none=>none|some r24=>(match(cZ 1)with|none=>none|some r25=>(some (eqF (.arr 4 (.int .u64)) r24 r25)))))|some p4=>(match(dR none)with|none=>none|some r20=>(match(aT (some p4) a r20)with|none=>none|some r21=>(match(cZ 1)with|none=>none|some r22=>(some (eqF (.arr 4 (.int .u64)) r21 r22)))))))else(some false)))))else(some false))|some g0=>(bif (!(eqF (.arr 4 (.int .u64)) a (λ_=>0)))then(match(bH (some g0))with|none=>none|some r=>(match r with|none=>(match(dx none a)with|none=>none|some r9=>(bif r9 then(match(bH (some g0))with|none=>none|some r10=>(match r10 with|none=>(match(dR (some g0))with|none=>none|some r14=>(match(aT none a r14)with|none=>none|some r15=>(match(cZ 1)with|none=>none|some r16=>(some (eqF (.arr 4 (.int .u64)) r15 r16)))))|some p2=>(match(dR (some g0))with|none=>none|some r11=>(match(aT (some p2) a r11)with|none=>none|some r12=>(match(cZ 1)with|none=>none|some r13=>(some (eqF (.arr 4 (.int .u64)) r12 r13)))))))else(some false)))|some p=>(match(dx (some p) a)with|none=>none|some r1=>(bif r1 then(match(bH (some g0))with|none=>none|some r2=>(match r2 with|none=>(match(dR (some g0))with|none=>none|some r6=>(match(aT none a r6)with|none=>none|some r7=>(match(cZ 1)with|none=>none|some r8=>(some (eqF (.arr 4 (.int .u64)) r7 r8)))))|some p1=>(match(dR (some g0))with|none=>none|some r3=>(match(aT (some p1) a r3)with|none=>none|some r4=>(match(cZ 1)with|none=>none|some r5=>(some (eqF (.arr 4 (.int .u64)) r4 r5)))))))else(some false)))))else(some false))
def Np:=veil IY
theorem QL:Np=IY:=au _
end
end Go.Pl
