/-
  The functions, plainly.
-/
import Derived.Test.YtlohbhpbkieoeaaGreatDenI
set_option linter.unusedVariables false
set_option linter.unusedSimpArgs false
set_option maxRecDepth 100000
set_option maxHeartbeats 0
namespace Go.Pl
open Go.Den
abbrev Z00:Type:=NI×(Int×(NI×NI))
abbrev Z02:Type:=Int×Unit
abbrev Z03:Type:=((dh Z00)×(dh Z00))×NI
abbrev Z05:Type:=NI×(NI×Unit)
abbrev Z06:Type:=Unit×Z02
abbrev Z07:Type:=Unit×Unit
abbrev Z08:Type:=Bool×(NI×(NI×Int))
abbrev Z09:Type:=(Bool×Unit)×Unit
abbrev Z0a:Type:=Nat×(Nat->(SlV NI))
abbrev Z0b:Type:=Int×(Int×Int)
abbrev Z0c:Type:=Nat×(Nat->ByteArray)
abbrev Z0d:Type:=Nat×(Nat->NI)
abbrev Z0e:Type:=Int×(Int×(Int×Z02))
abbrev Z0g:Type:=Unit×(Int×Z02)
abbrev Z0h:Type:=Unit×Z07
abbrev Z0i:Type:=Int×(Int×((SlV ByteArray)×(Option Nat)))
abbrev Z0k:Type:=Unit×Z06
abbrev Z0l:Type:=Option Z00
abbrev Z0m:Type:=Nat->Bool
abbrev Z0o:Type:=(Int×Int)×(ByteArray×((SlV (SlV NI))×((SlV NI)×Int)))
abbrev Z0p:Type:=(Nat×(Nat->(NI×Int)))×NI
abbrev Z0s:Type:=Unit×(Bool×Unit)
abbrev Z0t:Type:=NI×(NI×Z05)
abbrev Z0u:Type:=Option Z03
abbrev Z0v:Type:=Unit×(Unit×Z0k)
abbrev Z0w:Type:=Z06×Unit
abbrev Z0x:Type:=((Nat×NI)×Unit)×Unit
abbrev Z0y:Type:=Nat×(Nat->(Nat->NI))
abbrev Z0z:Type:=Int×(Int×Z0e)
abbrev Z0B:Type:=Unit×(Int×((Nat×NI)×(Int×Z02)))
abbrev Z0C:Type:=(Unit×(Nat×NI))×Unit
abbrev Z0E:Type:=ByteArray
end Go.Pl
namespace Go.Pl
end Go.Pl
open Go Go.Den Go.Pl
namespace Go.Pl
noncomputable section
open Go.IntKind (i64 u64 u32 u8)
def FX(x:Int)(y:Int):Option (Int×Int):=let t:=(bO .u64 (u64.wrap ((ay .and .u64 x 4294967295)*(ay .and .u64 y 4294967295))) 32);let t1:=(ay .and .u64 (u64.wrap ((u64.wrap ((bO .u64 x 32)*(ay .and .u64 y 4294967295)))+t)) 4294967295);let t2:=(bO .u64 (u64.wrap ((u64.wrap ((bO .u64 x 32)*(ay .and .u64 y 4294967295)))+t)) 32);let t3:=(bO .u64 (u64.wrap (t1+(u64.wrap ((ay .and .u64 x 4294967295)*(bO .u64 y 32))))) 32);let t4:=(u64.wrap ((u64.wrap ((u64.wrap ((bO .u64 x 32)*(bO .u64 y 32)))+t2))+t3));some (t4,(u64.wrap (x*y)))
def bits_Mul64:=veil FX
theorem JE:bits_Mul64=FX:=aj _
def FY(x:Int):Option (Int):=bif (decide (x>=4294967296))then(bif (decide ((bO .u64 x 32)>=65536))then(bif (decide ((bO .u64 (bO .u64 x 32) 16)>=256))then(bif (inb (u8.wrap (bO .u64 (bO .u64 (bO .u64 x 32) 16) 8)) 256)then(let t:=(((UInt8.toNat (List.getD (Array.toList (ByteArray.data (ByteArray.mk #[0,1,2,2,3,3,3,3,4,4,4,4,4,4,4,4,5,5,5,5,5,5,5,5,5,5,5,5,5,5,5,5,6,6,6,6,6,6,6,6,6,6,6,6,6,6,6,6,6,6,6,6,6,6,6,6,6,6,6,6,6,6,6,6,7,7,7,7,7,7,7,7,7,7,7,7,7,7,7,7,7,7,7,7,7,7,7,7,7,7,7,7,7,7,7,7,7,7,7,7,7,7,7,7,7,7,7,7,7,7,7,7,7,7,7,7,7,7,7,7,7,7,7,7,7,7,7,7,8,8,8,8,8,8,8,8,8,8,8,8,8,8,8,8,8,8,8,8,8,8,8,8,8,8,8,8,8,8,8,8,8,8,8,8,8,8,8,8,8,8,8,8,8,8,8,8,8,8,8,8,8,8,8,8,8,8,8,8,8,8,8,8,8,8,8,8,8,8,8,8,8,8,8,8,8,8,8,8,8,8,8,8,8,8,8,8,8,8,8,8,8,8,8,8,8,8,8,8,8,8,8,8,8,8,8,8,8,8,8,8,8,8,8,8,8,8,8,8,8,8,8,8,8,8,8,8]))) (Int.toNat (u8.wrap (bO .u64 (bO .u64 (bO .u64 x 32) 16) 8))) 0)):Nat):Int);some (i64.wrap (56+(i64.wrap t))))else(none))else(bif (inb (u8.wrap (bO .u64 (bO .u64 x 32) 16)) 256)then(let t1:=(((UInt8.toNat (List.getD (Array.toList (ByteArray.data (ByteArray.mk #[0,1,2,2,3,3,3,3,4,4,4,4,4,4,4,4,5,5,5,5,5,5,5,5,5,5,5,5,5,5,5,5,6,6,6,6,6,6,6,6,6,6,6,6,6,6,6,6,6,6,6,6,6,6,6,6,6,6,6,6,6,6,6,6,7,7,7,7,7,7,7,7,7,7,7,7,7,7,7,7,7,7,7,7,7,7,7,7,7,7,7,7,7,7,7,7,7,7,7,7,7,7,7,7,7,7,7,7,7,7,7,7,7,7,7,7,7,7,7,7,7,7,7,7,7,7,7,7,8,8,8,8,8,8,8,8,8,8,8,8,8,8,8,8,8,8,8,8,8,8,8,8,8,8,8,8,8,8,8,8,8,8,8,8,8,8,8,8,8,8,8,8,8,8,8,8,8,8,8,8,8,8,8,8,8,8,8,8,8,8,8,8,8,8,8,8,8,8,8,8,8,8,8,8,8,8,8,8,8,8,8,8,8,8,8,8,8,8,8,8,8,8,8,8,8,8,8,8,8,8,8,8,8,8,8,8,8,8,8,8,8,8,8,8,8,8,8,8,8,8,8,8,8,8,8,8]))) (Int.toNat (u8.wrap (bO .u64 (bO .u64 x 32) 16))) 0)):Nat):Int);some (i64.wrap (48+(i64.wrap t1))))else(none)))else(bif (decide ((bO .u64 x 32)>=256))then(bif (inb (u8.wrap (bO .u64 (bO .u64 x 32) 8)) 256)then(let t2:=(((UInt8.toNat (List.getD (Array.toList (ByteArray.data (ByteArray.mk #[0,1,2,2,3,3,3,3,4,4,4,4,4,4,4,4,5,5,5,5,5,5,5,5,5,5,5,5,5,5,5,5,6,6,6,6,6,6,6,6,6,6,6,6,6,6,6,6,6,6,6,6,6,6,6,6,6,6,6,6,6,6,6,6,7,7,7,7,7,7,7,7,7,7,7,7,7,7,7,7,7,7,7,7,7,7,7,7,7,7,7,7,7,7,7,7,7,7,7,7,7,7,7,7,7,7,7,7,7,7,7,7,7,7,7,7,7,7,7,7,7,7,7,7,7,7,7,7,8,8,8,8,8,8,8,8,8,8,8,8,8,8,8,8,8,8,8,8,8,8,8,8,8,8,8,8,8,8,8,8,8,8,8,8,8,8,8,8,8,8,8,8,8,8,8,8,8,8,8,8,8,8,8,8,8,8,8,8,8,8,8,8,8,8,8,8,8,8,8,8,8,8,8,8,8,8,8,8,8,8,8,8,8,8,8,8,8,8,8,8,8,8,8,8,8,8,8,8,8,8,8,8,8,8,8,8,8,8,8,8,8,8,8,8,8,8,8,8,8,8,8,8,8,8,8,8]))) (Int.toNat (u8.wrap (bO .u64 (bO .u64 x 32) 8))) 0)):Nat):Int);some (i64.wrap (40+(i64.wrap t2))))else(none))else(bif (inb (u8.wrap (bO .u64 x 32)) 256)then(let t3:=(i64.wrap (((UInt8.toNat (List.getD (Array.toList (ByteArray.data (ByteArray.mk #[0,1,2,2,3,3,3,3,4,4,4,4,4,4,4,4,5,5,5,5,5,5,5,5,5,5,5,5,5,5,5,5,6,6,6,6,6,6,6,6,6,6,6,6,6,6,6,6,6,6,6,6,6,6,6,6,6,6,6,6,6,6,6,6,7,7,7,7,7,7,7,7,7,7,7,7,7,7,7,7,7,7,7,7,7,7,7,7,7,7,7,7,7,7,7,7,7,7,7,7,7,7,7,7,7,7,7,7,7,7,7,7,7,7,7,7,7,7,7,7,7,7,7,7,7,7,7,7,8,8,8,8,8,8,8,8,8,8,8,8,8,8,8,8,8,8,8,8,8,8,8,8,8,8,8,8,8,8,8,8,8,8,8,8,8,8,8,8,8,8,8,8,8,8,8,8,8,8,8,8,8,8,8,8,8,8,8,8,8,8,8,8,8,8,8,8,8,8,8,8,8,8,8,8,8,8,8,8,8,8,8,8,8,8,8,8,8,8,8,8,8,8,8,8,8,8,8,8,8,8,8,8,8,8,8,8,8,8,8,8,8,8,8,8,8,8,8,8,8,8,8,8,8,8,8,8]))) (Int.toNat (u8.wrap (bO .u64 x 32))) 0)):Nat):Int));some (i64.wrap (32+t3)))else(none))))else(bif (decide (x>=65536))then(bif (decide ((bO .u64 x 16)>=256))then(bif (inb (u8.wrap (bO .u64 (bO .u64 x 16) 8)) 256)then(let t4:=(((UInt8.toNat (List.getD (Array.toList (ByteArray.data (ByteArray.mk #[0,1,2,2,3,3,3,3,4,4,4,4,4,4,4,4,5,5,5,5,5,5,5,5,5,5,5,5,5,5,5,5,6,6,6,6,6,6,6,6,6,6,6,6,6,6,6,6,6,6,6,6,6,6,6,6,6,6,6,6,6,6,6,6,7,7,7,7,7,7,7,7,7,7,7,7,7,7,7,7,7,7,7,7,7,7,7,7,7,7,7,7,7,7,7,7,7,7,7,7,7,7,7,7,7,7,7,7,7,7,7,7,7,7,7,7,7,7,7,7,7,7,7,7,7,7,7,7,8,8,8,8,8,8,8,8,8,8,8,8,8,8,8,8,8,8,8,8,8,8,8,8,8,8,8,8,8,8,8,8,8,8,8,8,8,8,8,8,8,8,8,8,8,8,8,8,8,8,8,8,8,8,8,8,8,8,8,8,8,8,8,8,8,8,8,8,8,8,8,8,8,8,8,8,8,8,8,8,8,8,8,8,8,8,8,8,8,8,8,8,8,8,8,8,8,8,8,8,8,8,8,8,8,8,8,8,8,8,8,8,8,8,8,8,8,8,8,8,8,8,8,8,8,8,8,8]))) (Int.toNat (u8.wrap (bO .u64 (bO .u64 x 16) 8))) 0)):Nat):Int);some (i64.wrap (24+(i64.wrap t4))))else(none))else(bif (inb (u8.wrap (bO .u64 x 16)) 256)then(let t5:=(i64.wrap (((UInt8.toNat (List.getD (Array.toList (ByteArray.data (ByteArray.mk #[0,1,2,2,3,3,3,3,4,4,4,4,4,4,4,4,5,5,5,5,5,5,5,5,5,5,5,5,5,5,5,5,6,6,6,6,6,6,6,6,6,6,6,6,6,6,6,6,6,6,6,6,6,6,6,6,6,6,6,6,6,6,6,6,7,7,7,7,7,7,7,7,7,7,7,7,7,7,7,7,7,7,7,7,7,7,7,7,7,7,7,7,7,7,7,7,7,7,7,7,7,7,7,7,7,7,7,7,7,7,7,7,7,7,7,7,7,7,7,7,7,7,7,7,7,7,7,7,8,8,8,8,8,8,8,8,8,8,8,8,8,8,8,8,8,8,8,8,8,8,8,8,8,8,8,8,8,8,8,8,8,8,8,8,8,8,8,8,8,8,8,8,8,8,8,8,8,8,8,8,8,8,8,8,8,8,8,8,8,8,8,8,8,8,8,8,8,8,8,8,8,8,8,8,8,8,8,8,8,8,8,8,8,8,8,8,8,8,8,8,8,8,8,8,8,8,8,8,8,8,8,8,8,8,8,8,8,8,8,8,8,8,8,8,8,8,8,8,8,8,8,8,8,8,8,8]))) (Int.toNat (u8.wrap (bO .u64 x 16))) 0)):Nat):Int));some (i64.wrap (16+t5)))else(none)))else(bif (decide (x>=256))then(bif (inb (u8.wrap (bO .u64 x 8)) 256)then(let t6:=(i64.wrap (((UInt8.toNat (List.getD (Array.toList (ByteArray.data (ByteArray.mk #[0,1,2,2,3,3,3,3,4,4,4,4,4,4,4,4,5,5,5,5,5,5,5,5,5,5,5,5,5,5,5,5,6,6,6,6,6,6,6,6,6,6,6,6,6,6,6,6,6,6,6,6,6,6,6,6,6,6,6,6,6,6,6,6,7,7,7,7,7,7,7,7,7,7,7,7,7,7,7,7,7,7,7,7,7,7,7,7,7,7,7,7,7,7,7,7,7,7,7,7,7,7,7,7,7,7,7,7,7,7,7,7,7,7,7,7,7,7,7,7,7,7,7,7,7,7,7,7,8,8,8,8,8,8,8,8,8,8,8,8,8,8,8,8,8,8,8,8,8,8,8,8,8,8,8,8,8,8,8,8,8,8,8,8,8,8,8,8,8,8,8,8,8,8,8,8,8,8,8,8,8,8,8,8,8,8,8,8,8,8,8,8,8,8,8,8,8,8,8,8,8,8,8,8,8,8,8,8,8,8,8,8,8,8,8,8,8,8,8,8,8,8,8,8,8,8,8,8,8,8,8,8,8,8,8,8,8,8,8,8,8,8,8,8,8,8,8,8,8,8,8,8,8,8,8,8]))) (Int.toNat (u8.wrap (bO .u64 x 8))) 0)):Nat):Int));some (i64.wrap (8+t6)))else(none))else(bif (inb (u8.wrap x) 256)then(let t7:=(i64.wrap (0+(i64.wrap (((UInt8.toNat (List.getD (Array.toList (ByteArray.data (ByteArray.mk #[0,1,2,2,3,3,3,3,4,4,4,4,4,4,4,4,5,5,5,5,5,5,5,5,5,5,5,5,5,5,5,5,6,6,6,6,6,6,6,6,6,6,6,6,6,6,6,6,6,6,6,6,6,6,6,6,6,6,6,6,6,6,6,6,7,7,7,7,7,7,7,7,7,7,7,7,7,7,7,7,7,7,7,7,7,7,7,7,7,7,7,7,7,7,7,7,7,7,7,7,7,7,7,7,7,7,7,7,7,7,7,7,7,7,7,7,7,7,7,7,7,7,7,7,7,7,7,7,8,8,8,8,8,8,8,8,8,8,8,8,8,8,8,8,8,8,8,8,8,8,8,8,8,8,8,8,8,8,8,8,8,8,8,8,8,8,8,8,8,8,8,8,8,8,8,8,8,8,8,8,8,8,8,8,8,8,8,8,8,8,8,8,8,8,8,8,8,8,8,8,8,8,8,8,8,8,8,8,8,8,8,8,8,8,8,8,8,8,8,8,8,8,8,8,8,8,8,8,8,8,8,8,8,8,8,8,8,8,8,8,8,8,8,8,8,8,8,8,8,8,8,8,8,8,8,8]))) (Int.toNat (u8.wrap x)) 0)):Nat):Int))));some t7)else(none))))
def bits_Len64:=veil FY
theorem JF:bits_Len64=FY:=aj _
def oq(x:Int):Option (Int):=match(bits_Len64 x)with|none=>none|some r=>(some (i64.wrap (64-r)))
def bits_LeadingZeros64:=veil oq
theorem sV:bits_LeadingZeros64=oq:=aj _
abbrev zq(y:Int)(s:Int)(yn1:Int)(yn0:Int)(un32:Int)(un1:Int)(un0:Int)(q1:Int)(rhat:Int):=((y,(s,(yn1,(yn0,(un32,(un1,(un0,(q1,(rhat,()))))))))),())
abbrev uY(y:Int)(s:Int)(yn1:Int)(yn0:Int)(un32:Int)(un1:Int)(un0:Int)(q1:Int):=((y,(s,(yn1,(yn0,(un32,(un1,(un0,(q1,())))))))),())
abbrev FZ:Type:=((Int×(Int×(Int×Z0z)))×Unit)
def eU:FZ->Option (FZ⊕((Int×(Int×Z0z))×Unit)):=λx=>let y:=x.1.1;let s:=x.1.2.1;let yn1:=x.1.2.2.1;let yn0:=x.1.2.2.2.1;let un32:=x.1.2.2.2.2.1;let un1:=x.1.2.2.2.2.2.1;let un0:=x.1.2.2.2.2.2.2.1;let q1:=x.1.2.2.2.2.2.2.2.1;let rhat:=x.1.2.2.2.2.2.2.2.2.1;bif (decide (q1>=4294967296))then(bif (decide ((u64.wrap (rhat+yn1))>=4294967296))then(some (.inr ((y,(s,(yn1,(yn0,(un32,(un1,(un0,((u64.wrap (q1-1)),())))))))),())))else(some (.inl ((y,(s,(yn1,(yn0,(un32,(un1,(un0,((u64.wrap (q1-1)),((u64.wrap (rhat+yn1)),()))))))))),()))))else(bif (decide ((u64.wrap (q1*yn0))>(u64.wrap ((u64.wrap (4294967296*rhat))+un1))))then(bif (decide ((u64.wrap (rhat+yn1))>=4294967296))then(some (.inr ((y,(s,(yn1,(yn0,(un32,(un1,(un0,((u64.wrap (q1-1)),())))))))),())))else(some (.inl ((y,(s,(yn1,(yn0,(un32,(un1,(un0,((u64.wrap (q1-1)),((u64.wrap (rhat+yn1)),()))))))))),()))))else(some (.inr ((y,(s,(yn1,(yn0,(un32,(un1,(un0,(q1,())))))))),()))))
abbrev zu(y:Int)(s:Int)(yn1:Int)(yn0:Int)(un0:Int)(q1:Int)(rhat:Int)(un21:Int)(q0:Int):=((y,(s,(yn1,(yn0,(un0,(q1,(rhat,(un21,(q0,()))))))))),())
abbrev uZ(y:Int)(s:Int)(un0:Int)(q1:Int)(un21:Int)(q0:Int):=((y,(s,(un0,(q1,(un21,(q0,())))))),())
abbrev G5:Type:=((Int×(Int×(Int×Z0z)))×Unit)
def eX:G5->Option (G5⊕(Z0z×Unit)):=λx=>let y:=x.1.1;let s:=x.1.2.1;let yn1:=x.1.2.2.1;let yn0:=x.1.2.2.2.1;let un0:=x.1.2.2.2.2.1;let q1:=x.1.2.2.2.2.2.1;let rhat:=x.1.2.2.2.2.2.2.1;let un21:=x.1.2.2.2.2.2.2.2.1;let q0:=x.1.2.2.2.2.2.2.2.2.1;bif (decide (q0>=4294967296))then(bif (decide ((u64.wrap (rhat+yn1))>=4294967296))then(some (.inr ((y,(s,(un0,(q1,(un21,((u64.wrap (q0-1)),())))))),())))else(some (.inl ((y,(s,(yn1,(yn0,(un0,(q1,((u64.wrap (rhat+yn1)),(un21,((u64.wrap (q0-1)),()))))))))),()))))else(bif (decide ((u64.wrap (q0*yn0))>(u64.wrap ((u64.wrap (4294967296*rhat))+un0))))then(bif (decide ((u64.wrap (rhat+yn1))>=4294967296))then(some (.inr ((y,(s,(un0,(q1,(un21,((u64.wrap (q0-1)),())))))),())))else(some (.inl ((y,(s,(yn1,(yn0,(un0,(q1,((u64.wrap (rhat+yn1)),(un21,((u64.wrap (q0-1)),()))))))))),()))))else(some (.inr ((y,(s,(un0,(q1,(un21,(q0,())))))),()))))
def G6(hi:Int)(lo:Int)(y:Int):Option (Int×Int):=bif (y==0)then(none)else(bif (decide (y<=hi))then(none)else(bif (hi==0)then(bif (decide (y=0))then(none)else(bif (decide (y=0))then(none)else(some ((u64.wrap (Int.tdiv lo y)),(Int.tmod lo y)))))else(match(bits_LeadingZeros64 y)with|none=>none|some r=>(bif (decide ((u64.wrap r)<0))then(none)else(bif (decide ((u64.wrap r)<0))then(none)else(bif (decide ((u64.wrap (64-(u64.wrap r)))<0))then(none)else(let t:=(ay .or .u64 (iE .u64 hi (u64.wrap r)) (bO .u64 lo (u64.wrap (64-(u64.wrap r)))));bif (decide ((u64.wrap r)<0))then(none)else(bif (decide ((bO .u64 (iE .u64 y (u64.wrap r)) 32)=0))then(none)else(let t1:=(u64.wrap ((u64.wrap (Int.tdiv t (bO .u64 (iE .u64 y (u64.wrap r)) 32)))*(bO .u64 (iE .u64 y (u64.wrap r)) 32)));match(au eU (((iE .u64 y (u64.wrap r)),((u64.wrap r),((bO .u64 (iE .u64 y (u64.wrap r)) 32),((ay .and .u64 (iE .u64 y (u64.wrap r)) 4294967295),(t,((bO .u64 (iE .u64 lo (u64.wrap r)) 32),((ay .and .u64 (iE .u64 lo (u64.wrap r)) 4294967295),((u64.wrap (Int.tdiv t (bO .u64 (iE .u64 y (u64.wrap r)) 32))),((u64.wrap (t-t1)),()))))))))),()))with|none=>none|some y1=>(let y2:=y1.1.1;let s:=y1.1.2.1;let yn1:=y1.1.2.2.1;let yn0:=y1.1.2.2.2.1;let un32:=y1.1.2.2.2.2.1;let un1:=y1.1.2.2.2.2.2.1;let un0:=y1.1.2.2.2.2.2.2.1;let q1:=y1.1.2.2.2.2.2.2.2.1;bif (decide (yn1=0))then(none)else(let t2:=(u64.wrap (Int.tdiv (u64.wrap ((u64.wrap ((u64.wrap (un32*4294967296))+un1))-(u64.wrap (q1*y2)))) yn1));let t3:=(u64.wrap ((u64.wrap ((u64.wrap ((u64.wrap (un32*4294967296))+un1))-(u64.wrap (q1*y2))))-(u64.wrap (t2*yn1))));match(au eX ((y2,(s,(yn1,(yn0,(un0,(q1,(t3,((u64.wrap ((u64.wrap ((u64.wrap (un32*4294967296))+un1))-(u64.wrap (q1*y2)))),(t2,()))))))))),()))with|none=>none|some y3=>(let y4:=y3.1.1;let s1:=y3.1.2.1;let un01:=y3.1.2.2.1;let q11:=y3.1.2.2.2.1;let un21:=y3.1.2.2.2.2.1;let q0:=y3.1.2.2.2.2.2.1;bif (decide (s1<0))then(none)else(let t4:=(bO .u64 (u64.wrap ((u64.wrap ((u64.wrap (un21*4294967296))+un01))-(u64.wrap (q0*y4)))) s1);some ((u64.wrap ((u64.wrap (q11*4294967296))+q0)),t4))))))))))))))
def ou:=veil G6
theorem JG:ou=G6:=aj _
def rD(x:Int)(k:Int):Option (Int):=bif (decide ((ay .and .u64 (u64.wrap k) 31)<0))then(none)else(bif (decide ((u64.wrap (32-(ay .and .u64 (u64.wrap k) 31)))<0))then(none)else(let t:=(ay .or .u32 (iE .u32 x (ay .and .u64 (u64.wrap k) 31)) (bO .u32 x (u64.wrap (32-(ay .and .u64 (u64.wrap k) 31)))));some t))
def sW:=veil rD
theorem wR:sW=rD:=aj _
open Go.IntKind (i64 u64 u32 u8)
def Tn(a:NI)(k:Int):Option (Int):=bif (decide (k<0))then(some 0)else(bif (decide (k>=256))then(some 0)else(bif (inb (i64.wrap (Int.tdiv k 64)) 4)then(bif (decide ((Int.tmod k 64)<0))then(none)else(let t:=(ay .and .u64 (bO .u64 (a (Int.toNat (i64.wrap (Int.tdiv k 64)))) (Int.tmod k 64)) 1);some (i64.wrap t)))else(none)))
def Ay:=veil Tn
theorem Tp:Ay=Tn:=aj _
abbrev a2G(limbs:Int)(by_:Int)(i:Int)(a:NI)(t:NI)(out:NI):=(((),((),((),(limbs,(by_,(i,())))))),(a,(t,(out,()))))
abbrev YI(t:NI)(out:NI):=(((),((),())),(t,(out,())))
abbrev Tq:Type:=((Unit×(Unit×(Unit×(Int×(Int×Z02)))))×(NI×Z05))
def ow:Tq->Option (Tq⊕(Z0h×Z05)):=λx=>let limbs:=x.1.2.2.2.1;let by_:=x.1.2.2.2.2.1;let i:=x.1.2.2.2.2.2.1;let a:=x.2.1;let t:=x.2.2.1;let out:=x.2.2.2.1;bif (decide (i<4))then(bif (inb (i64.wrap (i-limbs)) 4)then(bif (decide (by_<0))then(none)else(bif (inb i 4)then(bif (decide (i>limbs))then(bif (inb i 4)then(let t1:=((upd out (Int.toNat i) (iE .u64 (a (Int.toNat (i64.wrap (i-limbs)))) by_)) (Int.toNat i));bif (inb (i64.wrap ((i64.wrap (i-limbs))-1)) 4)then(bif (decide ((i64.wrap (64-by_))<0))then(none)else(let t2:=(bO .u64 (a (Int.toNat (i64.wrap ((i64.wrap (i-limbs))-1)))) (i64.wrap (64-by_)));bif (inb i 4)then(some (.inl (((),((),((),(limbs,(by_,((i64.wrap (i+1)),())))))),(a,(t,((upd (upd out (Int.toNat i) (iE .u64 (a (Int.toNat (i64.wrap (i-limbs)))) by_)) (Int.toNat i) (ay .or .u64 t1 t2)),()))))))else(none)))else(none))else(none))else(some (.inl (((),((),((),(limbs,(by_,((i64.wrap (i+1)),())))))),(a,(t,((upd out (Int.toNat i) (iE .u64 (a (Int.toNat (i64.wrap (i-limbs)))) by_)),())))))))else(none)))else(none))else(some (.inr (((),((),())),(t,(out,())))))
def YJ(a:NI)(k:Int):Option (NI):=bif (decide (k<1))then(some a)else(bif (decide (k>=256))then(some (λ_=>0))else(match(au ow (((),((),((),((i64.wrap (Int.tdiv k 64)),((Int.tmod k 64),((i64.wrap (Int.tdiv k 64)),())))))),(a,((λ_=>0),((λ_=>0),())))))with|none=>none|some y=>(let t:=y.2.1;let out:=y.2.2.1;some out)))
def Tt:=veil YJ
theorem XF:Tt=YJ:=aj _
def Tv(a:NI)(b:NI):Option (NI×Int):=match(EH (a 0) (b 0) 0)with|none=>none|some r=>(match(EH (a 1) (b 1) r.2)with|none=>none|some r1=>(match(EH (a 2) (b 2) r1.2)with|none=>none|some r2=>(match(EH (a 3) (b 3) r2.2)with|none=>none|some r3=>(some ((upd (upd (upd (upd (λ_=>0) 0 r.1) 1 r1.1) 2 r2.1) 3 r3.1),(i64.wrap r3.2))))))
def wm:=veil Tv
theorem Tw:wm=Tv:=aj _
def Tx(a:NI)(b:NI):Option (Int):=bif (decide ((a 3)<(b 3)))then(some (-1))else(bif (decide ((a 3)>(b 3)))then(some 1)else(bif (decide ((a 2)<(b 2)))then(some (-1))else(bif (decide ((a 2)>(b 2)))then(some 1)else(bif (decide ((a 1)<(b 1)))then(some (-1))else(bif (decide ((a 1)>(b 1)))then(some 1)else(bif (decide ((a 0)<(b 0)))then(some (-1))else(bif (decide ((a 0)>(b 0)))then(some 1)else(some 0))))))))
def yH:=veil Tx
theorem Tz:yH=Tx:=aj _
def YK(n:Int):Option (NI):=some (upd (λ_=>0) 0 (u64.wrap (if n<0 then 0 else n)))
def bR:=veil YK
theorem XG:bR=YK:=aj _
def TA(a:NI)(b:NI):Option (NI×Int):=match(bG (a 0) (b 0) 0)with|none=>none|some r=>(match(bG (a 1) (b 1) r.2)with|none=>none|some r1=>(match(bG (a 2) (b 2) r1.2)with|none=>none|some r2=>(match(bG (a 3) (b 3) r2.2)with|none=>none|some r3=>(some ((upd (upd (upd (upd (λ_=>0) 0 r.1) 1 r1.1) 2 r2.1) 3 r3.1),(i64.wrap r3.2))))))
def RS:=veil TA
theorem TD:RS=TA:=aj _
def TF(a:NI):Option (Int):=bif ((a 3) !=0)then(match(bits_Len64 (a 3))with|none=>none|some r=>(some (i64.wrap (192+r))))else(bif ((a 2) !=0)then(match(bits_Len64 (a 2))with|none=>none|some r1=>(some (i64.wrap (128+r1))))else(bif ((a 1) !=0)then(match(bits_Len64 (a 1))with|none=>none|some r2=>(some (i64.wrap (64+r2))))else(bif ((a 0) !=0)then(match(bits_Len64 (a 0))with|none=>none|some r3=>(some (i64.wrap (0+r3))))else(some 0))))
def yI:=veil TF
theorem TG:yI=TF:=aj _
abbrev YL(limbs:Int)(by_:Int)(t:Int)(t1:Int)(a:NI)(t2:NI)(out:NI):=(((),((),((),(limbs,(by_,(t,(t1,()))))))),(a,(t2,(out,()))))
abbrev TH(t:NI)(out:NI):=(((),((),())),(t,(out,())))
abbrev MI:Type:=((Unit×(Unit×(Unit×Z0e)))×(NI×Z05))
def lJ:MI->Option (MI⊕(Z0h×Z05)):=λx=>let limbs:=x.1.2.2.2.1;let by_:=x.1.2.2.2.2.1;let t:=x.1.2.2.2.2.2.1;let t1:=x.1.2.2.2.2.2.2.1;let a:=x.2.1;let t2:=x.2.2.1;let out:=x.2.2.2.1;bif (decide (t1<t))then(bif (inb (i64.wrap (t1+limbs)) 4)then(bif (decide (by_<0))then(none)else(bif (inb t1 4)then(bif (decide ((i64.wrap ((i64.wrap (t1+limbs))+1))<4))then(bif (inb t1 4)then(let t3:=((upd out (Int.toNat t1) (bO .u64 (a (Int.toNat (i64.wrap (t1+limbs)))) by_)) (Int.toNat t1));bif (inb (i64.wrap ((i64.wrap (t1+limbs))+1)) 4)then(bif (decide ((i64.wrap (64-by_))<0))then(none)else(let t4:=(iE .u64 (a (Int.toNat (i64.wrap ((i64.wrap (t1+limbs))+1)))) (i64.wrap (64-by_)));bif (inb t1 4)then(some (.inl (((),((),((),(limbs,(by_,(t,((i64.wrap (t1+1)),()))))))),(a,(t2,((upd (upd out (Int.toNat t1) (bO .u64 (a (Int.toNat (i64.wrap (t1+limbs)))) by_)) (Int.toNat t1) (ay .or .u64 t3 t4)),()))))))else(none)))else(none))else(none))else(some (.inl (((),((),((),(limbs,(by_,(t,((i64.wrap (t1+1)),()))))))),(a,(t2,((upd out (Int.toNat t1) (bO .u64 (a (Int.toNat (i64.wrap (t1+limbs)))) by_)),())))))))else(none)))else(none))else(some (.inr (((),((),())),(t2,(out,())))))
def OQ(a:NI)(k:Int):Option (NI):=bif (decide (k<1))then(some a)else(bif (decide (k>=256))then(some (λ_=>0))else(match(au lJ (((),((),((),((i64.wrap (Int.tdiv k 64)),((Int.tmod k 64),((i64.wrap (4-(i64.wrap (Int.tdiv k 64)))),(0,()))))))),(a,((λ_=>0),((λ_=>0),())))))with|none=>none|some y=>(let t:=y.2.1;let out:=y.2.2.1;some out)))
def G7:=veil OQ
theorem Qm:G7=OQ:=aj _
def TJ(a:NI):Option (Int×Bool):=bif (!(eqF (.arr 4 (.int .u64)) a (upd (λ_=>0) 0 (a 0))))then(some (0,false))else(bif (decide ((a 0)>9223372036854775807))then(some (0,false))else(some ((i64.wrap (a 0)),true)))
def MJ:=veil TJ
theorem TK:MJ=TJ:=aj _
abbrev BH(n:Int)(nout:Nat)(out:Nat->Int)(t:Int)(t1:Int)(a:NI):=(((),(n,((nout,out),(t,(t1,()))))),(a,()))
abbrev EI(nout:Nat)(out:Nat->Int):=(((nout,out),()),())
abbrev JH:Type:=(Z0B×(NI×Unit))
def mU:JH->Option (JH⊕Z0x):=λx=>let n:=x.1.2.1;let nout:=x.1.2.2.1.1;let out:=x.1.2.2.1.2;let t:=x.1.2.2.2.1;let t1:=x.1.2.2.2.2.1;let a:=x.2.1;bif (decide (t1<t))then(bif (inb (i64.wrap (Int.tdiv t1 8)) 4)then(bif (decide ((i64.wrap (8*(Int.tmod t1 8)))<0))then(none)else(let t2:=(bO .u64 (a (Int.toNat (i64.wrap (Int.tdiv t1 8)))) (i64.wrap (8*(Int.tmod t1 8))));bif (inb (i64.wrap ((i64.wrap (n-1))-t1)) nout)then(some (.inl (((),(n,((nout,(upd out (0+(Int.toNat (i64.wrap ((i64.wrap (n-1))-t1)))) (u8.wrap t2))),(t,((i64.wrap (t1+1)),()))))),(a,()))))else(none)))else(none))else(some (.inr (((nout,out),()),())))
def L9(a:NI):Option Z0E:=match(yI a)with|none=>none|some r=>(bif ((((decide (0<=(i64.wrap (Int.tdiv (i64.wrap (r+7)) 8))))&&(decide ((i64.wrap (Int.tdiv (i64.wrap (r+7)) 8))<=(i64.wrap (Int.tdiv (i64.wrap (r+7)) 8)))))&&(decide ((((1:Nat):Int)*(i64.wrap (Int.tdiv (i64.wrap (r+7)) 8)))<=281474976710656)))&&(decide ((i64.wrap (Int.tdiv (i64.wrap (r+7)) 8))<=9223372036854775807)))then(match(au mU (((),((i64.wrap (Int.tdiv (i64.wrap (r+7)) 8)),(((Int.toNat (i64.wrap (Int.tdiv (i64.wrap (r+7)) 8))),(λ_=>0)),((i64.wrap (Int.tdiv (i64.wrap (r+7)) 8)),(0,()))))),(a,())))with|none=>none|some y=>(let nout:=y.1.1.1;let out:=y.1.1.2;some (bytesOf nout (λj=>out (0+j)))))else(none))
def IB:=veil L9
theorem MK:IB=L9:=aj _
open Go.IntKind (i64 u64 u32 u8)
def OT(a:NI)(b:NI):Option (NI×NI):=match(bits_Mul64 (a 0) (b 0))with|none=>none|some r=>(match(bG r.2 0 0)with|none=>none|some r1=>(match(bG r1.1 0 0)with|none=>none|some r2=>(match(bits_Mul64 (a 0) (b 1))with|none=>none|some r3=>(match(bG r3.2 0 0)with|none=>none|some r4=>(match(bG r4.1 (u64.wrap ((u64.wrap (r.1+r1.2))+r2.2)) 0)with|none=>none|some r5=>(match(bits_Mul64 (a 0) (b 2))with|none=>none|some r6=>(match(bG r6.2 0 0)with|none=>none|some r7=>(match(bG r7.1 (u64.wrap ((u64.wrap (r3.1+r4.2))+r5.2)) 0)with|none=>none|some r8=>(match(bits_Mul64 (a 0) (b 3))with|none=>none|some r9=>(match(bG r9.2 0 0)with|none=>none|some r10=>(match(bG r10.1 (u64.wrap ((u64.wrap (r6.1+r7.2))+r8.2)) 0)with|none=>none|some r11=>(match(bits_Mul64 (a 1) (b 0))with|none=>none|some r12=>(match(bG r12.2 r5.1 0)with|none=>none|some r13=>(match(bG r13.1 0 0)with|none=>none|some r14=>(match(bits_Mul64 (a 1) (b 1))with|none=>none|some r15=>(match(bG r15.2 r8.1 0)with|none=>none|some r16=>(match(bG r16.1 (u64.wrap ((u64.wrap (r12.1+r13.2))+r14.2)) 0)with|none=>none|some r17=>(match(bits_Mul64 (a 1) (b 2))with|none=>none|some r18=>(match(bG r18.2 r11.1 0)with|none=>none|some r19=>(match(bG r19.1 (u64.wrap ((u64.wrap (r15.1+r16.2))+r17.2)) 0)with|none=>none|some r20=>(match(bits_Mul64 (a 1) (b 3))with|none=>none|some r21=>(match(bG r21.2 (u64.wrap ((u64.wrap (r9.1+r10.2))+r11.2)) 0)with|none=>none|some r22=>(match(bG r22.1 (u64.wrap ((u64.wrap (r18.1+r19.2))+r20.2)) 0)with|none=>none|some r23=>(match(bits_Mul64 (a 2) (b 0))with|none=>none|some r24=>(match(bG r24.2 r17.1 0)with|none=>none|some r25=>(match(bG r25.1 0 0)with|none=>none|some r26=>(match(bits_Mul64 (a 2) (b 1))with|none=>none|some r27=>(match(bG r27.2 r20.1 0)with|none=>none|some r28=>(match(bG r28.1 (u64.wrap ((u64.wrap (r24.1+r25.2))+r26.2)) 0)with|none=>none|some r29=>(match(bits_Mul64 (a 2) (b 2))with|none=>none|some r30=>(match(bG r30.2 r23.1 0)with|none=>none|some r31=>(match(bG r31.1 (u64.wrap ((u64.wrap (r27.1+r28.2))+r29.2)) 0)with|none=>none|some r32=>(match(bits_Mul64 (a 2) (b 3))with|none=>none|some r33=>(match(bG r33.2 (u64.wrap ((u64.wrap (r21.1+r22.2))+r23.2)) 0)with|none=>none|some r34=>(match(bG r34.1 (u64.wrap ((u64.wrap (r30.1+r31.2))+r32.2)) 0)with|none=>none|some r35=>(match(bits_Mul64 (a 3) (b 0))with|none=>none|some r36=>(match(bG r36.2 r29.1 0)with|none=>none|some r37=>(match(bG r37.1 0 0)with|none=>none|some r38=>(match(bits_Mul64 (a 3) (b 1))with|none=>none|some r39=>(match(bG r39.2 r32.1 0)with|none=>none|some r40=>(match(bG r40.1 (u64.wrap ((u64.wrap (r36.1+r37.2))+r38.2)) 0)with|none=>none|some r41=>(match(bits_Mul64 (a 3) (b 2))with|none=>none|some r42=>(match(bG r42.2 r35.1 0)with|none=>none|some r43=>(match(bG r43.1 (u64.wrap ((u64.wrap (r39.1+r40.2))+r41.2)) 0)with|none=>none|some r44=>(match(bits_Mul64 (a 3) (b 3))with|none=>none|some r45=>(match(bG r45.2 (u64.wrap ((u64.wrap (r33.1+r34.2))+r35.2)) 0)with|none=>none|some r46=>(match(bG r46.1 (u64.wrap ((u64.wrap (r42.1+r43.2))+r44.2)) 0)with|none=>none|some r47=>(some ((λj=>(upd (upd (upd (upd (upd (upd (upd (upd (upd (upd (upd (upd (upd (upd (upd (upd (upd (upd (upd (upd (λ_=>0) 0 r2.1) 1 r5.1) 2 r8.1) 3 r11.1) 4 (u64.wrap ((u64.wrap (r9.1+r10.2))+r11.2))) 1 r14.1) 2 r17.1) 3 r20.1) 4 r23.1) 5 (u64.wrap ((u64.wrap (r21.1+r22.2))+r23.2))) 2 r26.1) 3 r29.1) 4 r32.1) 5 r35.1) 6 (u64.wrap ((u64.wrap (r33.1+r34.2))+r35.2))) 3 r38.1) 4 r41.1) 5 r44.1) 6 r47.1) 7 (u64.wrap ((u64.wrap (r45.1+r46.2))+r47.2))) (0+j)),(λj=>(upd (upd (upd (upd (upd (upd (upd (upd (upd (upd (upd (upd (upd (upd (upd (upd (upd (upd (upd (upd (λ_=>0) 0 r2.1) 1 r5.1) 2 r8.1) 3 r11.1) 4 (u64.wrap ((u64.wrap (r9.1+r10.2))+r11.2))) 1 r14.1) 2 r17.1) 3 r20.1) 4 r23.1) 5 (u64.wrap ((u64.wrap (r21.1+r22.2))+r23.2))) 2 r26.1) 3 r29.1) 4 r32.1) 5 r35.1) 6 (u64.wrap ((u64.wrap (r33.1+r34.2))+r35.2))) 3 r38.1) 4 r41.1) 5 r44.1) 6 r47.1) 7 (u64.wrap ((u64.wrap (r45.1+r46.2))+r47.2))) (4+j)))))))))))))))))))))))))))))))))))))))))))))))))))
def CF:=veil OT
theorem Qn:CF=OT:=aj _
def G8(a:NI)(left_:Int)(m:Int):Option (NI×NI):=match(ou left_ (a 3) m)with|none=>none|some r=>(match(ou r.2 (a 2) m)with|none=>none|some r1=>(match(ou r1.2 (a 1) m)with|none=>none|some r2=>(match(ou r2.2 (a 0) m)with|none=>none|some r3=>(some ((upd (upd (upd (upd (λ_=>0) 3 r.1) 2 r1.1) 1 r2.1) 0 r3.1),(upd (λ_=>0) 0 r3.2))))))
def DI:=veil G8
theorem JI:DI=G8:=aj _
abbrev Rn(t:Int)(a:NI)(left_:NI)(m:NI)(t1:NI)(t2:NI)(q:NI):=(((),((),((),((),((),((),(t,()))))))),(a,(left_,(m,(t1,(t2,(q,())))))))
abbrev ML(left_:NI)(t:NI)(t1:NI)(q:NI):=(((),((),((),((),())))),(left_,(t,(t1,(q,())))))
abbrev EJ:Type:=((Unit×(Unit×Z0v))×(NI×(NI×Z0t)))
def fE:EJ->Option (EJ⊕((Unit×(Unit×Z0h))×Z0t)):=λx=>let t:=x.1.2.2.2.2.2.2.1;let a:=x.2.1;let left_:=x.2.2.1;let m:=x.2.2.2.1;let t1:=x.2.2.2.2.1;let t2:=x.2.2.2.2.2.1;let q:=x.2.2.2.2.2.2.1;bif (decide (t<256))then(match(Ay left_ 255)with|none=>none|some r=>(match(Tt left_ 1)with|none=>none|some r1=>(match(Ay a (i64.wrap (255-t)))with|none=>none|some r2=>(bif (r==1)then(match(wm (upd r1 0 (ay .or .u64 (r1 0) (u64.wrap r2))) m)with|none=>none|some r3=>(bif (inb (i64.wrap (Int.tdiv (i64.wrap (255-t)) 64)) 4)then(bif (decide ((Int.tmod (i64.wrap (255-t)) 64)<0))then(none)else(let t3:=(ay .or .u64 (q (Int.toNat (i64.wrap (Int.tdiv (i64.wrap (255-t)) 64)))) (iE .u64 1 (Int.tmod (i64.wrap (255-t)) 64)));bif (inb (i64.wrap (Int.tdiv (i64.wrap (255-t)) 64)) 4)then(some (.inl (((),((),((),((),((),((),((i64.wrap (t+1)),()))))))),(a,(r3.1,(m,(t1,(t2,((upd q (Int.toNat (i64.wrap (Int.tdiv (i64.wrap (255-t)) 64))) t3),())))))))))else(none)))else(none)))else(match(yH (upd r1 0 (ay .or .u64 (r1 0) (u64.wrap r2))) m)with|none=>none|some r4=>(bif (decide (r4>=0))then(match(wm (upd r1 0 (ay .or .u64 (r1 0) (u64.wrap r2))) m)with|none=>none|some r5=>(bif (inb (i64.wrap (Int.tdiv (i64.wrap (255-t)) 64)) 4)then(bif (decide ((Int.tmod (i64.wrap (255-t)) 64)<0))then(none)else(let t4:=(ay .or .u64 (q (Int.toNat (i64.wrap (Int.tdiv (i64.wrap (255-t)) 64)))) (iE .u64 1 (Int.tmod (i64.wrap (255-t)) 64)));bif (inb (i64.wrap (Int.tdiv (i64.wrap (255-t)) 64)) 4)then(some (.inl (((),((),((),((),((),((),((i64.wrap (t+1)),()))))))),(a,(r5.1,(m,(t1,(t2,((upd q (Int.toNat (i64.wrap (Int.tdiv (i64.wrap (255-t)) 64))) t4),())))))))))else(none)))else(none)))else(some (.inl (((),((),((),((),((),((),((i64.wrap (t+1)),()))))))),(a,((upd r1 0 (ay .or .u64 (r1 0) (u64.wrap r2))),(m,(t1,(t2,(q,())))))))))))))))else(some (.inr (((),((),((),((),())))),(left_,(t1,(t2,(q,())))))))
def DJ(a:NI)(left_:NI)(m:NI):Option (NI×NI):=bif (eqF (.arr 4 (.int .u64)) m (upd (λ_=>0) 0 (m 0)))then(match(DI a (left_ 0) (m 0))with|none=>none|some r=>(some (r.1,r.2)))else(match(au fE (((),((),((),((),((),((),(0,()))))))),(a,(left_,(m,((λ_=>0),((λ_=>0),((λ_=>0),()))))))))with|none=>none|some y=>(let left_1:=y.2.1;let t:=y.2.2.1;let t1:=y.2.2.2.1;let q:=y.2.2.2.2.1;some (q,left_1)))
def su:=veil DJ
theorem G9:su=DJ:=aj _
def OV(low:NI)(high:NI)(m:NI):Option (NI×Int):=bif (eqF (.arr 4 (.int .u64)) m (λ_=>0))then(some ((λ_=>0),1))else(match(su high (λ_=>0) m)with|none=>none|some r=>(match(su low r.2 m)with|none=>none|some r1=>(some (r1.2,0))))
def sZ:=veil OV
theorem Qo:sZ=OV:=aj _
def OW(a:NI)(b:NI):Option (NI×NI×Int):=bif (eqF (.arr 4 (.int .u64)) b (λ_=>0))then(some ((λ_=>0),(λ_=>0),1))else(match(su a (λ_=>0) b)with|none=>none|some r=>(some (r.1,r.2,0)))
def CG:=veil OW
theorem Qp:CG=OW:=aj _
def DK(a:NI)(b:NI)(m:NI):Option (NI×Int):=match(CF a b)with|none=>none|some r=>(match(sZ r.1 r.2 m)with|none=>none|some r1=>(some (r1.1,r1.2)))
def Az:=veil DK
theorem Ga:Az=DK:=aj _
def DL(a:NI)(b:NI)(m:NI):Option (NI×Int):=match(sZ a (λ_=>0) m)with|none=>none|some r=>(bif (r.2 !=0)then(some ((λ_=>0),r.2))else(match(sZ b (λ_=>0) m)with|none=>none|some r1=>(match(wm r.1 r1.1)with|none=>none|some r2=>(bif (r2.2==1)then(match(RS r2.1 m)with|none=>none|some r3=>(some (r3.1,0)))else(some (r2.1,0))))))
def oz:=veil DL
theorem Gb:oz=DL:=aj _
abbrev MO(a:NI)(b:NI)(t:NI):=(((),((),((),()))),(a,(b,(t,()))))
abbrev TL(a:NI)(t:NI):=(((),((),())),(a,(t,())))
abbrev MP:Type:=((Unit×Z0h)×(NI×Z05))
def lK:MP->Option (MP⊕(Z0h×Z05)):=λx=>let a:=x.2.1;let b:=x.2.2.1;let t:=x.2.2.2.1;bif (!(eqF (.arr 4 (.int .u64)) b (λ_=>0)))then(match(CG a b)with|none=>none|some r=>(some (.inl (((),((),((),()))),(b,(r.2.1,(t,())))))))else(some (.inr (((),((),())),(a,(t,())))))
def OX(a:NI)(b:NI):Option (NI):=match(au lK (((),((),((),()))),(a,(b,((λ_=>0),())))))with|none=>none|some y=>(let a1:=y.2.1;let t:=y.2.2.1;some a1)
def zw:=veil OX
theorem Qq:zw=OX:=aj _
open Go.IntKind (i64 u64 u32 u8)
def OY(m:NI):Option (Z0l×Int):=bif ((ay .and .u64 (m 0) 1)==0)then(some (none,1))else(match(bR 1)with|none=>none|some r=>(bif (eqF (.arr 4 (.int .u64)) m r)then(some (none,1))else(let t:=(u64.wrap ((m 0)*(u64.wrap (2-(u64.wrap ((m 0)*(m 0)))))));let t1:=(u64.wrap ((m 0)*(u64.wrap (t*(u64.wrap (2-(u64.wrap ((m 0)*t))))))));let t2:=(u64.wrap ((u64.wrap (t*(u64.wrap (2-(u64.wrap ((m 0)*t))))))*(u64.wrap (2-t1))));let t3:=(u64.wrap ((m 0)*(u64.wrap (t2*(u64.wrap (2-(u64.wrap ((m 0)*t2))))))));let t4:=(u64.wrap ((u64.wrap (t2*(u64.wrap (2-(u64.wrap ((m 0)*t2))))))*(u64.wrap (2-t3))));match(bR 1)with|none=>none|some r1=>(match(sZ (λ_=>0) r1 m)with|none=>none|some r2=>(match(Az r2.1 r2.1 m)with|none=>none|some r3=>(some ((some (m,((u64.wrap (0-t4)),(r2.1,r3.1)))),0)))))))
def wS:=veil OY
theorem Qr:wS=OY:=aj _
def pK(r:Z0l):Option (Bool):=match r with|none=>(some false)|some r0=>(some (r0.2.1 !=0))
def bL:=veil pK
theorem lM:bL=pK:=aj _
def tu(r:Z0l)(a:NI):Option (NI):=match r with|none=>(none)|some r0=>(match(yH a r0.1)with|none=>none|some r1=>(bif (decide (r1<0))then(some a)else(match(sZ a (λ_=>0) r0.1)with|none=>none|some r2=>(some r2.1))))
def qG:=veil tu
theorem CJ:qG=tu:=aj _
def La(t:NI)(x:Int)(b:NI):Option (NI):=match(bits_Mul64 x (b 0))with|none=>none|some r=>(match(bG r.2 (t 0) 0)with|none=>none|some r1=>(match(bG r1.1 0 0)with|none=>none|some r2=>(match(bits_Mul64 x (b 1))with|none=>none|some r3=>(match(bG r3.2 (t 1) 0)with|none=>none|some r4=>(match(bG r4.1 (u64.wrap ((u64.wrap (r.1+r1.2))+r2.2)) 0)with|none=>none|some r5=>(match(bits_Mul64 x (b 2))with|none=>none|some r6=>(match(bG r6.2 (t 2) 0)with|none=>none|some r7=>(match(bG r7.1 (u64.wrap ((u64.wrap (r3.1+r4.2))+r5.2)) 0)with|none=>none|some r8=>(match(bits_Mul64 x (b 3))with|none=>none|some r9=>(match(bG r9.2 (t 3) 0)with|none=>none|some r10=>(match(bG r10.1 (u64.wrap ((u64.wrap (r6.1+r7.2))+r8.2)) 0)with|none=>none|some r11=>(match(bG (t 4) (u64.wrap ((u64.wrap (r9.1+r10.2))+r11.2)) 0)with|none=>none|some r12=>(some (upd (upd (upd (upd (upd (upd t 0 r2.1) 1 r5.1) 2 r8.1) 3 r11.1) 4 r12.1) 5 (u64.wrap ((t 5)+r12.2))))))))))))))))
def iG:=veil La
theorem MQ:iG=La:=aj _
def qZ(r:Z0l)(a:NI)(b:NI):Option (NI):=match r with|none=>(match(iG (λ_=>0) (a 0) b)with|none=>none|some r12=>(none))|some r0=>(match(iG (λ_=>0) (a 0) b)with|none=>none|some r1=>(match(iG r1 (u64.wrap ((r1 0)*r0.2.1)) r0.1)with|none=>none|some r2=>(match(iG (upd (sO r2 0 5 (λj=>r2 (1+j))) 5 0) (a 1) b)with|none=>none|some r3=>(match(iG r3 (u64.wrap ((r3 0)*r0.2.1)) r0.1)with|none=>none|some r4=>(match(iG (upd (sO r4 0 5 (λj=>r4 (1+j))) 5 0) (a 2) b)with|none=>none|some r5=>(match(iG r5 (u64.wrap ((r5 0)*r0.2.1)) r0.1)with|none=>none|some r6=>(match(iG (upd (sO r6 0 5 (λj=>r6 (1+j))) 5 0) (a 3) b)with|none=>none|some r7=>(match(iG r7 (u64.wrap ((r7 0)*r0.2.1)) r0.1)with|none=>none|some r8=>(bif ((r8 5) !=0)then(match(wm (λj=>(upd (sO r8 0 5 (λj=>r8 (1+j))) 5 0) (0+j)) r0.1)with|none=>none|some r9=>(some r9.1))else(match(yH (λj=>(upd (sO r8 0 5 (λj=>r8 (1+j))) 5 0) (0+j)) r0.1)with|none=>none|some r10=>(bif (decide (r10>=0))then(match(wm (λj=>(upd (sO r8 0 5 (λj=>r8 (1+j))) 5 0) (0+j)) r0.1)with|none=>none|some r11=>(some r11.1))else(some (λj=>(upd (sO r8 0 5 (λj=>r8 (1+j))) 5 0) (0+j))))))))))))))
def bS:=veil qZ
theorem AA:bS=qZ:=aj _
def ru(r:Z0l)(a:NI):Option (NI):=match r with|none=>(match(bL none)with|none=>none|some r4=>(bif (!r4)then(some (λ_=>0))else(match(qG none a)with|none=>none|some r5=>(none))))|some r0=>(match(bL (some r0))with|none=>none|some r1=>(bif (!r1)then(some (λ_=>0))else(match(qG (some r0) a)with|none=>none|some r2=>(match(bS (some r0) r2 r0.2.2.2)with|none=>none|some r3=>(some r3)))))
def oC:=veil ru
theorem AB:oC=ru:=aj _
abbrev Gc(r:Z00)(k:Int)(t:(Nat->NI))(out:(Nat->NI))(form:NI):=((r,((),((),((),(k,()))))),(t,(out,(form,()))))
abbrev DN(t:(Nat->NI))(out:(Nat->NI)):=(((),((),())),(t,(out,())))
abbrev wT:Type:=((Z00×(Unit×Z0k))×((Nat->NI)×((Nat->NI)×(NI×Unit))))
def eB:wT->Option (wT⊕(Z0h×((Nat->NI)×((Nat->NI)×Unit)))):=λx=>let r:=x.1.1;let k:=x.1.2.2.2.2.1;let t:=x.2.1;let out:=x.2.2.1;let form:=x.2.2.2.1;bif (decide (k<16))then(bif (inb (i64.wrap (k-1)) 16)then(match(bS (some r) (out (Int.toNat (i64.wrap (k-1)))) form)with|none=>none|some r1=>(bif (inb k 16)then(some (.inl ((r,((),((),((),((i64.wrap (k+1)),()))))),(t,((upd out (Int.toNat k) r1),(form,()))))))else(none)))else(none))else(some (.inr (((),((),())),(t,(out,())))))
def nK(r:Z0l)(a:NI):Option ((Nat->NI)):=match r with|none=>(match(oC none a)with|none=>none|some r2=>(none))|some r0=>(match(oC (some r0) a)with|none=>none|some r1=>(match(au eB ((r0,((),((),((),(1,()))))),((λ_=>(λ_=>0)),((upd (λ_=>(λ_=>0)) 0 r0.2.2.1),(r1,())))))with|none=>none|some y=>(let t:=y.2.1;let out:=y.2.2.1;some out)))
def pO:=veil nK
theorem xY:pO=nK:=aj _
def tC(e:NI)(at_:Int):Option (Int):=match(G7 e at_)with|none=>none|some r=>(match(Tt r 252)with|none=>none|some r1=>(match(G7 r1 252)with|none=>none|some r2=>(match(MJ r2)with|none=>none|some r3=>(some r3.1))))
def pQ:=veil tC
theorem xZ:pQ=tC:=aj _
abbrev Lb(r:Z00)(nexps:Nat)(exps:Nat->NI)(ntables:Nat)(tables:Nat->(Nat->NI))(longest:Int)(nt:Nat)(t:Nat->NI)(t1:Int)(t2:Int)(t3:NI):=((r,((nexps,exps),((),((ntables,tables),(longest,((nt,t),(t1,(t2,())))))))),(t3,()))
abbrev Gd(r:Z00)(nexps:Nat)(exps:Nat->NI)(ntables:Nat)(tables:Nat->(Nat->NI))(longest:Int)(t:NI):=((r,((nexps,exps),((),((ntables,tables),(longest,()))))),(t,()))
abbrev zx:Type:=((Z00×(Z0d×(Unit×(Z0y×(Int×(Z0d×(Int×Z02)))))))×(NI×Unit))
def gq:zx->Option (zx⊕((Z00×(Z0d×(Unit×(Z0y×Z02))))×(NI×Unit))):=λx=>let r:=x.1.1;let nexps:=x.1.2.1.1;let exps:=x.1.2.1.2;let ntables:=x.1.2.2.2.1.1;let tables:=x.1.2.2.2.1.2;let longest:=x.1.2.2.2.2.1;let nt:=x.1.2.2.2.2.2.1.1;let t:=x.1.2.2.2.2.2.1.2;let t1:=x.1.2.2.2.2.2.2.1;let t2:=x.1.2.2.2.2.2.2.2.1;let t3:=x.2.1;bif (decide (t2<t1))then(bif (inb t2 nt)then(match(pO (some r) (t (Int.toNat t2)))with|none=>none|some r1=>(bif ((Nat.ble ((ntables+1)*512) 140737488355328)&&(Nat.ble (ntables+1) 9223372036854775807))then(bif (inb t2 nexps)then(match(yI (exps (Int.toNat t2)))with|none=>none|some r2=>(some (.inl ((r,((nexps,exps),((),(((ntables+1),(glue ntables tables (λj=>(upd (λ_=>(λ_=>(λ_=>0))) 0 r1) (0+j)))),((if longest<r2 then r2 else longest),((nt,t),(t1,((i64.wrap (t2+1)),())))))))),(t3,())))))else(none))else(none)))else(none))else(some (.inr ((r,((nexps,exps),((),((ntables,tables),(longest,()))))),(t3,()))))
abbrev rE(r:Z00)(nexps:Nat)(exps:Nat->NI)(ntables:Nat)(tables:Nat->(Nat->NI))(at_:Int)(nt:Nat)(t:Nat->NI)(t1:Int)(t2:Int)(t3:NI)(out:NI):=((r,((nexps,exps),((),((ntables,tables),((),((),(at_,((nt,t),(t1,(t2,())))))))))),(t3,(out,())))
abbrev Gf(r:Z00)(nexps:Nat)(exps:Nat->NI)(ntables:Nat)(tables:Nat->(Nat->NI))(at_:Int)(t:NI)(out:NI):=((r,((nexps,exps),((),((ntables,tables),((),((),(at_,()))))))),(t,(out,())))
abbrev zy:Type:=((Z00×(Z0d×(Unit×(Z0y×(Unit×(Unit×(Int×(Z0d×(Int×Z02)))))))))×Z05)
def gu:zy->Option (zy⊕((Z00×(Z0d×(Unit×(Z0y×Z0k))))×Z05)):=λx=>let r:=x.1.1;let nexps:=x.1.2.1.1;let exps:=x.1.2.1.2;let ntables:=x.1.2.2.2.1.1;let tables:=x.1.2.2.2.1.2;let at_:=x.1.2.2.2.2.2.2.1;let nt:=x.1.2.2.2.2.2.2.2.1.1;let t:=x.1.2.2.2.2.2.2.2.1.2;let t1:=x.1.2.2.2.2.2.2.2.2.1;let t2:=x.1.2.2.2.2.2.2.2.2.2.1;let t3:=x.2.1;let out:=x.2.2.1;bif (decide (t2<t1))then(bif (inb t2 nt)then(match(pQ (t (Int.toNat t2)) at_)with|none=>none|some r1=>(bif (inb t2 ntables)then(bif (inb r1 16)then(match(bS (some r) out ((tables (0+(Int.toNat t2))) (Int.toNat r1)))with|none=>none|some r2=>(some (.inl ((r,((nexps,exps),((),((ntables,tables),((),((),(at_,((nt,t),(t1,((i64.wrap (t2+1)),())))))))))),(t3,(r2,()))))))else(none))else(none)))else(none))else(some (.inr ((r,((nexps,exps),((),((ntables,tables),((),((),(at_,()))))))),(t3,(out,())))))
abbrev Lc(r:Z00)(nexps:Nat)(exps:Nat->NI)(ntables:Nat)(tables:Nat->(Nat->NI))(at_:Int)(t:NI)(out:NI):=((r,((nexps,exps),((),((ntables,tables),((),((),(at_,()))))))),(t,(out,())))
abbrev Gg(r:Z00)(t:NI)(out:NI):=((r,((),((),()))),(t,(out,())))
abbrev zA:Type:=((Z00×(Z0d×(Unit×(Z0y×Z0k))))×Z05)
def eu:zA->Option (zA⊕((Z00×Z0h)×Z05)):=λx=>let r:=x.1.1;let nexps:=x.1.2.1.1;let exps:=x.1.2.1.2;let ntables:=x.1.2.2.2.1.1;let tables:=x.1.2.2.2.1.2;let at_:=x.1.2.2.2.2.2.2.1;let t:=x.2.1;let out:=x.2.2.1;bif (decide (at_>0))then(match(bS (some r) out out)with|none=>none|some r1=>(match(bS (some r) r1 r1)with|none=>none|some r2=>(match(bS (some r) r2 r2)with|none=>none|some r3=>(match(bS (some r) r3 r3)with|none=>none|some r4=>(match(au gu ((r,((nexps,exps),((),((ntables,tables),((),((),((i64.wrap (at_-4)),((nexps,exps),(((nexps:Nat):Int),(0,())))))))))),(t,(r4,()))))with|none=>none|some y=>(let r5:=y.1.1;let nexps1:=y.1.2.1.1;let exps1:=y.1.2.1.2;let ntables1:=y.1.2.2.2.1.1;let tables1:=y.1.2.2.2.1.2;let at_1:=y.1.2.2.2.2.2.2.1;let t1:=y.2.1;let out1:=y.2.2.1;some (.inl ((r5,((nexps1,exps1),((),((ntables1,tables1),((),((),(at_1,()))))))),(t1,(out1,()))))))))))else(some (.inr ((r,((),((),()))),(t,(out,())))))
def mF(r:Z0l)(nbases:Nat)(bases:Nat->NI)(nexps:Nat)(exps:Nat->NI):Option (NI×Int):=match r with|none=>(match(bL none)with|none=>none|some r6=>(bif (!r6)then(some ((λ_=>0),1))else(bif (((nbases:Nat):Int) !=((nexps:Nat):Int))then(some ((λ_=>0),1))else(bif (decide (((nbases:Nat):Int)>64))then(some ((λ_=>0),1))else(none)))))|some r0=>(match(bL (some r0))with|none=>none|some r1=>(bif (!r1)then(some ((λ_=>0),1))else(bif (((nbases:Nat):Int) !=((nexps:Nat):Int))then(some ((λ_=>0),1))else(bif (decide (((nbases:Nat):Int)>64))then(some ((λ_=>0),1))else(match(au gq ((r0,((nexps,exps),((),((0,(λ_=>(λ_=>(λ_=>0)))),(0,((nbases,bases),(((nbases:Nat):Int),(0,())))))))),((λ_=>0),())))with|none=>none|some y=>(let r2:=y.1.1;let nexps1:=y.1.2.1.1;let exps1:=y.1.2.1.2;let ntables:=y.1.2.2.2.1.1;let tables:=y.1.2.2.2.1.2;let longest:=y.1.2.2.2.2.1;let t:=y.2.1;match(au eu ((r2,((nexps1,exps1),((),((ntables,tables),((),((),((i64.wrap ((i64.wrap (Int.tdiv (i64.wrap ((i64.wrap (longest+4))-1)) 4))*4)),()))))))),(t,(r2.2.2.1,()))))with|none=>none|some y1=>(let r3:=y1.1.1;let t1:=y1.2.1;let out:=y1.2.2.1;match(bR 1)with|none=>none|some r4=>(match(bS (some r3) out r4)with|none=>none|some r5=>(some (r5,0))))))))))
def dO:=veil mF
theorem tF:dO=mF:=aj _
def tH(r:Z0l)(a:NI)(e:NI):Option (NI):=match r with|none=>(match(dO none 1 (λj=>(upd (λ_=>(λ_=>0)) 0 a) (0+j)) 1 (λj=>(upd (λ_=>(λ_=>0)) 0 e) (0+j)))with|none=>none|some r2=>(some r2.1))|some r0=>(match(dO (some r0) 1 (λj=>(upd (λ_=>(λ_=>0)) 0 a) (0+j)) 1 (λj=>(upd (λ_=>(λ_=>0)) 0 e) (0+j)))with|none=>none|some r1=>(some r1.1))
def aP:=veil tH
theorem CK:aP=tH:=aj _
def tJ(r:Z0l):Option (NI):=match r with|none=>(match(bL none)with|none=>none|some r2=>(bif (!r2)then(some (λ_=>0))else(none)))|some r0=>(match(bL (some r0))with|none=>none|some r1=>(bif (!r1)then(some (λ_=>0))else(some r0.1)))
def fF:=veil tJ
theorem zB:fF=tJ:=aj _
def wo(r:Z0l)(a:NI):Option (Bool):=match r with|none=>(match(bL none)with|none=>none|some r3=>(bif r3 then(none)else(some false)))|some r0=>(match(bL (some r0))with|none=>none|some r1=>(bif r1 then(match(yH a r0.1)with|none=>none|some r2=>(some (decide (r2<0))))else(some false)))
def bX:=veil wo
theorem EK:bX=wo:=aj _
open Go.IntKind (i64 u64 u32 u8)
abbrev EL(n:Int)(is_:Bool)(t:Int)(t1:Int):=((n,(is_,(t,(t1,())))),())
abbrev AJ(is_:Bool):=((is_,()),())
abbrev EM:Type:=((Int×(Bool×(Int×Z02)))×Unit)
def dD:EM->Option (EM⊕Z09):=λx=>let n:=x.1.1;let is_:=x.1.2.1;let t:=x.1.2.2.1;let t1:=x.1.2.2.2.1;bif (decide (t1<t))then(bif (decide (t1<2))then(some (.inl ((n,(is_,(t,((i64.wrap (t1+1)),())))),())))else(bif (decide ((i64.wrap (t1*t1))>n))then(some (.inr ((is_,()),())))else(bif (decide (t1=0))then(none)else(bif ((Int.tmod n t1)==0)then(some (.inr ((false,()),())))else(some (.inl ((n,(is_,(t,((i64.wrap (t1+1)),())))),())))))))else(some (.inr ((is_,()),())))
def DR(n:Int):Option (Bool):=bif (decide (n<2))then(some false)else(bif (decide (n>=65536))then(some false)else(match(au dD ((n,(true,(n,(0,())))),()))with|none=>none|some y=>(let is_:=y.1.1;some is_)))
def AL:=veil DR
theorem Gh:AL=DR:=aj _
def Gi(n:NI)(factor:NI)(witness:Int):Option (Bool):=match(wS n)with|none=>none|some r=>(match r.1 with|none=>(bif (r.2 !=0)then(some false)else(bif (decide (witness<2))then(some false)else(bif (decide (witness>=65536))then(some false)else(bif (eqF (.arr 4 (.int .u64)) factor (λ_=>0))then(some false)else(match(bR 1)with|none=>none|some r22=>(match(wm n r22)with|none=>none|some r23=>(match(CG r23.1 factor)with|none=>none|some r24=>(match(CF factor factor)with|none=>none|some r25=>(bif (!(eqF (.arr 4 (.int .u64)) r24.2.1 (λ_=>0)))then(some false)else(bif (eqF (.arr 4 (.int .u64)) r25.2 (λ_=>0))then(match(yH r25.1 n)with|none=>none|some r26=>(bif (decide (r26<=0))then(some false)else(match(bR witness)with|none=>none|some r27=>(match(aP none r27 r24.1)with|none=>none|some r28=>(match(aP none r28 factor)with|none=>none|some r29=>(match(bR 1)with|none=>none|some r30=>(bif (!(eqF (.arr 4 (.int .u64)) r29 r30))then(some false)else(match(bR 1)with|none=>none|some r31=>(match(oz r28 r31 n)with|none=>none|some r32=>(match(zw r32.1 n)with|none=>none|some r33=>(match(bR 1)with|none=>none|some r34=>(some (eqF (.arr 4 (.int .u64)) r33 r34)))))))))))))else(match(bR witness)with|none=>none|some r35=>(match(aP none r35 r24.1)with|none=>none|some r36=>(match(aP none r36 factor)with|none=>none|some r37=>(match(bR 1)with|none=>none|some r38=>(bif (!(eqF (.arr 4 (.int .u64)) r37 r38))then(some false)else(match(bR 1)with|none=>none|some r39=>(match(oz r36 r39 n)with|none=>none|some r40=>(match(zw r40.1 n)with|none=>none|some r41=>(match(bR 1)with|none=>none|some r42=>(some (eqF (.arr 4 (.int .u64)) r41 r42)))))))))))))))))))))|some p=>(bif (r.2 !=0)then(some false)else(bif (decide (witness<2))then(some false)else(bif (decide (witness>=65536))then(some false)else(bif (eqF (.arr 4 (.int .u64)) factor (λ_=>0))then(some false)else(match(bR 1)with|none=>none|some r1=>(match(wm n r1)with|none=>none|some r2=>(match(CG r2.1 factor)with|none=>none|some r3=>(match(CF factor factor)with|none=>none|some r4=>(bif (!(eqF (.arr 4 (.int .u64)) r3.2.1 (λ_=>0)))then(some false)else(bif (eqF (.arr 4 (.int .u64)) r4.2 (λ_=>0))then(match(yH r4.1 n)with|none=>none|some r5=>(bif (decide (r5<=0))then(some false)else(match(bR witness)with|none=>none|some r6=>(match(aP (some p) r6 r3.1)with|none=>none|some r7=>(match(aP (some p) r7 factor)with|none=>none|some r8=>(match(bR 1)with|none=>none|some r9=>(bif (!(eqF (.arr 4 (.int .u64)) r8 r9))then(some false)else(match(bR 1)with|none=>none|some r10=>(match(oz r7 r10 n)with|none=>none|some r11=>(match(zw r11.1 n)with|none=>none|some r12=>(match(bR 1)with|none=>none|some r13=>(some (eqF (.arr 4 (.int .u64)) r12 r13)))))))))))))else(match(bR witness)with|none=>none|some r14=>(match(aP (some p) r14 r3.1)with|none=>none|some r15=>(match(aP (some p) r15 factor)with|none=>none|some r16=>(match(bR 1)with|none=>none|some r17=>(bif (!(eqF (.arr 4 (.int .u64)) r16 r17))then(some false)else(match(bR 1)with|none=>none|some r18=>(match(oz r15 r18 n)with|none=>none|some r19=>(match(zw r19.1 n)with|none=>none|some r20=>(match(bR 1)with|none=>none|some r21=>(some (eqF (.arr 4 (.int .u64)) r20 r21))))))))))))))))))))))
def DT:=veil Gi
theorem JJ:DT=Gi:=aj _
abbrev EN(nl:Nat)(l:Nat->(NI×Int))(k:Int):=(((nl,l),(k,())),())
abbrev xH:Type:=((Z02×Unit)⊕Z07)
abbrev AO(t:Int):xH:=(.inl ((t,()),()))
abbrev AP:xH:=(.inr ((),()))
abbrev EO:Type:=(((Nat×(Nat->(NI×Int)))×Z02)×Unit)
def fG:EO->Option (EO⊕xH):=λx=>let nl:=x.1.1.1;let l:=x.1.1.2;let k:=x.1.2.1;bif (decide (k<((nl:Nat):Int)))then(bif (inb k nl)then(bif (inb (i64.wrap (k-1)) nl)then(bif (inb k nl)then(match(DT (l (Int.toNat k)).1 (l (Int.toNat (i64.wrap (k-1)))).1 (l (Int.toNat k)).2)with|none=>none|some r=>(bif (!r)then(some (.inr (.inl ((4,()),()))))else(some (.inl (((nl,l),((i64.wrap (k+1)),())),())))))else(none))else(none))else(none))else(some (.inr (.inr ((),()))))
def DU(nl:Nat)(l:Nat->(NI×Int)):Option (Int):=bif (decide (((nl:Nat):Int)<1))then(some 4)else(bif (decide (((nl:Nat):Int)>8))then(some 4)else(bif (inb 0 nl)then(match(MJ (l 0).1)with|none=>none|some r=>(bif (!r.2)then(some 4)else(match(AL r.1)with|none=>none|some r1=>(bif (!r1)then(some 4)else(bif (inb 0 nl)then(bif ((l 0).2 !=0)then(some 4)else(match(au fG (((nl,l),(1,())),()))with|none=>none|some y=>(match y with| .inl y1=>(let t:=y1.1.1;some t)| .inr y1=>(some 0))))else(none))))))else(none)))
def sw:=veil DU
theorem Gj:sw=DU:=aj _
open Go.IntKind (i64 u64 u32 u8)
def Lf(p:Z0p):Option (Z0u×Int):=bif (decide (((p.1.1:Nat):Int)<2))then(some (none,4))else(match(sw p.1.1 p.1.2)with|none=>none|some r=>(bif (r !=0)then(some (none,4))else(bif (inb (i64.wrap (((p.1.1:Nat):Int)-1)) p.1.1)then(match(wS (p.1.2 (Int.toNat (i64.wrap (((p.1.1:Nat):Int)-1)))).1)with|none=>none|some r1=>(match r1.1 with|none=>(bif (r1.2 !=0)then(some (none,4))else(bif (inb (i64.wrap (((p.1.1:Nat):Int)-2)) p.1.1)then(match(wS (p.1.2 (Int.toNat (i64.wrap (((p.1.1:Nat):Int)-2)))).1)with|none=>none|some r13=>(match r13.1 with|none=>(bif (r13.2 !=0)then(some (none,4))else(match(yI (p.1.2 (Int.toNat (i64.wrap (((p.1.1:Nat):Int)-2)))).1)with|none=>none|some r19=>(bif (decide (r19<10))then(some (none,4))else(bif (eqF (.arr 4 (.int .u64)) p.2 (λ_=>0))then(some (none,4))else(match(bR 1)with|none=>none|some r20=>(bif (eqF (.arr 4 (.int .u64)) p.2 r20)then(some (none,4))else(match(bX none p.2)with|none=>none|some r21=>(bif (!r21)then(some (none,4))else(match(aP none p.2 (p.1.2 (Int.toNat (i64.wrap (((p.1.1:Nat):Int)-2)))).1)with|none=>none|some r22=>(match(bR 1)with|none=>none|some r23=>(bif (!(eqF (.arr 4 (.int .u64)) r22 r23))then(some (none,4))else(some ((some ((.nil,.nil),p.2)),0)))))))))))))|some p3=>(bif (r13.2 !=0)then(some (none,4))else(match(yI (p.1.2 (Int.toNat (i64.wrap (((p.1.1:Nat):Int)-2)))).1)with|none=>none|some r14=>(bif (decide (r14<10))then(some (none,4))else(bif (eqF (.arr 4 (.int .u64)) p.2 (λ_=>0))then(some (none,4))else(match(bR 1)with|none=>none|some r15=>(bif (eqF (.arr 4 (.int .u64)) p.2 r15)then(some (none,4))else(match(bX none p.2)with|none=>none|some r16=>(bif (!r16)then(some (none,4))else(match(aP none p.2 (p.1.2 (Int.toNat (i64.wrap (((p.1.1:Nat):Int)-2)))).1)with|none=>none|some r17=>(match(bR 1)with|none=>none|some r18=>(bif (!(eqF (.arr 4 (.int .u64)) r17 r18))then(some (none,4))else(some ((some ((.nil,(.fz p3)),p.2)),0)))))))))))))))else(none)))|some p1=>(bif (r1.2 !=0)then(some (none,4))else(bif (inb (i64.wrap (((p.1.1:Nat):Int)-2)) p.1.1)then(match(wS (p.1.2 (Int.toNat (i64.wrap (((p.1.1:Nat):Int)-2)))).1)with|none=>none|some r2=>(match r2.1 with|none=>(bif (r2.2 !=0)then(some (none,4))else(match(yI (p.1.2 (Int.toNat (i64.wrap (((p.1.1:Nat):Int)-2)))).1)with|none=>none|some r8=>(bif (decide (r8<10))then(some (none,4))else(bif (eqF (.arr 4 (.int .u64)) p.2 (λ_=>0))then(some (none,4))else(match(bR 1)with|none=>none|some r9=>(bif (eqF (.arr 4 (.int .u64)) p.2 r9)then(some (none,4))else(match(bX (some p1) p.2)with|none=>none|some r10=>(bif (!r10)then(some (none,4))else(match(aP (some p1) p.2 (p.1.2 (Int.toNat (i64.wrap (((p.1.1:Nat):Int)-2)))).1)with|none=>none|some r11=>(match(bR 1)with|none=>none|some r12=>(bif (!(eqF (.arr 4 (.int .u64)) r11 r12))then(some (none,4))else(some ((some (((.fz p1),.nil),p.2)),0)))))))))))))|some p2=>(bif (r2.2 !=0)then(some (none,4))else(match(yI (p.1.2 (Int.toNat (i64.wrap (((p.1.1:Nat):Int)-2)))).1)with|none=>none|some r3=>(bif (decide (r3<10))then(some (none,4))else(bif (eqF (.arr 4 (.int .u64)) p.2 (λ_=>0))then(some (none,4))else(match(bR 1)with|none=>none|some r4=>(bif (eqF (.arr 4 (.int .u64)) p.2 r4)then(some (none,4))else(match(bX (some p1) p.2)with|none=>none|some r5=>(bif (!r5)then(some (none,4))else(match(aP (some p1) p.2 (p.1.2 (Int.toNat (i64.wrap (((p.1.1:Nat):Int)-2)))).1)with|none=>none|some r6=>(match(bR 1)with|none=>none|some r7=>(bif (!(eqF (.arr 4 (.int .u64)) r6 r7))then(some (none,4))else(some ((some (((.fz p1),(.fz p2)),p.2)),0)))))))))))))))else(none)))))else(none))))
def pR:=veil Lf
theorem MR:pR=Lf:=aj _
def jK(g:Z0u):Option (Z0l):=match g with|none=>(some none)|some g0=>(bif (dh.Te g0.1.1)then(none)else(bif (dh.isNil g0.1.1)then(some none)else(some (some (dh.val (((λ_=>0),(0,((λ_=>0),(λ_=>0)))):Z00) g0.1.1)))))
def aT:=veil jK
theorem qx:aT=jK:=aj _
def zC(g:Z0u):Option (NI):=match g with|none=>(some (λ_=>0))|some g0=>(some g0.2)
def qH:=veil zC
theorem CO:qH=zC:=aj _
def jm(g:Z0u):Option (Z0l):=match g with|none=>(some none)|some g0=>(bif (dh.Te g0.1.2)then(none)else(bif (dh.isNil g0.1.2)then(some none)else(some (some (dh.val (((λ_=>0),(0,((λ_=>0),(λ_=>0)))):Z00) g0.1.2)))))
def bT:=veil jm
theorem oD:bT=jm:=aj _
def oF(g:Z0u):Option (NI):=match g with|none=>(match(bT none)with|none=>none|some r3=>(match r3 with|none=>(match(fF none)with|none=>none|some r5=>(some r5))|some p1=>(match(fF (some p1))with|none=>none|some r4=>(some r4))))|some g0=>(match(bT (some g0))with|none=>none|some r=>(match r with|none=>(match(fF none)with|none=>none|some r2=>(some r2))|some p=>(match(fF (some p))with|none=>none|some r1=>(some r1))))
def dF:=veil oF
theorem vg:dF=oF:=aj _
def zD(g:Z0u):Option (NI):=match g with|none=>(match(aT none)with|none=>none|some r3=>(match r3 with|none=>(match(fF none)with|none=>none|some r5=>(some r5))|some p1=>(match(fF (some p1))with|none=>none|some r4=>(some r4))))|some g0=>(match(aT (some g0))with|none=>none|some r=>(match r with|none=>(match(fF none)with|none=>none|some r2=>(some r2))|some p=>(match(fF (some p))with|none=>none|some r1=>(some r1))))
def JK:=veil zD
theorem OZ:JK=zD:=aj _
open Go.IntKind (i64 u64 u32 u8)
def IC(g:Z0u)(a:NI):Option (Bool):=match g with|none=>(match(bT none)with|none=>none|some r3=>(match r3 with|none=>(match(bX none a)with|none=>none|some r5=>(some r5))|some p1=>(match(bX (some p1) a)with|none=>none|some r4=>(some r4))))|some g0=>(match(bT (some g0))with|none=>none|some r=>(match r with|none=>(match(bX none a)with|none=>none|some r2=>(some r2))|some p=>(match(bX (some p) a)with|none=>none|some r1=>(some r1))))
def Gl:=veil IC
theorem Qs:Gl=IC:=aj _
open Go.IntKind (i64 u64 u32 u8)
def yJ(g:Z0u)(nbases:Nat)(bases:Nat->NI)(nexps:Nat)(exps:Nat->NI):Option (NI×Int):=match g with|none=>(match(aT none)with|none=>none|some r3=>(match r3 with|none=>(match(dO none nbases bases nexps exps)with|none=>none|some r5=>(some (r5.1,r5.2)))|some p1=>(match(dO (some p1) nbases bases nexps exps)with|none=>none|some r4=>(some (r4.1,r4.2)))))|some g0=>(match(aT (some g0))with|none=>none|some r=>(match r with|none=>(match(dO none nbases bases nexps exps)with|none=>none|some r2=>(some (r2.1,r2.2)))|some p=>(match(dO (some p) nbases bases nexps exps)with|none=>none|some r1=>(some (r1.1,r1.2)))))
def AQ:=veil yJ
theorem Gm:AQ=yJ:=aj _
def DV(g:Z0u)(a:NI)(e:NI):Option (NI):=match g with|none=>(match(aT none)with|none=>none|some r3=>(match r3 with|none=>(match(aP none a e)with|none=>none|some r5=>(some r5))|some p1=>(match(aP (some p1) a e)with|none=>none|some r4=>(some r4))))|some g0=>(match(aT (some g0))with|none=>none|some r=>(match r with|none=>(match(aP none a e)with|none=>none|some r2=>(some r2))|some p=>(match(aP (some p) a e)with|none=>none|some r1=>(some r1))))
def CP:=veil DV
theorem MU:CP=DV:=aj _
def IE(g:Z0u)(e:NI):Option (NI):=match g with|none=>(match(qH none)with|none=>none|some r2=>(match(CP none r2 e)with|none=>none|some r3=>(some r3)))|some g0=>(match(qH (some g0))with|none=>none|some r=>(match(CP (some g0) r e)with|none=>none|some r1=>(some r1)))
def Gn:=veil IE
theorem Qt:Gn=IE:=aj _
def IG(g:Z0u)(a:NI):Option (Bool):=match g with|none=>(bif (!(eqF (.arr 4 (.int .u64)) a (λ_=>0)))then(match(aT none)with|none=>none|some r17=>(match r17 with|none=>(match(bX none a)with|none=>none|some r26=>(bif r26 then(match(aT none)with|none=>none|some r27=>(match r27 with|none=>(match(dF none)with|none=>none|some r31=>(match(aP none a r31)with|none=>none|some r32=>(match(bR 1)with|none=>none|some r33=>(some (eqF (.arr 4 (.int .u64)) r32 r33)))))|some p5=>(match(dF none)with|none=>none|some r28=>(match(aP (some p5) a r28)with|none=>none|some r29=>(match(bR 1)with|none=>none|some r30=>(some (eqF (.arr 4 (.int .u64)) r29 r30)))))))else(some false)))|some p3=>(match(bX (some p3) a)with|none=>none|some r18=>(bif r18 then(match(aT none)with|none=>none|some r19=>(match r19 with|none=>(match(dF none)with|none=>none|some r23=>(match(aP none a r23)with|none=>none|some r24=>(match(bR 1)with|none=>none|some r25=>(some (eqF (.arr 4 (.int .u64)) r24 r25)))))|some p4=>(match(dF none)with|none=>none|some r20=>(match(aP (some p4) a r20)with|none=>none|some r21=>(match(bR 1)with|none=>none|some r22=>(some (eqF (.arr 4 (.int .u64)) r21 r22)))))))else(some false)))))else(some false))|some g0=>(bif (!(eqF (.arr 4 (.int .u64)) a (λ_=>0)))then(match(aT (some g0))with|none=>none|some r=>(match r with|none=>(match(bX none a)with|none=>none|some r9=>(bif r9 then(match(aT (some g0))with|none=>none|some r10=>(match r10 with|none=>(match(dF (some g0))with|none=>none|some r14=>(match(aP none a r14)with|none=>none|some r15=>(match(bR 1)with|none=>none|some r16=>(some (eqF (.arr 4 (.int .u64)) r15 r16)))))|some p2=>(match(dF (some g0))with|none=>none|some r11=>(match(aP (some p2) a r11)with|none=>none|some r12=>(match(bR 1)with|none=>none|some r13=>(some (eqF (.arr 4 (.int .u64)) r12 r13)))))))else(some false)))|some p=>(match(bX (some p) a)with|none=>none|some r1=>(bif r1 then(match(aT (some g0))with|none=>none|some r2=>(match r2 with|none=>(match(dF (some g0))with|none=>none|some r6=>(match(aP none a r6)with|none=>none|some r7=>(match(bR 1)with|none=>none|some r8=>(some (eqF (.arr 4 (.int .u64)) r7 r8)))))|some p1=>(match(dF (some g0))with|none=>none|some r3=>(match(aP (some p1) a r3)with|none=>none|some r4=>(match(bR 1)with|none=>none|some r5=>(some (eqF (.arr 4 (.int .u64)) r4 r5)))))))else(some false)))))else(some false))
def MV:=veil IG
theorem Qu:MV=IG:=aj _
open Go.IntKind (i64 u64 u32 u8)
abbrev a0r(k:Int)(b:Z0m)(t:NI)(out:NI):=(((),((),((),(k,())))),(b,(t,(out,()))))
abbrev WB(t:NI)(out:NI):=(((),((),())),(t,(out,())))
abbrev Qv:Type:=((Unit×Z0k)×(Z0m×Z05))
def oG:Qv->Option (Qv⊕(Z0h×Z05)):=λx=>let k:=x.1.2.2.2.1;let b:=x.2.1;let t:=x.2.2.1;let out:=x.2.2.2.1;bif (decide (k<256))then(bif (inb k 256)then(bif (b (Int.toNat k))then(bif (inb (i64.wrap (Int.tdiv k 64)) 4)then(bif (decide ((Int.tmod k 64)<0))then(none)else(let t1:=(ay .or .u64 (out (Int.toNat (i64.wrap (Int.tdiv k 64)))) (iE .u64 1 (Int.tmod k 64)));bif (inb (i64.wrap (Int.tdiv k 64)) 4)then(some (.inl (((),((),((),((i64.wrap (k+1)),())))),(b,(t,((upd out (Int.toNat (i64.wrap (Int.tdiv k 64))) t1),()))))))else(none)))else(none))else(some (.inl (((),((),((),((i64.wrap (k+1)),())))),(b,(t,(out,())))))))else(none))else(some (.inr (((),((),())),(t,(out,())))))
def TM(b:Z0m):Option (NI):=match(au oG (((),((),((),(0,())))),(b,((λ_=>0),((λ_=>0),())))))with|none=>none|some y=>(let t:=y.2.1;let out:=y.2.2.1;some out)
def RU:=veil TM
theorem TN:RU=TM:=aj _
abbrev a0s(n:Int)(k:Int)(t:NI)(b:Z0m):=((n,((),((),(k,())))),(t,(b,())))
abbrev JL(t:NI)(b:Z0m):=(((),((),())),(t,(b,())))
abbrev Qw:Type:=((Int×Z0k)×(NI×(Z0m×Unit)))
def oH:Qw->Option (Qw⊕(Z0h×(NI×(Z0m×Unit)))):=λx=>let n:=x.1.1;let k:=x.1.2.2.2.1;let t:=x.2.1;let b:=x.2.2.1;bif (decide (k<63))then(bif (decide (n>0))then(bif (decide (k<0))then(none)else(bif (inb k 256)then(some (.inl ((n,((),((),((i64.wrap (k+1)),())))),(t,((upd b (Int.toNat k) ((ay .and .i64 (bO .i64 n k) 1)==1)),())))))else(none)))else(some (.inr (((),((),())),(t,(b,()))))))else(some (.inr (((),((),())),(t,(b,())))))
def TP(n:Int):Option (NI):=match(au oH ((n,((),((),(0,())))),((λ_=>0),((λ_=>false),()))))with|none=>none|some y=>(let t:=y.2.1;let b:=y.2.2.1;match(RU b)with|none=>none|some r=>(some r))
def II:=veil TP
theorem TQ:II=TP:=aj _
abbrev a2H(k:Int)(a:NI)(t:Z0m)(out:Z0m):=(((),((),((),(k,())))),(a,(t,(out,()))))
abbrev YM(t:Z0m)(out:Z0m):=(((),((),())),(t,(out,())))
abbrev TR:Type:=((Unit×Z0k)×(NI×(Z0m×(Z0m×Unit))))
def vk:TR->Option (TR⊕(Z0h×(Z0m×(Z0m×Unit)))):=λx=>let k:=x.1.2.2.2.1;let a:=x.2.1;let t:=x.2.2.1;let out:=x.2.2.2.1;bif (decide (k<256))then(bif (inb (i64.wrap (Int.tdiv k 64)) 4)then(bif (decide ((Int.tmod k 64)<0))then(none)else(let t1:=(ay .and .u64 (bO .u64 (a (Int.toNat (i64.wrap (Int.tdiv k 64)))) (Int.tmod k 64)) 1);bif (inb k 256)then(some (.inl (((),((),((),((i64.wrap (k+1)),())))),(a,(t,((upd out (Int.toNat k) (t1==1)),()))))))else(none)))else(none))else(some (.inr (((),((),())),(t,(out,())))))
def YN(a:NI):Option (Z0m):=match(au vk (((),((),((),(0,())))),(a,((λ_=>false),((λ_=>false),())))))with|none=>none|some y=>(let t:=y.2.1;let out:=y.2.2.1;some out)
def P5:=veil YN
theorem XH:P5=YN:=aj _
abbrev a0t(k:Int)(b:Z0m):=(((),(k,())),(b,()))
abbrev Gp:Type:=((Z02×Unit)⊕Z07)
abbrev WC(t:Int):Gp:=(.inl ((t,()),()))
abbrev WE:Gp:=(.inr ((),()))
abbrev Qx:Type:=(Z06×(Z0m×Unit))
def oI:Qx->Option (Qx⊕Gp):=λx=>let k:=x.1.2.1;let b:=x.2.1;bif (decide (k>=0))then(bif (inb k 256)then(bif (b (Int.toNat k))then(some (.inr (.inl (((i64.wrap (k+1)),()),()))))else(some (.inl (((),((i64.wrap (k-1)),())),(b,())))))else(none))else(some (.inr (.inr ((),()))))
def TS(a:NI):Option (Int):=match(P5 a)with|none=>none|some r=>(match(au oI (((),(255,())),(r,())))with|none=>none|some y=>(match y with| .inl y1=>(let t:=y1.1.1;some t)| .inr y1=>(some 0)))
def IJ:=veil TS
theorem TT:IJ=TS:=aj _
abbrev a0u(n:Int)(k:Int)(b:Z0m):=((n,((),(k,()))),(b,()))
abbrev WG(n:Int):=((n,()),())
abbrev Qy:Type:=((Int×Z06)×(Z0m×Unit))
def oJ:Qy->Option (Qy⊕(Z02×Unit)):=λx=>let n:=x.1.1;let k:=x.1.2.2.1;let b:=x.2.1;bif (decide (k<63))then(bif (inb k 256)then(bif (b (Int.toNat k))then(bif (decide (k<0))then(none)else(some (.inl (((ay .or .i64 n (iE .i64 1 k)),((),((i64.wrap (k+1)),()))),(b,())))))else(some (.inl ((n,((),((i64.wrap (k+1)),()))),(b,())))))else(none))else(some (.inr ((n,()),())))
def TU(a:NI):Option (Int×Bool):=match(IJ a)with|none=>none|some r=>(bif (decide (r>63))then(some (0,false))else(match(P5 a)with|none=>none|some r1=>(match(au oJ ((0,((),(0,()))),(r1,())))with|none=>none|some y=>(let n:=y.1.1;some (n,true)))))
def yK:=veil TU
theorem TV:yK=TU:=aj _
def TW(a:NI)(k:Int):Option (Int):=match(P5 a)with|none=>none|some r=>(bif (decide (k>=0))then(bif (decide (k<256))then(bif (inb k 256)then(bif (r (Int.toNat k))then(some 1)else(some 0))else(none))else(some 0))else(some 0))
def MW:=veil TW
theorem TY:MW=TW:=aj _
abbrev BI(nout:Nat)(out:Nat->Int)(i:Int)(x1:Int)(k:Int)(a:NI):=(((),((nout,out),(i,(x1,(k,()))))),(a,()))
abbrev EP(nout:Nat)(out:Nat->Int)(i:Int)(x1:Int)(a:NI):=(((),((nout,out),(i,(x1,())))),(a,()))
abbrev JM:Type:=((Unit×((Nat×NI)×(Int×(Int×Z02))))×(NI×Unit))
def mV:JM->Option (JM⊕((Unit×((Nat×NI)×(Int×Z02)))×(NI×Unit))):=λx=>let nout:=x.1.2.1.1;let out:=x.1.2.1.2;let i:=x.1.2.2.1;let x1:=x.1.2.2.2.1;let k:=x.1.2.2.2.2.1;let a:=x.2.1;bif (decide (k<8))then(match(MW a (i64.wrap ((i64.wrap (8*i))+k)))with|none=>none|some r=>(bif (decide (k<0))then(none)else(some (.inl (((),((nout,out),(i,((ay .or .i64 x1 (iE .i64 r k)),((i64.wrap (k+1)),()))))),(a,()))))))else(some (.inr (((),((nout,out),(i,(x1,())))),(a,()))))
abbrev BJ(nout:Nat)(out:Nat->Int)(i:Int)(a:NI):=(((),((nout,out),(i,()))),(a,()))
abbrev xI(nout:Nat)(out:Nat->Int):=(((nout,out),()),())
abbrev JN:Type:=((Unit×((Nat×NI)×Z02))×(NI×Unit))
def jZ:JN->Option (JN⊕Z0x):=λx=>let nout:=x.1.2.1.1;let out:=x.1.2.1.2;let i:=x.1.2.2.1;let a:=x.2.1;bif (decide (i>=0))then(match(au mV (((),((nout,out),(i,(0,(0,()))))),(a,())))with|none=>none|some y=>(let nout1:=y.1.2.1.1;let out1:=y.1.2.1.2;let i1:=y.1.2.2.1;let x1:=y.1.2.2.2.1;let a1:=y.2.1;bif ((Nat.ble ((nout1+1)*1) 140737488355328)&&(Nat.ble (nout1+1) 9223372036854775807))then(some (.inl (((),(((nout1+1),(glue nout1 out1 (λj=>(upd (λ_=>0) 0 (u8.wrap (ay .and .i64 x1 255))) (0+j)))),((i64.wrap (i1-1)),()))),(a1,()))))else(none)))else(some (.inr (((nout,out),()),())))
def Lg(a:NI):Option Z0E:=match(IJ a)with|none=>none|some r=>(match(au jZ (((),((0,(λ_=>0)),((i64.wrap ((i64.wrap (Int.tdiv (i64.wrap (r+7)) 8))-1)),()))),(a,())))with|none=>none|some y=>(let nout:=y.1.1.1;let out:=y.1.1.2;some (bytesOf nout (λj=>out (0+j)))))
def IK:=veil Lg
theorem MX:IK=Lg:=aj _
open Go.IntKind (i64 u64 u32 u8)
abbrev a2I(k:Int)(low:NI)(high:NI)(t:NI)(out:NI):=(((),((),((),((),(k,()))))),(low,(high,(t,(out,())))))
abbrev YO(t:NI)(out:NI):=(((),((),())),(t,(out,())))
abbrev U0:Type:=(Z0v×Z0t)
def vB:U0->Option (U0⊕(Z0h×Z05)):=λx=>let k:=x.1.2.2.2.2.1;let low:=x.2.1;let high:=x.2.2.1;let t:=x.2.2.2.1;let out:=x.2.2.2.2.1;bif (decide (k<16))then(bif (inb (i64.wrap (Int.tdiv k 4)) 4)then(bif (decide ((i64.wrap (16*(Int.tmod k 4)))<0))then(none)else(let t1:=(bO .u64 (low (Int.toNat (i64.wrap (Int.tdiv k 4)))) (i64.wrap (16*(Int.tmod k 4))));bif (inb k 32)then(bif (inb (i64.wrap (Int.tdiv k 4)) 4)then(bif (decide ((i64.wrap (16*(Int.tmod k 4)))<0))then(none)else(let t2:=(bO .u64 (high (Int.toNat (i64.wrap (Int.tdiv k 4)))) (i64.wrap (16*(Int.tmod k 4))));bif (inb (i64.wrap (16+k)) 32)then(some (.inl (((),((),((),((),((i64.wrap (k+1)),()))))),(low,(high,(t,((upd (upd out (Int.toNat k) (i64.wrap (ay .and .u64 t1 65535))) (Int.toNat (i64.wrap (16+k))) (i64.wrap (ay .and .u64 t2 65535))),())))))))else(none)))else(none))else(none)))else(none))else(some (.inr (((),((),())),(t,(out,())))))
def YP(low:NI)(high:NI):Option (NI):=match(au vB (((),((),((),((),(0,()))))),(low,(high,((λ_=>0),((λ_=>0),()))))))with|none=>none|some y=>(let t:=y.2.1;let out:=y.2.2.1;some out)
def U1:=veil YP
theorem XI:U1=YP:=aj _
abbrev YQ(k:Int)(d:NI)(t:NI)(t1:NI)(low:NI)(high:NI):=(((),((),((),((),((),(k,())))))),(d,(t,(t1,(low,(high,()))))))
abbrev U2(t:NI)(t1:NI)(low:NI)(high:NI):=(((),((),((),((),())))),(t,(t1,(low,(high,())))))
abbrev MZ:Type:=((Unit×Z0v)×(NI×Z0t))
def pU:MZ->Option (MZ⊕((Unit×(Unit×Z0h))×Z0t)):=λx=>let k:=x.1.2.2.2.2.2.1;let d:=x.2.1;let t:=x.2.2.1;let t1:=x.2.2.2.1;let low:=x.2.2.2.2.1;let high:=x.2.2.2.2.2.1;bif (decide (k<16))then(bif (inb (i64.wrap (Int.tdiv k 4)) 4)then(bif (inb k 32)then(bif (decide ((i64.wrap (16*(Int.tmod k 4)))<0))then(none)else(let t2:=(ay .or .u64 (low (Int.toNat (i64.wrap (Int.tdiv k 4)))) (iE .u64 (u64.wrap (d (Int.toNat k))) (i64.wrap (16*(Int.tmod k 4)))));bif (inb (i64.wrap (Int.tdiv k 4)) 4)then(bif (inb (i64.wrap (Int.tdiv k 4)) 4)then(bif (inb (i64.wrap (16+k)) 32)then(bif (decide ((i64.wrap (16*(Int.tmod k 4)))<0))then(none)else(let t3:=(iE .u64 (u64.wrap (d (Int.toNat (i64.wrap (16+k))))) (i64.wrap (16*(Int.tmod k 4))));bif (inb (i64.wrap (Int.tdiv k 4)) 4)then(some (.inl (((),((),((),((),((),((i64.wrap (k+1)),())))))),(d,(t,(t1,((upd low (Int.toNat (i64.wrap (Int.tdiv k 4))) t2),((upd high (Int.toNat (i64.wrap (Int.tdiv k 4))) (ay .or .u64 (high (Int.toNat (i64.wrap (Int.tdiv k 4)))) t3)),()))))))))else(none)))else(none))else(none))else(none)))else(none))else(none))else(some (.inr (((),((),((),((),())))),(t,(t1,(low,(high,())))))))
def P6(d:NI):Option (NI×NI):=match(au pU (((),((),((),((),((),(0,())))))),(d,((λ_=>0),((λ_=>0),((λ_=>0),((λ_=>0),())))))))with|none=>none|some y=>(let t:=y.2.1;let t1:=y.2.2.1;let low:=y.2.2.2.1;let high:=y.2.2.2.2.1;some (low,high))
def N7:=veil P6
theorem Qz:N7=P6:=aj _
abbrev WH(carry:Int)(k:Int)(a:NI)(t:NI)(out:NI):=(((),((),((),(carry,(k,()))))),(a,(t,(out,()))))
abbrev Ro(t:NI)(out:NI):=(((),((),())),(t,(out,())))
abbrev JO:Type:=((Unit×(Unit×Z0g))×(NI×Z05))
def mW:JO->Option (JO⊕(Z0h×Z05)):=λx=>let carry:=x.1.2.2.2.1;let k:=x.1.2.2.2.2.1;let a:=x.2.1;let t:=x.2.2.1;let out:=x.2.2.2.1;bif (decide (k<32))then(bif (inb k 32)then(bif (inb k 32)then(some (.inl (((),((),((),((bO .i64 (i64.wrap ((i64.wrap (2*(a (Int.toNat k))))+carry)) 16),((i64.wrap (k+1)),()))))),(a,(t,((upd out (Int.toNat k) (ay .and .i64 (i64.wrap ((i64.wrap (2*(a (Int.toNat k))))+carry)) 65535)),()))))))else(none))else(none))else(some (.inr (((),((),())),(t,(out,())))))
def Lh(a:NI)(one:Int):Option (NI):=match(au mW (((),((),((),(one,(0,()))))),(a,((λ_=>0),((λ_=>0),())))))with|none=>none|some y=>(let t:=y.2.1;let out:=y.2.2.1;some out)
def IL:=veil Lh
theorem N8:IL=Lh:=aj _
abbrev WI(k:Int)(a:NI)(b:NI):=(((),((),(k,()))),(a,(b,())))
abbrev BK:Type:=(Z09⊕Z07)
abbrev Rp(t:Bool):BK:=(.inl ((t,()),()))
abbrev Rq:BK:=(.inr ((),()))
abbrev JQ:Type:=(Z0k×Z05)
def kg:JQ->Option (JQ⊕BK):=λx=>let k:=x.1.2.2.1;let a:=x.2.1;let b:=x.2.2.1;bif (decide (k>=0))then(bif (inb k 32)then(bif (inb k 32)then(bif ((a (Int.toNat k)) !=(b (Int.toNat k)))then(bif (inb k 32)then(bif (inb k 32)then(some (.inr (.inl (((decide ((a (Int.toNat k))<(b (Int.toNat k)))),()),()))))else(none))else(none))else(some (.inl (((),((),((i64.wrap (k-1)),()))),(a,(b,()))))))else(none))else(none))else(some (.inr (.inr ((),()))))
def Li(a:NI)(b:NI):Option (Bool):=match(au kg (((),((),(31,()))),(a,(b,()))))with|none=>none|some y=>(match y with| .inl y1=>(let t:=y1.1.1;some t)| .inr y1=>(some false))
def IQ:=veil Li
theorem N9:IQ=Li:=aj _
abbrev YR(borrow:Int)(k:Int)(a:NI)(b:NI)(t:NI)(out:NI):=(((),((),((),(borrow,((),(k,())))))),(a,(b,(t,(out,())))))
abbrev U3(t:NI)(out:NI):=(((),((),())),(t,(out,())))
abbrev Na:Type:=((Unit×(Unit×(Unit×(Int×Z06))))×Z0t)
def lN:Na->Option (Na⊕(Z0h×Z05)):=λx=>let borrow:=x.1.2.2.2.1;let k:=x.1.2.2.2.2.2.1;let a:=x.2.1;let b:=x.2.2.1;let t:=x.2.2.2.1;let out:=x.2.2.2.2.1;bif (decide (k<32))then(bif (inb k 32)then(bif (inb k 32)then(let t1:=(decide ((i64.wrap ((i64.wrap ((a (Int.toNat k))-(b (Int.toNat k))))-borrow))<0));bif t1 then(let t2:=(i64.wrap ((i64.wrap ((i64.wrap ((a (Int.toNat k))-(b (Int.toNat k))))-borrow))+65536));bif (inb k 32)then(some (.inl (((),((),((),(1,((),((i64.wrap (k+1)),())))))),(a,(b,(t,((upd out (Int.toNat k) t2),())))))))else(none))else(bif (inb k 32)then(some (.inl (((),((),((),(0,((),((i64.wrap (k+1)),())))))),(a,(b,(t,((upd out (Int.toNat k) (i64.wrap ((i64.wrap ((a (Int.toNat k))-(b (Int.toNat k))))-borrow))),())))))))else(none)))else(none))else(none))else(some (.inr (((),((),())),(t,(out,())))))
def P7(a:NI)(b:NI):Option (NI):=match(au lN (((),((),((),(0,((),(0,())))))),(a,(b,((λ_=>0),((λ_=>0),()))))))with|none=>none|some y=>(let t:=y.2.1;let out:=y.2.2.1;some out)
def Nb:=veil P7
theorem QA:Nb=P7:=aj _
abbrev U4(k:Int)(a:NI)(m:NI)(t:NI)(t1:NI)(q:NI)(r:NI):=(((),((),((),((),((),((),(k,()))))))),(a,(m,(t,(t1,(q,(r,())))))))
abbrev P8(t:NI)(t1:NI)(q:NI)(r:NI):=(((),((),((),((),())))),(t,(t1,(q,(r,())))))
abbrev Gq:Type:=((Unit×(Unit×Z0v))×(NI×(NI×Z0t)))
def jo:Gq->Option (Gq⊕((Unit×(Unit×Z0h))×Z0t)):=λx=>let k:=x.1.2.2.2.2.2.2.1;let a:=x.2.1;let m:=x.2.2.1;let t:=x.2.2.2.1;let t1:=x.2.2.2.2.1;let q:=x.2.2.2.2.2.1;let r:=x.2.2.2.2.2.2.1;bif (decide (k>=0))then(bif (inb (i64.wrap (Int.tdiv k 16)) 32)then(bif (decide ((Int.tmod k 16)<0))then(none)else(let t2:=(ay .and .i64 (bO .i64 (a (Int.toNat (i64.wrap (Int.tdiv k 16)))) (Int.tmod k 16)) 1);match(IL r t2)with|none=>none|some r1=>(match(IQ r1 m)with|none=>none|some r2=>(bif (!r2)then(match(Nb r1 m)with|none=>none|some r3=>(bif (inb (i64.wrap (Int.tdiv k 16)) 32)then(bif (decide ((Int.tmod k 16)<0))then(none)else(let t3:=(ay .or .i64 (q (Int.toNat (i64.wrap (Int.tdiv k 16)))) (iE .i64 1 (Int.tmod k 16)));bif (inb (i64.wrap (Int.tdiv k 16)) 32)then(some (.inl (((),((),((),((),((),((),((i64.wrap (k-1)),()))))))),(a,(m,(t,(t1,((upd q (Int.toNat (i64.wrap (Int.tdiv k 16))) t3),(r3,())))))))))else(none)))else(none)))else(some (.inl (((),((),((),((),((),((),((i64.wrap (k-1)),()))))))),(a,(m,(t,(t1,(q,(r1,())))))))))))))else(none))else(some (.inr (((),((),((),((),())))),(t,(t1,(q,(r,())))))))
def Gr(a:NI)(m:NI):Option (NI×NI):=match(au jo (((),((),((),((),((),((),(511,()))))))),(a,(m,((λ_=>0),((λ_=>0),((λ_=>0),((λ_=>0),()))))))))with|none=>none|some y=>(let t:=y.2.1;let t1:=y.2.2.1;let q:=y.2.2.2.1;let r:=y.2.2.2.2.1;some (q,r))
def DW:=veil Gr
theorem JR:DW=Gr:=aj _
def U5(low:NI)(high:NI)(m:NI):Option (NI×Int):=bif (eqF (.arr 4 (.int .u64)) m (λ_=>0))then(some ((λ_=>0),1))else(match(U1 low high)with|none=>none|some r=>(match(U1 m (λ_=>0))with|none=>none|some r1=>(match(DW r r1)with|none=>none|some r2=>(match(N7 r2.2)with|none=>none|some r3=>(some (r3.1,0))))))
def Nc:=veil U5
theorem U6:Nc=U5:=aj _
open Go.IntKind (i64 u64 u32 u8)
def Lj(a:Int)(b:Int)(m:Int):Option (Int):=bif (decide (m=0))then(none)else(bif (decide (m=0))then(none)else(match(bits_Mul64 (u64.wrap (Int.tmod a m)) (u64.wrap (Int.tmod b m)))with|none=>none|some r=>(match(ou r.1 r.2 (u64.wrap m))with|none=>none|some r1=>(some (i64.wrap r1.2)))))
def za:=veil Lj
theorem Nf:za=Lj:=aj _
abbrev WJ(a:Int)(m:Int)(out:Int)(k:Int)(e:NI):=((a,(m,((),(out,(k,()))))),(e,()))
abbrev Rs(out:Int):=((out,()),())
abbrev JU:Type:=((Int×(Int×Z0g))×(NI×Unit))
def ko:JU->Option (JU⊕(Z02×Unit)):=λx=>let a:=x.1.1;let m:=x.1.2.1;let out:=x.1.2.2.2.1;let k:=x.1.2.2.2.2.1;let e:=x.2.1;bif (decide (k>=0))then(match(za out out m)with|none=>none|some r=>(match(MW e k)with|none=>none|some r1=>(bif (r1==1)then(match(za r a m)with|none=>none|some r2=>(some (.inl ((a,(m,((),(r2,((i64.wrap (k-1)),()))))),(e,())))))else(some (.inl ((a,(m,((),(r,((i64.wrap (k-1)),()))))),(e,())))))))else(some (.inr ((out,()),())))
def Ll(a:Int)(e:NI)(m:Int):Option (Int):=bif (decide (m=0))then(none)else(match(IJ e)with|none=>none|some r=>(match(au ko ((a,(m,((),((Int.tmod 1 m),((i64.wrap (r-1)),()))))),(e,())))with|none=>none|some y=>(let out:=y.1.1;some out)))
def IU:=veil Ll
theorem Ng:IU=Ll:=aj _
open Go.IntKind (i64 u64 u32 u8)
open Go.IntKind (i64 u64 u32 u8)
def U7:Option (Z0p):=some ((3,(λj=>(upd (upd (upd (λ_=>((λ_=>0),0)) 0 ((upd (λ_=>0) 0 65521),0)) 1 ((upd (λ_=>0) 0 1966023127),2)) 2 ((upd (λ_=>0) 0 1055500680322183127),2)) (0+j))),(upd (λ_=>0) 0 316543771439780984))
def CQ:=veil U7
theorem Nh:CQ=U7:=aj _
def U8:Option (Z0p):=some ((3,(λj=>(upd (upd (upd (λ_=>((λ_=>0),0)) 0 ((upd (λ_=>0) 0 64817),0)) 1 ((upd (λ_=>0) 0 1815135269),2)) 2 ((upd (λ_=>0) 0 487269091447081429),2)) (0+j))),(upd (λ_=>0) 0 54624333139524128))
def IV:=veil U8
theorem Ni:IV=U8:=aj _
def P9(which:Int):Option (Z0p):=bif ((ay .and .i64 which 1)==1)then(match IV with|none=>none|some r=>(some ((r.1.1,r.1.2),r.2)))else(match CQ with|none=>none|some r1=>(some ((r1.1.1,r1.1.2),r1.2)))
def CR:=veil P9
theorem QB:CR=P9:=aj _
def a2J(p:Z0p):Option (NI):=bif (decide (((p.1.1:Nat):Int)<2))then(some (λ_=>0))else(bif (inb (i64.wrap (((p.1.1:Nat):Int)-1)) p.1.1)then(some (p.1.2 (Int.toNat (i64.wrap (((p.1.1:Nat):Int)-1)))).1)else(none))
def a4f:=veil a2J
theorem a0v:a4f=a2J:=aj _
def a2K(p:Z0p):Option (NI):=bif (decide (((p.1.1:Nat):Int)<2))then(some (λ_=>0))else(bif (inb (i64.wrap (((p.1.1:Nat):Int)-2)) p.1.1)then(some (p.1.2 (Int.toNat (i64.wrap (((p.1.1:Nat):Int)-2)))).1)else(none))
def a4g:=veil a2K
theorem a0w:a4g=a2K:=aj _
open Go.IntKind (i64 u64 u32 u8)
def YS(a:NI)(q:Int):Option (Int):=match(II q)with|none=>none|some r=>(match(Nc a (λ_=>0) r)with|none=>none|some r1=>(match(yK r1.1)with|none=>none|some r2=>(some r2.1)))
def YT:=veil YS
theorem XJ:YT=YS:=aj _
abbrev yL(na:Nat)(a:Nat->NI)(nb:Nat)(b:Nat->NI)(i:Int):=(((na,a),((nb,b),(i,()))),())
abbrev DX:Type:=(Z09⊕Z07)
abbrev U9(t:Bool):DX:=(.inl ((t,()),()))
abbrev Ua:DX:=(.inr ((),()))
abbrev Nj:Type:=((Z0d×(Z0d×Z02))×Unit)
def lQ:Nj->Option (Nj⊕DX):=λx=>let na:=x.1.1.1;let a:=x.1.1.2;let nb:=x.1.2.1.1;let b:=x.1.2.1.2;let i:=x.1.2.2.1;bif (decide (i<((na:Nat):Int)))then(bif (inb i na)then(bif (inb i nb)then(bif (!(eqF (.arr 4 (.int .u64)) (a (Int.toNat i)) (b (Int.toNat i))))then(some (.inr (.inl ((false,()),()))))else(some (.inl (((na,a),((nb,b),((i64.wrap (i+1)),()))),()))))else(none))else(none))else(some (.inr (.inr ((),()))))
def Pb(na:Nat)(a:Nat->NI)(nb:Nat)(b:Nat->NI):Option (Bool):=bif (((na:Nat):Int) !=((nb:Nat):Int))then(some false)else(match(au lQ (((na,a),((nb,b),(0,()))),()))with|none=>none|some y=>(match y with| .inl y1=>(let t:=y1.1.1;some t)| .inr y1=>(some true)))
def Gs:=veil Pb
theorem QC:Gs=Pb:=aj _
open Go.IntKind (i64 u64 u32 u8)
def YU(p:Z0p):Option (Z0b):=match(a4f ((p.1.1,p.1.2),p.2))with|none=>none|some r=>(match(yK r)with|none=>none|some r1=>(match(a4g ((p.1.1,p.1.2),p.2))with|none=>none|some r2=>(match(yK r2)with|none=>none|some r3=>(match(yK p.2)with|none=>none|some r4=>(some (r1.1,(r3.1,r4.1)))))))
def Ub:=veil YU
theorem XK:Ub=YU:=aj _
def Uc(s:Z0b)(a:Int)(e:NI):Option (Int):=match(IU a e s.1)with|none=>none|some r=>(some r)
def IW:=veil Uc
theorem Ud:IW=Uc:=aj _
def Ue(s:Z0b)(a:Int)(b:Int):Option (Int):=match(za a b s.1)with|none=>none|some r=>(some r)
def RV:=veil Ue
theorem Uf:RV=Ue:=aj _
def YV(s:Z0b)(a:NI):Option (Bool):=match(yK a)with|none=>none|some r=>(bif r.2 then(bif (decide (r.1>0))then(bif (decide (r.1<s.1))then(match(II s.2.1)with|none=>none|some r1=>(match(IW s r.1 r1)with|none=>none|some r2=>(some (r2==1))))else(some false))else(some false))else(some false))
def YW:=veil YV
theorem XL:YW=YV:=aj _
end
end Go.Pl
