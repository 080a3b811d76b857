/-
  The functions, plainly.
-/
import Derived.Test.YtldlihheppdhnaaGreatDenI
set_option linter.unusedVariables false
set_option linter.unusedSimpArgs false
set_option maxRecDepth 100000
set_option maxHeartbeats 0
namespace Go.Pl
open Go.Den
abbrev Z00:Type:=(((aM (NI×(Int×(NI×NI))))×(aM (NI×(Int×(NI×NI)))))×NI)×(Int×(Int×(Int×(Int×(Unit×((List (ByteArray×((((Int×Int)×(ByteArray×((Nat×(Nat→(SlV NI)))×(Nat×(Nat→NI)))))×(ByteArray×((aM (Int×(Nat→(Nat→(Nat→((Int×Int)×ByteArray))))))×((aM (Int×(Nat→(Nat→(Nat→((Int×Int)×ByteArray))))))×(Nat→((Nat→(((Int×Int)×(ByteArray×((Nat×(Nat→(SlV NI)))×(Nat×(Nat→NI)))))×Int))×((((Int×Int)×(ByteArray×((Nat×(Nat→(SlV NI)))×(Nat×(Nat→NI)))))×Int)×(Int×Int))))))))×((Int×(Nat→(Nat→(Nat→((Int×Int)×ByteArray)))))×((Int×(Nat→(Nat→(Nat→((Int×Int)×ByteArray)))))×Unit)))))×(Nat×(Nat→(Int×(Int×(Int×(ByteArray×((Int×Int)×(ByteArray×((SlV (SlV NI))×(SlV NI))))))))))))))))
abbrev Z02:Type:=NI×(Int×(NI×NI))
abbrev Z04:Type:=Int×Unit
abbrev Z05:Type:=Unit×Unit
abbrev Z06:Type:=NI×(NI×Unit)
abbrev Z07:Type:=((aM Z02)×(aM Z02))×NI
abbrev Z08:Type:=Int×(Int×((SlV ByteArray)×(Option Nat)))
abbrev Z09:Type:=Nat×(Nat→(SlV NI))
abbrev Z0a:Type:=Bool×(NI×(NI×Int))
abbrev Z0b:Type:=Int×(Int×((Nat×(Nat→ByteArray))×(List (Int×Int))))
abbrev Z0c:Type:=Bool×Unit
abbrev Z0d:Type:=Nat×(Nat→NI)
abbrev Z0e:Type:=Unit×(Unit×Z04)
abbrev Z0i:Type:=Int×(Int×(Int×((Int×Int)×(Int×Int))))
abbrev Z0j:Type:=Int×(Int×Int)
abbrev Z0k:Type:=Unit×Z05
abbrev Z0l:Type:=Nat→Bool
abbrev Z0m:Type:=((Z09×((Nat×(Nat→(Int×(SlV NI))))×Z04))×Unit)
abbrev Z0o:Type:=Unit×(Int×Z04)
abbrev Z0r:Type:=Nat×(Nat→ByteArray)
abbrev Z0s:Type:=(Nat×(Nat→(NI×Int)))×NI
abbrev Z0t:Type:=Z0c×Unit
abbrev Z0u:Type:=Int×(Int×Z04)
abbrev Z0v:Type:=ByteArray
abbrev Z0w:Type:=NI×(NI×Z06)
abbrev Z0x:Type:=(Int×Z0i)×(Z0b×(Z00×(Z0j×(Z0b×(Z00×((Int×(Int×(ByteArray×((Int×Int)×(ByteArray×(Z09×Z0d))))))×Unit))))))
abbrev Z0y:Type:=((Nat×NI)×Unit)×Unit
abbrev Z0z:Type:=Option Z07
abbrev Z0A:Type:=Option Z02
abbrev Z0D:Type:=Unit×Z0e
abbrev Z0E:Type:=Unit×Z04
abbrev Z0G:Type:=Nat×(Nat→(Nat→NI))
abbrev Z0H:Type:=List Nat
abbrev Z0I:Type:=Int×(Int×(Int×(Int×(Int×Z0u))))
abbrev Z0J:Type:=(Unit×(Nat×NI))×Unit
abbrev Z0K:Type:=Unit×(Unit×Z0D)
abbrev Z0L:Type:=Z04×Unit
abbrev Z0N:Type:=Int×(SlV NI)
end Go.Pl
namespace Go.Pl
end Go.Pl
open Go Go.Den Go.Pl
namespace Go.Pl
noncomputable section
open Go.IntKind (i64 u64 u32 u8)
def G6(x:Int)(y:Int):Option (Int×Int):=
 let t:=(bH .u64 (u64.wrap ((ak .and .u64 x 4294967295)*(ak .and .u64 y 4294967295))) 32)
 let t1:=(ak .and .u64 (u64.wrap ((u64.wrap ((bH .u64 x 32)*(ak .and .u64 y 4294967295)))+t)) 4294967295)
 let t2:=(bH .u64 (u64.wrap ((u64.wrap ((bH .u64 x 32)*(ak .and .u64 y 4294967295)))+t)) 32)
 let t3:=(bH .u64 (u64.wrap (t1+(u64.wrap ((ak .and .u64 x 4294967295)*(bH .u64 y 32))))) 32)
 let t4:=(u64.wrap ((u64.wrap ((u64.wrap ((bH .u64 x 32)*(bH .u64 y 32)))+t2))+t3))
 some (t4,(u64.wrap (x*y)))
def bits_Mul64:=veil G6
theorem Jv:bits_Mul64=G6:=aj _
def G7(x:Int):Option (Int):=
 bif (decide (x≥4294967296))then(
 bif (decide ((bH .u64 x 32)≥65536))then(
 bif (decide ((bH .u64 (bH .u64 x 32) 16)≥256))then(
 bif (inb (u8.wrap (bH .u64 (bH .u64 (bH .u64 x 32) 16) 8)) 256)then(
 let t:=(((UInt8.toNat (List.getD (Array.toList (ByteArray.data (ByteArray.mk #[0,1,2,2,3,3,3,3,4,4,4,4,4,4,4,4,5,5,5,5,5,5,5,5,5,5,5,5,5,5,5,5,6,6,6,6,6,6,6,6,6,6,6,6,6,6,6,6,6,6,6,6,6,6,6,6,6,6,6,6,6,6,6,6,7,7,7,7,7,7,7,7,7,7,7,7,7,7,7,7,7,7,7,7,7,7,7,7,7,7,7,7,7,7,7,7,7,7,7,7,7,7,7,7,7,7,7,7,7,7,7,7,7,7,7,7,7,7,7,7,7,7,7,7,7,7,7,7,8,8,8,8,8,8,8,8,8,8,8,8,8,8,8,8,8,8,8,8,8,8,8,8,8,8,8,8,8,8,8,8,8,8,8,8,8,8,8,8,8,8,8,8,8,8,8,8,8,8,8,8,8,8,8,8,8,8,8,8,8,8,8,8,8,8,8,8,8,8,8,8,8,8,8,8,8,8,8,8,8,8,8,8,8,8,8,8,8,8,8,8,8,8,8,8,8,8,8,8,8,8,8,8,8,8,8,8,8,8,8,8,8,8,8,8,8,8,8,8,8,8,8,8,8,8,8,8]))) (Int.toNat (u8.wrap (bH .u64 (bH .u64 (bH .u64 x 32) 16) 8))) 0)):Nat):Int)
 some (i64.wrap (56+(i64.wrap t))))
 else(
 none))
 else(
 bif (inb (u8.wrap (bH .u64 (bH .u64 x 32) 16)) 256)then(
 let t1:=(((UInt8.toNat (List.getD (Array.toList (ByteArray.data (ByteArray.mk #[0,1,2,2,3,3,3,3,4,4,4,4,4,4,4,4,5,5,5,5,5,5,5,5,5,5,5,5,5,5,5,5,6,6,6,6,6,6,6,6,6,6,6,6,6,6,6,6,6,6,6,6,6,6,6,6,6,6,6,6,6,6,6,6,7,7,7,7,7,7,7,7,7,7,7,7,7,7,7,7,7,7,7,7,7,7,7,7,7,7,7,7,7,7,7,7,7,7,7,7,7,7,7,7,7,7,7,7,7,7,7,7,7,7,7,7,7,7,7,7,7,7,7,7,7,7,7,7,8,8,8,8,8,8,8,8,8,8,8,8,8,8,8,8,8,8,8,8,8,8,8,8,8,8,8,8,8,8,8,8,8,8,8,8,8,8,8,8,8,8,8,8,8,8,8,8,8,8,8,8,8,8,8,8,8,8,8,8,8,8,8,8,8,8,8,8,8,8,8,8,8,8,8,8,8,8,8,8,8,8,8,8,8,8,8,8,8,8,8,8,8,8,8,8,8,8,8,8,8,8,8,8,8,8,8,8,8,8,8,8,8,8,8,8,8,8,8,8,8,8,8,8,8,8,8,8]))) (Int.toNat (u8.wrap (bH .u64 (bH .u64 x 32) 16))) 0)):Nat):Int)
 some (i64.wrap (48+(i64.wrap t1))))
 else(
 none)))
 else(
 bif (decide ((bH .u64 x 32)≥256))then(
 bif (inb (u8.wrap (bH .u64 (bH .u64 x 32) 8)) 256)then(
 let t2:=(((UInt8.toNat (List.getD (Array.toList (ByteArray.data (ByteArray.mk #[0,1,2,2,3,3,3,3,4,4,4,4,4,4,4,4,5,5,5,5,5,5,5,5,5,5,5,5,5,5,5,5,6,6,6,6,6,6,6,6,6,6,6,6,6,6,6,6,6,6,6,6,6,6,6,6,6,6,6,6,6,6,6,6,7,7,7,7,7,7,7,7,7,7,7,7,7,7,7,7,7,7,7,7,7,7,7,7,7,7,7,7,7,7,7,7,7,7,7,7,7,7,7,7,7,7,7,7,7,7,7,7,7,7,7,7,7,7,7,7,7,7,7,7,7,7,7,7,8,8,8,8,8,8,8,8,8,8,8,8,8,8,8,8,8,8,8,8,8,8,8,8,8,8,8,8,8,8,8,8,8,8,8,8,8,8,8,8,8,8,8,8,8,8,8,8,8,8,8,8,8,8,8,8,8,8,8,8,8,8,8,8,8,8,8,8,8,8,8,8,8,8,8,8,8,8,8,8,8,8,8,8,8,8,8,8,8,8,8,8,8,8,8,8,8,8,8,8,8,8,8,8,8,8,8,8,8,8,8,8,8,8,8,8,8,8,8,8,8,8,8,8,8,8,8,8]))) (Int.toNat (u8.wrap (bH .u64 (bH .u64 x 32) 8))) 0)):Nat):Int)
 some (i64.wrap (40+(i64.wrap t2))))
 else(
 none))
 else(
 bif (inb (u8.wrap (bH .u64 x 32)) 256)then(
 let t3:=(i64.wrap (((UInt8.toNat (List.getD (Array.toList (ByteArray.data (ByteArray.mk #[0,1,2,2,3,3,3,3,4,4,4,4,4,4,4,4,5,5,5,5,5,5,5,5,5,5,5,5,5,5,5,5,6,6,6,6,6,6,6,6,6,6,6,6,6,6,6,6,6,6,6,6,6,6,6,6,6,6,6,6,6,6,6,6,7,7,7,7,7,7,7,7,7,7,7,7,7,7,7,7,7,7,7,7,7,7,7,7,7,7,7,7,7,7,7,7,7,7,7,7,7,7,7,7,7,7,7,7,7,7,7,7,7,7,7,7,7,7,7,7,7,7,7,7,7,7,7,7,8,8,8,8,8,8,8,8,8,8,8,8,8,8,8,8,8,8,8,8,8,8,8,8,8,8,8,8,8,8,8,8,8,8,8,8,8,8,8,8,8,8,8,8,8,8,8,8,8,8,8,8,8,8,8,8,8,8,8,8,8,8,8,8,8,8,8,8,8,8,8,8,8,8,8,8,8,8,8,8,8,8,8,8,8,8,8,8,8,8,8,8,8,8,8,8,8,8,8,8,8,8,8,8,8,8,8,8,8,8,8,8,8,8,8,8,8,8,8,8,8,8,8,8,8,8,8,8]))) (Int.toNat (u8.wrap (bH .u64 x 32))) 0)):Nat):Int))
 some (i64.wrap (32+t3)))
 else(
 none))))
 else(
 bif (decide (x≥65536))then(
 bif (decide ((bH .u64 x 16)≥256))then(
 bif (inb (u8.wrap (bH .u64 (bH .u64 x 16) 8)) 256)then(
 let t4:=(((UInt8.toNat (List.getD (Array.toList (ByteArray.data (ByteArray.mk #[0,1,2,2,3,3,3,3,4,4,4,4,4,4,4,4,5,5,5,5,5,5,5,5,5,5,5,5,5,5,5,5,6,6,6,6,6,6,6,6,6,6,6,6,6,6,6,6,6,6,6,6,6,6,6,6,6,6,6,6,6,6,6,6,7,7,7,7,7,7,7,7,7,7,7,7,7,7,7,7,7,7,7,7,7,7,7,7,7,7,7,7,7,7,7,7,7,7,7,7,7,7,7,7,7,7,7,7,7,7,7,7,7,7,7,7,7,7,7,7,7,7,7,7,7,7,7,7,8,8,8,8,8,8,8,8,8,8,8,8,8,8,8,8,8,8,8,8,8,8,8,8,8,8,8,8,8,8,8,8,8,8,8,8,8,8,8,8,8,8,8,8,8,8,8,8,8,8,8,8,8,8,8,8,8,8,8,8,8,8,8,8,8,8,8,8,8,8,8,8,8,8,8,8,8,8,8,8,8,8,8,8,8,8,8,8,8,8,8,8,8,8,8,8,8,8,8,8,8,8,8,8,8,8,8,8,8,8,8,8,8,8,8,8,8,8,8,8,8,8,8,8,8,8,8,8]))) (Int.toNat (u8.wrap (bH .u64 (bH .u64 x 16) 8))) 0)):Nat):Int)
 some (i64.wrap (24+(i64.wrap t4))))
 else(
 none))
 else(
 bif (inb (u8.wrap (bH .u64 x 16)) 256)then(
 let t5:=(i64.wrap (((UInt8.toNat (List.getD (Array.toList (ByteArray.data (ByteArray.mk #[0,1,2,2,3,3,3,3,4,4,4,4,4,4,4,4,5,5,5,5,5,5,5,5,5,5,5,5,5,5,5,5,6,6,6,6,6,6,6,6,6,6,6,6,6,6,6,6,6,6,6,6,6,6,6,6,6,6,6,6,6,6,6,6,7,7,7,7,7,7,7,7,7,7,7,7,7,7,7,7,7,7,7,7,7,7,7,7,7,7,7,7,7,7,7,7,7,7,7,7,7,7,7,7,7,7,7,7,7,7,7,7,7,7,7,7,7,7,7,7,7,7,7,7,7,7,7,7,8,8,8,8,8,8,8,8,8,8,8,8,8,8,8,8,8,8,8,8,8,8,8,8,8,8,8,8,8,8,8,8,8,8,8,8,8,8,8,8,8,8,8,8,8,8,8,8,8,8,8,8,8,8,8,8,8,8,8,8,8,8,8,8,8,8,8,8,8,8,8,8,8,8,8,8,8,8,8,8,8,8,8,8,8,8,8,8,8,8,8,8,8,8,8,8,8,8,8,8,8,8,8,8,8,8,8,8,8,8,8,8,8,8,8,8,8,8,8,8,8,8,8,8,8,8,8,8]))) (Int.toNat (u8.wrap (bH .u64 x 16))) 0)):Nat):Int))
 some (i64.wrap (16+t5)))
 else(
 none)))
 else(
 bif (decide (x≥256))then(
 bif (inb (u8.wrap (bH .u64 x 8)) 256)then(
 let t6:=(i64.wrap (((UInt8.toNat (List.getD (Array.toList (ByteArray.data (ByteArray.mk #[0,1,2,2,3,3,3,3,4,4,4,4,4,4,4,4,5,5,5,5,5,5,5,5,5,5,5,5,5,5,5,5,6,6,6,6,6,6,6,6,6,6,6,6,6,6,6,6,6,6,6,6,6,6,6,6,6,6,6,6,6,6,6,6,7,7,7,7,7,7,7,7,7,7,7,7,7,7,7,7,7,7,7,7,7,7,7,7,7,7,7,7,7,7,7,7,7,7,7,7,7,7,7,7,7,7,7,7,7,7,7,7,7,7,7,7,7,7,7,7,7,7,7,7,7,7,7,7,8,8,8,8,8,8,8,8,8,8,8,8,8,8,8,8,8,8,8,8,8,8,8,8,8,8,8,8,8,8,8,8,8,8,8,8,8,8,8,8,8,8,8,8,8,8,8,8,8,8,8,8,8,8,8,8,8,8,8,8,8,8,8,8,8,8,8,8,8,8,8,8,8,8,8,8,8,8,8,8,8,8,8,8,8,8,8,8,8,8,8,8,8,8,8,8,8,8,8,8,8,8,8,8,8,8,8,8,8,8,8,8,8,8,8,8,8,8,8,8,8,8,8,8,8,8,8,8]))) (Int.toNat (u8.wrap (bH .u64 x 8))) 0)):Nat):Int))
 some (i64.wrap (8+t6)))
 else(
 none))
 else(
 bif (inb (u8.wrap x) 256)then(
 let t7:=(i64.wrap (0+(i64.wrap (((UInt8.toNat (List.getD (Array.toList (ByteArray.data (ByteArray.mk #[0,1,2,2,3,3,3,3,4,4,4,4,4,4,4,4,5,5,5,5,5,5,5,5,5,5,5,5,5,5,5,5,6,6,6,6,6,6,6,6,6,6,6,6,6,6,6,6,6,6,6,6,6,6,6,6,6,6,6,6,6,6,6,6,7,7,7,7,7,7,7,7,7,7,7,7,7,7,7,7,7,7,7,7,7,7,7,7,7,7,7,7,7,7,7,7,7,7,7,7,7,7,7,7,7,7,7,7,7,7,7,7,7,7,7,7,7,7,7,7,7,7,7,7,7,7,7,7,8,8,8,8,8,8,8,8,8,8,8,8,8,8,8,8,8,8,8,8,8,8,8,8,8,8,8,8,8,8,8,8,8,8,8,8,8,8,8,8,8,8,8,8,8,8,8,8,8,8,8,8,8,8,8,8,8,8,8,8,8,8,8,8,8,8,8,8,8,8,8,8,8,8,8,8,8,8,8,8,8,8,8,8,8,8,8,8,8,8,8,8,8,8,8,8,8,8,8,8,8,8,8,8,8,8,8,8,8,8,8,8,8,8,8,8,8,8,8,8,8,8,8,8,8,8,8,8]))) (Int.toNat (u8.wrap x)) 0)):Nat):Int))))
 some t7)
 else(
 none))))
def bits_Len64:=veil G7
theorem Jw:bits_Len64=G7:=aj _
def ng(x:Int):Option (Int):=
 match(bits_Len64 x)with
 |none=>none
 |some r=>(
 some (i64.wrap (64-r)))
def bits_LeadingZeros64:=veil ng
theorem sH:bits_LeadingZeros64=ng:=aj _
abbrev zu(y:Int)(s:Int)(yn1:Int)(yn0:Int)(un32:Int)(un1:Int)(un0:Int)(q1:Int)(rhat:Int):=((y,(s,(yn1,(yn0,(un32,(un1,(un0,(q1,(rhat,()))))))))),())
abbrev uR(y:Int)(s:Int)(yn1:Int)(yn0:Int)(un32:Int)(un1:Int)(un0:Int)(q1:Int):=((y,(s,(yn1,(yn0,(un32,(un1,(un0,(q1,())))))))),())
abbrev G8:Type:=((Int×Z0I)×Unit)
def fA:G8→Option (G8⊕(Z0I×Unit)):=fun x=>
 let y:=x.1.1
 let s:=x.1.2.1
 let yn1:=x.1.2.2.1
 let yn0:=x.1.2.2.2.1
 let un32:=x.1.2.2.2.2.1
 let un1:=x.1.2.2.2.2.2.1
 let un0:=x.1.2.2.2.2.2.2.1
 let q1:=x.1.2.2.2.2.2.2.2.1
 let rhat:=x.1.2.2.2.2.2.2.2.2.1
 bif (decide (q1≥4294967296))then(
 bif (decide ((u64.wrap (rhat+yn1))≥4294967296))then(
 some (.inr ((y,(s,(yn1,(yn0,(un32,(un1,(un0,((u64.wrap (q1-1)),())))))))),())))
 else(
 some (.inl ((y,(s,(yn1,(yn0,(un32,(un1,(un0,((u64.wrap (q1-1)),((u64.wrap (rhat+yn1)),()))))))))),()))))
 else(
 bif (decide ((u64.wrap (q1*yn0))>(u64.wrap ((u64.wrap (4294967296*rhat))+un1))))then(
 bif (decide ((u64.wrap (rhat+yn1))≥4294967296))then(
 some (.inr ((y,(s,(yn1,(yn0,(un32,(un1,(un0,((u64.wrap (q1-1)),())))))))),())))
 else(
 some (.inl ((y,(s,(yn1,(yn0,(un32,(un1,(un0,((u64.wrap (q1-1)),((u64.wrap (rhat+yn1)),()))))))))),()))))
 else(
 some (.inr ((y,(s,(yn1,(yn0,(un32,(un1,(un0,(q1,())))))))),()))))
abbrev zw(y:Int)(s:Int)(yn1:Int)(yn0:Int)(un0:Int)(q1:Int)(rhat:Int)(un21:Int)(q0:Int):=((y,(s,(yn1,(yn0,(un0,(q1,(rhat,(un21,(q0,()))))))))),())
abbrev uS(y:Int)(s:Int)(un0:Int)(q1:Int)(un21:Int)(q0:Int):=((y,(s,(un0,(q1,(un21,(q0,())))))),())
abbrev G9:Type:=((Int×Z0I)×Unit)
def fB:G9→Option (G9⊕((Int×(Int×(Int×Z0u)))×Unit)):=fun x=>
 let y:=x.1.1
 let s:=x.1.2.1
 let yn1:=x.1.2.2.1
 let yn0:=x.1.2.2.2.1
 let un0:=x.1.2.2.2.2.1
 let q1:=x.1.2.2.2.2.2.1
 let rhat:=x.1.2.2.2.2.2.2.1
 let un21:=x.1.2.2.2.2.2.2.2.1
 let q0:=x.1.2.2.2.2.2.2.2.2.1
 bif (decide (q0≥4294967296))then(
 bif (decide ((u64.wrap (rhat+yn1))≥4294967296))then(
 some (.inr ((y,(s,(un0,(q1,(un21,((u64.wrap (q0-1)),())))))),())))
 else(
 some (.inl ((y,(s,(yn1,(yn0,(un0,(q1,((u64.wrap (rhat+yn1)),(un21,((u64.wrap (q0-1)),()))))))))),()))))
 else(
 bif (decide ((u64.wrap (q0*yn0))>(u64.wrap ((u64.wrap (4294967296*rhat))+un0))))then(
 bif (decide ((u64.wrap (rhat+yn1))≥4294967296))then(
 some (.inr ((y,(s,(un0,(q1,(un21,((u64.wrap (q0-1)),())))))),())))
 else(
 some (.inl ((y,(s,(yn1,(yn0,(un0,(q1,((u64.wrap (rhat+yn1)),(un21,((u64.wrap (q0-1)),()))))))))),()))))
 else(
 some (.inr ((y,(s,(un0,(q1,(un21,(q0,())))))),()))))
def Ga(hi:Int)(lo:Int)(y:Int):Option (Int×Int):=
 bif (y==0)then(
 none)
 else(
 bif (decide (y≤hi))then(
 none)
 else(
 bif (hi==0)then(
 bif (decide (y=0))then(
 none)
 else(
 bif (decide (y=0))then(
 none)
 else(
 some ((u64.wrap (Int.tdiv lo y)),(Int.tmod lo y)))))
 else(
 match(bits_LeadingZeros64 y)with
 |none=>none
 |some r=>(
 bif (decide ((u64.wrap r)<0))then(
 none)
 else(
 bif (decide ((u64.wrap r)<0))then(
 none)
 else(
 bif (decide ((u64.wrap (64-(u64.wrap r)))<0))then(
 none)
 else(
 let t:=(ak .or .u64 (ig .u64 hi (u64.wrap r)) (bH .u64 lo (u64.wrap (64-(u64.wrap r)))))
 bif (decide ((u64.wrap r)<0))then(
 none)
 else(
 bif (decide ((bH .u64 (ig .u64 y (u64.wrap r)) 32)=0))then(
 none)
 else(
 let t1:=(u64.wrap ((u64.wrap (Int.tdiv t (bH .u64 (ig .u64 y (u64.wrap r)) 32)))*(bH .u64 (ig .u64 y (u64.wrap r)) 32)))
 match(aB fA (((ig .u64 y (u64.wrap r)),((u64.wrap r),((bH .u64 (ig .u64 y (u64.wrap r)) 32),((ak .and .u64 (ig .u64 y (u64.wrap r)) 4294967295),(t,((bH .u64 (ig .u64 lo (u64.wrap r)) 32),((ak .and .u64 (ig .u64 lo (u64.wrap r)) 4294967295),((u64.wrap (Int.tdiv t (bH .u64 (ig .u64 y (u64.wrap r)) 32))),((u64.wrap (t-t1)),()))))))))),()))with
 |none=>none
 |some y1=>(
 let y2:=y1.1.1
 let s:=y1.1.2.1
 let yn1:=y1.1.2.2.1
 let yn0:=y1.1.2.2.2.1
 let un32:=y1.1.2.2.2.2.1
 let un1:=y1.1.2.2.2.2.2.1
 let un0:=y1.1.2.2.2.2.2.2.1
 let q1:=y1.1.2.2.2.2.2.2.2.1
 bif (decide (yn1=0))then(
 none)
 else(
 let t2:=(u64.wrap (Int.tdiv (u64.wrap ((u64.wrap ((u64.wrap (un32*4294967296))+un1))-(u64.wrap (q1*y2)))) yn1))
 let t3:=(u64.wrap ((u64.wrap ((u64.wrap ((u64.wrap (un32*4294967296))+un1))-(u64.wrap (q1*y2))))-(u64.wrap (t2*yn1))))
 match(aB fB ((y2,(s,(yn1,(yn0,(un0,(q1,(t3,((u64.wrap ((u64.wrap ((u64.wrap (un32*4294967296))+un1))-(u64.wrap (q1*y2)))),(t2,()))))))))),()))with
 |none=>none
 |some y3=>(
 let y4:=y3.1.1
 let s1:=y3.1.2.1
 let un01:=y3.1.2.2.1
 let q11:=y3.1.2.2.2.1
 let un21:=y3.1.2.2.2.2.1
 let q0:=y3.1.2.2.2.2.2.1
 bif (decide (s1<0))then(
 none)
 else(
 let t4:=(bH .u64 (u64.wrap ((u64.wrap ((u64.wrap (un21*4294967296))+un01))-(u64.wrap (q0*y4)))) s1)
 some ((u64.wrap ((u64.wrap (q11*4294967296))+q0)),t4))))))))))))))
def ni:=veil Ga
theorem Jy:ni=Ga:=aj _
def qK(x:Int)(k:Int):Option (Int):=
 bif (decide ((ak .and .u64 (u64.wrap k) 31)<0))then(
 none)
 else(
 bif (decide ((u64.wrap (32-(ak .and .u64 (u64.wrap k) 31)))<0))then(
 none)
 else(
 let t:=(ak .or .u32 (ig .u32 x (ak .and .u64 (u64.wrap k) 31)) (bH .u32 x (u64.wrap (32-(ak .and .u64 (u64.wrap k) 31)))))
 some t))
def sI:=veil qK
theorem wS:sI=qK:=aj _
open Go.IntKind (i64 u64 u32 u8)
def Te(a:NI)(k:Int):Option (Int):=
 bif (decide (k<0))then(
 some 0)
 else(
 bif (decide (k≥256))then(
 some 0)
 else(
 bif (inb (i64.wrap (Int.tdiv k 64)) 4)then(
 bif (decide ((Int.tmod k 64)<0))then(
 none)
 else(
 let t:=(ak .and .u64 (bH .u64 (a (Int.toNat (i64.wrap (Int.tdiv k 64)))) (Int.tmod k 64)) 1)
 some (i64.wrap t)))
 else(
 none)))
def Au:=veil Te
theorem Tf:Au=Te:=aj _
abbrev a2E(limbs:Int)(by_:Int)(i:Int)(a:NI)(t:NI)(out:NI):=(((),((),((),(limbs,(by_,(i,())))))),(a,(t,(out,()))))
abbrev YH(t:NI)(out:NI):=(((),((),())),(t,(out,())))
abbrev Tg:Type:=((Unit×(Unit×(Unit×Z0u)))×(NI×Z06))
def nk:Tg→Option (Tg⊕(Z0k×Z06)):=fun x=>
 let limbs:=x.1.2.2.2.1
 let by_:=x.1.2.2.2.2.1
 let i:=x.1.2.2.2.2.2.1
 let a:=x.2.1
 let t:=x.2.2.1
 let out:=x.2.2.2.1
 bif (decide (i<4))then(
 bif (inb (i64.wrap (i-limbs)) 4)then(
 bif (decide (by_<0))then(
 none)
 else(
 bif (inb i 4)then(
 bif (decide (i>limbs))then(
 bif (inb i 4)then(
 let t1:=((upd out (Int.toNat i) (ig .u64 (a (Int.toNat (i64.wrap (i-limbs)))) by_)) (Int.toNat i))
 bif (inb (i64.wrap ((i64.wrap (i-limbs))-1)) 4)then(
 bif (decide ((i64.wrap (64-by_))<0))then(
 none)
 else(
 let t2:=(bH .u64 (a (Int.toNat (i64.wrap ((i64.wrap (i-limbs))-1)))) (i64.wrap (64-by_)))
 bif (inb i 4)then(
 some (.inl (((),((),((),(limbs,(by_,((i64.wrap (i+1)),())))))),(a,(t,((upd (upd out (Int.toNat i) (ig .u64 (a (Int.toNat (i64.wrap (i-limbs)))) by_)) (Int.toNat i) (ak .or .u64 t1 t2)),()))))))
 else(
 none)))
 else(
 none))
 else(
 none))
 else(
 some (.inl (((),((),((),(limbs,(by_,((i64.wrap (i+1)),())))))),(a,(t,((upd out (Int.toNat i) (ig .u64 (a (Int.toNat (i64.wrap (i-limbs)))) by_)),())))))))
 else(
 none)))
 else(
 none))
 else(
 some (.inr (((),((),())),(t,(out,())))))
def YI(a:NI)(k:Int):Option (NI):=
 bif (decide (k<1))then(
 some a)
 else(
 bif (decide (k≥256))then(
 some (fun _=>0))
 else(
 match(aB nk (((),((),((),((i64.wrap (Int.tdiv k 64)),((Int.tmod k 64),((i64.wrap (Int.tdiv k 64)),())))))),(a,((fun _=>0),((fun _=>0),())))))with
 |none=>none
 |some y=>(
 let t:=y.2.1
 let out:=y.2.2.1
 some out)))
def Ti:=veil YI
theorem Xx:Ti=YI:=aj _
def Tj(a:NI)(b:NI):Option (NI×Int):=
 match(EA (a 0) (b 0) 0)with
 |none=>none
 |some r=>(
 match(EA (a 1) (b 1) r.2)with
 |none=>none
 |some r1=>(
 match(EA (a 2) (b 2) r1.2)with
 |none=>none
 |some r2=>(
 match(EA (a 3) (b 3) r2.2)with
 |none=>none
 |some r3=>(
 some ((upd (upd (upd (upd (fun _=>0) 0 r.1) 1 r1.1) 2 r2.1) 3 r3.1),(i64.wrap r3.2))))))
def w9:=veil Tj
theorem Tk:w9=Tj:=aj _
def Tm(a:NI)(b:NI):Option (Int):=
 bif (decide ((a 3)<(b 3)))then(
 some (-1))
 else(
 bif (decide ((a 3)>(b 3)))then(
 some 1)
 else(
 bif (decide ((a 2)<(b 2)))then(
 some (-1))
 else(
 bif (decide ((a 2)>(b 2)))then(
 some 1)
 else(
 bif (decide ((a 1)<(b 1)))then(
 some (-1))
 else(
 bif (decide ((a 1)>(b 1)))then(
 some 1)
 else(
 bif (decide ((a 0)<(b 0)))then(
 some (-1))
 else(
 bif (decide ((a 0)>(b 0)))then(
 some 1)
 else(
 some 0))))))))
def yH:=veil Tm
theorem Tn:yH=Tm:=aj _
def YJ(n:Int):Option (NI):=
 some (upd (fun _=>0) 0 (u64.wrap (if n<0 then 0 else n)))
def bZ:=veil YJ
theorem Xy:bZ=YJ:=aj _
def Tp(a:NI)(b:NI):Option (NI×Int):=
 match(bP (a 0) (b 0) 0)with
 |none=>none
 |some r=>(
 match(bP (a 1) (b 1) r.2)with
 |none=>none
 |some r1=>(
 match(bP (a 2) (b 2) r1.2)with
 |none=>none
 |some r2=>(
 match(bP (a 3) (b 3) r2.2)with
 |none=>none
 |some r3=>(
 some ((upd (upd (upd (upd (fun _=>0) 0 r.1) 1 r1.1) 2 r2.1) 3 r3.1),(i64.wrap r3.2))))))
def RH:=veil Tp
theorem Tq:RH=Tp:=aj _
def Tt(a:NI):Option (Int):=
 bif ((a 3) !=0)then(
 match(bits_Len64 (a 3))with
 |none=>none
 |some r=>(
 some (i64.wrap (192+r))))
 else(
 bif ((a 2) !=0)then(
 match(bits_Len64 (a 2))with
 |none=>none
 |some r1=>(
 some (i64.wrap (128+r1))))
 else(
 bif ((a 1) !=0)then(
 match(bits_Len64 (a 1))with
 |none=>none
 |some r2=>(
 some (i64.wrap (64+r2))))
 else(
 bif ((a 0) !=0)then(
 match(bits_Len64 (a 0))with
 |none=>none
 |some r3=>(
 some (i64.wrap (0+r3))))
 else(
 some 0))))
def yI:=veil Tt
theorem Tv:yI=Tt:=aj _
abbrev YK(limbs:Int)(by_:Int)(t:Int)(t1:Int)(a:NI)(t2:NI)(out:NI):=(((),((),((),(limbs,(by_,(t,(t1,()))))))),(a,(t2,(out,()))))
abbrev Tw(t:NI)(out:NI):=(((),((),())),(t,(out,())))
abbrev Mj:Type:=((Unit×(Unit×(Unit×(Int×Z0u))))×(NI×Z06))
def kX:Mj→Option (Mj⊕(Z0k×Z06)):=fun x=>
 let limbs:=x.1.2.2.2.1
 let by_:=x.1.2.2.2.2.1
 let t:=x.1.2.2.2.2.2.1
 let t1:=x.1.2.2.2.2.2.2.1
 let a:=x.2.1
 let t2:=x.2.2.1
 let out:=x.2.2.2.1
 bif (decide (t1<t))then(
 bif (inb (i64.wrap (t1+limbs)) 4)then(
 bif (decide (by_<0))then(
 none)
 else(
 bif (inb t1 4)then(
 bif (decide ((i64.wrap ((i64.wrap (t1+limbs))+1))<4))then(
 bif (inb t1 4)then(
 let t3:=((upd out (Int.toNat t1) (bH .u64 (a (Int.toNat (i64.wrap (t1+limbs)))) by_)) (Int.toNat t1))
 bif (inb (i64.wrap ((i64.wrap (t1+limbs))+1)) 4)then(
 bif (decide ((i64.wrap (64-by_))<0))then(
 none)
 else(
 let t4:=(ig .u64 (a (Int.toNat (i64.wrap ((i64.wrap (t1+limbs))+1)))) (i64.wrap (64-by_)))
 bif (inb t1 4)then(
 some (.inl (((),((),((),(limbs,(by_,(t,((i64.wrap (t1+1)),()))))))),(a,(t2,((upd (upd out (Int.toNat t1) (bH .u64 (a (Int.toNat (i64.wrap (t1+limbs)))) by_)) (Int.toNat t1) (ak .or .u64 t3 t4)),()))))))
 else(
 none)))
 else(
 none))
 else(
 none))
 else(
 some (.inl (((),((),((),(limbs,(by_,(t,((i64.wrap (t1+1)),()))))))),(a,(t2,((upd out (Int.toNat t1) (bH .u64 (a (Int.toNat (i64.wrap (t1+limbs)))) by_)),())))))))
 else(
 none)))
 else(
 none))
 else(
 some (.inr (((),((),())),(t2,(out,())))))
def Om(a:NI)(k:Int):Option (NI):=
 bif (decide (k<1))then(
 some a)
 else(
 bif (decide (k≥256))then(
 some (fun _=>0))
 else(
 match(aB kX (((),((),((),((i64.wrap (Int.tdiv k 64)),((Int.tmod k 64),((i64.wrap (4-(i64.wrap (Int.tdiv k 64)))),(0,()))))))),(a,((fun _=>0),((fun _=>0),())))))with
 |none=>none
 |some y=>(
 let t:=y.2.1
 let out:=y.2.2.1
 some out)))
def Gb:=veil Om
theorem Qb:Gb=Om:=aj _
def Tx(a:NI):Option (Int×Bool):=
 bif (!(eqF (.arr 4 (.int .u64)) a (upd (fun _=>0) 0 (a 0))))then(
 some (0,false))
 else(
 bif (decide ((a 0)>9223372036854775807))then(
 some (0,false))
 else(
 some ((i64.wrap (a 0)),true)))
def Mk:=veil Tx
theorem Tz:Mk=Tx:=aj _
abbrev BD(n:Int)(nout:Nat)(out:Nat→Int)(t:Int)(t1:Int)(a:NI):=(((),(n,((nout,out),(t,(t1,()))))),(a,()))
abbrev EC(nout:Nat)(out:Nat→Int):=(((nout,out),()),())
abbrev Jz:Type:=((Unit×(Int×((Nat×NI)×(Int×Z04))))×(NI×Unit))
def lV:Jz→Option (Jz⊕Z0y):=fun x=>
 let n:=x.1.2.1
 let nout:=x.1.2.2.1.1
 let out:=x.1.2.2.1.2
 let t:=x.1.2.2.2.1
 let t1:=x.1.2.2.2.2.1
 let a:=x.2.1
 bif (decide (t1<t))then(
 bif (inb (i64.wrap (Int.tdiv t1 8)) 4)then(
 bif (decide ((i64.wrap (8*(Int.tmod t1 8)))<0))then(
 none)
 else(
 let t2:=(bH .u64 (a (Int.toNat (i64.wrap (Int.tdiv t1 8)))) (i64.wrap (8*(Int.tmod t1 8))))
 bif (inb (i64.wrap ((i64.wrap (n-1))-t1)) nout)then(
 some (.inl (((),(n,((nout,(upd out (0+(Int.toNat (i64.wrap ((i64.wrap (n-1))-t1)))) (u8.wrap t2))),(t,((i64.wrap (t1+1)),()))))),(a,()))))
 else(
 none)))
 else(
 none))
 else(
 some (.inr (((nout,out),()),())))
def KI(a:NI):Option Z0v:=
 match(yI a)with
 |none=>none
 |some r=>(
 bif ((((decide (0≤(i64.wrap (Int.tdiv (i64.wrap (r+7)) 8))))&&(decide ((i64.wrap (Int.tdiv (i64.wrap (r+7)) 8))≤(i64.wrap (Int.tdiv (i64.wrap (r+7)) 8)))))&&(decide ((((1:Nat):Int)*(i64.wrap (Int.tdiv (i64.wrap (r+7)) 8)))≤281474976710656)))&&(decide ((i64.wrap (Int.tdiv (i64.wrap (r+7)) 8))≤9223372036854775807)))then(
 match(aB lV (((),((i64.wrap (Int.tdiv (i64.wrap (r+7)) 8)),(((Int.toNat (i64.wrap (Int.tdiv (i64.wrap (r+7)) 8))),(fun _=>0)),((i64.wrap (Int.tdiv (i64.wrap (r+7)) 8)),(0,()))))),(a,())))with
 |none=>none
 |some y=>(
 let nout:=y.1.1.1
 let out:=y.1.1.2
 some (bytesOf nout (fun j=>out (0+j)))))
 else(
 none))
def Il:=veil KI
theorem Ml:Il=KI:=aj _
open Go.IntKind (i64 u64 u32 u8)
def Oo(a:NI)(b:NI):Option (NI×NI):=
 match(bits_Mul64 (a 0) (b 0))with
 |none=>none
 |some r=>(
 match(bP r.2 0 0)with
 |none=>none
 |some r1=>(
 match(bP r1.1 0 0)with
 |none=>none
 |some r2=>(
 match(bits_Mul64 (a 0) (b 1))with
 |none=>none
 |some r3=>(
 match(bP r3.2 0 0)with
 |none=>none
 |some r4=>(
 match(bP r4.1 (u64.wrap ((u64.wrap (r.1+r1.2))+r2.2)) 0)with
 |none=>none
 |some r5=>(
 match(bits_Mul64 (a 0) (b 2))with
 |none=>none
 |some r6=>(
 match(bP r6.2 0 0)with
 |none=>none
 |some r7=>(
 match(bP r7.1 (u64.wrap ((u64.wrap (r3.1+r4.2))+r5.2)) 0)with
 |none=>none
 |some r8=>(
 match(bits_Mul64 (a 0) (b 3))with
 |none=>none
 |some r9=>(
 match(bP r9.2 0 0)with
 |none=>none
 |some r10=>(
 match(bP r10.1 (u64.wrap ((u64.wrap (r6.1+r7.2))+r8.2)) 0)with
 |none=>none
 |some r11=>(
 match(bits_Mul64 (a 1) (b 0))with
 |none=>none
 |some r12=>(
 match(bP r12.2 r5.1 0)with
 |none=>none
 |some r13=>(
 match(bP r13.1 0 0)with
 |none=>none
 |some r14=>(
 match(bits_Mul64 (a 1) (b 1))with
 |none=>none
 |some r15=>(
 match(bP r15.2 r8.1 0)with
 |none=>none
 |some r16=>(
 match(bP r16.1 (u64.wrap ((u64.wrap (r12.1+r13.2))+r14.2)) 0)with
 |none=>none
 |some r17=>(
 match(bits_Mul64 (a 1) (b 2))with
 |none=>none
 |some r18=>(
 match(bP r18.2 r11.1 0)with
 |none=>none
 |some r19=>(
 match(bP r19.1 (u64.wrap ((u64.wrap (r15.1+r16.2))+r17.2)) 0)with
 |none=>none
 |some r20=>(
 match(bits_Mul64 (a 1) (b 3))with
 |none=>none
 |some r21=>(
 match(bP r21.2 (u64.wrap ((u64.wrap (r9.1+r10.2))+r11.2)) 0)with
 |none=>none
 |some r22=>(
 match(bP r22.1 (u64.wrap ((u64.wrap (r18.1+r19.2))+r20.2)) 0)with
 |none=>none
 |some r23=>(
 match(bits_Mul64 (a 2) (b 0))with
 |none=>none
 |some r24=>(
 match(bP r24.2 r17.1 0)with
 |none=>none
 |some r25=>(
 match(bP r25.1 0 0)with
 |none=>none
 |some r26=>(
 match(bits_Mul64 (a 2) (b 1))with
 |none=>none
 |some r27=>(
 match(bP r27.2 r20.1 0)with
 |none=>none
 |some r28=>(
 match(bP r28.1 (u64.wrap ((u64.wrap (r24.1+r25.2))+r26.2)) 0)with
 |none=>none
 |some r29=>(
 match(bits_Mul64 (a 2) (b 2))with
 |none=>none
 |some r30=>(
 match(bP r30.2 r23.1 0)with
 |none=>none
 |some r31=>(
 match(bP r31.1 (u64.wrap ((u64.wrap (r27.1+r28.2))+r29.2)) 0)with
 |none=>none
 |some r32=>(
 match(bits_Mul64 (a 2) (b 3))with
 |none=>none
 |some r33=>(
 match(bP r33.2 (u64.wrap ((u64.wrap (r21.1+r22.2))+r23.2)) 0)with
 |none=>none
 |some r34=>(
 match(bP r34.1 (u64.wrap ((u64.wrap (r30.1+r31.2))+r32.2)) 0)with
 |none=>none
 |some r35=>(
 match(bits_Mul64 (a 3) (b 0))with
 |none=>none
 |some r36=>(
 match(bP r36.2 r29.1 0)with
 |none=>none
 |some r37=>(
 match(bP r37.1 0 0)with
 |none=>none
 |some r38=>(
 match(bits_Mul64 (a 3) (b 1))with
 |none=>none
 |some r39=>(
 match(bP r39.2 r32.1 0)with
 |none=>none
 |some r40=>(
 match(bP r40.1 (u64.wrap ((u64.wrap (r36.1+r37.2))+r38.2)) 0)with
 |none=>none
 |some r41=>(
 match(bits_Mul64 (a 3) (b 2))with
 |none=>none
 |some r42=>(
 match(bP r42.2 r35.1 0)with
 |none=>none
 |some r43=>(
 match(bP r43.1 (u64.wrap ((u64.wrap (r39.1+r40.2))+r41.2)) 0)with
 |none=>none
 |some r44=>(
 match(bits_Mul64 (a 3) (b 3))with
 |none=>none
 |some r45=>(
 match(bP r45.2 (u64.wrap ((u64.wrap (r33.1+r34.2))+r35.2)) 0)with
 |none=>none
 |some r46=>(
 match(bP r46.1 (u64.wrap ((u64.wrap (r42.1+r43.2))+r44.2)) 0)with
 |none=>none
 |some r47=>(
 some ((fun j=>(upd (upd (upd (upd (upd (upd (upd (upd (upd (upd (upd (upd (upd (upd (upd (upd (upd (upd (upd (upd (fun _=>0) 0 r2.1) 1 r5.1) 2 r8.1) 3 r11.1) 4 (u64.wrap ((u64.wrap (r9.1+r10.2))+r11.2))) 1 r14.1) 2 r17.1) 3 r20.1) 4 r23.1) 5 (u64.wrap ((u64.wrap (r21.1+r22.2))+r23.2))) 2 r26.1) 3 r29.1) 4 r32.1) 5 r35.1) 6 (u64.wrap ((u64.wrap (r33.1+r34.2))+r35.2))) 3 r38.1) 4 r41.1) 5 r44.1) 6 r47.1) 7 (u64.wrap ((u64.wrap (r45.1+r46.2))+r47.2))) (0+j)),(fun j=>(upd (upd (upd (upd (upd (upd (upd (upd (upd (upd (upd (upd (upd (upd (upd (upd (upd (upd (upd (upd (fun _=>0) 0 r2.1) 1 r5.1) 2 r8.1) 3 r11.1) 4 (u64.wrap ((u64.wrap (r9.1+r10.2))+r11.2))) 1 r14.1) 2 r17.1) 3 r20.1) 4 r23.1) 5 (u64.wrap ((u64.wrap (r21.1+r22.2))+r23.2))) 2 r26.1) 3 r29.1) 4 r32.1) 5 r35.1) 6 (u64.wrap ((u64.wrap (r33.1+r34.2))+r35.2))) 3 r38.1) 4 r41.1) 5 r44.1) 6 r47.1) 7 (u64.wrap ((u64.wrap (r45.1+r46.2))+r47.2))) (4+j)))))))))))))))))))))))))))))))))))))))))))))))))))
def Ct:=veil Oo
theorem Qc:Ct=Oo:=aj _
def Gc(a:NI)(left_:Int)(m:Int):Option (NI×NI):=
 match(ni left_ (a 3) m)with
 |none=>none
 |some r=>(
 match(ni r.2 (a 2) m)with
 |none=>none
 |some r1=>(
 match(ni r1.2 (a 1) m)with
 |none=>none
 |some r2=>(
 match(ni r2.2 (a 0) m)with
 |none=>none
 |some r3=>(
 some ((upd (upd (upd (upd (fun _=>0) 3 r.1) 2 r1.1) 1 r2.1) 0 r3.1),(upd (fun _=>0) 0 r3.2))))))
def DC:=veil Gc
theorem JA:DC=Gc:=aj _
abbrev R7(t:Int)(a:NI)(left_:NI)(m:NI)(t1:NI)(t2:NI)(q:NI):=(((),((),((),((),((),((),(t,()))))))),(a,(left_,(m,(t1,(t2,(q,())))))))
abbrev Mq(left_:NI)(t:NI)(t1:NI)(q:NI):=(((),((),((),((),())))),(left_,(t,(t1,(q,())))))
abbrev ED:Type:=((Unit×Z0K)×(NI×(NI×Z0w)))
def fO:ED→Option (ED⊕((Unit×(Unit×Z0k))×Z0w)):=fun x=>
 let t:=x.1.2.2.2.2.2.2.1
 let a:=x.2.1
 let left_:=x.2.2.1
 let m:=x.2.2.2.1
 let t1:=x.2.2.2.2.1
 let t2:=x.2.2.2.2.2.1
 let q:=x.2.2.2.2.2.2.1
 bif (decide (t<256))then(
 match(Au left_ 255)with
 |none=>none
 |some r=>(
 match(Ti left_ 1)with
 |none=>none
 |some r1=>(
 match(Au a (i64.wrap (255-t)))with
 |none=>none
 |some r2=>(
 bif (r==1)then(
 match(w9 (upd r1 0 (ak .or .u64 (r1 0) (u64.wrap r2))) m)with
 |none=>none
 |some r3=>(
 bif (inb (i64.wrap (Int.tdiv (i64.wrap (255-t)) 64)) 4)then(
 bif (decide ((Int.tmod (i64.wrap (255-t)) 64)<0))then(
 none)
 else(
 let t3:=(ak .or .u64 (q (Int.toNat (i64.wrap (Int.tdiv (i64.wrap (255-t)) 64)))) (ig .u64 1 (Int.tmod (i64.wrap (255-t)) 64)))
 bif (inb (i64.wrap (Int.tdiv (i64.wrap (255-t)) 64)) 4)then(
 some (.inl (((),((),((),((),((),((),((i64.wrap (t+1)),()))))))),(a,(r3.1,(m,(t1,(t2,((upd q (Int.toNat (i64.wrap (Int.tdiv (i64.wrap (255-t)) 64))) t3),())))))))))
 else(
 none)))
 else(
 none)))
 else(
 match(yH (upd r1 0 (ak .or .u64 (r1 0) (u64.wrap r2))) m)with
 |none=>none
 |some r4=>(
 bif (decide (r4≥0))then(
 match(w9 (upd r1 0 (ak .or .u64 (r1 0) (u64.wrap r2))) m)with
 |none=>none
 |some r5=>(
 bif (inb (i64.wrap (Int.tdiv (i64.wrap (255-t)) 64)) 4)then(
 bif (decide ((Int.tmod (i64.wrap (255-t)) 64)<0))then(
 none)
 else(
 let t4:=(ak .or .u64 (q (Int.toNat (i64.wrap (Int.tdiv (i64.wrap (255-t)) 64)))) (ig .u64 1 (Int.tmod (i64.wrap (255-t)) 64)))
 bif (inb (i64.wrap (Int.tdiv (i64.wrap (255-t)) 64)) 4)then(
 some (.inl (((),((),((),((),((),((),((i64.wrap (t+1)),()))))))),(a,(r5.1,(m,(t1,(t2,((upd q (Int.toNat (i64.wrap (Int.tdiv (i64.wrap (255-t)) 64))) t4),())))))))))
 else(
 none)))
 else(
 none)))
 else(
 some (.inl (((),((),((),((),((),((),((i64.wrap (t+1)),()))))))),(a,((upd r1 0 (ak .or .u64 (r1 0) (u64.wrap r2))),(m,(t1,(t2,(q,())))))))))))))))
 else(
 some (.inr (((),((),((),((),())))),(left_,(t1,(t2,(q,())))))))
def DF(a:NI)(left_:NI)(m:NI):Option (NI×NI):=
 bif (eqF (.arr 4 (.int .u64)) m (upd (fun _=>0) 0 (m 0)))then(
 match(DC a (left_ 0) (m 0))with
 |none=>none
 |some r=>(
 some (r.1,r.2)))
 else(
 match(aB fO (((),((),((),((),((),((),(0,()))))))),(a,(left_,(m,((fun _=>0),((fun _=>0),((fun _=>0),()))))))))with
 |none=>none
 |some y=>(
 let left_1:=y.2.1
 let t:=y.2.2.1
 let t1:=y.2.2.2.1
 let q:=y.2.2.2.2.1
 some (q,left_1)))
def rJ:=veil DF
theorem Gd:rJ=DF:=aj _
def Oq(low:NI)(high:NI)(m:NI):Option (NI×Int):=
 bif (eqF (.arr 4 (.int .u64)) m (fun _=>0))then(
 some ((fun _=>0),1))
 else(
 match(rJ high (fun _=>0) m)with
 |none=>none
 |some r=>(
 match(rJ low r.2 m)with
 |none=>none
 |some r1=>(
 some (r1.2,0))))
def sJ:=veil Oq
theorem Qd:sJ=Oq:=aj _
def Ot(a:NI)(b:NI):Option (NI×NI×Int):=
 bif (eqF (.arr 4 (.int .u64)) b (fun _=>0))then(
 some ((fun _=>0),(fun _=>0),1))
 else(
 match(rJ a (fun _=>0) b)with
 |none=>none
 |some r=>(
 some (r.1,r.2,0)))
def Cu:=veil Ot
theorem Qe:Cu=Ot:=aj _
def DI(a:NI)(b:NI)(m:NI):Option (NI×Int):=
 match(Ct a b)with
 |none=>none
 |some r=>(
 match(sJ r.1 r.2 m)with
 |none=>none
 |some r1=>(
 some (r1.1,r1.2)))
def Av:=veil DI
theorem Gf:Av=DI:=aj _
def DJ(a:NI)(b:NI)(m:NI):Option (NI×Int):=
 match(sJ a (fun _=>0) m)with
 |none=>none
 |some r=>(
 bif (r.2 !=0)then(
 some ((fun _=>0),r.2))
 else(
 match(sJ b (fun _=>0) m)with
 |none=>none
 |some r1=>(
 match(w9 r.1 r1.1)with
 |none=>none
 |some r2=>(
 bif (r2.2==1)then(
 match(RH r2.1 m)with
 |none=>none
 |some r3=>(
 some (r3.1,0)))
 else(
 some (r2.1,0))))))
def nu:=veil DJ
theorem Gg:nu=DJ:=aj _
abbrev Mr(a:NI)(b:NI)(t:NI):=(((),((),((),()))),(a,(b,(t,()))))
abbrev TA(a:NI)(t:NI):=(((),((),())),(a,(t,())))
abbrev Ms:Type:=((Unit×Z0k)×(NI×Z06))
def kY:Ms→Option (Ms⊕(Z0k×Z06)):=fun x=>
 let a:=x.2.1
 let b:=x.2.2.1
 let t:=x.2.2.2.1
 bif (!(eqF (.arr 4 (.int .u64)) b (fun _=>0)))then(
 match(Cu a b)with
 |none=>none
 |some r=>(
 some (.inl (((),((),((),()))),(b,(r.2.1,(t,())))))))
 else(
 some (.inr (((),((),())),(a,(t,())))))
def Ou(a:NI)(b:NI):Option (NI):=
 match(aB kY (((),((),((),()))),(a,(b,((fun _=>0),())))))with
 |none=>none
 |some y=>(
 let a1:=y.2.1
 let t:=y.2.2.1
 some a1)
def zx:=veil Ou
theorem Qf:zx=Ou:=aj _
open Go.IntKind (i64 u64 u32 u8)
def Ov(m:NI):Option (Z0A×Int):=
 bif ((ak .and .u64 (m 0) 1)==0)then(
 some (none,1))
 else(
 match(bZ 1)with
 |none=>none
 |some r=>(
 bif (eqF (.arr 4 (.int .u64)) m r)then(
 some (none,1))
 else(
 let t:=(u64.wrap ((m 0)*(u64.wrap (2-(u64.wrap ((m 0)*(m 0)))))))
 let t1:=(u64.wrap ((m 0)*(u64.wrap (t*(u64.wrap (2-(u64.wrap ((m 0)*t))))))))
 let t2:=(u64.wrap ((u64.wrap (t*(u64.wrap (2-(u64.wrap ((m 0)*t))))))*(u64.wrap (2-t1))))
 let t3:=(u64.wrap ((m 0)*(u64.wrap (t2*(u64.wrap (2-(u64.wrap ((m 0)*t2))))))))
 let t4:=(u64.wrap ((u64.wrap (t2*(u64.wrap (2-(u64.wrap ((m 0)*t2))))))*(u64.wrap (2-t3))))
 match(bZ 1)with
 |none=>none
 |some r1=>(
 match(sJ (fun _=>0) r1 m)with
 |none=>none
 |some r2=>(
 match(Av r2.1 r2.1 m)with
 |none=>none
 |some r3=>(
 some ((some (m,((u64.wrap (0-t4)),(r2.1,r3.1)))),0)))))))
def wT:=veil Ov
theorem Qg:wT=Ov:=aj _
def om(r:Z0A):Option (Bool):=
 match r with
 |none=>(
 some false)
 |some r0=>(
 some (r0.2.1 !=0))
def d9:=veil om
theorem zy:d9=om:=aj _
def sM(r:Z0A)(a:NI):Option (NI):=
 match r with
 |none=>(
 none)
 |some r0=>(
 match(yH a r0.1)with
 |none=>none
 |some r1=>(
 bif (decide (r1<0))then(
 some a)
 else(
 match(sJ a (fun _=>0) r0.1)with
 |none=>none
 |some r2=>(
 some r2.1))))
def qb:=veil sM
theorem Cv:qb=sM:=aj _
def KJ(t:NI)(x:Int)(b:NI):Option (NI):=
 match(bits_Mul64 x (b 0))with
 |none=>none
 |some r=>(
 match(bP r.2 (t 0) 0)with
 |none=>none
 |some r1=>(
 match(bP r1.1 0 0)with
 |none=>none
 |some r2=>(
 match(bits_Mul64 x (b 1))with
 |none=>none
 |some r3=>(
 match(bP r3.2 (t 1) 0)with
 |none=>none
 |some r4=>(
 match(bP r4.1 (u64.wrap ((u64.wrap (r.1+r1.2))+r2.2)) 0)with
 |none=>none
 |some r5=>(
 match(bits_Mul64 x (b 2))with
 |none=>none
 |some r6=>(
 match(bP r6.2 (t 2) 0)with
 |none=>none
 |some r7=>(
 match(bP r7.1 (u64.wrap ((u64.wrap (r3.1+r4.2))+r5.2)) 0)with
 |none=>none
 |some r8=>(
 match(bits_Mul64 x (b 3))with
 |none=>none
 |some r9=>(
 match(bP r9.2 (t 3) 0)with
 |none=>none
 |some r10=>(
 match(bP r10.1 (u64.wrap ((u64.wrap (r6.1+r7.2))+r8.2)) 0)with
 |none=>none
 |some r11=>(
 match(bP (t 4) (u64.wrap ((u64.wrap (r9.1+r10.2))+r11.2)) 0)with
 |none=>none
 |some r12=>(
 some (upd (upd (upd (upd (upd (upd t 0 r2.1) 1 r5.1) 2 r8.1) 3 r11.1) 4 r12.1) 5 (u64.wrap ((t 5)+r12.2))))))))))))))))
def iw:=veil KJ
theorem Mt:iw=KJ:=aj _
def qE(r:Z0A)(a:NI)(b:NI):Option (NI):=
 match r with
 |none=>(
 match(iw (fun _=>0) (a 0) b)with
 |none=>none
 |some r12=>(
 none))
 |some r0=>(
 match(iw (fun _=>0) (a 0) b)with
 |none=>none
 |some r1=>(
 match(iw r1 (u64.wrap ((r1 0)*r0.2.1)) r0.1)with
 |none=>none
 |some r2=>(
 match(iw (upd (sj r2 0 5 (fun j=>r2 (1+j))) 5 0) (a 1) b)with
 |none=>none
 |some r3=>(
 match(iw r3 (u64.wrap ((r3 0)*r0.2.1)) r0.1)with
 |none=>none
 |some r4=>(
 match(iw (upd (sj r4 0 5 (fun j=>r4 (1+j))) 5 0) (a 2) b)with
 |none=>none
 |some r5=>(
 match(iw r5 (u64.wrap ((r5 0)*r0.2.1)) r0.1)with
 |none=>none
 |some r6=>(
 match(iw (upd (sj r6 0 5 (fun j=>r6 (1+j))) 5 0) (a 3) b)with
 |none=>none
 |some r7=>(
 match(iw r7 (u64.wrap ((r7 0)*r0.2.1)) r0.1)with
 |none=>none
 |some r8=>(
 bif ((r8 5) !=0)then(
 match(w9 (fun j=>(upd (sj r8 0 5 (fun j=>r8 (1+j))) 5 0) (0+j)) r0.1)with
 |none=>none
 |some r9=>(
 some r9.1))
 else(
 match(yH (fun j=>(upd (sj r8 0 5 (fun j=>r8 (1+j))) 5 0) (0+j)) r0.1)with
 |none=>none
 |some r10=>(
 bif (decide (r10≥0))then(
 match(w9 (fun j=>(upd (sj r8 0 5 (fun j=>r8 (1+j))) 5 0) (0+j)) r0.1)with
 |none=>none
 |some r11=>(
 some r11.1))
 else(
 some (fun j=>(upd (sj r8 0 5 (fun j=>r8 (1+j))) 5 0) (0+j))))))))))))))
def cu:=veil qE
theorem Aw:cu=qE:=aj _
def qF(r:Z0A)(a:NI):Option (NI):=
 match r with
 |none=>(
 match(d9 none)with
 |none=>none
 |some r4=>(
 bif (!r4)then(
 some (fun _=>0))
 else(
 match(qb none a)with
 |none=>none
 |some r5=>(
 none))))
 |some r0=>(
 match(d9 (some r0))with
 |none=>none
 |some r1=>(
 bif (!r1)then(
 some (fun _=>0))
 else(
 match(qb (some r0) a)with
 |none=>none
 |some r2=>(
 match(cu (some r0) r2 r0.2.2.2)with
 |none=>none
 |some r3=>(
 some r3)))))
def nA:=veil qF
theorem Ay:nA=qF:=aj _
abbrev Gh(r:Z02)(k:Int)(t:(Nat→NI))(out:(Nat→NI))(form:NI):=((r,((),((),((),(k,()))))),(t,(out,(form,()))))
abbrev DK(t:(Nat→NI))(out:(Nat→NI)):=(((),((),())),(t,(out,())))
abbrev wU:Type:=((Z02×Z0D)×((Nat→NI)×((Nat→NI)×(NI×Unit))))
def eP:wU→Option (wU⊕(Z0k×((Nat→NI)×((Nat→NI)×Unit)))):=fun x=>
 let r:=x.1.1
 let k:=x.1.2.2.2.2.1
 let t:=x.2.1
 let out:=x.2.2.1
 let form:=x.2.2.2.1
 bif (decide (k<16))then(
 bif (inb (i64.wrap (k-1)) 16)then(
 match(cu (some r) (out (Int.toNat (i64.wrap (k-1)))) form)with
 |none=>none
 |some r1=>(
 bif (inb k 16)then(
 some (.inl ((r,((),((),((),((i64.wrap (k+1)),()))))),(t,((upd out (Int.toNat k) r1),(form,()))))))
 else(
 none)))
 else(
 none))
 else(
 some (.inr (((),((),())),(t,(out,())))))
def mI(r:Z0A)(a:NI):Option ((Nat→NI)):=
 match r with
 |none=>(
 match(nA none a)with
 |none=>none
 |some r2=>(
 none))
 |some r0=>(
 match(nA (some r0) a)with
 |none=>none
 |some r1=>(
 match(aB eP ((r0,((),((),((),(1,()))))),((fun _=>(fun _=>0)),((upd (fun _=>(fun _=>0)) 0 r0.2.2.1),(r1,())))))with
 |none=>none
 |some y=>(
 let t:=y.2.1
 let out:=y.2.2.1
 some out)))
def oq:=veil mI
theorem xX:oq=mI:=aj _
def sN(e:NI)(at_:Int):Option (Int):=
 match(Gb e at_)with
 |none=>none
 |some r=>(
 match(Ti r 252)with
 |none=>none
 |some r1=>(
 match(Gb r1 252)with
 |none=>none
 |some r2=>(
 match(Mk r2)with
 |none=>none
 |some r3=>(
 some r3.1))))
def ou:=veil sN
theorem xY:ou=sN:=aj _
abbrev KL(r:Z02)(nexps:Nat)(exps:Nat→NI)(ntables:Nat)(tables:Nat→(Nat→NI))(longest:Int)(nt:Nat)(t:Nat→NI)(t1:Int)(t2:Int)(t3:NI):=((r,((nexps,exps),((),((ntables,tables),(longest,((nt,t),(t1,(t2,())))))))),(t3,()))
abbrev Gi(r:Z02)(nexps:Nat)(exps:Nat→NI)(ntables:Nat)(tables:Nat→(Nat→NI))(longest:Int)(t:NI):=((r,((nexps,exps),((),((ntables,tables),(longest,()))))),(t,()))
abbrev zA:Type:=((Z02×(Z0d×(Unit×(Z0G×(Int×(Z0d×(Int×Z04)))))))×(NI×Unit))
def gF:zA→Option (zA⊕((Z02×(Z0d×(Unit×(Z0G×Z04))))×(NI×Unit))):=fun x=>
 let r:=x.1.1
 let nexps:=x.1.2.1.1
 let exps:=x.1.2.1.2
 let ntables:=x.1.2.2.2.1.1
 let tables:=x.1.2.2.2.1.2
 let longest:=x.1.2.2.2.2.1
 let nt:=x.1.2.2.2.2.2.1.1
 let t:=x.1.2.2.2.2.2.1.2
 let t1:=x.1.2.2.2.2.2.2.1
 let t2:=x.1.2.2.2.2.2.2.2.1
 let t3:=x.2.1
 bif (decide (t2<t1))then(
 bif (inb t2 nt)then(
 match(oq (some r) (t (Int.toNat t2)))with
 |none=>none
 |some r1=>(
 bif ((Nat.ble ((ntables+1)*512) 140737488355328)&&(Nat.ble (ntables+1) 9223372036854775807))then(
 bif (inb t2 nexps)then(
 match(yI (exps (Int.toNat t2)))with
 |none=>none
 |some r2=>(
 some (.inl ((r,((nexps,exps),((),(((ntables+1),(glue ntables tables (fun j=>(upd (fun _=>(fun _=>(fun _=>0))) 0 r1) (0+j)))),((if longest<r2 then r2 else longest),((nt,t),(t1,((i64.wrap (t2+1)),())))))))),(t3,())))))
 else(
 none))
 else(
 none)))
 else(
 none))
 else(
 some (.inr ((r,((nexps,exps),((),((ntables,tables),(longest,()))))),(t3,()))))
abbrev qL(r:Z02)(nexps:Nat)(exps:Nat→NI)(ntables:Nat)(tables:Nat→(Nat→NI))(at_:Int)(nt:Nat)(t:Nat→NI)(t1:Int)(t2:Int)(t3:NI)(out:NI):=((r,((nexps,exps),((),((ntables,tables),((),((),(at_,((nt,t),(t1,(t2,())))))))))),(t3,(out,())))
abbrev Gj(r:Z02)(nexps:Nat)(exps:Nat→NI)(ntables:Nat)(tables:Nat→(Nat→NI))(at_:Int)(t:NI)(out:NI):=((r,((nexps,exps),((),((ntables,tables),((),((),(at_,()))))))),(t,(out,())))
abbrev zB:Type:=((Z02×(Z0d×(Unit×(Z0G×(Unit×(Unit×(Int×(Z0d×(Int×Z04)))))))))×Z06)
def gG:zB→Option (zB⊕((Z02×(Z0d×(Unit×(Z0G×Z0e))))×Z06)):=fun x=>
 let r:=x.1.1
 let nexps:=x.1.2.1.1
 let exps:=x.1.2.1.2
 let ntables:=x.1.2.2.2.1.1
 let tables:=x.1.2.2.2.1.2
 let at_:=x.1.2.2.2.2.2.2.1
 let nt:=x.1.2.2.2.2.2.2.2.1.1
 let t:=x.1.2.2.2.2.2.2.2.1.2
 let t1:=x.1.2.2.2.2.2.2.2.2.1
 let t2:=x.1.2.2.2.2.2.2.2.2.2.1
 let t3:=x.2.1
 let out:=x.2.2.1
 bif (decide (t2<t1))then(
 bif (inb t2 nt)then(
 match(ou (t (Int.toNat t2)) at_)with
 |none=>none
 |some r1=>(
 bif (inb t2 ntables)then(
 bif (inb r1 16)then(
 match(cu (some r) out ((tables (0+(Int.toNat t2))) (Int.toNat r1)))with
 |none=>none
 |some r2=>(
 some (.inl ((r,((nexps,exps),((),((ntables,tables),((),((),(at_,((nt,t),(t1,((i64.wrap (t2+1)),())))))))))),(t3,(r2,()))))))
 else(
 none))
 else(
 none)))
 else(
 none))
 else(
 some (.inr ((r,((nexps,exps),((),((ntables,tables),((),((),(at_,()))))))),(t3,(out,())))))
abbrev KM(r:Z02)(nexps:Nat)(exps:Nat→NI)(ntables:Nat)(tables:Nat→(Nat→NI))(at_:Int)(t:NI)(out:NI):=((r,((nexps,exps),((),((ntables,tables),((),((),(at_,()))))))),(t,(out,())))
abbrev Gl(r:Z02)(t:NI)(out:NI):=((r,((),((),()))),(t,(out,())))
abbrev zC:Type:=((Z02×(Z0d×(Unit×(Z0G×Z0e))))×Z06)
def eF:zC→Option (zC⊕((Z02×Z0k)×Z06)):=fun x=>
 let r:=x.1.1
 let nexps:=x.1.2.1.1
 let exps:=x.1.2.1.2
 let ntables:=x.1.2.2.2.1.1
 let tables:=x.1.2.2.2.1.2
 let at_:=x.1.2.2.2.2.2.2.1
 let t:=x.2.1
 let out:=x.2.2.1
 bif (decide (at_>0))then(
 match(cu (some r) out out)with
 |none=>none
 |some r1=>(
 match(cu (some r) r1 r1)with
 |none=>none
 |some r2=>(
 match(cu (some r) r2 r2)with
 |none=>none
 |some r3=>(
 match(cu (some r) r3 r3)with
 |none=>none
 |some r4=>(
 match(aB gG ((r,((nexps,exps),((),((ntables,tables),((),((),((i64.wrap (at_-4)),((nexps,exps),(((nexps:Nat):Int),(0,())))))))))),(t,(r4,()))))with
 |none=>none
 |some y=>(
 let r5:=y.1.1
 let nexps1:=y.1.2.1.1
 let exps1:=y.1.2.1.2
 let ntables1:=y.1.2.2.2.1.1
 let tables1:=y.1.2.2.2.1.2
 let at_1:=y.1.2.2.2.2.2.2.1
 let t1:=y.2.1
 let out1:=y.2.2.1
 some (.inl ((r5,((nexps1,exps1),((),((ntables1,tables1),((),((),(at_1,()))))))),(t1,(out1,()))))))))))
 else(
 some (.inr ((r,((),((),()))),(t,(out,())))))
def qG(r:Z0A)(nbases:Nat)(bases:Nat→NI)(nexps:Nat)(exps:Nat→NI):Option (NI×Int):=
 match r with
 |none=>(
 match(d9 none)with
 |none=>none
 |some r6=>(
 bif (!r6)then(
 some ((fun _=>0),1))
 else(
 bif (((nbases:Nat):Int) !=((nexps:Nat):Int))then(
 some ((fun _=>0),1))
 else(
 bif (decide (((nbases:Nat):Int)>64))then(
 some ((fun _=>0),1))
 else(
 none)))))
 |some r0=>(
 match(d9 (some r0))with
 |none=>none
 |some r1=>(
 bif (!r1)then(
 some ((fun _=>0),1))
 else(
 bif (((nbases:Nat):Int) !=((nexps:Nat):Int))then(
 some ((fun _=>0),1))
 else(
 bif (decide (((nbases:Nat):Int)>64))then(
 some ((fun _=>0),1))
 else(
 match(aB gF ((r0,((nexps,exps),((),((0,(fun _=>(fun _=>(fun _=>0)))),(0,((nbases,bases),(((nbases:Nat):Int),(0,())))))))),((fun _=>0),())))with
 |none=>none
 |some y=>(
 let r2:=y.1.1
 let nexps1:=y.1.2.1.1
 let exps1:=y.1.2.1.2
 let ntables:=y.1.2.2.2.1.1
 let tables:=y.1.2.2.2.1.2
 let longest:=y.1.2.2.2.2.1
 let t:=y.2.1
 match(aB eF ((r2,((nexps1,exps1),((),((ntables,tables),((),((),((i64.wrap ((i64.wrap (Int.tdiv (i64.wrap ((i64.wrap (longest+4))-1)) 4))*4)),()))))))),(t,(r2.2.2.1,()))))with
 |none=>none
 |some y1=>(
 let r3:=y1.1.1
 let t1:=y1.2.1
 let out:=y1.2.2.1
 match(bZ 1)with
 |none=>none
 |some r4=>(
 match(cu (some r3) out r4)with
 |none=>none
 |some r5=>(
 some (r5,0))))))))))
def fC:=veil qG
theorem Az:fC=qG:=aj _
def sO(r:Z0A)(a:NI)(e:NI):Option (NI):=
 match r with
 |none=>(
 match(fC none 1 (fun j=>(upd (fun _=>(fun _=>0)) 0 a) (0+j)) 1 (fun j=>(upd (fun _=>(fun _=>0)) 0 e) (0+j)))with
 |none=>none
 |some r2=>(
 some r2.1))
 |some r0=>(
 match(fC (some r0) 1 (fun j=>(upd (fun _=>(fun _=>0)) 0 a) (0+j)) 1 (fun j=>(upd (fun _=>(fun _=>0)) 0 e) (0+j)))with
 |none=>none
 |some r1=>(
 some r1.1))
def aS:=veil sO
theorem Cw:aS=sO:=aj _
def yJ(r:Z0A):Option (NI):=
 match r with
 |none=>(
 match(d9 none)with
 |none=>none
 |some r2=>(
 bif (!r2)then(
 some (fun _=>0))
 else(
 none)))
 |some r0=>(
 match(d9 (some r0))with
 |none=>none
 |some r1=>(
 bif (!r1)then(
 some (fun _=>0))
 else(
 some r0.1)))
def nC:=veil yJ
theorem Gm:nC=yJ:=aj _
def wh(r:Z0A)(a:NI):Option (Bool):=
 match r with
 |none=>(
 match(d9 none)with
 |none=>none
 |some r3=>(
 bif r3 then(
 none)
 else(
 some false)))
 |some r0=>(
 match(d9 (some r0))with
 |none=>none
 |some r1=>(
 bif r1 then(
 match(yH a r0.1)with
 |none=>none
 |some r2=>(
 some (decide (r2<0))))
 else(
 some false)))
def cO:=veil wh
theorem EF:cO=wh:=aj _
open Go.IntKind (i64 u64 u32 u8)
abbrev EG(n:Int)(is_:Bool)(t:Int)(t1:Int):=((n,(is_,(t,(t1,())))),())
abbrev AA(is_:Bool):=((is_,()),())
abbrev EH:Type:=((Int×(Bool×(Int×Z04)))×Unit)
def dN:EH→Option (EH⊕Z0t):=fun x=>
 let n:=x.1.1
 let is_:=x.1.2.1
 let t:=x.1.2.2.1
 let t1:=x.1.2.2.2.1
 bif (decide (t1<t))then(
 bif (decide (t1<2))then(
 some (.inl ((n,(is_,(t,((i64.wrap (t1+1)),())))),())))
 else(
 bif (decide ((i64.wrap (t1*t1))>n))then(
 some (.inr ((is_,()),())))
 else(
 bif (decide (t1=0))then(
 none)
 else(
 bif ((Int.tmod n t1)==0)then(
 some (.inr ((false,()),())))
 else(
 some (.inl ((n,(is_,(t,((i64.wrap (t1+1)),())))),())))))))
 else(
 some (.inr ((is_,()),())))
def DL(n:Int):Option (Bool):=
 bif (decide (n<2))then(
 some false)
 else(
 bif (decide (n≥65536))then(
 some false)
 else(
 match(aB dN ((n,(true,(n,(0,())))),()))with
 |none=>none
 |some y=>(
 let is_:=y.1.1
 some is_)))
def AB:=veil DL
theorem Gn:AB=DL:=aj _
def Gp(n:NI)(factor:NI)(witness:Int):Option (Bool):=
 match(wT n)with
 |none=>none
 |some r=>(
 match r.1 with
 |none=>(
 bif (r.2 !=0)then(
 some false)
 else(
 bif (decide (witness<2))then(
 some false)
 else(
 bif (decide (witness≥65536))then(
 some false)
 else(
 bif (eqF (.arr 4 (.int .u64)) factor (fun _=>0))then(
 some false)
 else(
 match(bZ 1)with
 |none=>none
 |some r22=>(
 match(w9 n r22)with
 |none=>none
 |some r23=>(
 match(Cu r23.1 factor)with
 |none=>none
 |some r24=>(
 match(Ct factor factor)with
 |none=>none
 |some r25=>(
 bif (!(eqF (.arr 4 (.int .u64)) r24.2.1 (fun _=>0)))then(
 some false)
 else(
 bif (eqF (.arr 4 (.int .u64)) r25.2 (fun _=>0))then(
 match(yH r25.1 n)with
 |none=>none
 |some r26=>(
 bif (decide (r26≤0))then(
 some false)
 else(
 match(bZ witness)with
 |none=>none
 |some r27=>(
 match(aS none r27 r24.1)with
 |none=>none
 |some r28=>(
 match(aS none r28 factor)with
 |none=>none
 |some r29=>(
 match(bZ 1)with
 |none=>none
 |some r30=>(
 bif (!(eqF (.arr 4 (.int .u64)) r29 r30))then(
 some false)
 else(
 match(bZ 1)with
 |none=>none
 |some r31=>(
 match(nu r28 r31 n)with
 |none=>none
 |some r32=>(
 match(zx r32.1 n)with
 |none=>none
 |some r33=>(
 match(bZ 1)with
 |none=>none
 |some r34=>(
 some (eqF (.arr 4 (.int .u64)) r33 r34)))))))))))))
 else(
 match(bZ witness)with
 |none=>none
 |some r35=>(
 match(aS none r35 r24.1)with
 |none=>none
 |some r36=>(
 match(aS none r36 factor)with
 |none=>none
 |some r37=>(
 match(bZ 1)with
 |none=>none
 |some r38=>(
 bif (!(eqF (.arr 4 (.int .u64)) r37 r38))then(
 some false)
 else(
 match(bZ 1)with
 |none=>none
 |some r39=>(
 match(nu r36 r39 n)with
 |none=>none
 |some r40=>(
 match(zx r40.1 n)with
 |none=>none
 |some r41=>(
 match(bZ 1)with
 |none=>none
 |some r42=>(
 some (eqF (.arr 4 (.int .u64)) r41 r42)))))))))))))))))))))
 |some p=>(
 bif (r.2 !=0)then(
 some false)
 else(
 bif (decide (witness<2))then(
 some false)
 else(
 bif (decide (witness≥65536))then(
 some false)
 else(
 bif (eqF (.arr 4 (.int .u64)) factor (fun _=>0))then(
 some false)
 else(
 match(bZ 1)with
 |none=>none
 |some r1=>(
 match(w9 n r1)with
 |none=>none
 |some r2=>(
 match(Cu r2.1 factor)with
 |none=>none
 |some r3=>(
 match(Ct factor factor)with
 |none=>none
 |some r4=>(
 bif (!(eqF (.arr 4 (.int .u64)) r3.2.1 (fun _=>0)))then(
 some false)
 else(
 bif (eqF (.arr 4 (.int .u64)) r4.2 (fun _=>0))then(
 match(yH r4.1 n)with
 |none=>none
 |some r5=>(
 bif (decide (r5≤0))then(
 some false)
 else(
 match(bZ witness)with
 |none=>none
 |some r6=>(
 match(aS (some p) r6 r3.1)with
 |none=>none
 |some r7=>(
 match(aS (some p) r7 factor)with
 |none=>none
 |some r8=>(
 match(bZ 1)with
 |none=>none
 |some r9=>(
 bif (!(eqF (.arr 4 (.int .u64)) r8 r9))then(
 some false)
 else(
 match(bZ 1)with
 |none=>none
 |some r10=>(
 match(nu r7 r10 n)with
 |none=>none
 |some r11=>(
 match(zx r11.1 n)with
 |none=>none
 |some r12=>(
 match(bZ 1)with
 |none=>none
 |some r13=>(
 some (eqF (.arr 4 (.int .u64)) r12 r13)))))))))))))
 else(
 match(bZ witness)with
 |none=>none
 |some r14=>(
 match(aS (some p) r14 r3.1)with
 |none=>none
 |some r15=>(
 match(aS (some p) r15 factor)with
 |none=>none
 |some r16=>(
 match(bZ 1)with
 |none=>none
 |some r17=>(
 bif (!(eqF (.arr 4 (.int .u64)) r16 r17))then(
 some false)
 else(
 match(bZ 1)with
 |none=>none
 |some r18=>(
 match(nu r15 r18 n)with
 |none=>none
 |some r19=>(
 match(zx r19.1 n)with
 |none=>none
 |some r20=>(
 match(bZ 1)with
 |none=>none
 |some r21=>(
 some (eqF (.arr 4 (.int .u64)) r20 r21))))))))))))))))))))))
def DN:=veil Gp
theorem JB:DN=Gp:=aj _
abbrev EI(nl:Nat)(l:Nat→(NI×Int))(k:Int):=(((nl,l),(k,())),())
abbrev xG:Type:=(Z0L⊕Z05)
abbrev AJ(t:Int):xG:=(.inl ((t,()),()))
abbrev AL:xG:=(.inr ((),()))
abbrev EJ:Type:=(((Nat×(Nat→(NI×Int)))×Z04)×Unit)
def fP:EJ→Option (EJ⊕xG):=fun x=>
 let nl:=x.1.1.1
 let l:=x.1.1.2
 let k:=x.1.2.1
 bif (decide (k<((nl:Nat):Int)))then(
 bif (inb k nl)then(
 bif (inb (i64.wrap (k-1)) nl)then(
 bif (inb k nl)then(
 match(DN (l (Int.toNat k)).1 (l (Int.toNat (i64.wrap (k-1)))).1 (l (Int.toNat k)).2)with
 |none=>none
 |some r=>(
 bif (!r)then(
 some (.inr (.inl ((4,()),()))))
 else(
 some (.inl (((nl,l),((i64.wrap (k+1)),())),())))))
 else(
 none))
 else(
 none))
 else(
 none))
 else(
 some (.inr (.inr ((),()))))
def DR(nl:Nat)(l:Nat→(NI×Int)):Option (Int):=
 bif (decide (((nl:Nat):Int)<1))then(
 some 4)
 else(
 bif (decide (((nl:Nat):Int)>8))then(
 some 4)
 else(
 bif (inb 0 nl)then(
 match(Mk (l 0).1)with
 |none=>none
 |some r=>(
 bif (!r.2)then(
 some 4)
 else(
 match(AB r.1)with
 |none=>none
 |some r1=>(
 bif (!r1)then(
 some 4)
 else(
 bif (inb 0 nl)then(
 bif ((l 0).2 !=0)then(
 some 4)
 else(
 match(aB fP (((nl,l),(1,())),()))with
 |none=>none
 |some y=>(
 match y with
 | .inl y1=>(
 let t:=y1.1.1
 some t)
 | .inr y1=>(
 some 0))))
 else(
 none))))))
 else(
 none)))
def rM:=veil DR
theorem Gq:rM=DR:=aj _
open Go.IntKind (i64 u64 u32 u8)
def KN(p:Z0s):Option (Z0z×Int):=
 bif (decide (((p.1.1:Nat):Int)<2))then(
 some (none,4))
 else(
 match(rM p.1.1 p.1.2)with
 |none=>none
 |some r=>(
 bif (r !=0)then(
 some (none,4))
 else(
 bif (inb (i64.wrap (((p.1.1:Nat):Int)-1)) p.1.1)then(
 match(wT (p.1.2 (Int.toNat (i64.wrap (((p.1.1:Nat):Int)-1)))).1)with
 |none=>none
 |some r1=>(
 match r1.1 with
 |none=>(
 bif (r1.2 !=0)then(
 some (none,4))
 else(
 bif (inb (i64.wrap (((p.1.1:Nat):Int)-2)) p.1.1)then(
 match(wT (p.1.2 (Int.toNat (i64.wrap (((p.1.1:Nat):Int)-2)))).1)with
 |none=>none
 |some r13=>(
 match r13.1 with
 |none=>(
 bif (r13.2 !=0)then(
 some (none,4))
 else(
 match(yI (p.1.2 (Int.toNat (i64.wrap (((p.1.1:Nat):Int)-2)))).1)with
 |none=>none
 |some r19=>(
 bif (decide (r19<10))then(
 some (none,4))
 else(
 bif (eqF (.arr 4 (.int .u64)) p.2 (fun _=>0))then(
 some (none,4))
 else(
 match(bZ 1)with
 |none=>none
 |some r20=>(
 bif (eqF (.arr 4 (.int .u64)) p.2 r20)then(
 some (none,4))
 else(
 match(cO none p.2)with
 |none=>none
 |some r21=>(
 bif (!r21)then(
 some (none,4))
 else(
 match(aS none p.2 (p.1.2 (Int.toNat (i64.wrap (((p.1.1:Nat):Int)-2)))).1)with
 |none=>none
 |some r22=>(
 match(bZ 1)with
 |none=>none
 |some r23=>(
 bif (!(eqF (.arr 4 (.int .u64)) r22 r23))then(
 some (none,4))
 else(
 some ((some ((.nil,.nil),p.2)),0)))))))))))))
 |some p3=>(
 bif (r13.2 !=0)then(
 some (none,4))
 else(
 match(yI (p.1.2 (Int.toNat (i64.wrap (((p.1.1:Nat):Int)-2)))).1)with
 |none=>none
 |some r14=>(
 bif (decide (r14<10))then(
 some (none,4))
 else(
 bif (eqF (.arr 4 (.int .u64)) p.2 (fun _=>0))then(
 some (none,4))
 else(
 match(bZ 1)with
 |none=>none
 |some r15=>(
 bif (eqF (.arr 4 (.int .u64)) p.2 r15)then(
 some (none,4))
 else(
 match(cO none p.2)with
 |none=>none
 |some r16=>(
 bif (!r16)then(
 some (none,4))
 else(
 match(aS none p.2 (p.1.2 (Int.toNat (i64.wrap (((p.1.1:Nat):Int)-2)))).1)with
 |none=>none
 |some r17=>(
 match(bZ 1)with
 |none=>none
 |some r18=>(
 bif (!(eqF (.arr 4 (.int .u64)) r17 r18))then(
 some (none,4))
 else(
 some ((some ((.nil,(.fz p3)),p.2)),0)))))))))))))))
 else(
 none)))
 |some p1=>(
 bif (r1.2 !=0)then(
 some (none,4))
 else(
 bif (inb (i64.wrap (((p.1.1:Nat):Int)-2)) p.1.1)then(
 match(wT (p.1.2 (Int.toNat (i64.wrap (((p.1.1:Nat):Int)-2)))).1)with
 |none=>none
 |some r2=>(
 match r2.1 with
 |none=>(
 bif (r2.2 !=0)then(
 some (none,4))
 else(
 match(yI (p.1.2 (Int.toNat (i64.wrap (((p.1.1:Nat):Int)-2)))).1)with
 |none=>none
 |some r8=>(
 bif (decide (r8<10))then(
 some (none,4))
 else(
 bif (eqF (.arr 4 (.int .u64)) p.2 (fun _=>0))then(
 some (none,4))
 else(
 match(bZ 1)with
 |none=>none
 |some r9=>(
 bif (eqF (.arr 4 (.int .u64)) p.2 r9)then(
 some (none,4))
 else(
 match(cO (some p1) p.2)with
 |none=>none
 |some r10=>(
 bif (!r10)then(
 some (none,4))
 else(
 match(aS (some p1) p.2 (p.1.2 (Int.toNat (i64.wrap (((p.1.1:Nat):Int)-2)))).1)with
 |none=>none
 |some r11=>(
 match(bZ 1)with
 |none=>none
 |some r12=>(
 bif (!(eqF (.arr 4 (.int .u64)) r11 r12))then(
 some (none,4))
 else(
 some ((some (((.fz p1),.nil),p.2)),0)))))))))))))
 |some p2=>(
 bif (r2.2 !=0)then(
 some (none,4))
 else(
 match(yI (p.1.2 (Int.toNat (i64.wrap (((p.1.1:Nat):Int)-2)))).1)with
 |none=>none
 |some r3=>(
 bif (decide (r3<10))then(
 some (none,4))
 else(
 bif (eqF (.arr 4 (.int .u64)) p.2 (fun _=>0))then(
 some (none,4))
 else(
 match(bZ 1)with
 |none=>none
 |some r4=>(
 bif (eqF (.arr 4 (.int .u64)) p.2 r4)then(
 some (none,4))
 else(
 match(cO (some p1) p.2)with
 |none=>none
 |some r5=>(
 bif (!r5)then(
 some (none,4))
 else(
 match(aS (some p1) p.2 (p.1.2 (Int.toNat (i64.wrap (((p.1.1:Nat):Int)-2)))).1)with
 |none=>none
 |some r6=>(
 match(bZ 1)with
 |none=>none
 |some r7=>(
 bif (!(eqF (.arr 4 (.int .u64)) r6 r7))then(
 some (none,4))
 else(
 some ((some (((.fz p1),(.fz p2)),p.2)),0)))))))))))))))
 else(
 none)))))
 else(
 none))))
def rO:=veil KN
theorem Mw:rO=KN:=aj _
def mJ(g:Z0z):Option (Z0A):=
 match g with
 |none=>(
 some none)
 |some g0=>(
 bif (aM.uQ g0.1.1)then(
 none)
 else(
 bif (aM.isNil g0.1.1)then(
 some none)
 else(
 some (some (aM.val (((fun _=>0),(0,((fun _=>0),(fun _=>0)))):Z02) g0.1.1)))))
def bO:=veil mJ
theorem xZ:bO=mJ:=aj _
def zD(g:Z0z):Option (NI):=
 match g with
 |none=>(
 some (fun _=>0))
 |some g0=>(
 some g0.2)
def qc:=veil zD
theorem Cy:qc=zD:=aj _
def kZ(g:Z0z):Option (Z0A):=
 match g with
 |none=>(
 some none)
 |some g0=>(
 bif (aM.uQ g0.1.2)then(
 none)
 else(
 bif (aM.isNil g0.1.2)then(
 some none)
 else(
 some (some (aM.val (((fun _=>0),(0,((fun _=>0),(fun _=>0)))):Z02) g0.1.2)))))
def dB:=veil kZ
theorem wV:dB=kZ:=aj _
def sP(g:Z0z):Option (NI):=
 match g with
 |none=>(
 match(dB none)with
 |none=>none
 |some r3=>(
 match r3 with
 |none=>(
 match(nC none)with
 |none=>none
 |some r5=>(
 some r5))
 |some p1=>(
 match(nC (some p1))with
 |none=>none
 |some r4=>(
 some r4))))
 |some g0=>(
 match(dB (some g0))with
 |none=>none
 |some r=>(
 match r with
 |none=>(
 match(nC none)with
 |none=>none
 |some r2=>(
 some r2))
 |some p=>(
 match(nC (some p))with
 |none=>none
 |some r1=>(
 some r1))))
def dW:=veil sP
theorem Cz:dW=sP:=aj _
open Go.IntKind (i64 u64 u32 u8)
abbrev a0w(k:Int)(b:Z0l)(t:NI)(out:NI):=(((),((),((),(k,())))),(b,(t,(out,()))))
abbrev Wv(t:NI)(out:NI):=(((),((),())),(t,(out,())))
abbrev Qh:Type:=(Z0D×(Z0l×Z06))
def nD:Qh→Option (Qh⊕(Z0k×Z06)):=fun x=>
 let k:=x.1.2.2.2.1
 let b:=x.2.1
 let t:=x.2.2.1
 let out:=x.2.2.2.1
 bif (decide (k<256))then(
 bif (inb k 256)then(
 bif (b (Int.toNat k))then(
 bif (inb (i64.wrap (Int.tdiv k 64)) 4)then(
 bif (decide ((Int.tmod k 64)<0))then(
 none)
 else(
 let t1:=(ak .or .u64 (out (Int.toNat (i64.wrap (Int.tdiv k 64)))) (ig .u64 1 (Int.tmod k 64)))
 bif (inb (i64.wrap (Int.tdiv k 64)) 4)then(
 some (.inl (((),((),((),((i64.wrap (k+1)),())))),(b,(t,((upd out (Int.toNat (i64.wrap (Int.tdiv k 64))) t1),()))))))
 else(
 none)))
 else(
 none))
 else(
 some (.inl (((),((),((),((i64.wrap (k+1)),())))),(b,(t,(out,())))))))
 else(
 none))
 else(
 some (.inr (((),((),())),(t,(out,())))))
def TD(b:Z0l):Option (NI):=
 match(aB nD (((),((),((),(0,())))),(b,((fun _=>0),((fun _=>0),())))))with
 |none=>none
 |some y=>(
 let t:=y.2.1
 let out:=y.2.2.1
 some out)
def RI:=veil TD
theorem TF:RI=TD:=aj _
abbrev a0x(n:Int)(k:Int)(t:NI)(b:Z0l):=((n,((),((),(k,())))),(t,(b,())))
abbrev JC(t:NI)(b:Z0l):=(((),((),())),(t,(b,())))
abbrev Qi:Type:=((Int×Z0e)×(NI×(Z0l×Unit)))
def nE:Qi→Option (Qi⊕(Z0k×(NI×(Z0l×Unit)))):=fun x=>
 let n:=x.1.1
 let k:=x.1.2.2.2.1
 let t:=x.2.1
 let b:=x.2.2.1
 bif (decide (k<63))then(
 bif (decide (n>0))then(
 bif (decide (k<0))then(
 none)
 else(
 bif (inb k 256)then(
 some (.inl ((n,((),((),((i64.wrap (k+1)),())))),(t,((upd b (Int.toNat k) ((ak .and .i64 (bH .i64 n k) 1)==1)),())))))
 else(
 none)))
 else(
 some (.inr (((),((),())),(t,(b,()))))))
 else(
 some (.inr (((),((),())),(t,(b,())))))
def TG(n:Int):Option (NI):=
 match(aB nE ((n,((),((),(0,())))),((fun _=>0),((fun _=>false),()))))with
 |none=>none
 |some y=>(
 let t:=y.2.1
 let b:=y.2.2.1
 match(RI b)with
 |none=>none
 |some r=>(
 some r))
def aU:=veil TG
theorem TH:aU=TG:=aj _
abbrev a2F(k:Int)(a:NI)(t:Z0l)(out:Z0l):=(((),((),((),(k,())))),(a,(t,(out,()))))
abbrev YL(t:Z0l)(out:Z0l):=(((),((),())),(t,(out,())))
abbrev TJ:Type:=(Z0D×(NI×(Z0l×(Z0l×Unit))))
def uT:TJ→Option (TJ⊕(Z0k×(Z0l×(Z0l×Unit)))):=fun x=>
 let k:=x.1.2.2.2.1
 let a:=x.2.1
 let t:=x.2.2.1
 let out:=x.2.2.2.1
 bif (decide (k<256))then(
 bif (inb (i64.wrap (Int.tdiv k 64)) 4)then(
 bif (decide ((Int.tmod k 64)<0))then(
 none)
 else(
 let t1:=(ak .and .u64 (bH .u64 (a (Int.toNat (i64.wrap (Int.tdiv k 64)))) (Int.tmod k 64)) 1)
 bif (inb k 256)then(
 some (.inl (((),((),((),((i64.wrap (k+1)),())))),(a,(t,((upd out (Int.toNat k) (t1==1)),()))))))
 else(
 none)))
 else(
 none))
 else(
 some (.inr (((),((),())),(t,(out,())))))
def YM(a:NI):Option (Z0l):=
 match(aB uT (((),((),((),(0,())))),(a,((fun _=>false),((fun _=>false),())))))with
 |none=>none
 |some y=>(
 let t:=y.2.1
 let out:=y.2.2.1
 some out)
def Gr:=veil YM
theorem Xz:Gr=YM:=aj _
abbrev a0y(k:Int)(x1:Z0l)(y:Z0l):=(((),((),(k,()))),(x1,(y,())))
abbrev Gs:Type:=(Z0L⊕Z05)
abbrev Ww(t:Int):Gs:=(.inl ((t,()),()))
abbrev Wx:Gs:=(.inr ((),()))
abbrev Qj:Type:=(Z0e×(Z0l×(Z0l×Unit)))
def jo:Qj→Option (Qj⊕Gs):=fun x=>
 let k:=x.1.2.2.1
 let x1:=x.2.1
 let y:=x.2.2.1
 bif (decide (k≥0))then(
 bif (inb k 256)then(
 bif (inb k 256)then(
 bif (!((x1 (Int.toNat k))==(y (Int.toNat k))))then(
 bif (inb k 256)then(
 bif (x1 (Int.toNat k))then(
 some (.inr (.inl ((1,()),()))))
 else(
 some (.inr (.inl (((-1),()),())))))
 else(
 none))
 else(
 some (.inl (((),((),((i64.wrap (k-1)),()))),(x1,(y,()))))))
 else(
 none))
 else(
 none))
 else(
 some (.inr (.inr ((),()))))
def TK(a:NI)(b:NI):Option (Int):=
 match(Gr a)with
 |none=>none
 |some r=>(
 match(Gr b)with
 |none=>none
 |some r1=>(
 match(aB jo (((),((),(255,()))),(r,(r1,()))))with
 |none=>none
 |some y=>(
 match y with
 | .inl y1=>(
 let t:=y1.1.1
 some t)
 | .inr y1=>(
 some 0))))
def RJ:=veil TK
theorem TL:RJ=TK:=aj _
abbrev a0z(k:Int)(b:Z0l):=(((),(k,())),(b,()))
abbrev Gt:Type:=(Z0L⊕Z05)
abbrev Wy(t:Int):Gt:=(.inl ((t,()),()))
abbrev Wz:Gt:=(.inr ((),()))
abbrev Qk:Type:=(Z0E×(Z0l×Unit))
def nG:Qk→Option (Qk⊕Gt):=fun x=>
 let k:=x.1.2.1
 let b:=x.2.1
 bif (decide (k≥0))then(
 bif (inb k 256)then(
 bif (b (Int.toNat k))then(
 some (.inr (.inl (((i64.wrap (k+1)),()),()))))
 else(
 some (.inl (((),((i64.wrap (k-1)),())),(b,())))))
 else(
 none))
 else(
 some (.inr (.inr ((),()))))
def TM(a:NI):Option (Int):=
 match(Gr a)with
 |none=>none
 |some r=>(
 match(aB nG (((),(255,())),(r,())))with
 |none=>none
 |some y=>(
 match y with
 | .inl y1=>(
 let t:=y1.1.1
 some t)
 | .inr y1=>(
 some 0)))
def Im:=veil TM
theorem TN:Im=TM:=aj _
abbrev a0A(n:Int)(k:Int)(b:Z0l):=((n,((),(k,()))),(b,()))
abbrev WA(n:Int):=((n,()),())
abbrev Ql:Type:=((Int×Z0E)×(Z0l×Unit))
def nH:Ql→Option (Ql⊕Z0L):=fun x=>
 let n:=x.1.1
 let k:=x.1.2.2.1
 let b:=x.2.1
 bif (decide (k<63))then(
 bif (inb k 256)then(
 bif (b (Int.toNat k))then(
 bif (decide (k<0))then(
 none)
 else(
 some (.inl (((ak .or .i64 n (ig .i64 1 k)),((),((i64.wrap (k+1)),()))),(b,())))))
 else(
 some (.inl ((n,((),((i64.wrap (k+1)),()))),(b,())))))
 else(
 none))
 else(
 some (.inr ((n,()),())))
def TP(a:NI):Option (Int×Bool):=
 match(Im a)with
 |none=>none
 |some r=>(
 bif (decide (r>63))then(
 some (0,false))
 else(
 match(Gr a)with
 |none=>none
 |some r1=>(
 match(aB nH ((0,((),(0,()))),(r1,())))with
 |none=>none
 |some y=>(
 let n:=y.1.1
 some (n,true)))))
def DT:=veil TP
theorem TQ:DT=TP:=aj _
def TR(a:NI)(k:Int):Option (Int):=
 match(Gr a)with
 |none=>none
 |some r=>(
 bif (decide (k≥0))then(
 bif (decide (k<256))then(
 bif (inb k 256)then(
 bif (r (Int.toNat k))then(
 some 1)
 else(
 some 0))
 else(
 none))
 else(
 some 0))
 else(
 some 0))
def Mx:=veil TR
theorem TS:Mx=TR:=aj _
abbrev BF(nout:Nat)(out:Nat→Int)(i:Int)(x1:Int)(k:Int)(a:NI):=(((),((nout,out),(i,(x1,(k,()))))),(a,()))
abbrev EK(nout:Nat)(out:Nat→Int)(i:Int)(x1:Int)(a:NI):=(((),((nout,out),(i,(x1,())))),(a,()))
abbrev JD:Type:=((Unit×((Nat×NI)×Z0u))×(NI×Unit))
def lW:JD→Option (JD⊕((Unit×((Nat×NI)×(Int×Z04)))×(NI×Unit))):=fun x=>
 let nout:=x.1.2.1.1
 let out:=x.1.2.1.2
 let i:=x.1.2.2.1
 let x1:=x.1.2.2.2.1
 let k:=x.1.2.2.2.2.1
 let a:=x.2.1
 bif (decide (k<8))then(
 match(Mx a (i64.wrap ((i64.wrap (8*i))+k)))with
 |none=>none
 |some r=>(
 bif (decide (k<0))then(
 none)
 else(
 some (.inl (((),((nout,out),(i,((ak .or .i64 x1 (ig .i64 r k)),((i64.wrap (k+1)),()))))),(a,()))))))
 else(
 some (.inr (((),((nout,out),(i,(x1,())))),(a,()))))
abbrev BH(nout:Nat)(out:Nat→Int)(i:Int)(a:NI):=(((),((nout,out),(i,()))),(a,()))
abbrev xH(nout:Nat)(out:Nat→Int):=(((nout,out),()),())
abbrev JE:Type:=((Unit×((Nat×NI)×Z04))×(NI×Unit))
def jD:JE→Option (JE⊕Z0y):=fun x=>
 let nout:=x.1.2.1.1
 let out:=x.1.2.1.2
 let i:=x.1.2.2.1
 let a:=x.2.1
 bif (decide (i≥0))then(
 match(aB lW (((),((nout,out),(i,(0,(0,()))))),(a,())))with
 |none=>none
 |some y=>(
 let nout1:=y.1.2.1.1
 let out1:=y.1.2.1.2
 let i1:=y.1.2.2.1
 let x1:=y.1.2.2.2.1
 let a1:=y.2.1
 bif ((Nat.ble ((nout1+1)*1) 140737488355328)&&(Nat.ble (nout1+1) 9223372036854775807))then(
 some (.inl (((),(((nout1+1),(glue nout1 out1 (fun j=>(upd (fun _=>0) 0 (u8.wrap (ak .and .i64 x1 255))) (0+j)))),((i64.wrap (i1-1)),()))),(a1,()))))
 else(
 none)))
 else(
 some (.inr (((nout,out),()),())))
def KO(a:NI):Option Z0v:=
 match(Im a)with
 |none=>none
 |some r=>(
 match(aB jD (((),((0,(fun _=>0)),((i64.wrap ((i64.wrap (Int.tdiv (i64.wrap (r+7)) 8))-1)),()))),(a,())))with
 |none=>none
 |some y=>(
 let nout:=y.1.1.1
 let out:=y.1.1.2
 some (bytesOf nout (fun j=>out (0+j)))))
def Io:=veil KO
theorem MB:Io=KO:=aj _
open Go.IntKind (i64 u64 u32 u8)
abbrev a2G(k:Int)(low:NI)(high:NI)(t:NI)(out:NI):=(((),((),((),((),(k,()))))),(low,(high,(t,(out,())))))
abbrev YN(t:NI)(out:NI):=(((),((),())),(t,(out,())))
abbrev TT:Type:=((Unit×Z0D)×Z0w)
def uU:TT→Option (TT⊕(Z0k×Z06)):=fun x=>
 let k:=x.1.2.2.2.2.1
 let low:=x.2.1
 let high:=x.2.2.1
 let t:=x.2.2.2.1
 let out:=x.2.2.2.2.1
 bif (decide (k<16))then(
 bif (inb (i64.wrap (Int.tdiv k 4)) 4)then(
 bif (decide ((i64.wrap (16*(Int.tmod k 4)))<0))then(
 none)
 else(
 let t1:=(bH .u64 (low (Int.toNat (i64.wrap (Int.tdiv k 4)))) (i64.wrap (16*(Int.tmod k 4))))
 bif (inb k 32)then(
 bif (inb (i64.wrap (Int.tdiv k 4)) 4)then(
 bif (decide ((i64.wrap (16*(Int.tmod k 4)))<0))then(
 none)
 else(
 let t2:=(bH .u64 (high (Int.toNat (i64.wrap (Int.tdiv k 4)))) (i64.wrap (16*(Int.tmod k 4))))
 bif (inb (i64.wrap (16+k)) 32)then(
 some (.inl (((),((),((),((),((i64.wrap (k+1)),()))))),(low,(high,(t,((upd (upd out (Int.toNat k) (i64.wrap (ak .and .u64 t1 65535))) (Int.toNat (i64.wrap (16+k))) (i64.wrap (ak .and .u64 t2 65535))),())))))))
 else(
 none)))
 else(
 none))
 else(
 none)))
 else(
 none))
 else(
 some (.inr (((),((),())),(t,(out,())))))
def YO(low:NI)(high:NI):Option (NI):=
 match(aB uU (((),((),((),((),(0,()))))),(low,(high,((fun _=>0),((fun _=>0),()))))))with
 |none=>none
 |some y=>(
 let t:=y.2.1
 let out:=y.2.2.1
 some out)
def TU:=veil YO
theorem XA:TU=YO:=aj _
abbrev YP(k:Int)(d:NI)(t:NI)(t1:NI)(low:NI)(high:NI):=(((),((),((),((),((),(k,())))))),(d,(t,(t1,(low,(high,()))))))
abbrev TV(t:NI)(t1:NI)(low:NI)(high:NI):=(((),((),((),((),())))),(t,(t1,(low,(high,())))))
abbrev MC:Type:=(Z0K×(NI×Z0w))
def ow:MC→Option (MC⊕((Unit×(Unit×Z0k))×Z0w)):=fun x=>
 let k:=x.1.2.2.2.2.2.1
 let d:=x.2.1
 let t:=x.2.2.1
 let t1:=x.2.2.2.1
 let low:=x.2.2.2.2.1
 let high:=x.2.2.2.2.2.1
 bif (decide (k<16))then(
 bif (inb (i64.wrap (Int.tdiv k 4)) 4)then(
 bif (inb k 32)then(
 bif (decide ((i64.wrap (16*(Int.tmod k 4)))<0))then(
 none)
 else(
 let t2:=(ak .or .u64 (low (Int.toNat (i64.wrap (Int.tdiv k 4)))) (ig .u64 (u64.wrap (d (Int.toNat k))) (i64.wrap (16*(Int.tmod k 4)))))
 bif (inb (i64.wrap (Int.tdiv k 4)) 4)then(
 bif (inb (i64.wrap (Int.tdiv k 4)) 4)then(
 bif (inb (i64.wrap (16+k)) 32)then(
 bif (decide ((i64.wrap (16*(Int.tmod k 4)))<0))then(
 none)
 else(
 let t3:=(ig .u64 (u64.wrap (d (Int.toNat (i64.wrap (16+k))))) (i64.wrap (16*(Int.tmod k 4))))
 bif (inb (i64.wrap (Int.tdiv k 4)) 4)then(
 some (.inl (((),((),((),((),((),((i64.wrap (k+1)),())))))),(d,(t,(t1,((upd low (Int.toNat (i64.wrap (Int.tdiv k 4))) t2),((upd high (Int.toNat (i64.wrap (Int.tdiv k 4))) (ak .or .u64 (high (Int.toNat (i64.wrap (Int.tdiv k 4)))) t3)),()))))))))
 else(
 none)))
 else(
 none))
 else(
 none))
 else(
 none)))
 else(
 none))
 else(
 none))
 else(
 some (.inr (((),((),((),((),())))),(t,(t1,(low,(high,())))))))
def Ow(d:NI):Option (NI×NI):=
 match(aB ow (((),((),((),((),((),(0,())))))),(d,((fun _=>0),((fun _=>0),((fun _=>0),((fun _=>0),())))))))with
 |none=>none
 |some y=>(
 let t:=y.2.1
 let t1:=y.2.2.1
 let low:=y.2.2.2.1
 let high:=y.2.2.2.2.1
 some (low,high))
def ME:=veil Ow
theorem Qm:ME=Ow:=aj _
abbrev WB(carry:Int)(k:Int)(a:NI)(t:NI)(out:NI):=(((),((),((),(carry,(k,()))))),(a,(t,(out,()))))
abbrev R8(t:NI)(out:NI):=(((),((),())),(t,(out,())))
abbrev JF:Type:=((Unit×(Unit×Z0o))×(NI×Z06))
def lX:JF→Option (JF⊕(Z0k×Z06)):=fun x=>
 let carry:=x.1.2.2.2.1
 let k:=x.1.2.2.2.2.1
 let a:=x.2.1
 let t:=x.2.2.1
 let out:=x.2.2.2.1
 bif (decide (k<32))then(
 bif (inb k 32)then(
 bif (inb k 32)then(
 some (.inl (((),((),((),((bH .i64 (i64.wrap ((i64.wrap (2*(a (Int.toNat k))))+carry)) 16),((i64.wrap (k+1)),()))))),(a,(t,((upd out (Int.toNat k) (ak .and .i64 (i64.wrap ((i64.wrap (2*(a (Int.toNat k))))+carry)) 65535)),()))))))
 else(
 none))
 else(
 none))
 else(
 some (.inr (((),((),())),(t,(out,())))))
def KP(a:NI)(one:Int):Option (NI):=
 match(aB lX (((),((),((),(one,(0,()))))),(a,((fun _=>0),((fun _=>0),())))))with
 |none=>none
 |some y=>(
 let t:=y.2.1
 let out:=y.2.2.1
 some out)
def Ip:=veil KP
theorem MF:Ip=KP:=aj _
abbrev WC(k:Int)(a:NI)(b:NI):=(((),((),(k,()))),(a,(b,())))
abbrev BI:Type:=(Z0t⊕Z05)
abbrev R9(t:Bool):BI:=(.inl ((t,()),()))
abbrev Ra:BI:=(.inr ((),()))
abbrev JG:Type:=(Z0e×Z06)
def jE:JG→Option (JG⊕BI):=fun x=>
 let k:=x.1.2.2.1
 let a:=x.2.1
 let b:=x.2.2.1
 bif (decide (k≥0))then(
 bif (inb k 32)then(
 bif (inb k 32)then(
 bif ((a (Int.toNat k)) !=(b (Int.toNat k)))then(
 bif (inb k 32)then(
 bif (inb k 32)then(
 some (.inr (.inl (((decide ((a (Int.toNat k))<(b (Int.toNat k)))),()),()))))
 else(
 none))
 else(
 none))
 else(
 some (.inl (((),((),((i64.wrap (k-1)),()))),(a,(b,()))))))
 else(
 none))
 else(
 none))
 else(
 some (.inr (.inr ((),()))))
def KQ(a:NI)(b:NI):Option (Bool):=
 match(aB jE (((),((),(31,()))),(a,(b,()))))with
 |none=>none
 |some y=>(
 match y with
 | .inl y1=>(
 let t:=y1.1.1
 some t)
 | .inr y1=>(
 some false))
def Iq:=veil KQ
theorem MG:Iq=KQ:=aj _
abbrev YQ(borrow:Int)(k:Int)(a:NI)(b:NI)(t:NI)(out:NI):=(((),((),((),(borrow,((),(k,())))))),(a,(b,(t,(out,())))))
abbrev TW(t:NI)(out:NI):=(((),((),())),(t,(out,())))
abbrev MH:Type:=((Unit×(Unit×(Unit×(Int×Z0E))))×Z0w)
def l8:MH→Option (MH⊕(Z0k×Z06)):=fun x=>
 let borrow:=x.1.2.2.2.1
 let k:=x.1.2.2.2.2.2.1
 let a:=x.2.1
 let b:=x.2.2.1
 let t:=x.2.2.2.1
 let out:=x.2.2.2.2.1
 bif (decide (k<32))then(
 bif (inb k 32)then(
 bif (inb k 32)then(
 let t1:=(decide ((i64.wrap ((i64.wrap ((a (Int.toNat k))-(b (Int.toNat k))))-borrow))<0))
 bif t1 then(
 let t2:=(i64.wrap ((i64.wrap ((i64.wrap ((a (Int.toNat k))-(b (Int.toNat k))))-borrow))+65536))
 bif (inb k 32)then(
 some (.inl (((),((),((),(1,((),((i64.wrap (k+1)),())))))),(a,(b,(t,((upd out (Int.toNat k) t2),())))))))
 else(
 none))
 else(
 bif (inb k 32)then(
 some (.inl (((),((),((),(0,((),((i64.wrap (k+1)),())))))),(a,(b,(t,((upd out (Int.toNat k) (i64.wrap ((i64.wrap ((a (Int.toNat k))-(b (Int.toNat k))))-borrow))),())))))))
 else(
 none)))
 else(
 none))
 else(
 none))
 else(
 some (.inr (((),((),())),(t,(out,())))))
def Ox(a:NI)(b:NI):Option (NI):=
 match(aB l8 (((),((),((),(0,((),(0,())))))),(a,(b,((fun _=>0),((fun _=>0),()))))))with
 |none=>none
 |some y=>(
 let t:=y.2.1
 let out:=y.2.2.1
 some out)
def MI:=veil Ox
theorem Qn:MI=Ox:=aj _
abbrev TY(k:Int)(a:NI)(m:NI)(t:NI)(t1:NI)(q:NI)(r:NI):=(((),((),((),((),((),((),(k,()))))))),(a,(m,(t,(t1,(q,(r,())))))))
abbrev Oy(t:NI)(t1:NI)(q:NI)(r:NI):=(((),((),((),((),())))),(t,(t1,(q,(r,())))))
abbrev Gu:Type:=((Unit×Z0K)×(NI×(NI×Z0w)))
def iU:Gu→Option (Gu⊕((Unit×(Unit×Z0k))×Z0w)):=fun x=>
 let k:=x.1.2.2.2.2.2.2.1
 let a:=x.2.1
 let m:=x.2.2.1
 let t:=x.2.2.2.1
 let t1:=x.2.2.2.2.1
 let q:=x.2.2.2.2.2.1
 let r:=x.2.2.2.2.2.2.1
 bif (decide (k≥0))then(
 bif (inb (i64.wrap (Int.tdiv k 16)) 32)then(
 bif (decide ((Int.tmod k 16)<0))then(
 none)
 else(
 let t2:=(ak .and .i64 (bH .i64 (a (Int.toNat (i64.wrap (Int.tdiv k 16)))) (Int.tmod k 16)) 1)
 match(Ip r t2)with
 |none=>none
 |some r1=>(
 match(Iq r1 m)with
 |none=>none
 |some r2=>(
 bif (!r2)then(
 match(MI r1 m)with
 |none=>none
 |some r3=>(
 bif (inb (i64.wrap (Int.tdiv k 16)) 32)then(
 bif (decide ((Int.tmod k 16)<0))then(
 none)
 else(
 let t3:=(ak .or .i64 (q (Int.toNat (i64.wrap (Int.tdiv k 16)))) (ig .i64 1 (Int.tmod k 16)))
 bif (inb (i64.wrap (Int.tdiv k 16)) 32)then(
 some (.inl (((),((),((),((),((),((),((i64.wrap (k-1)),()))))))),(a,(m,(t,(t1,((upd q (Int.toNat (i64.wrap (Int.tdiv k 16))) t3),(r3,())))))))))
 else(
 none)))
 else(
 none)))
 else(
 some (.inl (((),((),((),((),((),((),((i64.wrap (k-1)),()))))))),(a,(m,(t,(t1,(q,(r1,())))))))))))))
 else(
 none))
 else(
 some (.inr (((),((),((),((),())))),(t,(t1,(q,(r,())))))))
def Gw(a:NI)(m:NI):Option (NI×NI):=
 match(aB iU (((),((),((),((),((),((),(511,()))))))),(a,(m,((fun _=>0),((fun _=>0),((fun _=>0),((fun _=>0),()))))))))with
 |none=>none
 |some y=>(
 let t:=y.2.1
 let t1:=y.2.2.1
 let q:=y.2.2.2.1
 let r:=y.2.2.2.2.1
 some (q,r))
def DU:=veil Gw
theorem JH:DU=Gw:=aj _
def U0(low:NI)(high:NI)(m:NI):Option (NI×Int):=
 bif (eqF (.arr 4 (.int .u64)) m (fun _=>0))then(
 some ((fun _=>0),1))
 else(
 match(TU low high)with
 |none=>none
 |some r=>(
 match(TU m (fun _=>0))with
 |none=>none
 |some r1=>(
 match(DU r r1)with
 |none=>none
 |some r2=>(
 match(ME r2.2)with
 |none=>none
 |some r3=>(
 some (r3.1,0))))))
def MJ:=veil U0
theorem U1:MJ=U0:=aj _
open Go.IntKind (i64 u64 u32 u8)
def KR(a:Int)(b:Int)(m:Int):Option (Int):=
 bif (decide (m=0))then(
 none)
 else(
 bif (decide (m=0))then(
 none)
 else(
 match(bits_Mul64 (u64.wrap (Int.tmod a m)) (u64.wrap (Int.tmod b m)))with
 |none=>none
 |some r=>(
 match(ni r.1 r.2 (u64.wrap m))with
 |none=>none
 |some r1=>(
 some (i64.wrap r1.2)))))
def yZ:=veil KR
theorem MK:yZ=KR:=aj _
abbrev WE(a:Int)(m:Int)(out:Int)(k:Int)(e:NI):=((a,(m,((),(out,(k,()))))),(e,()))
abbrev Rb(out:Int):=((out,()),())
abbrev JI:Type:=((Int×(Int×Z0o))×(NI×Unit))
def jF:JI→Option (JI⊕Z0L):=fun x=>
 let a:=x.1.1
 let m:=x.1.2.1
 let out:=x.1.2.2.2.1
 let k:=x.1.2.2.2.2.1
 let e:=x.2.1
 bif (decide (k≥0))then(
 match(yZ out out m)with
 |none=>none
 |some r=>(
 match(Mx e k)with
 |none=>none
 |some r1=>(
 bif (r1==1)then(
 match(yZ r a m)with
 |none=>none
 |some r2=>(
 some (.inl ((a,(m,((),(r2,((i64.wrap (k-1)),()))))),(e,())))))
 else(
 some (.inl ((a,(m,((),(r,((i64.wrap (k-1)),()))))),(e,())))))))
 else(
 some (.inr ((out,()),())))
def KS(a:Int)(e:NI)(m:Int):Option (Int):=
 bif (decide (m=0))then(
 none)
 else(
 match(Im e)with
 |none=>none
 |some r=>(
 match(aB jF ((a,(m,((),((Int.tmod 1 m),((i64.wrap (r-1)),()))))),(e,())))with
 |none=>none
 |some y=>(
 let out:=y.1.1
 some out)))
def Ir:=veil KS
theorem ML:Ir=KS:=aj _
open Go.IntKind (i64 u64 u32 u8)
open Go.IntKind (i64 u64 u32 u8)
def U2:Option (Z0s):=
 some ((3,(fun j=>(upd (upd (upd (fun _=>((fun _=>0),0)) 0 ((upd (fun _=>0) 0 65521),0)) 1 ((upd (fun _=>0) 0 1966023127),2)) 2 ((upd (fun _=>0) 0 1055500680322183127),2)) (0+j))),(upd (fun _=>0) 0 316543771439780984))
def Iu:=veil U2
theorem MO:Iu=U2:=aj _
def U3:Option (Z0s):=
 some ((3,(fun j=>(upd (upd (upd (fun _=>((fun _=>0),0)) 0 ((upd (fun _=>0) 0 64817),0)) 1 ((upd (fun _=>0) 0 1815135269),2)) 2 ((upd (fun _=>0) 0 487269091447081429),2)) (0+j))),(upd (fun _=>0) 0 54624333139524128))
def Iw:=veil U3
theorem MP:Iw=U3:=aj _
def Oz(which:Int):Option (Z0s):=
 bif ((ak .and .i64 which 1)==1)then(
 match Iw with
 |none=>none
 |some r=>(
 some ((r.1.1,r.1.2),r.2)))
 else(
 match Iu with
 |none=>none
 |some r1=>(
 some ((r1.1.1,r1.1.2),r1.2)))
def MQ:=veil Oz
theorem Qo:MQ=Oz:=aj _
def a2H(p:Z0s):Option (NI):=
 bif (decide (((p.1.1:Nat):Int)<2))then(
 some (fun _=>0))
 else(
 bif (inb (i64.wrap (((p.1.1:Nat):Int)-1)) p.1.1)then(
 some (p.1.2 (Int.toNat (i64.wrap (((p.1.1:Nat):Int)-1)))).1)
 else(
 none))
def a4i:=veil a2H
theorem a0B:a4i=a2H:=aj _
def a2I(p:Z0s):Option (NI):=
 bif (decide (((p.1.1:Nat):Int)<2))then(
 some (fun _=>0))
 else(
 bif (inb (i64.wrap (((p.1.1:Nat):Int)-2)) p.1.1)then(
 some (p.1.2 (Int.toNat (i64.wrap (((p.1.1:Nat):Int)-2)))).1)
 else(
 none))
def a4j:=veil a2I
theorem a0C:a4j=a2I:=aj _
open Go.IntKind (i64 u64 u32 u8)
def YR(a:NI)(q:Int):Option (Int):=
 match(aU q)with
 |none=>none
 |some r=>(
 match(MJ a (fun _=>0) r)with
 |none=>none
 |some r1=>(
 match(DT r1.1)with
 |none=>none
 |some r2=>(
 some r2.1)))
def YS:=veil YR
theorem XB:YS=YR:=aj _
def U4(a:Int)(b:Int)(q:Int):Option (Int):=
 bif (decide (q=0))then(
 none)
 else(
 some (Int.tmod (i64.wrap (a+b)) q))
def RL:=veil U4
theorem U5:RL=U4:=aj _
def U6(a:Int)(b:Int)(q:Int):Option (Int):=
 match(yZ a b q)with
 |none=>none
 |some r=>(
 some r)
def MR:=veil U6
theorem U7:MR=U6:=aj _
abbrev yK(na:Nat)(a:Nat→NI)(nb:Nat)(b:Nat→NI)(i:Int):=(((na,a),((nb,b),(i,()))),())
abbrev DV:Type:=(Z0t⊕Z05)
abbrev U8(t:Bool):DV:=(.inl ((t,()),()))
abbrev U9:DV:=(.inr ((),()))
abbrev MU:Type:=((Z0d×(Z0d×Z04))×Unit)
def l9:MU→Option (MU⊕DV):=fun x=>
 let na:=x.1.1.1
 let a:=x.1.1.2
 let nb:=x.1.2.1.1
 let b:=x.1.2.1.2
 let i:=x.1.2.2.1
 bif (decide (i<((na:Nat):Int)))then(
 bif (inb i na)then(
 bif (inb i nb)then(
 bif (!(eqF (.arr 4 (.int .u64)) (a (Int.toNat i)) (b (Int.toNat i))))then(
 some (.inr (.inl ((false,()),()))))
 else(
 some (.inl (((na,a),((nb,b),((i64.wrap (i+1)),()))),()))))
 else(
 none))
 else(
 none))
 else(
 some (.inr (.inr ((),()))))
def OA(na:Nat)(a:Nat→NI)(nb:Nat)(b:Nat→NI):Option (Bool):=
 bif (((na:Nat):Int) !=((nb:Nat):Int))then(
 some false)
 else(
 match(aB l9 (((na,a),((nb,b),(0,()))),()))with
 |none=>none
 |some y=>(
 match y with
 | .inl y1=>(
 let t:=y1.1.1
 some t)
 | .inr y1=>(
 some true)))
def Gx:=veil OA
theorem Qp:Gx=OA:=aj _
abbrev a0D(nl:Nat)(l:Nat→NI)(q:Int)(nout:Nat)(out:Nat→Int)(i:Int):=(((nl,l),(q,((nout,out),(i,())))),())
abbrev JJ(nout:Nat)(out:Nat→Int):=(((nout,out),()),())
abbrev Qq:Type:=((Z0d×(Int×((Nat×NI)×Z04)))×Unit)
def rP:Qq→Option (Qq⊕Z0y):=fun x=>
 let nl:=x.1.1.1
 let l:=x.1.1.2
 let q:=x.1.2.1
 let nout:=x.1.2.2.1.1
 let out:=x.1.2.2.1.2
 let i:=x.1.2.2.2.1
 bif (decide (i<((nl:Nat):Int)))then(
 bif (inb i nl)then(
 match(YS (l (Int.toNat i)) q)with
 |none=>none
 |some r=>(
 bif ((Nat.ble ((nout+1)*8) 140737488355328)&&(Nat.ble (nout+1) 9223372036854775807))then(
 some (.inl (((nl,l),(q,(((nout+1),(glue nout out (fun j=>(upd (fun _=>0) 0 r) (0+j)))),((i64.wrap (i+1)),())))),())))
 else(
 none)))
 else(
 none))
 else(
 some (.inr (((nout,out),()),())))
def Ua(nl:Nat)(l:Nat→NI)(q:Int):Option ((Nat×NI)):=
 match(aB rP (((nl,l),(q,((0,(fun _=>0)),(0,())))),()))with
 |none=>none
 |some y=>(
 let nout:=y.1.1.1
 let out:=y.1.1.2
 some (nout,(fun j=>out (0+j))))
def wm:=veil Ua
theorem Ub:wm=Ua:=aj _
open Go.IntKind (i64 u64 u32 u8)
def YT(p:Z0s):Option (Z0j):=
 match(a4i ((p.1.1,p.1.2),p.2))with
 |none=>none
 |some r=>(
 match(DT r)with
 |none=>none
 |some r1=>(
 match(a4j ((p.1.1,p.1.2),p.2))with
 |none=>none
 |some r2=>(
 match(DT r2)with
 |none=>none
 |some r3=>(
 match(DT p.2)with
 |none=>none
 |some r4=>(
 some (r1.1,(r3.1,r4.1)))))))
def KT:=veil YT
theorem XC:KT=YT:=aj _
def Uc(s:Z0j)(a:Int)(e:NI):Option (Int):=
 match(Ir a e s.1)with
 |none=>none
 |some r=>(
 some r)
def MV:=veil Uc
theorem Ud:MV=Uc:=aj _
open Go.IntKind (i64 u64 u32 u8)
def Iy(g:Z0z)(a:NI):Option (Bool):=
 match g with
 |none=>(
 match(dB none)with
 |none=>none
 |some r3=>(
 match r3 with
 |none=>(
 match(cO none a)with
 |none=>none
 |some r5=>(
 some r5))
 |some p1=>(
 match(cO (some p1) a)with
 |none=>none
 |some r4=>(
 some r4))))
 |some g0=>(
 match(dB (some g0))with
 |none=>none
 |some r=>(
 match r with
 |none=>(
 match(cO none a)with
 |none=>none
 |some r2=>(
 some r2))
 |some p=>(
 match(cO (some p) a)with
 |none=>none
 |some r1=>(
 some r1))))
def Gy:=veil Iy
theorem Qr:Gy=Iy:=aj _
open Go.IntKind (i64 u64 u32 u8)
def yL(g:Z0z)(nbases:Nat)(bases:Nat→NI)(nexps:Nat)(exps:Nat→NI):Option (NI×Int):=
 match g with
 |none=>(
 match(bO none)with
 |none=>none
 |some r3=>(
 match r3 with
 |none=>(
 match(fC none nbases bases nexps exps)with
 |none=>none
 |some r5=>(
 some (r5.1,r5.2)))
 |some p1=>(
 match(fC (some p1) nbases bases nexps exps)with
 |none=>none
 |some r4=>(
 some (r4.1,r4.2)))))
 |some g0=>(
 match(bO (some g0))with
 |none=>none
 |some r=>(
 match r with
 |none=>(
 match(fC none nbases bases nexps exps)with
 |none=>none
 |some r2=>(
 some (r2.1,r2.2)))
 |some p=>(
 match(fC (some p) nbases bases nexps exps)with
 |none=>none
 |some r1=>(
 some (r1.1,r1.2)))))
def AO:=veil yL
theorem Gz:AO=yL:=aj _
def DW(g:Z0z)(a:NI)(e:NI):Option (NI):=
 match g with
 |none=>(
 match(bO none)with
 |none=>none
 |some r3=>(
 match r3 with
 |none=>(
 match(aS none a e)with
 |none=>none
 |some r5=>(
 some r5))
 |some p1=>(
 match(aS (some p1) a e)with
 |none=>none
 |some r4=>(
 some r4))))
 |some g0=>(
 match(bO (some g0))with
 |none=>none
 |some r=>(
 match r with
 |none=>(
 match(aS none a e)with
 |none=>none
 |some r2=>(
 some r2))
 |some p=>(
 match(aS (some p) a e)with
 |none=>none
 |some r1=>(
 some r1))))
def CB:=veil DW
theorem MW:CB=DW:=aj _
def Iz(g:Z0z)(e:NI):Option (NI):=
 match g with
 |none=>(
 match(qc none)with
 |none=>none
 |some r2=>(
 match(CB none r2 e)with
 |none=>none
 |some r3=>(
 some r3)))
 |some g0=>(
 match(qc (some g0))with
 |none=>none
 |some r=>(
 match(CB (some g0) r e)with
 |none=>none
 |some r1=>(
 some r1)))
def GD:=veil Iz
theorem Qs:GD=Iz:=aj _
def IB(g:Z0z)(a:NI):Option (Bool):=
 match g with
 |none=>(
 bif (!(eqF (.arr 4 (.int .u64)) a (fun _=>0)))then(
 match(bO none)with
 |none=>none
 |some r17=>(
 match r17 with
 |none=>(
 match(cO none a)with
 |none=>none
 |some r26=>(
 bif r26 then(
 match(bO none)with
 |none=>none
 |some r27=>(
 match r27 with
 |none=>(
 match(dW none)with
 |none=>none
 |some r31=>(
 match(aS none a r31)with
 |none=>none
 |some r32=>(
 match(bZ 1)with
 |none=>none
 |some r33=>(
 some (eqF (.arr 4 (.int .u64)) r32 r33)))))
 |some p5=>(
 match(dW none)with
 |none=>none
 |some r28=>(
 match(aS (some p5) a r28)with
 |none=>none
 |some r29=>(
 match(bZ 1)with
 |none=>none
 |some r30=>(
 some (eqF (.arr 4 (.int .u64)) r29 r30)))))))
 else(
 some false)))
 |some p3=>(
 match(cO (some p3) a)with
 |none=>none
 |some r18=>(
 bif r18 then(
 match(bO none)with
 |none=>none
 |some r19=>(
 match r19 with
 |none=>(
 match(dW none)with
 |none=>none
 |some r23=>(
 match(aS none a r23)with
 |none=>none
 |some r24=>(
 match(bZ 1)with
 |none=>none
 |some r25=>(
 some (eqF (.arr 4 (.int .u64)) r24 r25)))))
 |some p4=>(
 match(dW none)with
 |none=>none
 |some r20=>(
 match(aS (some p4) a r20)with
 |none=>none
 |some r21=>(
 match(bZ 1)with
 |none=>none
 |some r22=>(
 some (eqF (.arr 4 (.int .u64)) r21 r22)))))))
 else(
 some false)))))
 else(
 some false))
 |some g0=>(
 bif (!(eqF (.arr 4 (.int .u64)) a (fun _=>0)))then(
 match(bO (some g0))with
 |none=>none
 |some r=>(
 match r with
 |none=>(
 match(cO none a)with
 |none=>none
 |some r9=>(
 bif r9 then(
 match(bO (some g0))with
 |none=>none
 |some r10=>(
 match r10 with
 |none=>(
 match(dW (some g0))with
 |none=>none
 |some r14=>(
 match(aS none a r14)with
 |none=>none
 |some r15=>(
 match(bZ 1)with
 |none=>none
 |some r16=>(
 some (eqF (.arr 4 (.int .u64)) r15 r16)))))
 |some p2=>(
 match(dW (some g0))with
 |none=>none
 |some r11=>(
 match(aS (some p2) a r11)with
 |none=>none
 |some r12=>(
 match(bZ 1)with
 |none=>none
 |some r13=>(
 some (eqF (.arr 4 (.int .u64)) r12 r13)))))))
 else(
 some false)))
 |some p=>(
 match(cO (some p) a)with
 |none=>none
 |some r1=>(
 bif r1 then(
 match(bO (some g0))with
 |none=>none
 |some r2=>(
 match r2 with
 |none=>(
 match(dW (some g0))with
 |none=>none
 |some r6=>(
 match(aS none a r6)with
 |none=>none
 |some r7=>(
 match(bZ 1)with
 |none=>none
 |some r8=>(
 some (eqF (.arr 4 (.int .u64)) r7 r8)))))
 |some p1=>(
 match(dW (some g0))with
 |none=>none
 |some r3=>(
 match(aS (some p1) a r3)with
 |none=>none
 |some r4=>(
 match(bZ 1)with
 |none=>none
 |some r5=>(
 some (eqF (.arr 4 (.int .u64)) r4 r5)))))))
 else(
 some false)))))
 else(
 some false))
def MX:=veil IB
theorem Qt:MX=IB:=aj _
end
end Go.Pl
