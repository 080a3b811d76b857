/-
  The functions, plainly.
-/
import Derived.Test.YtidodcilgldjoaaGreatDenI
set_option linter.unusedVariables false
set_option linter.unusedSimpArgs false
set_option maxRecDepth 100000
set_option maxHeartbeats 0
namespace Go.Pl
end Go.Pl
open Go Go.Den Go.Pl
namespace Go.Pl
open Go.IntKind (i64 u64 u32 u8)
noncomputable def Au(x:Int)(y:Int):Option (Int×Int):=
 let t:=(bX .u64 (u64.wrap ((aA .and .u64 x 4294967295)*(aA .and .u64 y 4294967295))) 32)
 let t1:=(aA .and .u64 (u64.wrap ((u64.wrap ((bX .u64 x 32)*(aA .and .u64 y 4294967295)))+t)) 4294967295)
 let t2:=(bX .u64 (u64.wrap ((u64.wrap ((bX .u64 x 32)*(aA .and .u64 y 4294967295)))+t)) 32)
 let t3:=(bX .u64 (u64.wrap (t1+(u64.wrap ((aA .and .u64 x 4294967295)*(bX .u64 y 32))))) 32)
 let t4:=(u64.wrap ((u64.wrap ((u64.wrap ((bX .u64 x 32)*(bX .u64 y 32)))+t2))+t3))
 some (t4,(u64.wrap (x*y)))
noncomputable def bits_Mul64:=veil Au
theorem IJ:bits_Mul64=Au:=ak _
noncomputable def Av(x:Int):Option (Int):=
 bif (decide (x≥4294967296))then(
 bif (decide ((bX .u64 x 32)≥65536))then(
 bif (decide ((bX .u64 (bX .u64 x 32) 16)≥256))then(
 bif (inb (u8.wrap (bX .u64 (bX .u64 (bX .u64 x 32) 16) 8)) 256)then(
 let t:=(((UInt8.toNat (List.getD (Array.toList (ByteArray.data (ByteArray.mk #[0,1,2,2,3,3,3,3,4,4,4,4,4,4,4,4,5,5,5,5,5,5,5,5,5,5,5,5,5,5,5,5,6,6,6,6,6,6,6,6,6,6,6,6,6,6,6,6,6,6,6,6,6,6,6,6,6,6,6,6,6,6,6,6,7,7,7,7,7,7,7,7,7,7,7,7,7,7,7,7,7,7,7,7,7,7,7,7,7,7,7,7,7,7,7,7,7,7,7,7,7,7,7,7,7,7,7,7,7,7,7,7,7,7,7,7,7,7,7,7,7,7,7,7,7,7,7,7,8,8,8,8,8,8,8,8,8,8,8,8,8,8,8,8,8,8,8,8,8,8,8,8,8,8,8,8,8,8,8,8,8,8,8,8,8,8,8,8,8,8,8,8,8,8,8,8,8,8,8,8,8,8,8,8,8,8,8,8,8,8,8,8,8,8,8,8,8,8,8,8,8,8,8,8,8,8,8,8,8,8,8,8,8,8,8,8,8,8,8,8,8,8,8,8,8,8,8,8,8,8,8,8,8,8,8,8,8,8,8,8,8,8,8,8,8,8,8,8,8,8,8,8,8,8,8,8]))) (Int.toNat (u8.wrap (bX .u64 (bX .u64 (bX .u64 x 32) 16) 8))) 0)):Nat):Int)
 some (i64.wrap (56+(i64.wrap t))))
 else(
 none))
 else(
 bif (inb (u8.wrap (bX .u64 (bX .u64 x 32) 16)) 256)then(
 let t1:=(((UInt8.toNat (List.getD (Array.toList (ByteArray.data (ByteArray.mk #[0,1,2,2,3,3,3,3,4,4,4,4,4,4,4,4,5,5,5,5,5,5,5,5,5,5,5,5,5,5,5,5,6,6,6,6,6,6,6,6,6,6,6,6,6,6,6,6,6,6,6,6,6,6,6,6,6,6,6,6,6,6,6,6,7,7,7,7,7,7,7,7,7,7,7,7,7,7,7,7,7,7,7,7,7,7,7,7,7,7,7,7,7,7,7,7,7,7,7,7,7,7,7,7,7,7,7,7,7,7,7,7,7,7,7,7,7,7,7,7,7,7,7,7,7,7,7,7,8,8,8,8,8,8,8,8,8,8,8,8,8,8,8,8,8,8,8,8,8,8,8,8,8,8,8,8,8,8,8,8,8,8,8,8,8,8,8,8,8,8,8,8,8,8,8,8,8,8,8,8,8,8,8,8,8,8,8,8,8,8,8,8,8,8,8,8,8,8,8,8,8,8,8,8,8,8,8,8,8,8,8,8,8,8,8,8,8,8,8,8,8,8,8,8,8,8,8,8,8,8,8,8,8,8,8,8,8,8,8,8,8,8,8,8,8,8,8,8,8,8,8,8,8,8,8,8]))) (Int.toNat (u8.wrap (bX .u64 (bX .u64 x 32) 16))) 0)):Nat):Int)
 some (i64.wrap (48+(i64.wrap t1))))
 else(
 none)))
 else(
 bif (decide ((bX .u64 x 32)≥256))then(
 bif (inb (u8.wrap (bX .u64 (bX .u64 x 32) 8)) 256)then(
 let t2:=(((UInt8.toNat (List.getD (Array.toList (ByteArray.data (ByteArray.mk #[0,1,2,2,3,3,3,3,4,4,4,4,4,4,4,4,5,5,5,5,5,5,5,5,5,5,5,5,5,5,5,5,6,6,6,6,6,6,6,6,6,6,6,6,6,6,6,6,6,6,6,6,6,6,6,6,6,6,6,6,6,6,6,6,7,7,7,7,7,7,7,7,7,7,7,7,7,7,7,7,7,7,7,7,7,7,7,7,7,7,7,7,7,7,7,7,7,7,7,7,7,7,7,7,7,7,7,7,7,7,7,7,7,7,7,7,7,7,7,7,7,7,7,7,7,7,7,7,8,8,8,8,8,8,8,8,8,8,8,8,8,8,8,8,8,8,8,8,8,8,8,8,8,8,8,8,8,8,8,8,8,8,8,8,8,8,8,8,8,8,8,8,8,8,8,8,8,8,8,8,8,8,8,8,8,8,8,8,8,8,8,8,8,8,8,8,8,8,8,8,8,8,8,8,8,8,8,8,8,8,8,8,8,8,8,8,8,8,8,8,8,8,8,8,8,8,8,8,8,8,8,8,8,8,8,8,8,8,8,8,8,8,8,8,8,8,8,8,8,8,8,8,8,8,8,8]))) (Int.toNat (u8.wrap (bX .u64 (bX .u64 x 32) 8))) 0)):Nat):Int)
 some (i64.wrap (40+(i64.wrap t2))))
 else(
 none))
 else(
 bif (inb (u8.wrap (bX .u64 x 32)) 256)then(
 let t3:=(i64.wrap (((UInt8.toNat (List.getD (Array.toList (ByteArray.data (ByteArray.mk #[0,1,2,2,3,3,3,3,4,4,4,4,4,4,4,4,5,5,5,5,5,5,5,5,5,5,5,5,5,5,5,5,6,6,6,6,6,6,6,6,6,6,6,6,6,6,6,6,6,6,6,6,6,6,6,6,6,6,6,6,6,6,6,6,7,7,7,7,7,7,7,7,7,7,7,7,7,7,7,7,7,7,7,7,7,7,7,7,7,7,7,7,7,7,7,7,7,7,7,7,7,7,7,7,7,7,7,7,7,7,7,7,7,7,7,7,7,7,7,7,7,7,7,7,7,7,7,7,8,8,8,8,8,8,8,8,8,8,8,8,8,8,8,8,8,8,8,8,8,8,8,8,8,8,8,8,8,8,8,8,8,8,8,8,8,8,8,8,8,8,8,8,8,8,8,8,8,8,8,8,8,8,8,8,8,8,8,8,8,8,8,8,8,8,8,8,8,8,8,8,8,8,8,8,8,8,8,8,8,8,8,8,8,8,8,8,8,8,8,8,8,8,8,8,8,8,8,8,8,8,8,8,8,8,8,8,8,8,8,8,8,8,8,8,8,8,8,8,8,8,8,8,8,8,8,8]))) (Int.toNat (u8.wrap (bX .u64 x 32))) 0)):Nat):Int))
 some (i64.wrap (32+t3)))
 else(
 none))))
 else(
 bif (decide (x≥65536))then(
 bif (decide ((bX .u64 x 16)≥256))then(
 bif (inb (u8.wrap (bX .u64 (bX .u64 x 16) 8)) 256)then(
 let t4:=(((UInt8.toNat (List.getD (Array.toList (ByteArray.data (ByteArray.mk #[0,1,2,2,3,3,3,3,4,4,4,4,4,4,4,4,5,5,5,5,5,5,5,5,5,5,5,5,5,5,5,5,6,6,6,6,6,6,6,6,6,6,6,6,6,6,6,6,6,6,6,6,6,6,6,6,6,6,6,6,6,6,6,6,7,7,7,7,7,7,7,7,7,7,7,7,7,7,7,7,7,7,7,7,7,7,7,7,7,7,7,7,7,7,7,7,7,7,7,7,7,7,7,7,7,7,7,7,7,7,7,7,7,7,7,7,7,7,7,7,7,7,7,7,7,7,7,7,8,8,8,8,8,8,8,8,8,8,8,8,8,8,8,8,8,8,8,8,8,8,8,8,8,8,8,8,8,8,8,8,8,8,8,8,8,8,8,8,8,8,8,8,8,8,8,8,8,8,8,8,8,8,8,8,8,8,8,8,8,8,8,8,8,8,8,8,8,8,8,8,8,8,8,8,8,8,8,8,8,8,8,8,8,8,8,8,8,8,8,8,8,8,8,8,8,8,8,8,8,8,8,8,8,8,8,8,8,8,8,8,8,8,8,8,8,8,8,8,8,8,8,8,8,8,8,8]))) (Int.toNat (u8.wrap (bX .u64 (bX .u64 x 16) 8))) 0)):Nat):Int)
 some (i64.wrap (24+(i64.wrap t4))))
 else(
 none))
 else(
 bif (inb (u8.wrap (bX .u64 x 16)) 256)then(
 let t5:=(i64.wrap (((UInt8.toNat (List.getD (Array.toList (ByteArray.data (ByteArray.mk #[0,1,2,2,3,3,3,3,4,4,4,4,4,4,4,4,5,5,5,5,5,5,5,5,5,5,5,5,5,5,5,5,6,6,6,6,6,6,6,6,6,6,6,6,6,6,6,6,6,6,6,6,6,6,6,6,6,6,6,6,6,6,6,6,7,7,7,7,7,7,7,7,7,7,7,7,7,7,7,7,7,7,7,7,7,7,7,7,7,7,7,7,7,7,7,7,7,7,7,7,7,7,7,7,7,7,7,7,7,7,7,7,7,7,7,7,7,7,7,7,7,7,7,7,7,7,7,7,8,8,8,8,8,8,8,8,8,8,8,8,8,8,8,8,8,8,8,8,8,8,8,8,8,8,8,8,8,8,8,8,8,8,8,8,8,8,8,8,8,8,8,8,8,8,8,8,8,8,8,8,8,8,8,8,8,8,8,8,8,8,8,8,8,8,8,8,8,8,8,8,8,8,8,8,8,8,8,8,8,8,8,8,8,8,8,8,8,8,8,8,8,8,8,8,8,8,8,8,8,8,8,8,8,8,8,8,8,8,8,8,8,8,8,8,8,8,8,8,8,8,8,8,8,8,8,8]))) (Int.toNat (u8.wrap (bX .u64 x 16))) 0)):Nat):Int))
 some (i64.wrap (16+t5)))
 else(
 none)))
 else(
 bif (decide (x≥256))then(
 bif (inb (u8.wrap (bX .u64 x 8)) 256)then(
 let t6:=(i64.wrap (((UInt8.toNat (List.getD (Array.toList (ByteArray.data (ByteArray.mk #[0,1,2,2,3,3,3,3,4,4,4,4,4,4,4,4,5,5,5,5,5,5,5,5,5,5,5,5,5,5,5,5,6,6,6,6,6,6,6,6,6,6,6,6,6,6,6,6,6,6,6,6,6,6,6,6,6,6,6,6,6,6,6,6,7,7,7,7,7,7,7,7,7,7,7,7,7,7,7,7,7,7,7,7,7,7,7,7,7,7,7,7,7,7,7,7,7,7,7,7,7,7,7,7,7,7,7,7,7,7,7,7,7,7,7,7,7,7,7,7,7,7,7,7,7,7,7,7,8,8,8,8,8,8,8,8,8,8,8,8,8,8,8,8,8,8,8,8,8,8,8,8,8,8,8,8,8,8,8,8,8,8,8,8,8,8,8,8,8,8,8,8,8,8,8,8,8,8,8,8,8,8,8,8,8,8,8,8,8,8,8,8,8,8,8,8,8,8,8,8,8,8,8,8,8,8,8,8,8,8,8,8,8,8,8,8,8,8,8,8,8,8,8,8,8,8,8,8,8,8,8,8,8,8,8,8,8,8,8,8,8,8,8,8,8,8,8,8,8,8,8,8,8,8,8,8]))) (Int.toNat (u8.wrap (bX .u64 x 8))) 0)):Nat):Int))
 some (i64.wrap (8+t6)))
 else(
 none))
 else(
 bif (inb (u8.wrap x) 256)then(
 let t7:=(i64.wrap (0+(i64.wrap (((UInt8.toNat (List.getD (Array.toList (ByteArray.data (ByteArray.mk #[0,1,2,2,3,3,3,3,4,4,4,4,4,4,4,4,5,5,5,5,5,5,5,5,5,5,5,5,5,5,5,5,6,6,6,6,6,6,6,6,6,6,6,6,6,6,6,6,6,6,6,6,6,6,6,6,6,6,6,6,6,6,6,6,7,7,7,7,7,7,7,7,7,7,7,7,7,7,7,7,7,7,7,7,7,7,7,7,7,7,7,7,7,7,7,7,7,7,7,7,7,7,7,7,7,7,7,7,7,7,7,7,7,7,7,7,7,7,7,7,7,7,7,7,7,7,7,7,8,8,8,8,8,8,8,8,8,8,8,8,8,8,8,8,8,8,8,8,8,8,8,8,8,8,8,8,8,8,8,8,8,8,8,8,8,8,8,8,8,8,8,8,8,8,8,8,8,8,8,8,8,8,8,8,8,8,8,8,8,8,8,8,8,8,8,8,8,8,8,8,8,8,8,8,8,8,8,8,8,8,8,8,8,8,8,8,8,8,8,8,8,8,8,8,8,8,8,8,8,8,8,8,8,8,8,8,8,8,8,8,8,8,8,8,8,8,8,8,8,8,8,8,8,8,8,8]))) (Int.toNat (u8.wrap x)) 0)):Nat):Int))))
 some t7)
 else(
 none))))
noncomputable def bits_Len64:=veil Av
theorem IK:bits_Len64=Av:=ak _
noncomputable def jU(x:Int):Option (Int):=
 match(bits_Len64 x)with
 |none=>none
 |some r=>(
 some (i64.wrap (64-r)))
noncomputable def bits_LeadingZeros64:=veil jU
theorem sV:bits_LeadingZeros64=jU:=ak _
abbrev zq(y:Int)(s:Int)(yn1:Int)(yn0:Int)(un32:Int)(un1:Int)(un0:Int)(q1:Int)(rhat:Int):=((y,(s,(yn1,(yn0,(un32,(un1,(un0,(q1,(rhat,()))))))))),())
abbrev vB(y:Int)(s:Int)(yn1:Int)(yn0:Int)(un32:Int)(un1:Int)(un0:Int)(q1:Int):=((y,(s,(yn1,(yn0,(un32,(un1,(un0,(q1,())))))))),())
abbrev Fv:Type:=((Int×(Int×(Int×(Int×(Int×(Int×(Int×(Int×(Int×Unit)))))))))×Unit)
noncomputable def dO:Fv→Option (Fv⊕((Int×(Int×(Int×(Int×(Int×(Int×(Int×(Int×Unit))))))))×Unit)):=fun x=>
 let y:=x.1.1
 let s:=x.1.2.1
 let yn1:=x.1.2.2.1
 let yn0:=x.1.2.2.2.1
 let un32:=x.1.2.2.2.2.1
 let un1:=x.1.2.2.2.2.2.1
 let un0:=x.1.2.2.2.2.2.2.1
 let q1:=x.1.2.2.2.2.2.2.2.1
 let rhat:=x.1.2.2.2.2.2.2.2.2.1
 bif (decide (q1≥4294967296))then(
 bif (decide ((u64.wrap (rhat+yn1))≥4294967296))then(
 some (.inr ((y,(s,(yn1,(yn0,(un32,(un1,(un0,((u64.wrap (q1-1)),())))))))),())))
 else(
 some (.inl ((y,(s,(yn1,(yn0,(un32,(un1,(un0,((u64.wrap (q1-1)),((u64.wrap (rhat+yn1)),()))))))))),()))))
 else(
 bif (decide ((u64.wrap (q1*yn0))>(u64.wrap ((u64.wrap (4294967296*rhat))+un1))))then(
 bif (decide ((u64.wrap (rhat+yn1))≥4294967296))then(
 some (.inr ((y,(s,(yn1,(yn0,(un32,(un1,(un0,((u64.wrap (q1-1)),())))))))),())))
 else(
 some (.inl ((y,(s,(yn1,(yn0,(un32,(un1,(un0,((u64.wrap (q1-1)),((u64.wrap (rhat+yn1)),()))))))))),()))))
 else(
 some (.inr ((y,(s,(yn1,(yn0,(un32,(un1,(un0,(q1,())))))))),()))))
abbrev zu(y:Int)(s:Int)(yn1:Int)(yn0:Int)(un0:Int)(q1:Int)(rhat:Int)(un21:Int)(q0:Int):=((y,(s,(yn1,(yn0,(un0,(q1,(rhat,(un21,(q0,()))))))))),())
abbrev vC(y:Int)(s:Int)(un0:Int)(q1:Int)(un21:Int)(q0:Int):=((y,(s,(un0,(q1,(un21,(q0,())))))),())
abbrev Fw:Type:=((Int×(Int×(Int×(Int×(Int×(Int×(Int×(Int×(Int×Unit)))))))))×Unit)
noncomputable def dP:Fw→Option (Fw⊕((Int×(Int×(Int×(Int×(Int×(Int×Unit))))))×Unit)):=fun x=>
 let y:=x.1.1
 let s:=x.1.2.1
 let yn1:=x.1.2.2.1
 let yn0:=x.1.2.2.2.1
 let un0:=x.1.2.2.2.2.1
 let q1:=x.1.2.2.2.2.2.1
 let rhat:=x.1.2.2.2.2.2.2.1
 let un21:=x.1.2.2.2.2.2.2.2.1
 let q0:=x.1.2.2.2.2.2.2.2.2.1
 bif (decide (q0≥4294967296))then(
 bif (decide ((u64.wrap (rhat+yn1))≥4294967296))then(
 some (.inr ((y,(s,(un0,(q1,(un21,((u64.wrap (q0-1)),())))))),())))
 else(
 some (.inl ((y,(s,(yn1,(yn0,(un0,(q1,((u64.wrap (rhat+yn1)),(un21,((u64.wrap (q0-1)),()))))))))),()))))
 else(
 bif (decide ((u64.wrap (q0*yn0))>(u64.wrap ((u64.wrap (4294967296*rhat))+un0))))then(
 bif (decide ((u64.wrap (rhat+yn1))≥4294967296))then(
 some (.inr ((y,(s,(un0,(q1,(un21,((u64.wrap (q0-1)),())))))),())))
 else(
 some (.inl ((y,(s,(yn1,(yn0,(un0,(q1,((u64.wrap (rhat+yn1)),(un21,((u64.wrap (q0-1)),()))))))))),()))))
 else(
 some (.inr ((y,(s,(un0,(q1,(un21,(q0,())))))),()))))
noncomputable def Aw(hi:Int)(lo:Int)(y:Int):Option (Int×Int):=
 bif (y==0)then(
 none)
 else(
 bif (decide (y≤hi))then(
 none)
 else(
 bif (hi==0)then(
 bif (decide (y=0))then(
 none)
 else(
 bif (decide (y=0))then(
 none)
 else(
 some ((u64.wrap (Int.tdiv lo y)),(Int.tmod lo y)))))
 else(
 match(bits_LeadingZeros64 y)with
 |none=>none
 |some r=>(
 bif (decide ((u64.wrap r)<0))then(
 none)
 else(
 bif (decide ((u64.wrap r)<0))then(
 none)
 else(
 bif (decide ((u64.wrap (64-(u64.wrap r)))<0))then(
 none)
 else(
 let t:=(aA .or .u64 (iK .u64 hi (u64.wrap r)) (bX .u64 lo (u64.wrap (64-(u64.wrap r)))))
 bif (decide ((u64.wrap r)<0))then(
 none)
 else(
 bif (decide ((bX .u64 (iK .u64 y (u64.wrap r)) 32)=0))then(
 none)
 else(
 let t1:=(u64.wrap ((u64.wrap (Int.tdiv t (bX .u64 (iK .u64 y (u64.wrap r)) 32)))*(bX .u64 (iK .u64 y (u64.wrap r)) 32)))
 match(aj dO (((iK .u64 y (u64.wrap r)),((u64.wrap r),((bX .u64 (iK .u64 y (u64.wrap r)) 32),((aA .and .u64 (iK .u64 y (u64.wrap r)) 4294967295),(t,((bX .u64 (iK .u64 lo (u64.wrap r)) 32),((aA .and .u64 (iK .u64 lo (u64.wrap r)) 4294967295),((u64.wrap (Int.tdiv t (bX .u64 (iK .u64 y (u64.wrap r)) 32))),((u64.wrap (t-t1)),()))))))))),()))with
 |none=>none
 |some y1=>(
 let y2:=y1.1.1
 let s:=y1.1.2.1
 let yn1:=y1.1.2.2.1
 let yn0:=y1.1.2.2.2.1
 let un32:=y1.1.2.2.2.2.1
 let un1:=y1.1.2.2.2.2.2.1
 let un0:=y1.1.2.2.2.2.2.2.1
 let q1:=y1.1.2.2.2.2.2.2.2.1
 bif (decide (yn1=0))then(
 none)
 else(
 let t2:=(u64.wrap (Int.tdiv (u64.wrap ((u64.wrap ((u64.wrap (un32*4294967296))+un1))-(u64.wrap (q1*y2)))) yn1))
 let t3:=(u64.wrap ((u64.wrap ((u64.wrap ((u64.wrap (un32*4294967296))+un1))-(u64.wrap (q1*y2))))-(u64.wrap (t2*yn1))))
 match(aj dP ((y2,(s,(yn1,(yn0,(un0,(q1,(t3,((u64.wrap ((u64.wrap ((u64.wrap (un32*4294967296))+un1))-(u64.wrap (q1*y2)))),(t2,()))))))))),()))with
 |none=>none
 |some y3=>(
 let y4:=y3.1.1
 let s1:=y3.1.2.1
 let un01:=y3.1.2.2.1
 let q11:=y3.1.2.2.2.1
 let un21:=y3.1.2.2.2.2.1
 let q0:=y3.1.2.2.2.2.2.1
 bif (decide (s1<0))then(
 none)
 else(
 let t4:=(bX .u64 (u64.wrap ((u64.wrap ((u64.wrap (un21*4294967296))+un01))-(u64.wrap (q0*y4)))) s1)
 some ((u64.wrap ((u64.wrap (q11*4294967296))+q0)),t4))))))))))))))
noncomputable def ru:=veil Aw
theorem IL:ru=Aw:=ak _
noncomputable def mM(x:Int)(k:Int):Option (Int):=
 bif (decide ((aA .and .u64 (u64.wrap k) 31)<0))then(
 none)
 else(
 bif (decide ((u64.wrap (32-(aA .and .u64 (u64.wrap k) 31)))<0))then(
 none)
 else(
 let t:=(aA .or .u32 (iK .u32 x (aA .and .u64 (u64.wrap k) 31)) (bX .u32 x (u64.wrap (32-(aA .and .u64 (u64.wrap k) 31)))))
 some t))
noncomputable def sW:=veil mM
theorem wD:sW=mM:=ak _
end Go.Pl
namespace Go.Pl
open Go.IntKind (i64 u64 u32 u8)
noncomputable def Kz(a:NI)(k:Int):Option (Int):=
 bif (decide (k<0))then(
 some 0)
 else(
 bif (decide (k≥256))then(
 some 0)
 else(
 bif (inb (i64.wrap (Int.tdiv k 64)) 4)then(
 bif (decide ((Int.tmod k 64)<0))then(
 none)
 else(
 let t:=(aA .and .u64 (bX .u64 (a (Int.toNat (i64.wrap (Int.tdiv k 64)))) (Int.tmod k 64)) 1)
 some (i64.wrap t)))
 else(
 none)))
noncomputable def Ay:=veil Kz
theorem Qv:Ay=Kz:=ak _
abbrev ZY(limbs:Int)(by_:Int)(i:Int)(a:NI)(t:NI)(out:NI):=(((),((),((),(limbs,(by_,(i,())))))),(a,(t,(out,()))))
abbrev UY(t:NI)(out:NI):=(((),((),())),(t,(out,())))
abbrev Qw:Type:=((Unit×(Unit×(Unit×(Int×(Int×(Int×Unit))))))×(NI×(NI×(NI×Unit))))
noncomputable def kU:Qw→Option (Qw⊕((Unit×(Unit×Unit))×(NI×(NI×Unit)))):=fun x=>
 let limbs:=x.1.2.2.2.1
 let by_:=x.1.2.2.2.2.1
 let i:=x.1.2.2.2.2.2.1
 let a:=x.2.1
 let t:=x.2.2.1
 let out:=x.2.2.2.1
 bif (decide (i<4))then(
 bif (inb (i64.wrap (i-limbs)) 4)then(
 bif (decide (by_<0))then(
 none)
 else(
 bif (inb i 4)then(
 bif (decide (i>limbs))then(
 bif (inb i 4)then(
 let t1:=((upd out (Int.toNat i) (iK .u64 (a (Int.toNat (i64.wrap (i-limbs)))) by_)) (Int.toNat i))
 bif (inb (i64.wrap ((i64.wrap (i-limbs))-1)) 4)then(
 bif (decide ((i64.wrap (64-by_))<0))then(
 none)
 else(
 let t2:=(bX .u64 (a (Int.toNat (i64.wrap ((i64.wrap (i-limbs))-1)))) (i64.wrap (64-by_)))
 bif (inb i 4)then(
 some (.inl (((),((),((),(limbs,(by_,((i64.wrap (i+1)),())))))),(a,(t,((upd (upd out (Int.toNat i) (iK .u64 (a (Int.toNat (i64.wrap (i-limbs)))) by_)) (Int.toNat i) (aA .or .u64 t1 t2)),()))))))
 else(
 none)))
 else(
 none))
 else(
 none))
 else(
 some (.inl (((),((),((),(limbs,(by_,((i64.wrap (i+1)),())))))),(a,(t,((upd out (Int.toNat i) (iK .u64 (a (Int.toNat (i64.wrap (i-limbs)))) by_)),())))))))
 else(
 none)))
 else(
 none))
 else(
 some (.inr (((),((),())),(t,(out,())))))
noncomputable def Pn(a:NI)(k:Int):Option (NI):=
 bif (decide (k<1))then(
 some a)
 else(
 bif (decide (k≥256))then(
 some (fun _=>0))
 else(
 match(aj kU (((),((),((),((i64.wrap (Int.tdiv k 64)),((Int.tmod k 64),((i64.wrap (Int.tdiv k 64)),())))))),(a,((fun _=>0),((fun _=>0),())))))with
 |none=>none
 |some y=>(
 let t:=y.2.1
 let out:=y.2.2.1
 some out)))
noncomputable def Qx:=veil Pn
theorem U4:Qx=Pn:=ak _
noncomputable def KA(a:NI)(b:NI):Option (NI×Int):=
 match(Ez (a 0) (b 0) 0)with
 |none=>none
 |some r=>(
 match(Ez (a 1) (b 1) r.2)with
 |none=>none
 |some r1=>(
 match(Ez (a 2) (b 2) r1.2)with
 |none=>none
 |some r2=>(
 match(Ez (a 3) (b 3) r2.2)with
 |none=>none
 |some r3=>(
 some ((upd (upd (upd (upd (fun _=>0) 0 r.1) 1 r1.1) 2 r2.1) 3 r3.1),(i64.wrap r3.2))))))
noncomputable def vQ:=veil KA
theorem Qy:vQ=KA:=ak _
noncomputable def KC(a:NI)(b:NI):Option (Int):=
 bif (decide ((a 3)<(b 3)))then(
 some (-1))
 else(
 bif (decide ((a 3)>(b 3)))then(
 some 1)
 else(
 bif (decide ((a 2)<(b 2)))then(
 some (-1))
 else(
 bif (decide ((a 2)>(b 2)))then(
 some 1)
 else(
 bif (decide ((a 1)<(b 1)))then(
 some (-1))
 else(
 bif (decide ((a 1)>(b 1)))then(
 some 1)
 else(
 bif (decide ((a 0)<(b 0)))then(
 some (-1))
 else(
 bif (decide ((a 0)>(b 0)))then(
 some 1)
 else(
 some 0))))))))
noncomputable def yB:=veil KC
theorem Qz:yB=KC:=ak _
noncomputable def Po(n:Int):Option (NI):=
 some (upd (fun _=>0) 0 (u64.wrap (if n<0 then 0 else n)))
noncomputable def fq:=veil Po
theorem U5:fq=Po:=ak _
noncomputable def KD(a:NI)(b:NI):Option (NI×Int):=
 match(bM (a 0) (b 0) 0)with
 |none=>none
 |some r=>(
 match(bM (a 1) (b 1) r.2)with
 |none=>none
 |some r1=>(
 match(bM (a 2) (b 2) r1.2)with
 |none=>none
 |some r2=>(
 match(bM (a 3) (b 3) r2.2)with
 |none=>none
 |some r3=>(
 some ((upd (upd (upd (upd (fun _=>0) 0 r.1) 1 r1.1) 2 r2.1) 3 r3.1),(i64.wrap r3.2))))))
noncomputable def Pp:=veil KD
theorem QA:Pp=KD:=ak _
noncomputable def KE(a:NI):Option (Int):=
 bif ((a 3) !=0)then(
 match(bits_Len64 (a 3))with
 |none=>none
 |some r=>(
 some (i64.wrap (192+r))))
 else(
 bif ((a 2) !=0)then(
 match(bits_Len64 (a 2))with
 |none=>none
 |some r1=>(
 some (i64.wrap (128+r1))))
 else(
 bif ((a 1) !=0)then(
 match(bits_Len64 (a 1))with
 |none=>none
 |some r2=>(
 some (i64.wrap (64+r2))))
 else(
 bif ((a 0) !=0)then(
 match(bits_Len64 (a 0))with
 |none=>none
 |some r3=>(
 some (i64.wrap (0+r3))))
 else(
 some 0))))
noncomputable def yC:=veil KE
theorem QB:yC=KE:=ak _
abbrev UZ(limbs:Int)(by_:Int)(t:Int)(t1:Int)(a:NI)(t2:NI)(out:NI):=(((),((),((),(limbs,(by_,(t,(t1,()))))))),(a,(t2,(out,()))))
abbrev QC(t:NI)(out:NI):=(((),((),())),(t,(out,())))
abbrev KF:Type:=((Unit×(Unit×(Unit×(Int×(Int×(Int×(Int×Unit)))))))×(NI×(NI×(NI×Unit))))
noncomputable def j6:KF→Option (KF⊕((Unit×(Unit×Unit))×(NI×(NI×Unit)))):=fun x=>
 let limbs:=x.1.2.2.2.1
 let by_:=x.1.2.2.2.2.1
 let t:=x.1.2.2.2.2.2.1
 let t1:=x.1.2.2.2.2.2.2.1
 let a:=x.2.1
 let t2:=x.2.2.1
 let out:=x.2.2.2.1
 bif (decide (t1<t))then(
 bif (inb (i64.wrap (t1+limbs)) 4)then(
 bif (decide (by_<0))then(
 none)
 else(
 bif (inb t1 4)then(
 bif (decide ((i64.wrap ((i64.wrap (t1+limbs))+1))<4))then(
 bif (inb t1 4)then(
 let t3:=((upd out (Int.toNat t1) (bX .u64 (a (Int.toNat (i64.wrap (t1+limbs)))) by_)) (Int.toNat t1))
 bif (inb (i64.wrap ((i64.wrap (t1+limbs))+1)) 4)then(
 bif (decide ((i64.wrap (64-by_))<0))then(
 none)
 else(
 let t4:=(iK .u64 (a (Int.toNat (i64.wrap ((i64.wrap (t1+limbs))+1)))) (i64.wrap (64-by_)))
 bif (inb t1 4)then(
 some (.inl (((),((),((),(limbs,(by_,(t,((i64.wrap (t1+1)),()))))))),(a,(t2,((upd (upd out (Int.toNat t1) (bX .u64 (a (Int.toNat (i64.wrap (t1+limbs)))) by_)) (Int.toNat t1) (aA .or .u64 t3 t4)),()))))))
 else(
 none)))
 else(
 none))
 else(
 none))
 else(
 some (.inl (((),((),((),(limbs,(by_,(t,((i64.wrap (t1+1)),()))))))),(a,(t2,((upd out (Int.toNat t1) (bX .u64 (a (Int.toNat (i64.wrap (t1+limbs)))) by_)),())))))))
 else(
 none)))
 else(
 none))
 else(
 some (.inr (((),((),())),(t2,(out,())))))
noncomputable def He(a:NI)(k:Int):Option (NI):=
 bif (decide (k<1))then(
 some a)
 else(
 bif (decide (k≥256))then(
 some (fun _=>0))
 else(
 match(aj j6 (((),((),((),((i64.wrap (Int.tdiv k 64)),((Int.tmod k 64),((i64.wrap (4-(i64.wrap (Int.tdiv k 64)))),(0,()))))))),(a,((fun _=>0),((fun _=>0),())))))with
 |none=>none
 |some y=>(
 let t:=y.2.1
 let out:=y.2.2.1
 some out)))
noncomputable def Fx:=veil He
theorem NW:Fx=He:=ak _
noncomputable def KG(a:NI):Option (Int×Bool):=
 bif (!(eqF (.arr 4 (.int .u64)) a (upd (fun _=>0) 0 (a 0))))then(
 some (0,false))
 else(
 bif (decide ((a 0)>9223372036854775807))then(
 some (0,false))
 else(
 some ((i64.wrap (a 0)),true)))
noncomputable def KH:=veil KG
theorem QD:KH=KG:=ak _
abbrev Du(s:ByteArray)(t:Int)(t1:Int)(t2:NI)(out:NI):=((s,((),((),(t,(t1,()))))),(t2,(out,())))
abbrev Fy(t:NI)(out:NI):=(((),((),())),(t,(out,())))
abbrev KI:Type:=((ByteArray×(Unit×(Unit×(Int×(Int×Unit)))))×(NI×(NI×Unit)))
noncomputable def iB:KI→Option (KI⊕((Unit×(Unit×Unit))×(NI×(NI×Unit)))):=fun x=>
 let s:=x.1.1
 let t:=x.1.2.2.2.1
 let t1:=x.1.2.2.2.2.1
 let t2:=x.2.1
 let out:=x.2.2.1
 bif (decide (t1<t))then(
 bif (inb (i64.wrap (Int.tdiv t1 8)) 4)then(
 bif (inb (i64.wrap ((i64.wrap ((((ByteArray.size s):Nat):Int)-1))-t1)) (ByteArray.size s))then(
 let t3:=(((UInt8.toNat (List.getD (Array.toList (ByteArray.data s)) (Int.toNat (i64.wrap ((i64.wrap ((((ByteArray.size s):Nat):Int)-1))-t1))) 0)):Nat):Int)
 bif (decide ((i64.wrap (8*(Int.tmod t1 8)))<0))then(
 none)
 else(
 let t4:=(aA .or .u64 (out (Int.toNat (i64.wrap (Int.tdiv t1 8)))) (iK .u64 (u64.wrap t3) (i64.wrap (8*(Int.tmod t1 8)))))
 bif (inb (i64.wrap (Int.tdiv t1 8)) 4)then(
 some (.inl ((s,((),((),(t,((i64.wrap (t1+1)),()))))),(t2,((upd out (Int.toNat (i64.wrap (Int.tdiv t1 8))) t4),())))))
 else(
 none)))
 else(
 none))
 else(
 none))
 else(
 some (.inr (((),((),())),(t2,(out,())))))
noncomputable def Hf(s:ByteArray):Option (NI×Int):=
 bif (decide ((((ByteArray.size s):Nat):Int)>32))then(
 some ((fun _=>0),4))
 else(
 bif (decide ((((ByteArray.size s):Nat):Int)>0))then(
 bif (inb 0 (ByteArray.size s))then(
 bif ((((UInt8.toNat (List.getD (Array.toList (ByteArray.data s)) 0 0)):Nat):Int)==0)then(
 some ((fun _=>0),4))
 else(
 match(aj iB ((s,((),((),((((ByteArray.size s):Nat):Int),(0,()))))),((fun _=>0),((fun _=>0),()))))with
 |none=>none
 |some y=>(
 let t:=y.2.1
 let out:=y.2.2.1
 some (out,0))))
 else(
 none))
 else(
 match(aj iB ((s,((),((),((((ByteArray.size s):Nat):Int),(0,()))))),((fun _=>0),((fun _=>0),()))))with
 |none=>none
 |some y1=>(
 let t1:=y1.2.1
 let out1:=y1.2.2.1
 some (out1,0))))
noncomputable def FB:=veil Hf
theorem NY:FB=Hf:=ak _
abbrev BF(n:Int)(nout:Nat)(out:Nat→Int)(t:Int)(t1:Int)(a:NI):=(((),(n,((nout,out),(t,(t1,()))))),(a,()))
abbrev EA(nout:Nat)(out:Nat→Int):=(((nout,out),()),())
abbrev IQ:Type:=((Unit×(Int×((Nat×NI)×(Int×(Int×Unit)))))×(NI×Unit))
noncomputable def ji:IQ→Option (IQ⊕(((Nat×NI)×Unit)×Unit)):=fun x=>
 let n:=x.1.2.1
 let nout:=x.1.2.2.1.1
 let out:=x.1.2.2.1.2
 let t:=x.1.2.2.2.1
 let t1:=x.1.2.2.2.2.1
 let a:=x.2.1
 bif (decide (t1<t))then(
 bif (inb (i64.wrap (Int.tdiv t1 8)) 4)then(
 bif (decide ((i64.wrap (8*(Int.tmod t1 8)))<0))then(
 none)
 else(
 let t2:=(bX .u64 (a (Int.toNat (i64.wrap (Int.tdiv t1 8)))) (i64.wrap (8*(Int.tmod t1 8))))
 bif (inb (i64.wrap ((i64.wrap (n-1))-t1)) nout)then(
 some (.inl (((),(n,((nout,(upd out (0+(Int.toNat (i64.wrap ((i64.wrap (n-1))-t1)))) (u8.wrap t2))),(t,((i64.wrap (t1+1)),()))))),(a,()))))
 else(
 none)))
 else(
 none))
 else(
 some (.inr (((nout,out),()),())))
noncomputable def Dv(a:NI):Option (ByteArray):=
 match(yC a)with
 |none=>none
 |some r=>(
 bif ((((decide (0≤(i64.wrap (Int.tdiv (i64.wrap (r+7)) 8))))&&(decide ((i64.wrap (Int.tdiv (i64.wrap (r+7)) 8))≤(i64.wrap (Int.tdiv (i64.wrap (r+7)) 8)))))&&(decide ((((1:Nat):Int)*(i64.wrap (Int.tdiv (i64.wrap (r+7)) 8)))≤281474976710656)))&&(decide ((i64.wrap (Int.tdiv (i64.wrap (r+7)) 8))≤9223372036854775807)))then(
 match(aj ji (((),((i64.wrap (Int.tdiv (i64.wrap (r+7)) 8)),(((Int.toNat (i64.wrap (Int.tdiv (i64.wrap (r+7)) 8))),(fun _=>0)),((i64.wrap (Int.tdiv (i64.wrap (r+7)) 8)),(0,()))))),(a,())))with
 |none=>none
 |some y=>(
 let nout:=y.1.1.1
 let out:=y.1.1.2
 some (bytesOf nout (fun j=>out (0+j)))))
 else(
 none))
noncomputable def Ck:=veil Dv
theorem KJ:Ck=Dv:=ak _
end Go.Pl
namespace Go.Pl
open Go.IntKind (i64 u64 u32 u8)
noncomputable def Hg(a:NI)(b:NI):Option (NI×NI):=
 match(bits_Mul64 (a 0) (b 0))with
 |none=>none
 |some r=>(
 match(bM r.2 0 0)with
 |none=>none
 |some r1=>(
 match(bM r1.1 0 0)with
 |none=>none
 |some r2=>(
 match(bits_Mul64 (a 0) (b 1))with
 |none=>none
 |some r3=>(
 match(bM r3.2 0 0)with
 |none=>none
 |some r4=>(
 match(bM r4.1 (u64.wrap ((u64.wrap (r.1+r1.2))+r2.2)) 0)with
 |none=>none
 |some r5=>(
 match(bits_Mul64 (a 0) (b 2))with
 |none=>none
 |some r6=>(
 match(bM r6.2 0 0)with
 |none=>none
 |some r7=>(
 match(bM r7.1 (u64.wrap ((u64.wrap (r3.1+r4.2))+r5.2)) 0)with
 |none=>none
 |some r8=>(
 match(bits_Mul64 (a 0) (b 3))with
 |none=>none
 |some r9=>(
 match(bM r9.2 0 0)with
 |none=>none
 |some r10=>(
 match(bM r10.1 (u64.wrap ((u64.wrap (r6.1+r7.2))+r8.2)) 0)with
 |none=>none
 |some r11=>(
 match(bits_Mul64 (a 1) (b 0))with
 |none=>none
 |some r12=>(
 match(bM r12.2 r5.1 0)with
 |none=>none
 |some r13=>(
 match(bM r13.1 0 0)with
 |none=>none
 |some r14=>(
 match(bits_Mul64 (a 1) (b 1))with
 |none=>none
 |some r15=>(
 match(bM r15.2 r8.1 0)with
 |none=>none
 |some r16=>(
 match(bM r16.1 (u64.wrap ((u64.wrap (r12.1+r13.2))+r14.2)) 0)with
 |none=>none
 |some r17=>(
 match(bits_Mul64 (a 1) (b 2))with
 |none=>none
 |some r18=>(
 match(bM r18.2 r11.1 0)with
 |none=>none
 |some r19=>(
 match(bM r19.1 (u64.wrap ((u64.wrap (r15.1+r16.2))+r17.2)) 0)with
 |none=>none
 |some r20=>(
 match(bits_Mul64 (a 1) (b 3))with
 |none=>none
 |some r21=>(
 match(bM r21.2 (u64.wrap ((u64.wrap (r9.1+r10.2))+r11.2)) 0)with
 |none=>none
 |some r22=>(
 match(bM r22.1 (u64.wrap ((u64.wrap (r18.1+r19.2))+r20.2)) 0)with
 |none=>none
 |some r23=>(
 match(bits_Mul64 (a 2) (b 0))with
 |none=>none
 |some r24=>(
 match(bM r24.2 r17.1 0)with
 |none=>none
 |some r25=>(
 match(bM r25.1 0 0)with
 |none=>none
 |some r26=>(
 match(bits_Mul64 (a 2) (b 1))with
 |none=>none
 |some r27=>(
 match(bM r27.2 r20.1 0)with
 |none=>none
 |some r28=>(
 match(bM r28.1 (u64.wrap ((u64.wrap (r24.1+r25.2))+r26.2)) 0)with
 |none=>none
 |some r29=>(
 match(bits_Mul64 (a 2) (b 2))with
 |none=>none
 |some r30=>(
 match(bM r30.2 r23.1 0)with
 |none=>none
 |some r31=>(
 match(bM r31.1 (u64.wrap ((u64.wrap (r27.1+r28.2))+r29.2)) 0)with
 |none=>none
 |some r32=>(
 match(bits_Mul64 (a 2) (b 3))with
 |none=>none
 |some r33=>(
 match(bM r33.2 (u64.wrap ((u64.wrap (r21.1+r22.2))+r23.2)) 0)with
 |none=>none
 |some r34=>(
 match(bM r34.1 (u64.wrap ((u64.wrap (r30.1+r31.2))+r32.2)) 0)with
 |none=>none
 |some r35=>(
 match(bits_Mul64 (a 3) (b 0))with
 |none=>none
 |some r36=>(
 match(bM r36.2 r29.1 0)with
 |none=>none
 |some r37=>(
 match(bM r37.1 0 0)with
 |none=>none
 |some r38=>(
 match(bits_Mul64 (a 3) (b 1))with
 |none=>none
 |some r39=>(
 match(bM r39.2 r32.1 0)with
 |none=>none
 |some r40=>(
 match(bM r40.1 (u64.wrap ((u64.wrap (r36.1+r37.2))+r38.2)) 0)with
 |none=>none
 |some r41=>(
 match(bits_Mul64 (a 3) (b 2))with
 |none=>none
 |some r42=>(
 match(bM r42.2 r35.1 0)with
 |none=>none
 |some r43=>(
 match(bM r43.1 (u64.wrap ((u64.wrap (r39.1+r40.2))+r41.2)) 0)with
 |none=>none
 |some r44=>(
 match(bits_Mul64 (a 3) (b 3))with
 |none=>none
 |some r45=>(
 match(bM r45.2 (u64.wrap ((u64.wrap (r33.1+r34.2))+r35.2)) 0)with
 |none=>none
 |some r46=>(
 match(bM r46.1 (u64.wrap ((u64.wrap (r42.1+r43.2))+r44.2)) 0)with
 |none=>none
 |some r47=>(
 some ((fun j=>(upd (upd (upd (upd (upd (upd (upd (upd (upd (upd (upd (upd (upd (upd (upd (upd (upd (upd (upd (upd (fun _=>0) 0 r2.1) 1 r5.1) 2 r8.1) 3 r11.1) 4 (u64.wrap ((u64.wrap (r9.1+r10.2))+r11.2))) 1 r14.1) 2 r17.1) 3 r20.1) 4 r23.1) 5 (u64.wrap ((u64.wrap (r21.1+r22.2))+r23.2))) 2 r26.1) 3 r29.1) 4 r32.1) 5 r35.1) 6 (u64.wrap ((u64.wrap (r33.1+r34.2))+r35.2))) 3 r38.1) 4 r41.1) 5 r44.1) 6 r47.1) 7 (u64.wrap ((u64.wrap (r45.1+r46.2))+r47.2))) (0+j)),(fun j=>(upd (upd (upd (upd (upd (upd (upd (upd (upd (upd (upd (upd (upd (upd (upd (upd (upd (upd (upd (upd (fun _=>0) 0 r2.1) 1 r5.1) 2 r8.1) 3 r11.1) 4 (u64.wrap ((u64.wrap (r9.1+r10.2))+r11.2))) 1 r14.1) 2 r17.1) 3 r20.1) 4 r23.1) 5 (u64.wrap ((u64.wrap (r21.1+r22.2))+r23.2))) 2 r26.1) 3 r29.1) 4 r32.1) 5 r35.1) 6 (u64.wrap ((u64.wrap (r33.1+r34.2))+r35.2))) 3 r38.1) 4 r41.1) 5 r44.1) 6 r47.1) 7 (u64.wrap ((u64.wrap (r45.1+r46.2))+r47.2))) (4+j)))))))))))))))))))))))))))))))))))))))))))))))))))
noncomputable def Cm:=veil Hg
theorem NZ:Cm=Hg:=ak _
noncomputable def Az(a:NI)(left_:Int)(m:Int):Option (NI×NI):=
 match(ru left_ (a 3) m)with
 |none=>none
 |some r=>(
 match(ru r.2 (a 2) m)with
 |none=>none
 |some r1=>(
 match(ru r1.2 (a 1) m)with
 |none=>none
 |some r2=>(
 match(ru r2.2 (a 0) m)with
 |none=>none
 |some r3=>(
 some ((upd (upd (upd (upd (fun _=>0) 3 r.1) 2 r1.1) 1 r2.1) 0 r3.1),(upd (fun _=>0) 0 r3.2))))))
noncomputable def Dw:=veil Az
theorem IU:Dw=Az:=ak _
abbrev OT(t:Int)(a:NI)(left_:NI)(m:NI)(t1:NI)(t2:NI)(q:NI):=(((),((),((),((),((),((),(t,()))))))),(a,(left_,(m,(t1,(t2,(q,())))))))
abbrev KL(left_:NI)(t:NI)(t1:NI)(q:NI):=(((),((),((),((),())))),(left_,(t,(t1,(q,())))))
abbrev EB:Type:=((Unit×(Unit×(Unit×(Unit×(Unit×(Unit×(Int×Unit)))))))×(NI×(NI×(NI×(NI×(NI×(NI×Unit)))))))
noncomputable def dZ:EB→Option (EB⊕((Unit×(Unit×(Unit×(Unit×Unit))))×(NI×(NI×(NI×(NI×Unit)))))):=fun x=>
 let t:=x.1.2.2.2.2.2.2.1
 let a:=x.2.1
 let left_:=x.2.2.1
 let m:=x.2.2.2.1
 let t1:=x.2.2.2.2.1
 let t2:=x.2.2.2.2.2.1
 let q:=x.2.2.2.2.2.2.1
 bif (decide (t<256))then(
 match(Ay left_ 255)with
 |none=>none
 |some r=>(
 match(Qx left_ 1)with
 |none=>none
 |some r1=>(
 match(Ay a (i64.wrap (255-t)))with
 |none=>none
 |some r2=>(
 bif (r==1)then(
 match(vQ (upd r1 0 (aA .or .u64 (r1 0) (u64.wrap r2))) m)with
 |none=>none
 |some r3=>(
 bif (inb (i64.wrap (Int.tdiv (i64.wrap (255-t)) 64)) 4)then(
 bif (decide ((Int.tmod (i64.wrap (255-t)) 64)<0))then(
 none)
 else(
 let t3:=(aA .or .u64 (q (Int.toNat (i64.wrap (Int.tdiv (i64.wrap (255-t)) 64)))) (iK .u64 1 (Int.tmod (i64.wrap (255-t)) 64)))
 bif (inb (i64.wrap (Int.tdiv (i64.wrap (255-t)) 64)) 4)then(
 some (.inl (((),((),((),((),((),((),((i64.wrap (t+1)),()))))))),(a,(r3.1,(m,(t1,(t2,((upd q (Int.toNat (i64.wrap (Int.tdiv (i64.wrap (255-t)) 64))) t3),())))))))))
 else(
 none)))
 else(
 none)))
 else(
 match(yB (upd r1 0 (aA .or .u64 (r1 0) (u64.wrap r2))) m)with
 |none=>none
 |some r4=>(
 bif (decide (r4≥0))then(
 match(vQ (upd r1 0 (aA .or .u64 (r1 0) (u64.wrap r2))) m)with
 |none=>none
 |some r5=>(
 bif (inb (i64.wrap (Int.tdiv (i64.wrap (255-t)) 64)) 4)then(
 bif (decide ((Int.tmod (i64.wrap (255-t)) 64)<0))then(
 none)
 else(
 let t4:=(aA .or .u64 (q (Int.toNat (i64.wrap (Int.tdiv (i64.wrap (255-t)) 64)))) (iK .u64 1 (Int.tmod (i64.wrap (255-t)) 64)))
 bif (inb (i64.wrap (Int.tdiv (i64.wrap (255-t)) 64)) 4)then(
 some (.inl (((),((),((),((),((),((),((i64.wrap (t+1)),()))))))),(a,(r5.1,(m,(t1,(t2,((upd q (Int.toNat (i64.wrap (Int.tdiv (i64.wrap (255-t)) 64))) t4),())))))))))
 else(
 none)))
 else(
 none)))
 else(
 some (.inl (((),((),((),((),((),((),((i64.wrap (t+1)),()))))))),(a,((upd r1 0 (aA .or .u64 (r1 0) (u64.wrap r2))),(m,(t1,(t2,(q,())))))))))))))))
 else(
 some (.inr (((),((),((),((),())))),(left_,(t1,(t2,(q,())))))))
noncomputable def yD(a:NI)(left_:NI)(m:NI):Option (NI×NI):=
 bif (eqF (.arr 4 (.int .u64)) m (upd (fun _=>0) 0 (m 0)))then(
 match(Dw a (left_ 0) (m 0))with
 |none=>none
 |some r=>(
 some (r.1,r.2)))
 else(
 match(aj dZ (((),((),((),((),((),((),(0,()))))))),(a,(left_,(m,((fun _=>0),((fun _=>0),((fun _=>0),()))))))))with
 |none=>none
 |some y=>(
 let left_1:=y.2.1
 let t:=y.2.2.1
 let t1:=y.2.2.2.1
 let q:=y.2.2.2.2.1
 some (q,left_1)))
noncomputable def rV:=veil yD
theorem FC:rV=yD:=ak _
noncomputable def Hl(low:NI)(high:NI)(m:NI):Option (NI×Int):=
 bif (eqF (.arr 4 (.int .u64)) m (fun _=>0))then(
 some ((fun _=>0),1))
 else(
 match(rV high (fun _=>0) m)with
 |none=>none
 |some r=>(
 match(rV low r.2 m)with
 |none=>none
 |some r1=>(
 some (r1.2,0))))
noncomputable def sZ:=veil Hl
theorem O0:sZ=Hl:=ak _
noncomputable def Ho(a:NI)(b:NI):Option (NI×NI×Int):=
 bif (eqF (.arr 4 (.int .u64)) b (fun _=>0))then(
 some ((fun _=>0),(fun _=>0),1))
 else(
 match(rV a (fun _=>0) b)with
 |none=>none
 |some r=>(
 some (r.1,r.2,0)))
noncomputable def Cn:=veil Ho
theorem O1:Cn=Ho:=ak _
noncomputable def yE(a:NI)(b:NI)(m:NI):Option (NI×Int):=
 match(Cm a b)with
 |none=>none
 |some r=>(
 match(sZ r.1 r.2 m)with
 |none=>none
 |some r1=>(
 some (r1.1,r1.2)))
noncomputable def AA:=veil yE
theorem FD:AA=yE:=ak _
noncomputable def yF(a:NI)(b:NI)(m:NI):Option (NI×Int):=
 match(sZ a (fun _=>0) m)with
 |none=>none
 |some r=>(
 bif (r.2 !=0)then(
 some ((fun _=>0),r.2))
 else(
 match(sZ b (fun _=>0) m)with
 |none=>none
 |some r1=>(
 match(vQ r.1 r1.1)with
 |none=>none
 |some r2=>(
 bif (r2.2==1)then(
 match(Pp r2.1 m)with
 |none=>none
 |some r3=>(
 some (r3.1,0)))
 else(
 some (r2.1,0))))))
noncomputable def oN:=veil yF
theorem FE:oN=yF:=ak _
abbrev KM(a:NI)(b:NI)(t:NI):=(((),((),((),()))),(a,(b,(t,()))))
abbrev QE(a:NI)(t:NI):=(((),((),())),(a,(t,())))
abbrev KN:Type:=((Unit×(Unit×(Unit×Unit)))×(NI×(NI×(NI×Unit))))
noncomputable def jc:KN→Option (KN⊕((Unit×(Unit×Unit))×(NI×(NI×Unit)))):=fun x=>
 let a:=x.2.1
 let b:=x.2.2.1
 let t:=x.2.2.2.1
 bif (!(eqF (.arr 4 (.int .u64)) b (fun _=>0)))then(
 match(Cn a b)with
 |none=>none
 |some r=>(
 some (.inl (((),((),((),()))),(b,(r.2.1,(t,())))))))
 else(
 some (.inr (((),((),())),(a,(t,())))))
noncomputable def Hq(a:NI)(b:NI):Option (NI):=
 match(aj jc (((),((),((),()))),(a,(b,((fun _=>0),())))))with
 |none=>none
 |some y=>(
 let a1:=y.2.1
 let t:=y.2.2.1
 some a1)
noncomputable def zw:=veil Hq
theorem O3:zw=Hq:=ak _
end Go.Pl
namespace Go.Pl
open Go.IntKind (i64 u64 u32 u8)
noncomputable def Hr(m:NI):Option ((Option (NI×(Int×(NI×NI))))×Int):=
 bif ((aA .and .u64 (m 0) 1)==0)then(
 some (none,1))
 else(
 match(fq 1)with
 |none=>none
 |some r=>(
 bif (eqF (.arr 4 (.int .u64)) m r)then(
 some (none,1))
 else(
 let t:=(u64.wrap ((m 0)*(u64.wrap (2-(u64.wrap ((m 0)*(m 0)))))))
 let t1:=(u64.wrap ((m 0)*(u64.wrap (t*(u64.wrap (2-(u64.wrap ((m 0)*t))))))))
 let t2:=(u64.wrap ((u64.wrap (t*(u64.wrap (2-(u64.wrap ((m 0)*t))))))*(u64.wrap (2-t1))))
 let t3:=(u64.wrap ((m 0)*(u64.wrap (t2*(u64.wrap (2-(u64.wrap ((m 0)*t2))))))))
 let t4:=(u64.wrap ((u64.wrap (t2*(u64.wrap (2-(u64.wrap ((m 0)*t2))))))*(u64.wrap (2-t3))))
 match(fq 1)with
 |none=>none
 |some r1=>(
 match(sZ (fun _=>0) r1 m)with
 |none=>none
 |some r2=>(
 match(AA r2.1 r2.1 m)with
 |none=>none
 |some r3=>(
 some ((some (m,((u64.wrap (0-t4)),(r2.1,r3.1)))),0)))))))
noncomputable def wE:=veil Hr
theorem O4:wE=Hr:=ak _
noncomputable def pX(r:(Option (NI×(Int×(NI×NI))))):Option (Bool):=
 match r with
 |none=>(
 some false)
 |some r0=>(
 some (r0.2.1 !=0))
noncomputable def bU:=veil pX
theorem mO:bU=pX:=ak _
noncomputable def tq(r:(Option (NI×(Int×(NI×NI)))))(a:NI):Option (NI):=
 match r with
 |none=>(
 none)
 |some r0=>(
 match(yB a r0.1)with
 |none=>none
 |some r1=>(
 bif (decide (r1<0))then(
 some a)
 else(
 match(sZ a (fun _=>0) r0.1)with
 |none=>none
 |some r2=>(
 some r2.1))))
noncomputable def qA:=veil tq
theorem Co:qA=tq:=ak _
noncomputable def Dx(t:NI)(x:Int)(b:NI):Option (NI):=
 match(bits_Mul64 x (b 0))with
 |none=>none
 |some r=>(
 match(bM r.2 (t 0) 0)with
 |none=>none
 |some r1=>(
 match(bM r1.1 0 0)with
 |none=>none
 |some r2=>(
 match(bits_Mul64 x (b 1))with
 |none=>none
 |some r3=>(
 match(bM r3.2 (t 1) 0)with
 |none=>none
 |some r4=>(
 match(bM r4.1 (u64.wrap ((u64.wrap (r.1+r1.2))+r2.2)) 0)with
 |none=>none
 |some r5=>(
 match(bits_Mul64 x (b 2))with
 |none=>none
 |some r6=>(
 match(bM r6.2 (t 2) 0)with
 |none=>none
 |some r7=>(
 match(bM r7.1 (u64.wrap ((u64.wrap (r3.1+r4.2))+r5.2)) 0)with
 |none=>none
 |some r8=>(
 match(bits_Mul64 x (b 3))with
 |none=>none
 |some r9=>(
 match(bM r9.2 (t 3) 0)with
 |none=>none
 |some r10=>(
 match(bM r10.1 (u64.wrap ((u64.wrap (r6.1+r7.2))+r8.2)) 0)with
 |none=>none
 |some r11=>(
 match(bM (t 4) (u64.wrap ((u64.wrap (r9.1+r10.2))+r11.2)) 0)with
 |none=>none
 |some r12=>(
 some (upd (upd (upd (upd (upd (upd t 0 r2.1) 1 r5.1) 2 r8.1) 3 r11.1) 4 r12.1) 5 (u64.wrap ((t 5)+r12.2))))))))))))))))
noncomputable def iQ:=veil Dx
theorem KO:iQ=Dx:=ak _
noncomputable def qP(r:(Option (NI×(Int×(NI×NI)))))(a:NI)(b:NI):Option (NI):=
 match r with
 |none=>(
 match(iQ (fun _=>0) (a 0) b)with
 |none=>none
 |some r12=>(
 none))
 |some r0=>(
 match(iQ (fun _=>0) (a 0) b)with
 |none=>none
 |some r1=>(
 match(iQ r1 (u64.wrap ((r1 0)*r0.2.1)) r0.1)with
 |none=>none
 |some r2=>(
 match(iQ (upd (sM r2 0 5 (fun j=>r2 (1+j))) 5 0) (a 1) b)with
 |none=>none
 |some r3=>(
 match(iQ r3 (u64.wrap ((r3 0)*r0.2.1)) r0.1)with
 |none=>none
 |some r4=>(
 match(iQ (upd (sM r4 0 5 (fun j=>r4 (1+j))) 5 0) (a 2) b)with
 |none=>none
 |some r5=>(
 match(iQ r5 (u64.wrap ((r5 0)*r0.2.1)) r0.1)with
 |none=>none
 |some r6=>(
 match(iQ (upd (sM r6 0 5 (fun j=>r6 (1+j))) 5 0) (a 3) b)with
 |none=>none
 |some r7=>(
 match(iQ r7 (u64.wrap ((r7 0)*r0.2.1)) r0.1)with
 |none=>none
 |some r8=>(
 bif ((r8 5) !=0)then(
 match(vQ (fun j=>(upd (sM r8 0 5 (fun j=>r8 (1+j))) 5 0) (0+j)) r0.1)with
 |none=>none
 |some r9=>(
 some r9.1))
 else(
 match(yB (fun j=>(upd (sM r8 0 5 (fun j=>r8 (1+j))) 5 0) (0+j)) r0.1)with
 |none=>none
 |some r10=>(
 bif (decide (r10≥0))then(
 match(vQ (fun j=>(upd (sM r8 0 5 (fun j=>r8 (1+j))) 5 0) (0+j)) r0.1)with
 |none=>none
 |some r11=>(
 some r11.1))
 else(
 some (fun j=>(upd (sM r8 0 5 (fun j=>r8 (1+j))) 5 0) (0+j))))))))))))))
noncomputable def dh:=veil qP
theorem AB:dh=qP:=ak _
noncomputable def qQ(r:(Option (NI×(Int×(NI×NI)))))(a:NI):Option (NI):=
 match r with
 |none=>(
 match(bU none)with
 |none=>none
 |some r4=>(
 bif (!r4)then(
 some (fun _=>0))
 else(
 match(qA none a)with
 |none=>none
 |some r5=>(
 none))))
 |some r0=>(
 match(bU (some r0))with
 |none=>none
 |some r1=>(
 bif (!r1)then(
 some (fun _=>0))
 else(
 match(qA (some r0) a)with
 |none=>none
 |some r2=>(
 match(dh (some r0) r2 r0.2.2.2)with
 |none=>none
 |some r3=>(
 some r3)))))
noncomputable def oO:=veil qQ
theorem AJ:oO=qQ:=ak _
abbrev FH(r:(NI×(Int×(NI×NI))))(k:Int)(t:(Nat→NI))(out:(Nat→NI))(form:NI):=((r,((),((),((),(k,()))))),(t,(out,(form,()))))
abbrev Dy(t:(Nat→NI))(out:(Nat→NI)):=(((),((),())),(t,(out,())))
abbrev wF:Type:=(((NI×(Int×(NI×NI)))×(Unit×(Unit×(Unit×(Int×Unit)))))×((Nat→NI)×((Nat→NI)×(NI×Unit))))
noncomputable def dA:wF→Option (wF⊕((Unit×(Unit×Unit))×((Nat→NI)×((Nat→NI)×Unit)))):=fun x=>
 let r:=x.1.1
 let k:=x.1.2.2.2.2.1
 let t:=x.2.1
 let out:=x.2.2.1
 let form:=x.2.2.2.1
 bif (decide (k<16))then(
 bif (inb (i64.wrap (k-1)) 16)then(
 match(dh (some r) (out (Int.toNat (i64.wrap (k-1)))) form)with
 |none=>none
 |some r1=>(
 bif (inb k 16)then(
 some (.inl ((r,((),((),((),((i64.wrap (k+1)),()))))),(t,((upd out (Int.toNat k) r1),(form,()))))))
 else(
 none)))
 else(
 none))
 else(
 some (.inr (((),((),())),(t,(out,())))))
noncomputable def oC(r:(Option (NI×(Int×(NI×NI)))))(a:NI):Option ((Nat→NI)):=
 match r with
 |none=>(
 match(oO none a)with
 |none=>none
 |some r2=>(
 none))
 |some r0=>(
 match(oO (some r0) a)with
 |none=>none
 |some r1=>(
 match(aj dA ((r0,((),((),((),(1,()))))),((fun _=>(fun _=>0)),((upd (fun _=>(fun _=>0)) 0 r0.2.2.1),(r1,())))))with
 |none=>none
 |some y=>(
 let t:=y.2.1
 let out:=y.2.2.1
 some out)))
noncomputable def pY:=veil oC
theorem xU:pY=oC:=ak _
noncomputable def oD(e:NI)(at_:Int):Option (Int):=
 match(Fx e at_)with
 |none=>none
 |some r=>(
 match(Qx r 252)with
 |none=>none
 |some r1=>(
 match(Fx r1 252)with
 |none=>none
 |some r2=>(
 match(KH r2)with
 |none=>none
 |some r3=>(
 some r3.1))))
noncomputable def q9:=veil oD
theorem xV:q9=oD:=ak _
abbrev JO(r:(NI×(Int×(NI×NI))))(nexps:Nat)(exps:Nat→NI)(ntables:Nat)(tables:Nat→(Nat→NI))(longest:Int)(nt:Nat)(t:Nat→NI)(t1:Int)(t2:Int)(t3:NI):=((r,((nexps,exps),((),((ntables,tables),(longest,((nt,t),(t1,(t2,())))))))),(t3,()))
abbrev FI(r:(NI×(Int×(NI×NI))))(nexps:Nat)(exps:Nat→NI)(ntables:Nat)(tables:Nat→(Nat→NI))(longest:Int)(t:NI):=((r,((nexps,exps),((),((ntables,tables),(longest,()))))),(t,()))
abbrev zx:Type:=(((NI×(Int×(NI×NI)))×((Nat×(Nat→NI))×(Unit×((Nat×(Nat→(Nat→NI)))×(Int×((Nat×(Nat→NI))×(Int×(Int×Unit))))))))×(NI×Unit))
noncomputable def dQ:zx→Option (zx⊕(((NI×(Int×(NI×NI)))×((Nat×(Nat→NI))×(Unit×((Nat×(Nat→(Nat→NI)))×(Int×Unit)))))×(NI×Unit))):=fun x=>
 let r:=x.1.1
 let nexps:=x.1.2.1.1
 let exps:=x.1.2.1.2
 let ntables:=x.1.2.2.2.1.1
 let tables:=x.1.2.2.2.1.2
 let longest:=x.1.2.2.2.2.1
 let nt:=x.1.2.2.2.2.2.1.1
 let t:=x.1.2.2.2.2.2.1.2
 let t1:=x.1.2.2.2.2.2.2.1
 let t2:=x.1.2.2.2.2.2.2.2.1
 let t3:=x.2.1
 bif (decide (t2<t1))then(
 bif (inb t2 nt)then(
 match(pY (some r) (t (Int.toNat t2)))with
 |none=>none
 |some r1=>(
 bif ((Nat.ble ((ntables+1)*512) 140737488355328)&&(Nat.ble (ntables+1) 9223372036854775807))then(
 bif (inb t2 nexps)then(
 match(yC (exps (Int.toNat t2)))with
 |none=>none
 |some r2=>(
 some (.inl ((r,((nexps,exps),((),(((ntables+1),(glue ntables tables (fun j=>(upd (fun _=>(fun _=>(fun _=>0))) 0 r1) (0+j)))),((if longest<r2 then r2 else longest),((nt,t),(t1,((i64.wrap (t2+1)),())))))))),(t3,())))))
 else(
 none))
 else(
 none)))
 else(
 none))
 else(
 some (.inr ((r,((nexps,exps),((),((ntables,tables),(longest,()))))),(t3,()))))
abbrev rz(r:(NI×(Int×(NI×NI))))(nexps:Nat)(exps:Nat→NI)(ntables:Nat)(tables:Nat→(Nat→NI))(at_:Int)(nt:Nat)(t:Nat→NI)(t1:Int)(t2:Int)(t3:NI)(out:NI):=((r,((nexps,exps),((),((ntables,tables),((),((),(at_,((nt,t),(t1,(t2,())))))))))),(t3,(out,())))
abbrev FJ(r:(NI×(Int×(NI×NI))))(nexps:Nat)(exps:Nat→NI)(ntables:Nat)(tables:Nat→(Nat→NI))(at_:Int)(t:NI)(out:NI):=((r,((nexps,exps),((),((ntables,tables),((),((),(at_,()))))))),(t,(out,())))
abbrev zy:Type:=(((NI×(Int×(NI×NI)))×((Nat×(Nat→NI))×(Unit×((Nat×(Nat→(Nat→NI)))×(Unit×(Unit×(Int×((Nat×(Nat→NI))×(Int×(Int×Unit))))))))))×(NI×(NI×Unit)))
noncomputable def dR:zy→Option (zy⊕(((NI×(Int×(NI×NI)))×((Nat×(Nat→NI))×(Unit×((Nat×(Nat→(Nat→NI)))×(Unit×(Unit×(Int×Unit)))))))×(NI×(NI×Unit)))):=fun x=>
 let r:=x.1.1
 let nexps:=x.1.2.1.1
 let exps:=x.1.2.1.2
 let ntables:=x.1.2.2.2.1.1
 let tables:=x.1.2.2.2.1.2
 let at_:=x.1.2.2.2.2.2.2.1
 let nt:=x.1.2.2.2.2.2.2.2.1.1
 let t:=x.1.2.2.2.2.2.2.2.1.2
 let t1:=x.1.2.2.2.2.2.2.2.2.1
 let t2:=x.1.2.2.2.2.2.2.2.2.2.1
 let t3:=x.2.1
 let out:=x.2.2.1
 bif (decide (t2<t1))then(
 bif (inb t2 nt)then(
 match(q9 (t (Int.toNat t2)) at_)with
 |none=>none
 |some r1=>(
 bif (inb t2 ntables)then(
 bif (inb r1 16)then(
 match(dh (some r) out ((tables (0+(Int.toNat t2))) (Int.toNat r1)))with
 |none=>none
 |some r2=>(
 some (.inl ((r,((nexps,exps),((),((ntables,tables),((),((),(at_,((nt,t),(t1,((i64.wrap (t2+1)),())))))))))),(t3,(r2,()))))))
 else(
 none))
 else(
 none)))
 else(
 none))
 else(
 some (.inr ((r,((nexps,exps),((),((ntables,tables),((),((),(at_,()))))))),(t3,(out,())))))
abbrev JQ(r:(NI×(Int×(NI×NI))))(nexps:Nat)(exps:Nat→NI)(ntables:Nat)(tables:Nat→(Nat→NI))(at_:Int)(t:NI)(out:NI):=((r,((nexps,exps),((),((ntables,tables),((),((),(at_,()))))))),(t,(out,())))
abbrev FK(r:(NI×(Int×(NI×NI))))(t:NI)(out:NI):=((r,((),((),()))),(t,(out,())))
abbrev zA:Type:=(((NI×(Int×(NI×NI)))×((Nat×(Nat→NI))×(Unit×((Nat×(Nat→(Nat→NI)))×(Unit×(Unit×(Int×Unit)))))))×(NI×(NI×Unit)))
noncomputable def dS:zA→Option (zA⊕(((NI×(Int×(NI×NI)))×(Unit×(Unit×Unit)))×(NI×(NI×Unit)))):=fun x=>
 let r:=x.1.1
 let nexps:=x.1.2.1.1
 let exps:=x.1.2.1.2
 let ntables:=x.1.2.2.2.1.1
 let tables:=x.1.2.2.2.1.2
 let at_:=x.1.2.2.2.2.2.2.1
 let t:=x.2.1
 let out:=x.2.2.1
 bif (decide (at_>0))then(
 match(dh (some r) out out)with
 |none=>none
 |some r1=>(
 match(dh (some r) r1 r1)with
 |none=>none
 |some r2=>(
 match(dh (some r) r2 r2)with
 |none=>none
 |some r3=>(
 match(dh (some r) r3 r3)with
 |none=>none
 |some r4=>(
 match(aj dR ((r,((nexps,exps),((),((ntables,tables),((),((),((i64.wrap (at_-4)),((nexps,exps),(((nexps:Nat):Int),(0,())))))))))),(t,(r4,()))))with
 |none=>none
 |some y=>(
 let r5:=y.1.1
 let nexps1:=y.1.2.1.1
 let exps1:=y.1.2.1.2
 let ntables1:=y.1.2.2.2.1.1
 let tables1:=y.1.2.2.2.1.2
 let at_1:=y.1.2.2.2.2.2.2.1
 let t1:=y.2.1
 let out1:=y.2.2.1
 some (.inl ((r5,((nexps1,exps1),((),((ntables1,tables1),((),((),(at_1,()))))))),(t1,(out1,()))))))))))
 else(
 some (.inr ((r,((),((),()))),(t,(out,())))))
noncomputable def nN(r:(Option (NI×(Int×(NI×NI)))))(nbases:Nat)(bases:Nat→NI)(nexps:Nat)(exps:Nat→NI):Option (NI×Int):=
 match r with
 |none=>(
 match(bU none)with
 |none=>none
 |some r6=>(
 bif (!r6)then(
 some ((fun _=>0),1))
 else(
 bif (((nbases:Nat):Int) !=((nexps:Nat):Int))then(
 some ((fun _=>0),1))
 else(
 bif (decide (((nbases:Nat):Int)>64))then(
 some ((fun _=>0),1))
 else(
 none)))))
 |some r0=>(
 match(bU (some r0))with
 |none=>none
 |some r1=>(
 bif (!r1)then(
 some ((fun _=>0),1))
 else(
 bif (((nbases:Nat):Int) !=((nexps:Nat):Int))then(
 some ((fun _=>0),1))
 else(
 bif (decide (((nbases:Nat):Int)>64))then(
 some ((fun _=>0),1))
 else(
 match(aj dQ ((r0,((nexps,exps),((),((0,(fun _=>(fun _=>(fun _=>0)))),(0,((nbases,bases),(((nbases:Nat):Int),(0,())))))))),((fun _=>0),())))with
 |none=>none
 |some y=>(
 let r2:=y.1.1
 let nexps1:=y.1.2.1.1
 let exps1:=y.1.2.1.2
 let ntables:=y.1.2.2.2.1.1
 let tables:=y.1.2.2.2.1.2
 let longest:=y.1.2.2.2.2.1
 let t:=y.2.1
 match(aj dS ((r2,((nexps1,exps1),((),((ntables,tables),((),((),((i64.wrap ((i64.wrap (Int.tdiv (i64.wrap ((i64.wrap (longest+4))-1)) 4))*4)),()))))))),(t,(r2.2.2.1,()))))with
 |none=>none
 |some y1=>(
 let r3:=y1.1.1
 let t1:=y1.2.1
 let out:=y1.2.2.1
 match(fq 1)with
 |none=>none
 |some r4=>(
 match(dh (some r3) out r4)with
 |none=>none
 |some r5=>(
 some (r5,0))))))))))
noncomputable def lS:=veil nN
theorem tu:lS=nN:=ak _
noncomputable def tC(r:(Option (NI×(Int×(NI×NI)))))(a:NI)(e:NI):Option (NI):=
 match r with
 |none=>(
 match(lS none 1 (fun j=>(upd (fun _=>(fun _=>0)) 0 a) (0+j)) 1 (fun j=>(upd (fun _=>(fun _=>0)) 0 e) (0+j)))with
 |none=>none
 |some r2=>(
 some r2.1))
 |some r0=>(
 match(lS (some r0) 1 (fun j=>(upd (fun _=>(fun _=>0)) 0 a) (0+j)) 1 (fun j=>(upd (fun _=>(fun _=>0)) 0 e) (0+j)))with
 |none=>none
 |some r1=>(
 some r1.1))
noncomputable def bZ:=veil tC
theorem Cq:bZ=tC:=ak _
noncomputable def Dz(r:(Option (NI×(Int×(NI×NI))))):Option (NI):=
 match r with
 |none=>(
 match(bU none)with
 |none=>none
 |some r2=>(
 bif (!r2)then(
 some (fun _=>0))
 else(
 none)))
 |some r0=>(
 match(bU (some r0))with
 |none=>none
 |some r1=>(
 bif (!r1)then(
 some (fun _=>0))
 else(
 some r0.1)))
noncomputable def jk:=veil Dz
theorem QF:jk=Dz:=ak _
noncomputable def vR(r:(Option (NI×(Int×(NI×NI)))))(a:NI):Option (Bool):=
 match r with
 |none=>(
 match(bU none)with
 |none=>none
 |some r3=>(
 bif r3 then(
 none)
 else(
 some false)))
 |some r0=>(
 match(bU (some r0))with
 |none=>none
 |some r1=>(
 bif r1 then(
 match(yB a r0.1)with
 |none=>none
 |some r2=>(
 some (decide (r2<0))))
 else(
 some false)))
noncomputable def mP:=veil vR
theorem EC:mP=vR:=ak _
end Go.Pl
namespace Go.Pl
open Go.IntKind (i64 u64 u32 u8)
abbrev ED(n:Int)(is_:Bool)(t:Int)(t1:Int):=((n,(is_,(t,(t1,())))),())
abbrev AL(is_:Bool):=((is_,()),())
abbrev EF:Type:=((Int×(Bool×(Int×(Int×Unit))))×Unit)
noncomputable def cZ:EF→Option (EF⊕((Bool×Unit)×Unit)):=fun x=>
 let n:=x.1.1
 let is_:=x.1.2.1
 let t:=x.1.2.2.1
 let t1:=x.1.2.2.2.1
 bif (decide (t1<t))then(
 bif (decide (t1<2))then(
 some (.inl ((n,(is_,(t,((i64.wrap (t1+1)),())))),())))
 else(
 bif (decide ((i64.wrap (t1*t1))>n))then(
 some (.inr ((is_,()),())))
 else(
 bif (decide (t1=0))then(
 none)
 else(
 bif ((Int.tmod n t1)==0)then(
 some (.inr ((false,()),())))
 else(
 some (.inl ((n,(is_,(t,((i64.wrap (t1+1)),())))),())))))))
 else(
 some (.inr ((is_,()),())))
noncomputable def yG(n:Int):Option (Bool):=
 bif (decide (n<2))then(
 some false)
 else(
 bif (decide (n≥65536))then(
 some false)
 else(
 match(aj cZ ((n,(true,(n,(0,())))),()))with
 |none=>none
 |some y=>(
 let is_:=y.1.1
 some is_)))
noncomputable def AO:=veil yG
theorem FL:AO=yG:=ak _
noncomputable def AP(n:NI)(factor:NI)(witness:Int):Option (Bool):=
 match(wE n)with
 |none=>none
 |some r=>(
 match r.1 with
 |none=>(
 bif (r.2 !=0)then(
 some false)
 else(
 bif (decide (witness<2))then(
 some false)
 else(
 bif (decide (witness≥65536))then(
 some false)
 else(
 bif (eqF (.arr 4 (.int .u64)) factor (fun _=>0))then(
 some false)
 else(
 match(fq 1)with
 |none=>none
 |some r22=>(
 match(vQ n r22)with
 |none=>none
 |some r23=>(
 match(Cn r23.1 factor)with
 |none=>none
 |some r24=>(
 match(Cm factor factor)with
 |none=>none
 |some r25=>(
 bif (!(eqF (.arr 4 (.int .u64)) r24.2.1 (fun _=>0)))then(
 some false)
 else(
 bif (eqF (.arr 4 (.int .u64)) r25.2 (fun _=>0))then(
 match(yB r25.1 n)with
 |none=>none
 |some r26=>(
 bif (decide (r26≤0))then(
 some false)
 else(
 match(fq witness)with
 |none=>none
 |some r27=>(
 match(bZ none r27 r24.1)with
 |none=>none
 |some r28=>(
 match(bZ none r28 factor)with
 |none=>none
 |some r29=>(
 match(fq 1)with
 |none=>none
 |some r30=>(
 bif (!(eqF (.arr 4 (.int .u64)) r29 r30))then(
 some false)
 else(
 match(fq 1)with
 |none=>none
 |some r31=>(
 match(oN r28 r31 n)with
 |none=>none
 |some r32=>(
 match(zw r32.1 n)with
 |none=>none
 |some r33=>(
 match(fq 1)with
 |none=>none
 |some r34=>(
 some (eqF (.arr 4 (.int .u64)) r33 r34)))))))))))))
 else(
 match(fq witness)with
 |none=>none
 |some r35=>(
 match(bZ none r35 r24.1)with
 |none=>none
 |some r36=>(
 match(bZ none r36 factor)with
 |none=>none
 |some r37=>(
 match(fq 1)with
 |none=>none
 |some r38=>(
 bif (!(eqF (.arr 4 (.int .u64)) r37 r38))then(
 some false)
 else(
 match(fq 1)with
 |none=>none
 |some r39=>(
 match(oN r36 r39 n)with
 |none=>none
 |some r40=>(
 match(zw r40.1 n)with
 |none=>none
 |some r41=>(
 match(fq 1)with
 |none=>none
 |some r42=>(
 some (eqF (.arr 4 (.int .u64)) r41 r42)))))))))))))))))))))
 |some p=>(
 bif (r.2 !=0)then(
 some false)
 else(
 bif (decide (witness<2))then(
 some false)
 else(
 bif (decide (witness≥65536))then(
 some false)
 else(
 bif (eqF (.arr 4 (.int .u64)) factor (fun _=>0))then(
 some false)
 else(
 match(fq 1)with
 |none=>none
 |some r1=>(
 match(vQ n r1)with
 |none=>none
 |some r2=>(
 match(Cn r2.1 factor)with
 |none=>none
 |some r3=>(
 match(Cm factor factor)with
 |none=>none
 |some r4=>(
 bif (!(eqF (.arr 4 (.int .u64)) r3.2.1 (fun _=>0)))then(
 some false)
 else(
 bif (eqF (.arr 4 (.int .u64)) r4.2 (fun _=>0))then(
 match(yB r4.1 n)with
 |none=>none
 |some r5=>(
 bif (decide (r5≤0))then(
 some false)
 else(
 match(fq witness)with
 |none=>none
 |some r6=>(
 match(bZ (some p) r6 r3.1)with
 |none=>none
 |some r7=>(
 match(bZ (some p) r7 factor)with
 |none=>none
 |some r8=>(
 match(fq 1)with
 |none=>none
 |some r9=>(
 bif (!(eqF (.arr 4 (.int .u64)) r8 r9))then(
 some false)
 else(
 match(fq 1)with
 |none=>none
 |some r10=>(
 match(oN r7 r10 n)with
 |none=>none
 |some r11=>(
 match(zw r11.1 n)with
 |none=>none
 |some r12=>(
 match(fq 1)with
 |none=>none
 |some r13=>(
 some (eqF (.arr 4 (.int .u64)) r12 r13)))))))))))))
 else(
 match(fq witness)with
 |none=>none
 |some r14=>(
 match(bZ (some p) r14 r3.1)with
 |none=>none
 |some r15=>(
 match(bZ (some p) r15 factor)with
 |none=>none
 |some r16=>(
 match(fq 1)with
 |none=>none
 |some r17=>(
 bif (!(eqF (.arr 4 (.int .u64)) r16 r17))then(
 some false)
 else(
 match(fq 1)with
 |none=>none
 |some r18=>(
 match(oN r15 r18 n)with
 |none=>none
 |some r19=>(
 match(zw r19.1 n)with
 |none=>none
 |some r20=>(
 match(fq 1)with
 |none=>none
 |some r21=>(
 some (eqF (.arr 4 (.int .u64)) r20 r21))))))))))))))))))))))
noncomputable def DC:=veil AP
theorem IV:DC=AP:=ak _
abbrev EG(nl:Nat)(l:Nat→(NI×Int))(k:Int):=(((nl,l),(k,())),())
abbrev xB:Type:=(((Int×Unit)×Unit)⊕(Unit×Unit))
abbrev AQ(t:Int):xB:=(.inl ((t,()),()))
abbrev AR:xB:=(.inr ((),()))
abbrev EH:Type:=(((Nat×(Nat→(NI×Int)))×(Int×Unit))×Unit)
noncomputable def eu:EH→Option (EH⊕xB):=fun x=>
 let nl:=x.1.1.1
 let l:=x.1.1.2
 let k:=x.1.2.1
 bif (decide (k<((nl:Nat):Int)))then(
 bif (inb k nl)then(
 bif (inb (i64.wrap (k-1)) nl)then(
 bif (inb k nl)then(
 match(DC (l (Int.toNat k)).1 (l (Int.toNat (i64.wrap (k-1)))).1 (l (Int.toNat k)).2)with
 |none=>none
 |some r=>(
 bif (!r)then(
 some (.inr (.inl ((4,()),()))))
 else(
 some (.inl (((nl,l),((i64.wrap (k+1)),())),())))))
 else(
 none))
 else(
 none))
 else(
 none))
 else(
 some (.inr (.inr ((),()))))
noncomputable def yH(nl:Nat)(l:Nat→(NI×Int)):Option (Int):=
 bif (decide (((nl:Nat):Int)<1))then(
 some 4)
 else(
 bif (decide (((nl:Nat):Int)>8))then(
 some 4)
 else(
 bif (inb 0 nl)then(
 match(KH (l 0).1)with
 |none=>none
 |some r=>(
 bif (!r.2)then(
 some 4)
 else(
 match(AO r.1)with
 |none=>none
 |some r1=>(
 bif (!r1)then(
 some 4)
 else(
 bif (inb 0 nl)then(
 bif ((l 0).2 !=0)then(
 some 4)
 else(
 match(aj eu (((nl,l),(1,())),()))with
 |none=>none
 |some y=>(
 match y with
 | .inl y1=>(
 let t:=y1.1.1
 some t)
 | .inr y1=>(
 some 0))))
 else(
 none))))))
 else(
 none)))
noncomputable def rW:=veil yH
theorem FM:rW=yH:=ak _
end Go.Pl
namespace Go.Pl
open Go.IntKind (i64 u64 u32 u8)
noncomputable def DF(p:((Nat×(Nat→(NI×Int)))×NI)):Option ((Option (((sJ (NI×(Int×(NI×NI))))×(sJ (NI×(Int×(NI×NI)))))×NI))×Int):=
 bif (decide (((p.1.1:Nat):Int)<2))then(
 some (none,4))
 else(
 match(rW p.1.1 p.1.2)with
 |none=>none
 |some r=>(
 bif (r !=0)then(
 some (none,4))
 else(
 bif (inb (i64.wrap (((p.1.1:Nat):Int)-1)) p.1.1)then(
 match(wE (p.1.2 (Int.toNat (i64.wrap (((p.1.1:Nat):Int)-1)))).1)with
 |none=>none
 |some r1=>(
 match r1.1 with
 |none=>(
 bif (r1.2 !=0)then(
 some (none,4))
 else(
 bif (inb (i64.wrap (((p.1.1:Nat):Int)-2)) p.1.1)then(
 match(wE (p.1.2 (Int.toNat (i64.wrap (((p.1.1:Nat):Int)-2)))).1)with
 |none=>none
 |some r13=>(
 match r13.1 with
 |none=>(
 bif (r13.2 !=0)then(
 some (none,4))
 else(
 match(yC (p.1.2 (Int.toNat (i64.wrap (((p.1.1:Nat):Int)-2)))).1)with
 |none=>none
 |some r19=>(
 bif (decide (r19<10))then(
 some (none,4))
 else(
 bif (eqF (.arr 4 (.int .u64)) p.2 (fun _=>0))then(
 some (none,4))
 else(
 match(fq 1)with
 |none=>none
 |some r20=>(
 bif (eqF (.arr 4 (.int .u64)) p.2 r20)then(
 some (none,4))
 else(
 match(mP none p.2)with
 |none=>none
 |some r21=>(
 bif (!r21)then(
 some (none,4))
 else(
 match(bZ none p.2 (p.1.2 (Int.toNat (i64.wrap (((p.1.1:Nat):Int)-2)))).1)with
 |none=>none
 |some r22=>(
 match(fq 1)with
 |none=>none
 |some r23=>(
 bif (!(eqF (.arr 4 (.int .u64)) r22 r23))then(
 some (none,4))
 else(
 some ((some ((.nil,.nil),p.2)),0)))))))))))))
 |some p3=>(
 bif (r13.2 !=0)then(
 some (none,4))
 else(
 match(yC (p.1.2 (Int.toNat (i64.wrap (((p.1.1:Nat):Int)-2)))).1)with
 |none=>none
 |some r14=>(
 bif (decide (r14<10))then(
 some (none,4))
 else(
 bif (eqF (.arr 4 (.int .u64)) p.2 (fun _=>0))then(
 some (none,4))
 else(
 match(fq 1)with
 |none=>none
 |some r15=>(
 bif (eqF (.arr 4 (.int .u64)) p.2 r15)then(
 some (none,4))
 else(
 match(mP none p.2)with
 |none=>none
 |some r16=>(
 bif (!r16)then(
 some (none,4))
 else(
 match(bZ none p.2 (p.1.2 (Int.toNat (i64.wrap (((p.1.1:Nat):Int)-2)))).1)with
 |none=>none
 |some r17=>(
 match(fq 1)with
 |none=>none
 |some r18=>(
 bif (!(eqF (.arr 4 (.int .u64)) r17 r18))then(
 some (none,4))
 else(
 some ((some ((.nil,(.fz p3)),p.2)),0)))))))))))))))
 else(
 none)))
 |some p1=>(
 bif (r1.2 !=0)then(
 some (none,4))
 else(
 bif (inb (i64.wrap (((p.1.1:Nat):Int)-2)) p.1.1)then(
 match(wE (p.1.2 (Int.toNat (i64.wrap (((p.1.1:Nat):Int)-2)))).1)with
 |none=>none
 |some r2=>(
 match r2.1 with
 |none=>(
 bif (r2.2 !=0)then(
 some (none,4))
 else(
 match(yC (p.1.2 (Int.toNat (i64.wrap (((p.1.1:Nat):Int)-2)))).1)with
 |none=>none
 |some r8=>(
 bif (decide (r8<10))then(
 some (none,4))
 else(
 bif (eqF (.arr 4 (.int .u64)) p.2 (fun _=>0))then(
 some (none,4))
 else(
 match(fq 1)with
 |none=>none
 |some r9=>(
 bif (eqF (.arr 4 (.int .u64)) p.2 r9)then(
 some (none,4))
 else(
 match(mP (some p1) p.2)with
 |none=>none
 |some r10=>(
 bif (!r10)then(
 some (none,4))
 else(
 match(bZ (some p1) p.2 (p.1.2 (Int.toNat (i64.wrap (((p.1.1:Nat):Int)-2)))).1)with
 |none=>none
 |some r11=>(
 match(fq 1)with
 |none=>none
 |some r12=>(
 bif (!(eqF (.arr 4 (.int .u64)) r11 r12))then(
 some (none,4))
 else(
 some ((some (((.fz p1),.nil),p.2)),0)))))))))))))
 |some p2=>(
 bif (r2.2 !=0)then(
 some (none,4))
 else(
 match(yC (p.1.2 (Int.toNat (i64.wrap (((p.1.1:Nat):Int)-2)))).1)with
 |none=>none
 |some r3=>(
 bif (decide (r3<10))then(
 some (none,4))
 else(
 bif (eqF (.arr 4 (.int .u64)) p.2 (fun _=>0))then(
 some (none,4))
 else(
 match(fq 1)with
 |none=>none
 |some r4=>(
 bif (eqF (.arr 4 (.int .u64)) p.2 r4)then(
 some (none,4))
 else(
 match(mP (some p1) p.2)with
 |none=>none
 |some r5=>(
 bif (!r5)then(
 some (none,4))
 else(
 match(bZ (some p1) p.2 (p.1.2 (Int.toNat (i64.wrap (((p.1.1:Nat):Int)-2)))).1)with
 |none=>none
 |some r6=>(
 match(fq 1)with
 |none=>none
 |some r7=>(
 bif (!(eqF (.arr 4 (.int .u64)) r6 r7))then(
 some (none,4))
 else(
 some ((some (((.fz p1),(.fz p2)),p.2)),0)))))))))))))))
 else(
 none)))))
 else(
 none))))
noncomputable def vD:=veil DF
theorem KP:vD=DF:=ak _
noncomputable def tF(g:(Option (((sJ (NI×(Int×(NI×NI))))×(sJ (NI×(Int×(NI×NI)))))×NI))):Option ((Option (NI×(Int×(NI×NI))))):=
 match g with
 |none=>(
 some none)
 |some g0=>(
 bif (sJ.a3W g0.1.1)then(
 none)
 else(
 bif (sJ.isNil g0.1.1)then(
 some none)
 else(
 some (some (sJ.val (((fun _=>0),(0,((fun _=>0),(fun _=>0)))):(NI×(Int×(NI×NI)))) g0.1.1)))))
noncomputable def qb:=veil tF
theorem Iq:qb=tF:=ak _
noncomputable def jC(g:(Option (((sJ (NI×(Int×(NI×NI))))×(sJ (NI×(Int×(NI×NI)))))×NI))):Option ((Option (NI×(Int×(NI×NI))))):=
 match g with
 |none=>(
 some none)
 |some g0=>(
 bif (sJ.a3W g0.1.2)then(
 none)
 else(
 bif (sJ.isNil g0.1.2)then(
 some none)
 else(
 some (some (sJ.val (((fun _=>0),(0,((fun _=>0),(fun _=>0)))):(NI×(Int×(NI×NI)))) g0.1.2)))))
noncomputable def eU:=veil jC
theorem oP:eU=jC:=ak _
noncomputable def zB(g:(Option (((sJ (NI×(Int×(NI×NI))))×(sJ (NI×(Int×(NI×NI)))))×NI))):Option (NI):=
 match g with
 |none=>(
 match(eU none)with
 |none=>none
 |some r3=>(
 match r3 with
 |none=>(
 match(jk none)with
 |none=>none
 |some r5=>(
 some r5))
 |some p1=>(
 match(jk (some p1))with
 |none=>none
 |some r4=>(
 some r4))))
 |some g0=>(
 match(eU (some g0))with
 |none=>none
 |some r=>(
 match r with
 |none=>(
 match(jk none)with
 |none=>none
 |some r2=>(
 some r2))
 |some p=>(
 match(jk (some p))with
 |none=>none
 |some r1=>(
 some r1))))
noncomputable def IW:=veil zB
theorem MP:IW=zB:=ak _
noncomputable def zC(g:(Option (((sJ (NI×(Int×(NI×NI))))×(sJ (NI×(Int×(NI×NI)))))×NI))):Option (NI):=
 match g with
 |none=>(
 match(qb none)with
 |none=>none
 |some r3=>(
 match r3 with
 |none=>(
 match(jk none)with
 |none=>none
 |some r5=>(
 some r5))
 |some p1=>(
 match(jk (some p1))with
 |none=>none
 |some r4=>(
 some r4))))
 |some g0=>(
 match(qb (some g0))with
 |none=>none
 |some r=>(
 match r with
 |none=>(
 match(jk none)with
 |none=>none
 |some r2=>(
 some r2))
 |some p=>(
 match(jk (some p))with
 |none=>none
 |some r1=>(
 some r1))))
noncomputable def IX:=veil zC
theorem MQ:IX=zC:=ak _
end Go.Pl
namespace Go.Pl
open Go.IntKind (i64 u64 u32 u8)
abbrev WY(k:Int)(b:(Nat→Bool))(t:NI)(out:NI):=(((),((),((),(k,())))),(b,(t,(out,()))))
abbrev T9(t:NI)(out:NI):=(((),((),())),(t,(out,())))
abbrev O5:Type:=((Unit×(Unit×(Unit×(Int×Unit))))×((Nat→Bool)×(NI×(NI×Unit))))
noncomputable def jV:O5→Option (O5⊕((Unit×(Unit×Unit))×(NI×(NI×Unit)))):=fun x=>
 let k:=x.1.2.2.2.1
 let b:=x.2.1
 let t:=x.2.2.1
 let out:=x.2.2.2.1
 bif (decide (k<256))then(
 bif (inb k 256)then(
 bif (b (Int.toNat k))then(
 bif (inb (i64.wrap (Int.tdiv k 64)) 4)then(
 bif (decide ((Int.tmod k 64)<0))then(
 none)
 else(
 let t1:=(aA .or .u64 (out (Int.toNat (i64.wrap (Int.tdiv k 64)))) (iK .u64 1 (Int.tmod k 64)))
 bif (inb (i64.wrap (Int.tdiv k 64)) 4)then(
 some (.inl (((),((),((),((i64.wrap (k+1)),())))),(b,(t,((upd out (Int.toNat (i64.wrap (Int.tdiv k 64))) t1),()))))))
 else(
 none)))
 else(
 none))
 else(
 some (.inl (((),((),((),((i64.wrap (k+1)),())))),(b,(t,(out,())))))))
 else(
 none))
 else(
 some (.inr (((),((),())),(t,(out,())))))
noncomputable def KQ(b:(Nat→Bool)):Option (NI):=
 match(aj jV (((),((),((),(0,())))),(b,((fun _=>0),((fun _=>0),())))))with
 |none=>none
 |some y=>(
 let t:=y.2.1
 let out:=y.2.2.1
 some out)
noncomputable def DI:=veil KQ
theorem QG:DI=KQ:=ak _
abbrev WZ(n:Int)(k:Int)(t:NI)(b:(Nat→Bool)):=((n,((),((),(k,())))),(t,(b,())))
abbrev IY(t:NI)(b:(Nat→Bool)):=(((),((),())),(t,(b,())))
abbrev O6:Type:=((Int×(Unit×(Unit×(Int×Unit))))×(NI×((Nat→Bool)×Unit)))
noncomputable def jW:O6→Option (O6⊕((Unit×(Unit×Unit))×(NI×((Nat→Bool)×Unit)))):=fun x=>
 let n:=x.1.1
 let k:=x.1.2.2.2.1
 let t:=x.2.1
 let b:=x.2.2.1
 bif (decide (k<63))then(
 bif (decide (n>0))then(
 bif (decide (k<0))then(
 none)
 else(
 bif (inb k 256)then(
 some (.inl ((n,((),((),((i64.wrap (k+1)),())))),(t,((upd b (Int.toNat k) ((aA .and .i64 (bX .i64 n k) 1)==1)),())))))
 else(
 none)))
 else(
 some (.inr (((),((),())),(t,(b,()))))))
 else(
 some (.inr (((),((),())),(t,(b,())))))
noncomputable def KR(n:Int):Option (NI):=
 match(aj jW ((n,((),((),(0,())))),((fun _=>0),((fun _=>false),()))))with
 |none=>none
 |some y=>(
 let t:=y.2.1
 let b:=y.2.2.1
 match(DI b)with
 |none=>none
 |some r=>(
 some r))
noncomputable def Pq:=veil KR
theorem QH:Pq=KR:=ak _
abbrev a00(k:Int)(a:NI)(t:(Nat→Bool))(out:(Nat→Bool)):=(((),((),((),(k,())))),(a,(t,(out,()))))
abbrev V5(t:(Nat→Bool))(out:(Nat→Bool)):=(((),((),())),(t,(out,())))
abbrev QI:Type:=((Unit×(Unit×(Unit×(Int×Unit))))×(NI×((Nat→Bool)×((Nat→Bool)×Unit))))
noncomputable def oQ:QI→Option (QI⊕((Unit×(Unit×Unit))×((Nat→Bool)×((Nat→Bool)×Unit)))):=fun x=>
 let k:=x.1.2.2.2.1
 let a:=x.2.1
 let t:=x.2.2.1
 let out:=x.2.2.2.1
 bif (decide (k<256))then(
 bif (inb (i64.wrap (Int.tdiv k 64)) 4)then(
 bif (decide ((Int.tmod k 64)<0))then(
 none)
 else(
 let t1:=(aA .and .u64 (bX .u64 (a (Int.toNat (i64.wrap (Int.tdiv k 64)))) (Int.tmod k 64)) 1)
 bif (inb k 256)then(
 some (.inl (((),((),((),((i64.wrap (k+1)),())))),(a,(t,((upd out (Int.toNat k) (t1==1)),()))))))
 else(
 none)))
 else(
 none))
 else(
 some (.inr (((),((),())),(t,(out,())))))
noncomputable def Pt(a:NI):Option ((Nat→Bool)):=
 match(aj oQ (((),((),((),(0,())))),(a,((fun _=>false),((fun _=>false),())))))with
 |none=>none
 |some y=>(
 let t:=y.2.1
 let out:=y.2.2.1
 some out)
noncomputable def FN:=veil Pt
theorem U6:FN=Pt:=ak _
abbrev X0(carry:Bool)(k:Int)(t:NI)(x1:(Nat→Bool))(y:(Nat→Bool))(out:(Nat→Bool)):=(((),((),((),((),(carry,(k,())))))),(t,(x1,(y,(out,())))))
abbrev Ta(carry:Bool)(t:NI)(out:(Nat→Bool)):=(((),((),(carry,()))),(t,(out,())))
abbrev O7:Type:=((Unit×(Unit×(Unit×(Unit×(Bool×(Int×Unit))))))×(NI×((Nat→Bool)×((Nat→Bool)×((Nat→Bool)×Unit)))))
noncomputable def dU:O7→Option (O7⊕((Unit×(Unit×(Bool×Unit)))×(NI×((Nat→Bool)×Unit)))):=fun x=>
 let carry:=x.1.2.2.2.2.1
 let k:=x.1.2.2.2.2.2.1
 let t:=x.2.1
 let x1:=x.2.2.1
 let y:=x.2.2.2.1
 let out:=x.2.2.2.2.1
 bif (decide (k<256))then(
 bif (inb k 256)then(
 bif (inb k 256)then(
 bif (inb k 256)then(
 bif (inb k 256)then(
 bif (x1 (Int.toNat k))then(
 bif (inb k 256)then(
 bif (y (Int.toNat k))then(
 some (.inl (((),((),((),((),(true,((i64.wrap (k+1)),())))))),(t,(x1,(y,((upd out (Int.toNat k) (!((!((x1 (Int.toNat k))==(y (Int.toNat k))))==carry))),())))))))
 else(
 bif carry then(
 bif (inb k 256)then(
 bif (x1 (Int.toNat k))then(
 some (.inl (((),((),((),((),(true,((i64.wrap (k+1)),())))))),(t,(x1,(y,((upd out (Int.toNat k) (!((!((x1 (Int.toNat k))==(y (Int.toNat k))))==carry))),())))))))
 else(
 bif (inb k 256)then(
 some (.inl (((),((),((),((),((y (Int.toNat k)),((i64.wrap (k+1)),())))))),(t,(x1,(y,((upd out (Int.toNat k) (!((!((x1 (Int.toNat k))==(y (Int.toNat k))))==carry))),())))))))
 else(
 none)))
 else(
 none))
 else(
 some (.inl (((),((),((),((),(false,((i64.wrap (k+1)),())))))),(t,(x1,(y,((upd out (Int.toNat k) (!((!((x1 (Int.toNat k))==(y (Int.toNat k))))==carry))),())))))))))
 else(
 none))
 else(
 bif carry then(
 bif (inb k 256)then(
 bif (x1 (Int.toNat k))then(
 some (.inl (((),((),((),((),(true,((i64.wrap (k+1)),())))))),(t,(x1,(y,((upd out (Int.toNat k) (!((!((x1 (Int.toNat k))==(y (Int.toNat k))))==carry))),())))))))
 else(
 bif (inb k 256)then(
 some (.inl (((),((),((),((),((y (Int.toNat k)),((i64.wrap (k+1)),())))))),(t,(x1,(y,((upd out (Int.toNat k) (!((!((x1 (Int.toNat k))==(y (Int.toNat k))))==carry))),())))))))
 else(
 none)))
 else(
 none))
 else(
 some (.inl (((),((),((),((),(false,((i64.wrap (k+1)),())))))),(t,(x1,(y,((upd out (Int.toNat k) (!((!((x1 (Int.toNat k))==(y (Int.toNat k))))==carry))),())))))))))
 else(
 none))
 else(
 none))
 else(
 none))
 else(
 none))
 else(
 some (.inr (((),((),(carry,()))),(t,(out,())))))
noncomputable def KS(a:NI)(b:NI):Option (NI×Int):=
 match(FN a)with
 |none=>none
 |some r=>(
 match(FN b)with
 |none=>none
 |some r1=>(
 match(aj dU (((),((),((),((),(false,(0,())))))),((fun _=>0),(r,(r1,((fun _=>false),()))))))with
 |none=>none
 |some y=>(
 let carry:=y.1.2.2.1
 let t:=y.2.1
 let out:=y.2.2.1
 bif carry then(
 match(DI out)with
 |none=>none
 |some r2=>(
 some (r2,1)))
 else(
 match(DI out)with
 |none=>none
 |some r3=>(
 some (r3,0))))))
noncomputable def Pv:=veil KS
theorem QJ:Pv=KS:=ak _
abbrev X3(k:Int)(b:(Nat→Bool)):=(((),(k,())),(b,()))
abbrev FP:Type:=(((Int×Unit)×Unit)⊕(Unit×Unit))
abbrev Tc(t:Int):FP:=(.inl ((t,()),()))
abbrev Td:FP:=(.inr ((),()))
abbrev O8:Type:=((Unit×(Int×Unit))×((Nat→Bool)×Unit))
noncomputable def jX:O8→Option (O8⊕FP):=fun x=>
 let k:=x.1.2.1
 let b:=x.2.1
 bif (decide (k≥0))then(
 bif (inb k 256)then(
 bif (b (Int.toNat k))then(
 some (.inr (.inl (((i64.wrap (k+1)),()),()))))
 else(
 some (.inl (((),((i64.wrap (k-1)),())),(b,())))))
 else(
 none))
 else(
 some (.inr (.inr ((),()))))
noncomputable def KT(a:NI):Option (Int):=
 match(FN a)with
 |none=>none
 |some r=>(
 match(aj jX (((),(255,())),(r,())))with
 |none=>none
 |some y=>(
 match y with
 | .inl y1=>(
 let t:=y1.1.1
 some t)
 | .inr y1=>(
 some 0)))
noncomputable def Pw:=veil KT
theorem QK:Pw=KT:=ak _
noncomputable def KU(a:NI)(k:Int):Option (Int):=
 match(FN a)with
 |none=>none
 |some r=>(
 bif (decide (k≥0))then(
 bif (decide (k<256))then(
 bif (inb k 256)then(
 bif (r (Int.toNat k))then(
 some 1)
 else(
 some 0))
 else(
 none))
 else(
 some 0))
 else(
 some 0))
noncomputable def Px:=veil KU
theorem QL:Px=KU:=ak _
abbrev zD(n:Int)(k:Int)(t:NI)(b:(Nat→Bool))(out:(Nat→Bool)):=((n,((),((),((),(k,()))))),(t,(b,(out,()))))
abbrev KV(t:NI)(out:(Nat→Bool)):=(((),((),())),(t,(out,())))
abbrev QM:Type:=((Int×(Unit×(Unit×(Unit×(Int×Unit)))))×(NI×((Nat→Bool)×((Nat→Bool)×Unit))))
noncomputable def kV:QM→Option (QM⊕((Unit×(Unit×Unit))×(NI×((Nat→Bool)×Unit)))):=fun x=>
 let n:=x.1.1
 let k:=x.1.2.2.2.2.1
 let t:=x.2.1
 let b:=x.2.2.1
 let out:=x.2.2.2.1
 bif (decide (k<256))then(
 bif (decide (n>0))then(
 bif (decide ((i64.wrap (k-(if 256<n then 256 else n)))≥0))then(
 bif (inb (i64.wrap (k-(if 256<n then 256 else n))) 256)then(
 bif (inb k 256)then(
 some (.inl ((n,((),((),((),((i64.wrap (k+1)),()))))),(t,(b,((upd out (Int.toNat k) (b (Int.toNat (i64.wrap (k-(if 256<n then 256 else n)))))),()))))))
 else(
 none))
 else(
 none))
 else(
 bif (inb k 256)then(
 some (.inl ((n,((),((),((),((i64.wrap (k+1)),()))))),(t,(b,((upd out (Int.toNat k) false),()))))))
 else(
 none)))
 else(
 bif (decide (k≥0))then(
 bif (inb k 256)then(
 bif (inb k 256)then(
 some (.inl ((n,((),((),((),((i64.wrap (k+1)),()))))),(t,(b,((upd out (Int.toNat k) (b (Int.toNat k))),()))))))
 else(
 none))
 else(
 none))
 else(
 bif (inb k 256)then(
 some (.inl ((n,((),((),((),((i64.wrap (k+1)),()))))),(t,(b,((upd out (Int.toNat k) false),()))))))
 else(
 none))))
 else(
 some (.inr (((),((),())),(t,(out,())))))
noncomputable def Py(a:NI)(n:Int):Option (NI):=
 match(FN a)with
 |none=>none
 |some r=>(
 match(aj kV ((n,((),((),((),(0,()))))),((fun _=>0),(r,((fun _=>false),())))))with
 |none=>none
 |some y=>(
 let t:=y.2.1
 let out:=y.2.2.1
 match(DI out)with
 |none=>none
 |some r1=>(
 some r1)))
noncomputable def QN:=veil Py
theorem U7:QN=Py:=ak _
abbrev BG(nout:Nat)(out:Nat→Int)(i:Int)(x1:Int)(k:Int)(a:NI):=(((),((nout,out),(i,(x1,(k,()))))),(a,()))
abbrev EI(nout:Nat)(out:Nat→Int)(i:Int)(x1:Int)(a:NI):=(((),((nout,out),(i,(x1,())))),(a,()))
abbrev IZ:Type:=((Unit×((Nat×NI)×(Int×(Int×(Int×Unit)))))×(NI×Unit))
noncomputable def jl:IZ→Option (IZ⊕((Unit×((Nat×NI)×(Int×(Int×Unit))))×(NI×Unit))):=fun x=>
 let nout:=x.1.2.1.1
 let out:=x.1.2.1.2
 let i:=x.1.2.2.1
 let x1:=x.1.2.2.2.1
 let k:=x.1.2.2.2.2.1
 let a:=x.2.1
 bif (decide (k<8))then(
 match(Px a (i64.wrap ((i64.wrap (8*i))+k)))with
 |none=>none
 |some r=>(
 bif (decide (k<0))then(
 none)
 else(
 some (.inl (((),((nout,out),(i,((aA .or .i64 x1 (iK .i64 r k)),((i64.wrap (k+1)),()))))),(a,()))))))
 else(
 some (.inr (((),((nout,out),(i,(x1,())))),(a,()))))
abbrev BH(nout:Nat)(out:Nat→Int)(i:Int)(a:NI):=(((),((nout,out),(i,()))),(a,()))
abbrev xC(nout:Nat)(out:Nat→Int):=(((nout,out),()),())
abbrev J2:Type:=((Unit×((Nat×NI)×(Int×Unit)))×(NI×Unit))
noncomputable def jm:J2→Option (J2⊕(((Nat×NI)×Unit)×Unit)):=fun x=>
 let nout:=x.1.2.1.1
 let out:=x.1.2.1.2
 let i:=x.1.2.2.1
 let a:=x.2.1
 bif (decide (i≥0))then(
 match(aj jl (((),((nout,out),(i,(0,(0,()))))),(a,())))with
 |none=>none
 |some y=>(
 let nout1:=y.1.2.1.1
 let out1:=y.1.2.1.2
 let i1:=y.1.2.2.1
 let x1:=y.1.2.2.2.1
 let a1:=y.2.1
 bif ((Nat.ble ((nout1+1)*1) 140737488355328)&&(Nat.ble (nout1+1) 9223372036854775807))then(
 some (.inl (((),(((nout1+1),(glue nout1 out1 (fun j=>(upd (fun _=>0) 0 (u8.wrap (aA .and .i64 x1 255))) (0+j)))),((i64.wrap (i1-1)),()))),(a1,()))))
 else(
 none)))
 else(
 some (.inr (((nout,out),()),())))
noncomputable def DJ(a:NI):Option (ByteArray):=
 match(Pw a)with
 |none=>none
 |some r=>(
 match(aj jm (((),((0,(fun _=>0)),((i64.wrap ((i64.wrap (Int.tdiv (i64.wrap (r+7)) 8))-1)),()))),(a,())))with
 |none=>none
 |some y=>(
 let nout:=y.1.1.1
 let out:=y.1.1.2
 some (bytesOf nout (fun j=>out (0+j)))))
noncomputable def Cr:=veil DJ
theorem KW:Cr=DJ:=ak _
abbrev DK(s:ByteArray)(i:Int)(t:NI)(n:NI):=((s,((),((),(i,())))),(t,(n,())))
abbrev FQ(t:NI)(n:NI):=(((),((),())),(t,(n,())))
abbrev KX:Type:=((ByteArray×(Unit×(Unit×(Int×Unit))))×(NI×(NI×Unit)))
noncomputable def iC:KX→Option (KX⊕((Unit×(Unit×Unit))×(NI×(NI×Unit)))):=fun x=>
 let s:=x.1.1
 let i:=x.1.2.2.2.1
 let t:=x.2.1
 let n:=x.2.2.1
 bif (decide (i<(((ByteArray.size s):Nat):Int)))then(
 match(QN n 8)with
 |none=>none
 |some r=>(
 bif (inb i (ByteArray.size s))then(
 match(Pq (i64.wrap (((UInt8.toNat (List.getD (Array.toList (ByteArray.data s)) (Int.toNat i) 0)):Nat):Int)))with
 |none=>none
 |some r1=>(
 match(Pv r r1)with
 |none=>none
 |some r2=>(
 some (.inl ((s,((),((),((i64.wrap (i+1)),())))),(t,(r2.1,())))))))
 else(
 none)))
 else(
 some (.inr (((),((),())),(t,(n,())))))
noncomputable def Ht(s:ByteArray):Option (NI×Int):=
 bif (decide ((((ByteArray.size s):Nat):Int)>32))then(
 some ((fun _=>0),4))
 else(
 bif (decide ((((ByteArray.size s):Nat):Int)>0))then(
 bif (inb 0 (ByteArray.size s))then(
 bif ((((UInt8.toNat (List.getD (Array.toList (ByteArray.data s)) 0 0)):Nat):Int)==0)then(
 some ((fun _=>0),4))
 else(
 match(aj iC ((s,((),((),(0,())))),((fun _=>0),((fun _=>0),()))))with
 |none=>none
 |some y=>(
 let t:=y.2.1
 let n:=y.2.2.1
 some (n,0))))
 else(
 none))
 else(
 match(aj iC ((s,((),((),(0,())))),((fun _=>0),((fun _=>0),()))))with
 |none=>none
 |some y1=>(
 let t1:=y1.2.1
 let n1:=y1.2.2.1
 some (n1,0))))
noncomputable def FR:=veil Ht
theorem O9:FR=Ht:=ak _
end Go.Pl
namespace Go.Pl
open Go.IntKind (i64 u64 u32 u8)
end Go.Pl
namespace Go.Pl
open Go.IntKind (i64 u64 u32 u8)
end Go.Pl
namespace Go.Pl
open Go.IntKind (i64 u64 u32 u8)
end Go.Pl
namespace Go.Pl
open Go.IntKind (i64 u64 u32 u8)
noncomputable def JR:Option (((Nat×(Nat→(NI×Int)))×NI)):=
 some ((3,(fun j=>(upd (upd (upd (fun _=>((fun _=>0),0)) 0 ((upd (fun _=>0) 0 65521),0)) 1 ((upd (fun _=>0) 0 1966023127),2)) 2 ((upd (fun _=>0) 0 1055500680322183127),2)) (0+j))),(upd (fun _=>0) 0 316543771439780984))
noncomputable def Hu:=veil JR
theorem KY:Hu=JR:=ak _
end Go.Pl
namespace Go.Pl
open Go.IntKind (i64 u64 u32 u8)
abbrev yI(na:Nat)(a:Nat→NI)(nb:Nat)(b:Nat→NI)(i:Int):=(((na,a),((nb,b),(i,()))),())
abbrev DL:Type:=(((Bool×Unit)×Unit)⊕(Unit×Unit))
abbrev QO(t:Bool):DL:=(.inl ((t,()),()))
abbrev QS:DL:=(.inr ((),()))
abbrev KZ:Type:=(((Nat×(Nat→NI))×((Nat×(Nat→NI))×(Int×Unit)))×Unit)
noncomputable def jd:KZ→Option (KZ⊕DL):=fun x=>
 let na:=x.1.1.1
 let a:=x.1.1.2
 let nb:=x.1.2.1.1
 let b:=x.1.2.1.2
 let i:=x.1.2.2.1
 bif (decide (i<((na:Nat):Int)))then(
 bif (inb i na)then(
 bif (inb i nb)then(
 bif (!(eqF (.arr 4 (.int .u64)) (a (Int.toNat i)) (b (Int.toNat i))))then(
 some (.inr (.inl ((false,()),()))))
 else(
 some (.inl (((na,a),((nb,b),((i64.wrap (i+1)),()))),()))))
 else(
 none))
 else(
 none))
 else(
 some (.inr (.inr ((),()))))
noncomputable def Hw(na:Nat)(a:Nat→NI)(nb:Nat)(b:Nat→NI):Option (Bool):=
 bif (((na:Nat):Int) !=((nb:Nat):Int))then(
 some false)
 else(
 match(aj jd (((na,a),((nb,b),(0,()))),()))with
 |none=>none
 |some y=>(
 match y with
 | .inl y1=>(
 let t:=y1.1.1
 some t)
 | .inr y1=>(
 some true)))
noncomputable def FT:=veil Hw
theorem Oa:FT=Hw:=ak _
end Go.Pl
namespace Go.Pl
open Go.IntKind (i64 u64 u32 u8)
end Go.Pl
namespace Go.Pl
open Go.IntKind (i64 u64 u32 u8)
end Go.Pl
namespace Go.Pl
open Go.IntKind (i64 u64 u32 u8)
end Go.Pl
