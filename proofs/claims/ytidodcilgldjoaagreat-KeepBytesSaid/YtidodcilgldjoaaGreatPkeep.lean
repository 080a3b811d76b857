/-
  The functions of a package, plainly.
-/
import Derived.Test.YtidodcilgldjoaaGreatDenM
import Derived.Test.YtidodcilgldjoaaGreatDenI
import Derived.Test.YtidodcilgldjoaaGreatPsha
import Derived.Test.YtidodcilgldjoaaGreatPmatrix
import Derived.Test.YtidodcilgldjoaaGreatPlA
import Derived.Test.YtidodcilgldjoaaGreatPstrings
set_option linter.unusedVariables false
set_option linter.unusedSimpArgs false
set_option maxRecDepth 100000
set_option maxHeartbeats 0
namespace Go.Pl
end Go.Pl
open Go Go.Den Go.Pl
namespace Go.Pl
open Go.IntKind (i64 u64 u32 u8)
noncomputable def kg(is_:Bool)(r:(ByteArray×Bool)):Option (((Bool×Unit)×((ByteArray×Bool)×Unit))):=
 bif r.2 then(
 some ((true,()),((r.1,true),())))
 else(
 some ((is_,()),((r.1,is_),())))
noncomputable def bS:=veil kg
theorem tH:bS=kg:=ak _
noncomputable def iW(n:Int)(r:(ByteArray×Bool)):Option (((ByteArray×Unit)×((ByteArray×Bool)×Unit))):=
 match(bS (decide (n>(((ByteArray.size r.1):Nat):Int))) r)with
 |none=>none
 |some y=>(
 let r1:=y.1.1
 let o:=y.2.1
 bif r1 then(
 some (((ByteArray.mk #[]),()),(o,())))
 else(
 bif ((decide (0≤n))&&(decide (n≤(((ByteArray.size o.1):Nat):Int))))then(
 bif ((decide (0≤n))&&(decide (n≤(((ByteArray.size o.1):Nat):Int))))then(
 some (((ByteArray.extract o.1 0 (Int.toNat n)),()),(((ByteArray.extract o.1 (Int.toNat n) (ByteArray.size o.1)),o.2),())))
 else(
 none))
 else(
 none)))
noncomputable def jE:=veil iW
theorem nY:jE=iW:=ak _
abbrev nZ(n:Int)(nt:Nat)(t:NI)(t1:Int)(t2:Int)(r:(ByteArray×Bool)):=(((),(n,((nt,t),(t1,(t2,()))))),(r,()))
abbrev rX(n:Int)(r:(ByteArray×Bool)):=(((),(n,())),(r,()))
abbrev uO:Type:=((Unit×(Int×((Nat×NI)×(Int×(Int×Unit)))))×((ByteArray×Bool)×Unit))
noncomputable def cK:uO→Option (uO⊕((Unit×(Int×Unit))×((ByteArray×Bool)×Unit))):=fun x=>
 let n:=x.1.2.1
 let nt:=x.1.2.2.1.1
 let t:=x.1.2.2.1.2
 let t1:=x.1.2.2.2.1
 let t2:=x.1.2.2.2.2.1
 let r:=x.2.1
 bif (decide (t2<t1))then(
 bif (inb t2 nt)then(
 some (.inl (((),((aA .or .i64 (iK .i64 n 8) (i64.wrap (t (0+(Int.toNat t2))))),((nt,t),(t1,((i64.wrap (t2+1)),()))))),(r,()))))
 else(
 none))
 else(
 some (.inr (((),(n,())),(r,()))))
noncomputable def mQ(bytes:Int)(r:(ByteArray×Bool)):Option (((Int×Unit)×((ByteArray×Bool)×Unit))):=
 match(jE bytes r)with
 |none=>none
 |some y=>(
 let r1:=y.1.1
 let o:=y.2.1
 bif (Nat.ble (ByteArray.size r1) 9223372036854775807)then(
 match(aj cK (((),(0,(((ByteArray.size r1),(fun i=>(((r1).data.toList.getD i 0).toNat:Int))),((((ByteArray.size r1):Nat):Int),(0,()))))),(o,())))with
 |none=>none
 |some y1=>(
 let n:=y1.1.2.1
 let r2:=y1.2.1
 some ((n,()),(r2,()))))
 else(
 none))
noncomputable def aF:=veil mQ
theorem wK:aF=mQ:=ak _
noncomputable def lC(r:(ByteArray×Bool)):Option (((ByteArray×Unit)×((ByteArray×Bool)×Unit))):=
 match(aF 2 r)with
 |none=>none
 |some y=>(
 let r1:=y.1.1
 let o:=y.2.1
 match(jE r1 o)with
 |none=>none
 |some y1=>(
 let r2:=y1.1.1
 let o1:=y1.2.1
 some ((r2,()),(o1,()))))
noncomputable def dW:=veil lC
theorem uP:dW=lC:=ak _
noncomputable def ko(r:(ByteArray×Bool)):Option ((((Int×Int)×Unit)×((ByteArray×Bool)×Unit))):=
 match(aF 6 r)with
 |none=>none
 |some y=>(
 let r1:=y.1.1
 let o:=y.2.1
 match(aF 1 o)with
 |none=>none
 |some y1=>(
 let r2:=y1.1.1
 let o1:=y1.2.1
 some (((r1,r2),()),(o1,()))))
noncomputable def iX:=veil ko
theorem tJ:iX=ko:=ak _
abbrev dX(t:Int)(t1:Int)(r:(ByteArray×Bool))(o:(Int×Int))(o1:ByteArray)(no:Nat)(o2:Nat→(SlV NI))(no1:Nat)(o3:Nat→NI)(o4:Int)(o5:(Int×Int))(o6:ByteArray)(no2:Nat)(o7:Nat→(SlV NI))(no3:Nat)(o8:Nat→NI)(o9:Int):=(((),((),(t,(t1,())))),(r,((),((o,(o1,((no,o2),((no1,o3),o4)))),((o5,(o6,((no2,o7),((no3,o8),o9)))),())))))
abbrev jF:Type:=((Unit×((ByteArray×Bool)×(Unit×(GA×(GA×Unit)))))⊕(Unit×((ByteArray×Bool)×(Unit×(GA×(GA×Unit))))))
abbrev nP(r:(ByteArray×Bool))(o:(Int×Int))(o1:ByteArray)(no:Nat)(o2:Nat→(SlV NI))(no1:Nat)(o3:Nat→NI)(o4:Int)(o5:(Int×Int))(o6:ByteArray)(no2:Nat)(o7:Nat→(SlV NI))(no3:Nat)(o8:Nat→NI)(o9:Int):jF:=(.inl ((),(r,((),((o,(o1,((no,o2),((no1,o3),o4)))),((o5,(o6,((no2,o7),((no3,o8),o9)))),()))))))
abbrev nQ(r:(ByteArray×Bool))(o:(Int×Int))(o1:ByteArray)(no:Nat)(o2:Nat→(SlV NI))(no1:Nat)(o3:Nat→NI)(o4:Int)(o5:(Int×Int))(o6:ByteArray)(no2:Nat)(o7:Nat→(SlV NI))(no3:Nat)(o8:Nat→NI)(o9:Int):jF:=(.inr ((),(r,((),((o,(o1,((no,o2),((no1,o3),o4)))),((o5,(o6,((no2,o7),((no3,o8),o9)))),()))))))
abbrev oU:Type:=((Unit×(Unit×(Int×(Int×Unit))))×((ByteArray×Bool)×(Unit×(GA×(GA×Unit)))))
noncomputable def aS:oU→Option (oU⊕jF):=fun x=>
 let t:=x.1.2.2.1
 let t1:=x.1.2.2.2.1
 let r:=x.2.1
 let o:=x.2.2.2.1.1
 let o1:=x.2.2.2.1.2.1
 let no:=x.2.2.2.1.2.2.1.1
 let o2:=x.2.2.2.1.2.2.1.2
 let no1:=x.2.2.2.1.2.2.2.1.1
 let o3:=x.2.2.2.1.2.2.2.1.2
 let o4:=x.2.2.2.1.2.2.2.2
 let o5:=x.2.2.2.2.1.1
 let o6:=x.2.2.2.2.1.2.1
 let no2:=x.2.2.2.2.1.2.2.1.1
 let o7:=x.2.2.2.2.1.2.2.1.2
 let no3:=x.2.2.2.2.1.2.2.2.1.1
 let o8:=x.2.2.2.2.1.2.2.2.1.2
 let o9:=x.2.2.2.2.1.2.2.2.2
 bif (decide (t1<t))then(
 bif r.2 then(
 some (.inr (.inl ((),(r,((),((o,(o1,((no,o2),((no1,o3),o4)))),((o5,(o6,((no2,o7),((no3,o8),o9)))),()))))))))
 else(
 match(dW r)with
 |none=>none
 |some y=>(
 let r1:=y.1.1
 let o10:=y.2.1
 match(FB r1)with
 |none=>none
 |some r2=>(
 match(bS (r2.2 !=0) o10)with
 |none=>none
 |some y1=>(
 let r3:=y1.1.1
 let o11:=y1.2.1
 bif ((Nat.ble ((no3+1)*32) 140737488355328)&&(Nat.ble (no3+1) 9223372036854775807))then(
 some (.inl (((),((),(t,((i64.wrap (t1+1)),())))),(o11,((),((o,(o1,((no,o2),((no1,o3),o4)))),((o5,(o6,((no2,o7),(((no3+1),(glue no3 o8 (fun j=>(upd (fun _=>(fun _=>0)) 0 r2.1) (0+j)))),o9)))),())))))))
 else(
 none))))))
 else(
 some (.inr (.inr ((),(r,((),((o,(o1,((no,o2),((no1,o3),o4)))),((o5,(o6,((no2,o7),((no3,o8),o9)))),()))))))))
noncomputable def kr(r:(ByteArray×Bool)):Option (((GA×Unit)×((ByteArray×Bool)×Unit))):=
 match(iX r)with
 |none=>none
 |some y=>(
 let r1:=y.1.1
 let o:=y.2.1
 match(dW o)with
 |none=>none
 |some y1=>(
 let r2:=y1.1.1
 let o1:=y1.2.1
 match(dW o1)with
 |none=>none
 |some y2=>(
 let r3:=y2.1.1
 let o2:=y2.2.1
 bif (!(sEq r3 (ByteArray.mk #[])))then(
 match(Ba r3)with
 |none=>none
 |some r4=>(
 match(bS (r4.2 !=0) o2)with
 |none=>none
 |some y3=>(
 let r5:=y3.1.1
 let o3:=y3.2.1
 match(aF 1 o3)with
 |none=>none
 |some y4=>(
 let r6:=y4.1.1
 let o4:=y4.2.1
 match(aj aS (((),((),(r6,(0,())))),(o4,((),(((0,0),(ByteArray.empty,((0,(fun _=>.nil)),((0,(fun _=>(fun _=>0))),0)))),((r1,(r2,((r4.1.1,r4.1.2),((0,(fun _=>(fun _=>0))),0)))),()))))))with
 |none=>none
 |some y5=>(
 match y5 with
 | .inl y6=>(
 let r7:=y6.2.1
 let o5:=y6.2.2.2.1.1
 let o6:=y6.2.2.2.1.2.1
 let no:=y6.2.2.2.1.2.2.1.1
 let o7:=y6.2.2.2.1.2.2.1.2
 let no1:=y6.2.2.2.1.2.2.2.1.1
 let o8:=y6.2.2.2.1.2.2.2.1.2
 let o9:=y6.2.2.2.1.2.2.2.2
 let o10:=y6.2.2.2.2.1.1
 let o11:=y6.2.2.2.2.1.2.1
 let no2:=y6.2.2.2.2.1.2.2.1.1
 let o12:=y6.2.2.2.2.1.2.2.1.2
 let no3:=y6.2.2.2.2.1.2.2.2.1.1
 let o13:=y6.2.2.2.2.1.2.2.2.1.2
 let o14:=y6.2.2.2.2.1.2.2.2.2
 match(aF 4 r7)with
 |none=>none
 |some y7=>(
 let r8:=y7.1.1
 let o15:=y7.2.1
 some (((o10,(o11,((no2,o12),((no3,(fun j=>o13 (0+j))),r8)))),()),(o15,()))))
 | .inr y6=>(
 let r9:=y6.2.1
 let o16:=y6.2.2.2.1.1
 let o17:=y6.2.2.2.1.2.1
 let no4:=y6.2.2.2.1.2.2.1.1
 let o18:=y6.2.2.2.1.2.2.1.2
 let no5:=y6.2.2.2.1.2.2.2.1.1
 let o19:=y6.2.2.2.1.2.2.2.1.2
 let o20:=y6.2.2.2.1.2.2.2.2
 let o21:=y6.2.2.2.2.1.1
 let o22:=y6.2.2.2.2.1.2.1
 let no6:=y6.2.2.2.2.1.2.2.1.1
 let o23:=y6.2.2.2.2.1.2.2.1.2
 let no7:=y6.2.2.2.2.1.2.2.2.1.1
 let o24:=y6.2.2.2.2.1.2.2.2.1.2
 let o25:=y6.2.2.2.2.1.2.2.2.2
 match(aF 4 r9)with
 |none=>none
 |some y8=>(
 let r10:=y8.1.1
 let o26:=y8.2.1
 some (((o21,(o22,((no6,o23),((no7,(fun j=>o24 (0+j))),r10)))),()),(o26,())))))))))
 else(
 match(aF 1 o2)with
 |none=>none
 |some y9=>(
 let r11:=y9.1.1
 let o27:=y9.2.1
 match(aj aS (((),((),(r11,(0,())))),(o27,((),(((0,0),(ByteArray.empty,((0,(fun _=>.nil)),((0,(fun _=>(fun _=>0))),0)))),((r1,(r2,((0,(fun _=>.nil)),((0,(fun _=>(fun _=>0))),0)))),()))))))with
 |none=>none
 |some y10=>(
 match y10 with
 | .inl y11=>(
 let r12:=y11.2.1
 let o28:=y11.2.2.2.1.1
 let o29:=y11.2.2.2.1.2.1
 let no8:=y11.2.2.2.1.2.2.1.1
 let o30:=y11.2.2.2.1.2.2.1.2
 let no9:=y11.2.2.2.1.2.2.2.1.1
 let o31:=y11.2.2.2.1.2.2.2.1.2
 let o32:=y11.2.2.2.1.2.2.2.2
 let o33:=y11.2.2.2.2.1.1
 let o34:=y11.2.2.2.2.1.2.1
 let no10:=y11.2.2.2.2.1.2.2.1.1
 let o35:=y11.2.2.2.2.1.2.2.1.2
 let no11:=y11.2.2.2.2.1.2.2.2.1.1
 let o36:=y11.2.2.2.2.1.2.2.2.1.2
 let o37:=y11.2.2.2.2.1.2.2.2.2
 match(aF 4 r12)with
 |none=>none
 |some y12=>(
 let r13:=y12.1.1
 let o38:=y12.2.1
 some (((o33,(o34,((no10,o35),((no11,(fun j=>o36 (0+j))),r13)))),()),(o38,()))))
 | .inr y11=>(
 let r14:=y11.2.1
 let o39:=y11.2.2.2.1.1
 let o40:=y11.2.2.2.1.2.1
 let no12:=y11.2.2.2.1.2.2.1.1
 let o41:=y11.2.2.2.1.2.2.1.2
 let no13:=y11.2.2.2.1.2.2.2.1.1
 let o42:=y11.2.2.2.1.2.2.2.1.2
 let o43:=y11.2.2.2.1.2.2.2.2
 let o44:=y11.2.2.2.2.1.1
 let o45:=y11.2.2.2.2.1.2.1
 let no14:=y11.2.2.2.2.1.2.2.1.1
 let o46:=y11.2.2.2.2.1.2.2.1.2
 let no15:=y11.2.2.2.2.1.2.2.2.1.1
 let o47:=y11.2.2.2.2.1.2.2.2.1.2
 let o48:=y11.2.2.2.2.1.2.2.2.2
 match(aF 4 r14)with
 |none=>none
 |some y13=>(
 let r15:=y13.1.1
 let o49:=y13.2.1
 some (((o44,(o45,((no14,o46),((no15,(fun j=>o47 (0+j))),r15)))),()),(o49,()))))))))))
noncomputable def eT:=veil kr
theorem tK:eT=kr:=ak _
abbrev dY(t:Int)(t1:Int)(r:(ByteArray×Bool))(no:Nat)(o:Nat→VO):=(((),((),(t,(t1,())))),(r,((),((no,o),()))))
abbrev jG:Type:=((Unit×((ByteArray×Bool)×(Unit×((Nat×(Nat→VO))×Unit))))⊕(Unit×((ByteArray×Bool)×(Unit×((Nat×(Nat→VO))×Unit)))))
abbrev xI(r:(ByteArray×Bool))(no:Nat)(o:Nat→VO):jG:=(.inl ((),(r,((),((no,o),())))))
abbrev xJ(r:(ByteArray×Bool))(no:Nat)(o:Nat→VO):jG:=(.inr ((),(r,((),((no,o),())))))
abbrev oV:Type:=((Unit×(Unit×(Int×(Int×Unit))))×((ByteArray×Bool)×(Unit×((Nat×(Nat→VO))×Unit))))
noncomputable def aW:oV→Option (oV⊕jG):=fun x=>
 let t:=x.1.2.2.1
 let t1:=x.1.2.2.2.1
 let r:=x.2.1
 let no:=x.2.2.2.1.1
 let o:=x.2.2.2.1.2
 bif (decide (t1<t))then(
 bif r.2 then(
 some (.inr (.inl ((),(r,((),((no,o),())))))))
 else(
 match(aF 1 r)with
 |none=>none
 |some y=>(
 let r1:=y.1.1
 let o1:=y.2.1
 match(iX o1)with
 |none=>none
 |some y1=>(
 let r2:=y1.1.1
 let o2:=y1.2.1
 match(dW o2)with
 |none=>none
 |some y2=>(
 let r3:=y2.1.1
 let o3:=y2.2.1
 bif ((Nat.ble ((no+1)*40) 140737488355328)&&(Nat.ble (no+1) 9223372036854775807))then(
 some (.inl (((),((),(t,((i64.wrap (t1+1)),())))),(o3,((),(((no+1),(glue no o (fun j=>(upd (fun _=>zV) 0 (r1,(r2,r3))) (0+j)))),()))))))
 else(
 none))))))
 else(
 some (.inr (.inr ((),(r,((),((no,o),())))))))
noncomputable def ku(r:(ByteArray×Bool)):Option ((((Nat×(Nat→VO))×Unit)×((ByteArray×Bool)×Unit))):=
 match(aF 2 r)with
 |none=>none
 |some y=>(
 let r1:=y.1.1
 let o:=y.2.1
 match(aj aW (((),((),(r1,(0,())))),(o,((),((0,(fun _=>zV)),())))))with
 |none=>none
 |some y1=>(
 match y1 with
 | .inl y2=>(
 let r2:=y2.2.1
 let no:=y2.2.2.2.1.1
 let o1:=y2.2.2.2.1.2
 some (((no,(fun j=>o1 (0+j))),()),(r2,())))
 | .inr y2=>(
 let r3:=y2.2.1
 let no1:=y2.2.2.2.1.1
 let o2:=y2.2.2.2.1.2
 some (((no1,(fun j=>o2 (0+j))),()),(r3,())))))
noncomputable def iY:=veil ku
theorem tL:iY=ku:=ak _
abbrev yP:Type:=((Unit×((ByteArray×Bool)×(Unit×(RA×(RA×Unit)))))⊕(Unit×((ByteArray×Bool)×(Unit×(RA×(RA×Unit))))))
abbrev je:Type:=((Unit×(Unit×(Int×(Int×Unit))))×((ByteArray×Bool)×(Unit×(RA×(RA×Unit)))))
noncomputable def bf:je→Option (je⊕yP):=fun x=>
 let t:=x.1.2.2.1
 let t1:=x.1.2.2.2.1
 let r:=x.2.1
 let o:=x.2.2.2.1.1
 let o1:=x.2.2.2.1.2.1.1
 let o2:=x.2.2.2.1.2.1.2.1
 let no:=x.2.2.2.1.2.1.2.2.1.1
 let o3:=x.2.2.2.1.2.1.2.2.1.2
 let no1:=x.2.2.2.1.2.1.2.2.2.1.1
 let o4:=x.2.2.2.1.2.1.2.2.2.1.2
 let o5:=x.2.2.2.1.2.1.2.2.2.2
 let no2:=x.2.2.2.1.2.2.1.1
 let o6:=x.2.2.2.1.2.2.1.2
 let no3:=x.2.2.2.1.2.2.2.1.1
 let o7:=x.2.2.2.1.2.2.2.1.2
 let no4:=x.2.2.2.1.2.2.2.2.1
 let o8:=x.2.2.2.1.2.2.2.2.2
 let o9:=x.2.2.2.2.1.1
 let o10:=x.2.2.2.2.1.2.1.1
 let o11:=x.2.2.2.2.1.2.1.2.1
 let no5:=x.2.2.2.2.1.2.1.2.2.1.1
 let o12:=x.2.2.2.2.1.2.1.2.2.1.2
 let no6:=x.2.2.2.2.1.2.1.2.2.2.1.1
 let o13:=x.2.2.2.2.1.2.1.2.2.2.1.2
 let o14:=x.2.2.2.2.1.2.1.2.2.2.2
 let no7:=x.2.2.2.2.1.2.2.1.1
 let o15:=x.2.2.2.2.1.2.2.1.2
 let no8:=x.2.2.2.2.1.2.2.2.1.1
 let o16:=x.2.2.2.2.1.2.2.2.1.2
 let no9:=x.2.2.2.2.1.2.2.2.2.1
 let o17:=x.2.2.2.2.1.2.2.2.2.2
 bif (decide (t1<t))then(
 bif r.2 then(
 some (.inr (.inl ((),(r,((),((o,((o1,(o2,((no,o3),((no1,o4),o5)))),((no2,o6),((no3,o7),(no4,o8))))),((o9,((o10,(o11,((no5,o12),((no6,o13),o14)))),((no7,o15),((no8,o16),(no9,o17))))),()))))))))
 else(
 match(eT r)with
 |none=>none
 |some y=>(
 let r1:=y.1.1.1
 let r2:=y.1.1.2.1
 let nr:=y.1.1.2.2.1.1
 let r3:=y.1.1.2.2.1.2
 let nr1:=y.1.1.2.2.2.1.1
 let r4:=y.1.1.2.2.2.1.2
 let r5:=y.1.1.2.2.2.2
 let o18:=y.2.1
 match(eT o18)with
 |none=>none
 |some y1=>(
 let r6:=y1.1.1.1
 let r7:=y1.1.1.2.1
 let nr2:=y1.1.1.2.2.1.1
 let r8:=y1.1.1.2.2.1.2
 let nr3:=y1.1.1.2.2.2.1.1
 let r9:=y1.1.1.2.2.2.1.2
 let r10:=y1.1.1.2.2.2.2
 let o19:=y1.2.1
 match(eT o19)with
 |none=>none
 |some y2=>(
 let r11:=y2.1.1.1
 let r12:=y2.1.1.2.1
 let nr4:=y2.1.1.2.2.1.1
 let r13:=y2.1.1.2.2.1.2
 let nr5:=y2.1.1.2.2.2.1.1
 let r14:=y2.1.1.2.2.2.1.2
 let r15:=y2.1.1.2.2.2.2
 let o20:=y2.2.1
 match(aF 4 o20)with
 |none=>none
 |some y3=>(
 let r16:=y3.1.1
 let o21:=y3.2.1
 match(aF 4 o21)with
 |none=>none
 |some y4=>(
 let r17:=y4.1.1
 let o22:=y4.2.1
 bif ((Nat.ble ((no9+1)*280) 140737488355328)&&(Nat.ble (no9+1) 9223372036854775807))then(
 some (.inl (((),((),(t,((i64.wrap (t1+1)),())))),(o22,((),((o,((o1,(o2,((no,o3),((no1,o4),o5)))),((no2,o6),((no3,o7),(no4,o8))))),((o9,((o10,(o11,((no5,o12),((no6,o13),o14)))),((no7,o15),((no8,o16),((no9+1),(glue no9 o17 (fun j=>(upd (fun _=>zT) 0 ((r1,(r2,((.fz nr r3),((.fz nr1 r4),r5)))),((r6,(r7,((.fz nr2 r8),((.fz nr3 r9),r10)))),((r11,(r12,((.fz nr4 r13),((.fz nr5 r14),r15)))),(r16,r17))))) (0+j)))))))),())))))))
 else(
 none))))))))
 else(
 some (.inr (.inr ((),(r,((),((o,((o1,(o2,((no,o3),((no1,o4),o5)))),((no2,o6),((no3,o7),(no4,o8))))),((o9,((o10,(o11,((no5,o12),((no6,o13),o14)))),((no7,o15),((no8,o16),(no9,o17))))),()))))))))
noncomputable def jM(r:(ByteArray×Bool)):Option (((RA×Unit)×((ByteArray×Bool)×Unit))):=
 match(dW r)with
 |none=>none
 |some y=>(
 let r1:=y.1.1
 let o:=y.2.1
 match(eT o)with
 |none=>none
 |some y1=>(
 let r2:=y1.1.1.1
 let r3:=y1.1.1.2.1
 let nr:=y1.1.1.2.2.1.1
 let r4:=y1.1.1.2.2.1.2
 let nr1:=y1.1.1.2.2.2.1.1
 let r5:=y1.1.1.2.2.2.1.2
 let r6:=y1.1.1.2.2.2.2
 let o1:=y1.2.1
 match(iY o1)with
 |none=>none
 |some y2=>(
 let nr2:=y2.1.1.1
 let r7:=y2.1.1.2
 let o2:=y2.2.1
 match(iY o2)with
 |none=>none
 |some y3=>(
 let nr3:=y3.1.1.1
 let r8:=y3.1.1.2
 let o3:=y3.2.1
 match(aF 1 o3)with
 |none=>none
 |some y4=>(
 let r9:=y4.1.1
 let o4:=y4.2.1
 match(aj bf (((),((),(r9,(0,())))),(o4,((),((ByteArray.empty,(((0,0),(ByteArray.empty,((0,(fun _=>.nil)),((0,(fun _=>(fun _=>0))),0)))),((0,(fun _=>zV)),((0,(fun _=>zV)),(0,(fun _=>zT)))))),((r1,((r2,(r3,((nr,r4),((nr1,r5),r6)))),((nr2,r7),((nr3,r8),(0,(fun _=>zT)))))),()))))))with
 |none=>none
 |some y5=>(
 match y5 with
 | .inl y6=>(
 let r10:=y6.2.1
 let o5:=y6.2.2.2.1.1
 let o6:=y6.2.2.2.1.2.1.1
 let o7:=y6.2.2.2.1.2.1.2.1
 let no:=y6.2.2.2.1.2.1.2.2.1.1
 let o8:=y6.2.2.2.1.2.1.2.2.1.2
 let no1:=y6.2.2.2.1.2.1.2.2.2.1.1
 let o9:=y6.2.2.2.1.2.1.2.2.2.1.2
 let o10:=y6.2.2.2.1.2.1.2.2.2.2
 let no2:=y6.2.2.2.1.2.2.1.1
 let o11:=y6.2.2.2.1.2.2.1.2
 let no3:=y6.2.2.2.1.2.2.2.1.1
 let o12:=y6.2.2.2.1.2.2.2.1.2
 let no4:=y6.2.2.2.1.2.2.2.2.1
 let o13:=y6.2.2.2.1.2.2.2.2.2
 let o14:=y6.2.2.2.2.1.1
 let o15:=y6.2.2.2.2.1.2.1.1
 let o16:=y6.2.2.2.2.1.2.1.2.1
 let no5:=y6.2.2.2.2.1.2.1.2.2.1.1
 let o17:=y6.2.2.2.2.1.2.1.2.2.1.2
 let no6:=y6.2.2.2.2.1.2.1.2.2.2.1.1
 let o18:=y6.2.2.2.2.1.2.1.2.2.2.1.2
 let o19:=y6.2.2.2.2.1.2.1.2.2.2.2
 let no7:=y6.2.2.2.2.1.2.2.1.1
 let o20:=y6.2.2.2.2.1.2.2.1.2
 let no8:=y6.2.2.2.2.1.2.2.2.1.1
 let o21:=y6.2.2.2.2.1.2.2.2.1.2
 let no9:=y6.2.2.2.2.1.2.2.2.2.1
 let o22:=y6.2.2.2.2.1.2.2.2.2.2
 some (((o14,((o15,(o16,((no5,o17),((no6,o18),o19)))),((no7,o20),((no8,o21),(no9,(fun j=>o22 (0+j))))))),()),(r10,())))
 | .inr y6=>(
 let r11:=y6.2.1
 let o23:=y6.2.2.2.1.1
 let o24:=y6.2.2.2.1.2.1.1
 let o25:=y6.2.2.2.1.2.1.2.1
 let no10:=y6.2.2.2.1.2.1.2.2.1.1
 let o26:=y6.2.2.2.1.2.1.2.2.1.2
 let no11:=y6.2.2.2.1.2.1.2.2.2.1.1
 let o27:=y6.2.2.2.1.2.1.2.2.2.1.2
 let o28:=y6.2.2.2.1.2.1.2.2.2.2
 let no12:=y6.2.2.2.1.2.2.1.1
 let o29:=y6.2.2.2.1.2.2.1.2
 let no13:=y6.2.2.2.1.2.2.2.1.1
 let o30:=y6.2.2.2.1.2.2.2.1.2
 let no14:=y6.2.2.2.1.2.2.2.2.1
 let o31:=y6.2.2.2.1.2.2.2.2.2
 let o32:=y6.2.2.2.2.1.1
 let o33:=y6.2.2.2.2.1.2.1.1
 let o34:=y6.2.2.2.2.1.2.1.2.1
 let no15:=y6.2.2.2.2.1.2.1.2.2.1.1
 let o35:=y6.2.2.2.2.1.2.1.2.2.1.2
 let no16:=y6.2.2.2.2.1.2.1.2.2.2.1.1
 let o36:=y6.2.2.2.2.1.2.1.2.2.2.1.2
 let o37:=y6.2.2.2.2.1.2.1.2.2.2.2
 let no17:=y6.2.2.2.2.1.2.2.1.1
 let o38:=y6.2.2.2.2.1.2.2.1.2
 let no18:=y6.2.2.2.2.1.2.2.2.1.1
 let o39:=y6.2.2.2.2.1.2.2.2.1.2
 let no19:=y6.2.2.2.2.1.2.2.2.2.1
 let o40:=y6.2.2.2.2.1.2.2.2.2.2
 some (((o32,((o33,(o34,((no15,o35),((no16,o36),o37)))),((no17,o38),((no18,o39),(no19,(fun j=>o40 (0+j))))))),()),(r11,())))))))))
noncomputable def kC:=veil jM
theorem rY:kC=jM:=ak _
abbrev MU:Type:=((Unit×((Int×(Int×(Int×(Unit×Unit))))×((ByteArray×Bool)×(Unit×((Int×(Int×(Int×((Nat×NI)×Unit))))×Unit)))))⊕(Unit×((Int×(Int×(Int×(Unit×Unit))))×((ByteArray×Bool)×(Unit×((Int×(Int×(Int×((Nat×NI)×Unit))))×Unit))))))
abbrev CJ:Type:=((Unit×(Unit×(Int×(Int×Unit))))×((Int×(Int×(Int×(Unit×Unit))))×((ByteArray×Bool)×(Unit×((Int×(Int×(Int×((Nat×NI)×Unit))))×Unit)))))
noncomputable def dH:CJ→Option (CJ⊕MU):=fun x=>
 let t:=x.1.2.2.1
 let t1:=x.1.2.2.2.1
 let o:=x.2.1.1
 let o1:=x.2.1.2.1
 let o2:=x.2.1.2.2.1
 let r:=x.2.2.1
 let o3:=x.2.2.2.2.1.1
 let o4:=x.2.2.2.2.1.2.1
 let o5:=x.2.2.2.2.1.2.2.1
 let no:=x.2.2.2.2.1.2.2.2.1.1
 let o6:=x.2.2.2.2.1.2.2.2.1.2
 bif (decide (t1<t))then(
 bif r.2 then(
 some (.inr (.inl ((),((o,(o1,(o2,((),())))),(r,((),((o3,(o4,(o5,((no,o6),())))),()))))))))
 else(
 match(aF 2 r)with
 |none=>none
 |some y=>(
 let r1:=y.1.1
 let o7:=y.2.1
 bif ((Nat.ble ((no+1)*8) 140737488355328)&&(Nat.ble (no+1) 9223372036854775807))then(
 some (.inl (((),((),(t,((i64.wrap (t1+1)),())))),((o,(o1,(o2,((),())))),(o7,((),((o3,(o4,(o5,(((no+1),(glue no o6 (fun j=>(upd (fun _=>0) 0 r1) (0+j)))),())))),())))))))
 else(
 none))))
 else(
 some (.inr (.inr ((),((o,(o1,(o2,((),())))),(r,((),((o3,(o4,(o5,((no,o6),())))),()))))))))
abbrev Ir:Type:=((Unit×(IM×((ByteArray×Bool)×(Unit×(IM×Unit)))))⊕(Unit×(IM×((ByteArray×Bool)×(Unit×(IM×Unit))))))
abbrev xW:Type:=((Unit×(Unit×(Int×(Int×Unit))))×(IM×((ByteArray×Bool)×(Unit×(IM×Unit)))))
noncomputable def bH:xW→Option (xW⊕Ir):=fun x=>
 let t:=x.1.2.2.1
 let t1:=x.1.2.2.2.1
 let o:=x.2.1.1
 let o1:=x.2.1.2.1
 let o2:=x.2.1.2.2.1
 let no:=x.2.1.2.2.2.1.1
 let o3:=x.2.1.2.2.2.1.2
 let no1:=x.2.1.2.2.2.2.1
 let o4:=x.2.1.2.2.2.2.2
 let r:=x.2.2.1
 let o5:=x.2.2.2.2.1.1
 let o6:=x.2.2.2.2.1.2.1
 let o7:=x.2.2.2.2.1.2.2.1
 let no2:=x.2.2.2.2.1.2.2.2.1.1
 let o8:=x.2.2.2.2.1.2.2.2.1.2
 let no3:=x.2.2.2.2.1.2.2.2.2.1
 let o9:=x.2.2.2.2.1.2.2.2.2.2
 bif (decide (t1<t))then(
 bif r.2 then(
 some (.inr (.inl ((),((o,(o1,(o2,((no,o3),(no1,o4))))),(r,((),((o5,(o6,(o7,((no2,o8),(no3,o9))))),()))))))))
 else(
 match(kC r)with
 |none=>none
 |some y=>(
 let r1:=y.1.1.1
 let r2:=y.1.1.2.1.1
 let r3:=y.1.1.2.1.2.1
 let nr:=y.1.1.2.1.2.2.1.1
 let r4:=y.1.1.2.1.2.2.1.2
 let nr1:=y.1.1.2.1.2.2.2.1.1
 let r5:=y.1.1.2.1.2.2.2.1.2
 let r6:=y.1.1.2.1.2.2.2.2
 let nr2:=y.1.1.2.2.1.1
 let r7:=y.1.1.2.2.1.2
 let nr3:=y.1.1.2.2.2.1.1
 let r8:=y.1.1.2.2.2.1.2
 let nr4:=y.1.1.2.2.2.2.1
 let r9:=y.1.1.2.2.2.2.2
 let o10:=y.2.1
 bif ((Nat.ble ((no3+1)*176) 140737488355328)&&(Nat.ble (no3+1) 9223372036854775807))then(
 some (.inl (((),((),(t,((i64.wrap (t1+1)),())))),((o,(o1,(o2,((no,o3),(no1,o4))))),(o10,((),((o5,(o6,(o7,((no2,o8),((no3+1),(glue no3 o9 (fun j=>(upd (fun _=>zR) 0 (r1,((r2,(r3,((.fz nr r4),((.fz nr1 r5),r6)))),((.fz nr2 r7),((.fz nr3 r8),(.fz nr4 r9)))))) (0+j)))))))),())))))))
 else(
 none))))
 else(
 some (.inr (.inr ((),((o,(o1,(o2,((no,o3),(no1,o4))))),(r,((),((o5,(o6,(o7,((no2,o8),(no3,o9))))),()))))))))
noncomputable def DU(s:ByteArray):Option (IM×Int):=
 match(aF 1 (s,false))with
 |none=>none
 |some y=>(
 let r:=y.1.1
 let o:=y.2.1
 match(aF 1 o)with
 |none=>none
 |some y1=>(
 let r1:=y1.1.1
 let o1:=y1.2.1
 match(aF 1 o1)with
 |none=>none
 |some y2=>(
 let r2:=y2.1.1
 let o2:=y2.2.1
 match(aF 1 o2)with
 |none=>none
 |some y3=>(
 let r3:=y3.1.1
 let o3:=y3.2.1
 match(aj dH (((),((),(r3,(0,())))),((0,(0,(0,((),())))),(o3,((),((r,(r1,(r2,((0,(fun _=>0)),())))),()))))))with
 |none=>none
 |some y4=>(
 match y4 with
 | .inl y5=>(
 let o4:=y5.2.1.1
 let o5:=y5.2.1.2.1
 let o6:=y5.2.1.2.2.1
 let r4:=y5.2.2.1
 let o7:=y5.2.2.2.2.1.1
 let o8:=y5.2.2.2.2.1.2.1
 let o9:=y5.2.2.2.2.1.2.2.1
 let no:=y5.2.2.2.2.1.2.2.2.1.1
 let o10:=y5.2.2.2.2.1.2.2.2.1.2
 match(aF 2 r4)with
 |none=>none
 |some y6=>(
 let r5:=y6.1.1
 let o11:=y6.2.1
 match(aj bH (((),((),(r5,(0,())))),((o4,(o5,(o6,((0,(fun _=>0)),(0,(fun _=>zR)))))),(o11,((),((o7,(o8,(o9,((no,o10),(0,(fun _=>zR)))))),()))))))with
 |none=>none
 |some y7=>(
 match y7 with
 | .inl y8=>(
 let o12:=y8.2.1.1
 let o13:=y8.2.1.2.1
 let o14:=y8.2.1.2.2.1
 let no1:=y8.2.1.2.2.2.1.1
 let o15:=y8.2.1.2.2.2.1.2
 let no2:=y8.2.1.2.2.2.2.1
 let o16:=y8.2.1.2.2.2.2.2
 let r6:=y8.2.2.1
 let o17:=y8.2.2.2.2.1.1
 let o18:=y8.2.2.2.2.1.2.1
 let o19:=y8.2.2.2.2.1.2.2.1
 let no3:=y8.2.2.2.2.1.2.2.2.1.1
 let o20:=y8.2.2.2.2.1.2.2.2.1.2
 let no4:=y8.2.2.2.2.1.2.2.2.2.1
 let o21:=y8.2.2.2.2.1.2.2.2.2.2
 match(bS (!(sEq r6.1 (ByteArray.mk #[]))) r6)with
 |none=>none
 |some y9=>(
 let r7:=y9.1.1
 let o22:=y9.2.1
 bif r7 then(
 some (zI,4))
 else(
 some ((o17,(o18,(o19,((no3,(fun j=>o20 (0+j))),(no4,(fun j=>o21 (0+j))))))),0))))
 | .inr y8=>(
 let o23:=y8.2.1.1
 let o24:=y8.2.1.2.1
 let o25:=y8.2.1.2.2.1
 let no5:=y8.2.1.2.2.2.1.1
 let o26:=y8.2.1.2.2.2.1.2
 let no6:=y8.2.1.2.2.2.2.1
 let o27:=y8.2.1.2.2.2.2.2
 let r8:=y8.2.2.1
 let o28:=y8.2.2.2.2.1.1
 let o29:=y8.2.2.2.2.1.2.1
 let o30:=y8.2.2.2.2.1.2.2.1
 let no7:=y8.2.2.2.2.1.2.2.2.1.1
 let o31:=y8.2.2.2.2.1.2.2.2.1.2
 let no8:=y8.2.2.2.2.1.2.2.2.2.1
 let o32:=y8.2.2.2.2.1.2.2.2.2.2
 match(bS (!(sEq r8.1 (ByteArray.mk #[]))) r8)with
 |none=>none
 |some y10=>(
 let r9:=y10.1.1
 let o33:=y10.2.1
 bif r9 then(
 some (zI,4))
 else(
 some ((o28,(o29,(o30,((no7,(fun j=>o31 (0+j))),(no8,(fun j=>o32 (0+j))))))),0)))))))
 | .inr y5=>(
 let o34:=y5.2.1.1
 let o35:=y5.2.1.2.1
 let o36:=y5.2.1.2.2.1
 let r10:=y5.2.2.1
 let o37:=y5.2.2.2.2.1.1
 let o38:=y5.2.2.2.2.1.2.1
 let o39:=y5.2.2.2.2.1.2.2.1
 let no9:=y5.2.2.2.2.1.2.2.2.1.1
 let o40:=y5.2.2.2.2.1.2.2.2.1.2
 match(aF 2 r10)with
 |none=>none
 |some y11=>(
 let r11:=y11.1.1
 let o41:=y11.2.1
 match(aj bH (((),((),(r11,(0,())))),((o34,(o35,(o36,((0,(fun _=>0)),(0,(fun _=>zR)))))),(o41,((),((o37,(o38,(o39,((no9,o40),(0,(fun _=>zR)))))),()))))))with
 |none=>none
 |some y12=>(
 match y12 with
 | .inl y13=>(
 let o42:=y13.2.1.1
 let o43:=y13.2.1.2.1
 let o44:=y13.2.1.2.2.1
 let no10:=y13.2.1.2.2.2.1.1
 let o45:=y13.2.1.2.2.2.1.2
 let no11:=y13.2.1.2.2.2.2.1
 let o46:=y13.2.1.2.2.2.2.2
 let r12:=y13.2.2.1
 let o47:=y13.2.2.2.2.1.1
 let o48:=y13.2.2.2.2.1.2.1
 let o49:=y13.2.2.2.2.1.2.2.1
 let no12:=y13.2.2.2.2.1.2.2.2.1.1
 let o50:=y13.2.2.2.2.1.2.2.2.1.2
 let no13:=y13.2.2.2.2.1.2.2.2.2.1
 let o51:=y13.2.2.2.2.1.2.2.2.2.2
 match(bS (!(sEq r12.1 (ByteArray.mk #[]))) r12)with
 |none=>none
 |some y14=>(
 let r13:=y14.1.1
 let o52:=y14.2.1
 bif r13 then(
 some (zI,4))
 else(
 some ((o47,(o48,(o49,((no12,(fun j=>o50 (0+j))),(no13,(fun j=>o51 (0+j))))))),0))))
 | .inr y13=>(
 let o53:=y13.2.1.1
 let o54:=y13.2.1.2.1
 let o55:=y13.2.1.2.2.1
 let no14:=y13.2.1.2.2.2.1.1
 let o56:=y13.2.1.2.2.2.1.2
 let no15:=y13.2.1.2.2.2.2.1
 let o57:=y13.2.1.2.2.2.2.2
 let r14:=y13.2.2.1
 let o58:=y13.2.2.2.2.1.1
 let o59:=y13.2.2.2.2.1.2.1
 let o60:=y13.2.2.2.2.1.2.2.1
 let no16:=y13.2.2.2.2.1.2.2.2.1.1
 let o61:=y13.2.2.2.2.1.2.2.2.1.2
 let no17:=y13.2.2.2.2.1.2.2.2.2.1
 let o62:=y13.2.2.2.2.1.2.2.2.2.2
 match(bS (!(sEq r14.1 (ByteArray.mk #[]))) r14)with
 |none=>none
 |some y15=>(
 let r15:=y15.1.1
 let o63:=y15.2.1
 bif r15 then(
 some (zI,4))
 else(
 some ((o58,(o59,(o60,((no16,(fun j=>o61 (0+j))),(no17,(fun j=>o62 (0+j))))))),0))))))))))))
noncomputable def qc:=veil DU
theorem Lb:qc=DU:=ak _
noncomputable def zM(s:ByteArray):Option (IM×Int):=
 bif (decide ((i64.wrap ((((ByteArray.size s):Nat):Int)-32))<0))then(
 some (zI,4))
 else(
 bif ((decide (0≤(i64.wrap ((((ByteArray.size s):Nat):Int)-32))))&&(decide ((i64.wrap ((((ByteArray.size s):Nat):Int)-32))≤(((ByteArray.size s):Nat):Int))))then(
 match(yL (ByteArray.extract s 0 (Int.toNat (i64.wrap ((((ByteArray.size s):Nat):Int)-32)))))with
 |none=>none
 |some r=>(
 bif ((decide (0≤(i64.wrap ((((ByteArray.size s):Nat):Int)-32))))&&(decide ((i64.wrap ((((ByteArray.size s):Nat):Int)-32))≤(((ByteArray.size s):Nat):Int))))then(
 bif (!(sEq r (ByteArray.extract s (Int.toNat (i64.wrap ((((ByteArray.size s):Nat):Int)-32))) (ByteArray.size s))))then(
 some (zI,4))
 else(
 bif ((decide (0≤(i64.wrap ((((ByteArray.size s):Nat):Int)-32))))&&(decide ((i64.wrap ((((ByteArray.size s):Nat):Int)-32))≤(((ByteArray.size s):Nat):Int))))then(
 match(qc (ByteArray.extract s 0 (Int.toNat (i64.wrap ((((ByteArray.size s):Nat):Int)-32)))))with
 |none=>none
 |some r1=>(
 some ((r1.1.1,(r1.1.2.1,(r1.1.2.2.1,((r1.1.2.2.2.1.1,r1.1.2.2.2.1.2),(r1.1.2.2.2.2.1,r1.1.2.2.2.2.2))))),r1.2)))
 else(
 none)))
 else(
 none)))
 else(
 none))
noncomputable def nT:=veil zM
theorem DV:nT=zM:=ak _
abbrev jN(n:Int)(k:Int)(w:Unit)(nw:Nat)(w1:NI)(w2:Bool):=(((),(n,(k,()))),(((w,(nw,w1)),w2),()))
abbrev rZ(w:Unit)(nw:Nat)(w1:NI)(w2:Bool):=(((),()),(((w,(nw,w1)),w2),()))
abbrev uQ:Type:=((Unit×(Int×(Int×Unit)))×(WR×Unit))
noncomputable def bA:uQ→Option (uQ⊕((Unit×Unit)×(WR×Unit))):=fun x=>
 let n:=x.1.2.1
 let k:=x.1.2.2.1
 let w:=x.2.1.1.1
 let nw:=x.2.1.1.2.1
 let w1:=x.2.1.1.2.2
 let w2:=x.2.1.2
 bif (decide (k≥0))then(
 bif (decide ((i64.wrap (8*k))<0))then(
 none)
 else(
 match(fQ (u8.wrap (bX .i64 n (i64.wrap (8*k)))) w nw w1 w2)with
 |none=>none
 |some y=>(
 let r:=y.1.1
 let o:=y.2.1.1.1
 let no:=y.2.1.1.2.1
 let o1:=y.2.1.1.2.2
 let o2:=y.2.1.2
 some (.inl (((),(n,((i64.wrap (k-1)),()))),(((o,(no,o1)),o2),()))))))
 else(
 some (.inr (((),()),(((w,(nw,w1)),w2),()))))
abbrev dM(w:Unit)(nw:Nat)(w1:NI)(w2:Bool):=((),(((w,(nw,w1)),w2),()))
noncomputable def mR(n:Int)(bytes:Int)(w:Unit)(nw:Nat)(w1:NI)(w2:Bool):Option ((Unit×(WR×Unit))):=
 bif w2 then(
 match(aj bA (((),(n,((i64.wrap (bytes-1)),()))),(((w,(nw,w1)),true),())))with
 |none=>none
 |some y=>(
 let w3:=y.2.1.1.1
 let nw1:=y.2.1.1.2.1
 let w4:=y.2.1.1.2.2
 let w5:=y.2.1.2
 some ((),(((w3,(nw1,w4)),w5),()))))
 else(
 bif (decide (n<0))then(
 match(aj bA (((),(n,((i64.wrap (bytes-1)),()))),(((w,(nw,w1)),true),())))with
 |none=>none
 |some y1=>(
 let w6:=y1.2.1.1.1
 let nw2:=y1.2.1.1.2.1
 let w7:=y1.2.1.1.2.2
 let w8:=y1.2.1.2
 some ((),(((w6,(nw2,w7)),w8),()))))
 else(
 bif (decide ((i64.wrap (8*bytes))<0))then(
 none)
 else(
 match(aj bA (((),(n,((i64.wrap (bytes-1)),()))),(((w,(nw,w1)),((bX .i64 n (i64.wrap (8*bytes))) !=0)),())))with
 |none=>none
 |some y2=>(
 let w9:=y2.2.1.1.1
 let nw3:=y2.2.1.1.2.1
 let w10:=y2.2.1.1.2.2
 let w11:=y2.2.1.2
 some ((),(((w9,(nw3,w10)),w11),()))))))
noncomputable def aI:=veil mR
theorem wL:aI=mR:=ak _
abbrev jf(o:Unit)(no:Nat)(o1:NI)(o2:Bool):=((),(((o,(no,o1)),o2),()))
noncomputable def lD(s:ByteArray)(w:Unit)(nw:Nat)(w1:NI)(w2:Bool):Option ((Unit×(WR×Unit))):=
 match(aI (((ByteArray.size s):Nat):Int) 2 w nw w1 w2)with
 |none=>none
 |some y=>(
 let o:=y.2.1.1.1
 let no:=y.2.1.1.2.1
 let o1:=y.2.1.1.2.2
 let o2:=y.2.1.2
 match(eX s o no o1 o2)with
 |none=>none
 |some y1=>(
 let r:=y1.1.1
 let r1:=y1.1.2.1
 let o3:=y1.2.1.1.1
 let no1:=y1.2.1.1.2.1
 let o4:=y1.2.1.1.2.2
 let o5:=y1.2.1.2
 some ((),(((o3,(no1,o4)),o5),()))))
noncomputable def bg:=veil lD
theorem uR:bg=lD:=ak _
abbrev sj(o:Unit)(no:Nat)(o1:NI)(o2:Bool):=((),(((o,(no,o1)),o2),()))
noncomputable def kD(s:(Int×Int))(w:Unit)(nw:Nat)(w1:NI)(w2:Bool):Option ((Unit×(WR×Unit))):=
 match(aI s.1 6 w nw w1 w2)with
 |none=>none
 |some y=>(
 let o:=y.2.1.1.1
 let no:=y.2.1.1.2.1
 let o1:=y.2.1.1.2.2
 let o2:=y.2.1.2
 match(aI s.2 1 o no o1 o2)with
 |none=>none
 |some y1=>(
 let o3:=y1.2.1.1.1
 let no1:=y1.2.1.1.2.1
 let o4:=y1.2.1.1.2.2
 let o5:=y1.2.1.2
 some ((),(((o3,(no1,o4)),o5),()))))
noncomputable def dI:=veil kD
theorem tO:dI=kD:=ak _
abbrev lX(nt:Nat)(t:Nat→NI)(t1:Int)(t2:Int)(w:Unit)(nw:Nat)(w1:NI)(w2:Bool)(x1:(Int×Int))(x2:ByteArray)(nx:Nat)(x3:Nat→(SlV NI))(nx1:Nat)(x4:Nat→NI)(x5:Int):=(((),((),((nt,t),(t1,(t2,()))))),(((w,(nw,w1)),w2),((x1,(x2,((nx,x3),((nx1,x4),x5)))),())))
abbrev qh(w:Unit)(nw:Nat)(w1:NI)(w2:Bool)(x1:(Int×Int))(x2:ByteArray)(nx:Nat)(x3:Nat→(SlV NI))(nx1:Nat)(x4:Nat→NI)(x5:Int):=(((),((),())),(((w,(nw,w1)),w2),((x1,(x2,((nx,x3),((nx1,x4),x5)))),())))
abbrev su:Type:=((Unit×(Unit×((Nat×(Nat→NI))×(Int×(Int×Unit)))))×(WR×(GA×Unit)))
noncomputable def aZ:su→Option (su⊕((Unit×(Unit×Unit))×(WR×(GA×Unit)))):=fun x=>
 let nt:=x.1.2.2.1.1
 let t:=x.1.2.2.1.2
 let t1:=x.1.2.2.2.1
 let t2:=x.1.2.2.2.2.1
 let w:=x.2.1.1.1
 let nw:=x.2.1.1.2.1
 let w1:=x.2.1.1.2.2
 let w2:=x.2.1.2
 let x1:=x.2.2.1.1
 let x2:=x.2.2.1.2.1
 let nx:=x.2.2.1.2.2.1.1
 let x3:=x.2.2.1.2.2.1.2
 let nx1:=x.2.2.1.2.2.2.1.1
 let x4:=x.2.2.1.2.2.2.1.2
 let x5:=x.2.2.1.2.2.2.2
 bif (decide (t2<t1))then(
 bif (inb t2 nt)then(
 match(Ck (t (Int.toNat t2)))with
 |none=>none
 |some r=>(
 match(bg r w nw w1 w2)with
 |none=>none
 |some y=>(
 let o:=y.2.1.1.1
 let no:=y.2.1.1.2.1
 let o1:=y.2.1.1.2.2
 let o2:=y.2.1.2
 some (.inl (((),((),((nt,t),(t1,((i64.wrap (t2+1)),()))))),(((o,(no,o1)),o2),((x1,(x2,((nx,x3),((nx1,x4),x5)))),())))))))
 else(
 none))
 else(
 some (.inr (((),((),())),(((w,(nw,w1)),w2),((x1,(x2,((nx,x3),((nx1,x4),x5)))),())))))
abbrev fP(w:Unit)(nw:Nat)(w1:NI)(w2:Bool):=((),(((w,(nw,w1)),w2),()))
noncomputable def kE(x1:(Int×Int))(x2:ByteArray)(nx:Nat)(x3:Nat→(SlV NI))(nx1:Nat)(x4:Nat→NI)(x5:Int)(w:Unit)(nw:Nat)(w1:NI)(w2:Bool):Option ((Unit×(WR×Unit))):=
 match(yO nx x3)with
 |none=>none
 |some r=>(
 bif w2 then(
 match(dI x1 w nw w1 true)with
 |none=>none
 |some y=>(
 let o:=y.2.1.1.1
 let no:=y.2.1.1.2.1
 let o1:=y.2.1.1.2.2
 let o2:=y.2.1.2
 match(bg x2 o no o1 o2)with
 |none=>none
 |some y1=>(
 let o3:=y1.2.1.1.1
 let no1:=y1.2.1.1.2.1
 let o4:=y1.2.1.1.2.2
 let o5:=y1.2.1.2
 match(bg r o3 no1 o4 o5)with
 |none=>none
 |some y2=>(
 let o6:=y2.2.1.1.1
 let no2:=y2.2.1.1.2.1
 let o7:=y2.2.1.1.2.2
 let o8:=y2.2.1.2
 match(aI ((nx1:Nat):Int) 1 o6 no2 o7 o8)with
 |none=>none
 |some y3=>(
 let o9:=y3.2.1.1.1
 let no3:=y3.2.1.1.2.1
 let o10:=y3.2.1.1.2.2
 let o11:=y3.2.1.2
 match(aj aZ (((),((),((nx1,x4),(((nx1:Nat):Int),(0,()))))),(((o9,(no3,o10)),o11),((x1,(x2,((nx,x3),((nx1,x4),x5)))),()))))with
 |none=>none
 |some y4=>(
 let w3:=y4.2.1.1.1
 let nw1:=y4.2.1.1.2.1
 let w4:=y4.2.1.1.2.2
 let w5:=y4.2.1.2
 let x6:=y4.2.2.1.1
 let x7:=y4.2.2.1.2.1
 let nx2:=y4.2.2.1.2.2.1.1
 let x8:=y4.2.2.1.2.2.1.2
 let nx3:=y4.2.2.1.2.2.2.1.1
 let x9:=y4.2.2.1.2.2.2.1.2
 let x10:=y4.2.2.1.2.2.2.2
 match(aI x10 4 w3 nw1 w4 w5)with
 |none=>none
 |some y5=>(
 let o12:=y5.2.1.1.1
 let no4:=y5.2.1.1.2.1
 let o13:=y5.2.1.1.2.2
 let o14:=y5.2.1.2
 some ((),(((o12,(no4,o13)),o14),())))))))))
 else(
 bif (decide (((nx:Nat):Int)>0))then(
 match(dI x1 w nw w1 (sEq r (ByteArray.mk #[])))with
 |none=>none
 |some y6=>(
 let o15:=y6.2.1.1.1
 let no5:=y6.2.1.1.2.1
 let o16:=y6.2.1.1.2.2
 let o17:=y6.2.1.2
 match(bg x2 o15 no5 o16 o17)with
 |none=>none
 |some y7=>(
 let o18:=y7.2.1.1.1
 let no6:=y7.2.1.1.2.1
 let o19:=y7.2.1.1.2.2
 let o20:=y7.2.1.2
 match(bg r o18 no6 o19 o20)with
 |none=>none
 |some y8=>(
 let o21:=y8.2.1.1.1
 let no7:=y8.2.1.1.2.1
 let o22:=y8.2.1.1.2.2
 let o23:=y8.2.1.2
 match(aI ((nx1:Nat):Int) 1 o21 no7 o22 o23)with
 |none=>none
 |some y9=>(
 let o24:=y9.2.1.1.1
 let no8:=y9.2.1.1.2.1
 let o25:=y9.2.1.1.2.2
 let o26:=y9.2.1.2
 match(aj aZ (((),((),((nx1,x4),(((nx1:Nat):Int),(0,()))))),(((o24,(no8,o25)),o26),((x1,(x2,((nx,x3),((nx1,x4),x5)))),()))))with
 |none=>none
 |some y10=>(
 let w6:=y10.2.1.1.1
 let nw2:=y10.2.1.1.2.1
 let w7:=y10.2.1.1.2.2
 let w8:=y10.2.1.2
 let x11:=y10.2.2.1.1
 let x12:=y10.2.2.1.2.1
 let nx4:=y10.2.2.1.2.2.1.1
 let x13:=y10.2.2.1.2.2.1.2
 let nx5:=y10.2.2.1.2.2.2.1.1
 let x14:=y10.2.2.1.2.2.2.1.2
 let x15:=y10.2.2.1.2.2.2.2
 match(aI x15 4 w6 nw2 w7 w8)with
 |none=>none
 |some y11=>(
 let o27:=y11.2.1.1.1
 let no9:=y11.2.1.1.2.1
 let o28:=y11.2.1.1.2.2
 let o29:=y11.2.1.2
 some ((),(((o27,(no9,o28)),o29),())))))))))
 else(
 match(dI x1 w nw w1 false)with
 |none=>none
 |some y12=>(
 let o30:=y12.2.1.1.1
 let no10:=y12.2.1.1.2.1
 let o31:=y12.2.1.1.2.2
 let o32:=y12.2.1.2
 match(bg x2 o30 no10 o31 o32)with
 |none=>none
 |some y13=>(
 let o33:=y13.2.1.1.1
 let no11:=y13.2.1.1.2.1
 let o34:=y13.2.1.1.2.2
 let o35:=y13.2.1.2
 match(bg r o33 no11 o34 o35)with
 |none=>none
 |some y14=>(
 let o36:=y14.2.1.1.1
 let no12:=y14.2.1.1.2.1
 let o37:=y14.2.1.1.2.2
 let o38:=y14.2.1.2
 match(aI ((nx1:Nat):Int) 1 o36 no12 o37 o38)with
 |none=>none
 |some y15=>(
 let o39:=y15.2.1.1.1
 let no13:=y15.2.1.1.2.1
 let o40:=y15.2.1.1.2.2
 let o41:=y15.2.1.2
 match(aj aZ (((),((),((nx1,x4),(((nx1:Nat):Int),(0,()))))),(((o39,(no13,o40)),o41),((x1,(x2,((nx,x3),((nx1,x4),x5)))),()))))with
 |none=>none
 |some y16=>(
 let w9:=y16.2.1.1.1
 let nw3:=y16.2.1.1.2.1
 let w10:=y16.2.1.1.2.2
 let w11:=y16.2.1.2
 let x16:=y16.2.2.1.1
 let x17:=y16.2.2.1.2.1
 let nx6:=y16.2.2.1.2.2.1.1
 let x18:=y16.2.2.1.2.2.1.2
 let nx7:=y16.2.2.1.2.2.2.1.1
 let x19:=y16.2.2.1.2.2.2.1.2
 let x20:=y16.2.2.1.2.2.2.2
 match(aI x20 4 w9 nw3 w10 w11)with
 |none=>none
 |some y17=>(
 let o42:=y17.2.1.1.1
 let no14:=y17.2.1.1.2.1
 let o43:=y17.2.1.1.2.2
 let o44:=y17.2.1.2
 some ((),(((o42,(no14,o43)),o44),())))))))))))
noncomputable def dJ:=veil kE
theorem tQ:dJ=kE:=ak _
abbrev lY(nt:Nat)(t:Nat→VO)(t1:Int)(t2:Int)(w:Unit)(nw:Nat)(w1:NI)(w2:Bool):=(((),((nt,t),(t1,(t2,())))),(((w,(nw,w1)),w2),()))
abbrev qj(w:Unit)(nw:Nat)(w1:NI)(w2:Bool):=(((),()),(((w,(nw,w1)),w2),()))
abbrev sw:Type:=((Unit×((Nat×(Nat→VO))×(Int×(Int×Unit))))×(WR×Unit))
noncomputable def bQ:sw→Option (sw⊕((Unit×Unit)×(WR×Unit))):=fun x=>
 let nt:=x.1.2.1.1
 let t:=x.1.2.1.2
 let t1:=x.1.2.2.1
 let t2:=x.1.2.2.2.1
 let w:=x.2.1.1.1
 let nw:=x.2.1.1.2.1
 let w1:=x.2.1.1.2.2
 let w2:=x.2.1.2
 bif (decide (t2<t1))then(
 bif (inb t2 nt)then(
 match(aI (t (Int.toNat t2)).1 1 w nw w1 w2)with
 |none=>none
 |some y=>(
 let o:=y.2.1.1.1
 let no:=y.2.1.1.2.1
 let o1:=y.2.1.1.2.2
 let o2:=y.2.1.2
 match(dI (t (Int.toNat t2)).2.1 o no o1 o2)with
 |none=>none
 |some y1=>(
 let o3:=y1.2.1.1.1
 let no1:=y1.2.1.1.2.1
 let o4:=y1.2.1.1.2.2
 let o5:=y1.2.1.2
 match(bg (t (Int.toNat t2)).2.2 o3 no1 o4 o5)with
 |none=>none
 |some y2=>(
 let o6:=y2.2.1.1.1
 let no2:=y2.2.1.1.2.1
 let o7:=y2.2.1.1.2.2
 let o8:=y2.2.1.2
 some (.inl (((),((nt,t),(t1,((i64.wrap (t2+1)),())))),(((o6,(no2,o7)),o8),())))))))
 else(
 none))
 else(
 some (.inr (((),()),(((w,(nw,w1)),w2),()))))
abbrev sD(w:Unit)(nw:Nat)(w1:NI)(w2:Bool):=((),(((w,(nw,w1)),w2),()))
noncomputable def kF(nl:Nat)(l:Nat→VO)(w:Unit)(nw:Nat)(w1:NI)(w2:Bool):Option ((Unit×(WR×Unit))):=
 match(aI ((nl:Nat):Int) 2 w nw w1 w2)with
 |none=>none
 |some y=>(
 let o:=y.2.1.1.1
 let no:=y.2.1.1.2.1
 let o1:=y.2.1.1.2.2
 let o2:=y.2.1.2
 match(aj bQ (((),((nl,l),(((nl:Nat):Int),(0,())))),(((o,(no,o1)),o2),())))with
 |none=>none
 |some y1=>(
 let w3:=y1.2.1.1.1
 let nw1:=y1.2.1.1.2.1
 let w4:=y1.2.1.1.2.2
 let w5:=y1.2.1.2
 some ((),(((w3,(nw1,w4)),w5),()))))
noncomputable def iZ:=veil kF
theorem tX:iZ=kF:=ak _
abbrev kX(nt:Nat)(t:Nat→TO)(t1:Int)(t2:Int)(w:Unit)(nw:Nat)(w1:NI)(w2:Bool):=(((),((nt,t),(t1,(t2,())))),(((w,(nw,w1)),w2),()))
abbrev oW(w:Unit)(nw:Nat)(w1:NI)(w2:Bool):=(((),()),(((w,(nw,w1)),w2),()))
abbrev qD:Type:=((Unit×((Nat×(Nat→TO))×(Int×(Int×Unit))))×(WR×Unit))
noncomputable def bK:qD→Option (qD⊕((Unit×Unit)×(WR×Unit))):=fun x=>
 let nt:=x.1.2.1.1
 let t:=x.1.2.1.2
 let t1:=x.1.2.2.1
 let t2:=x.1.2.2.2.1
 let w:=x.2.1.1.1
 let nw:=x.2.1.1.2.1
 let w1:=x.2.1.1.2.2
 let w2:=x.2.1.2
 bif (decide (t2<t1))then(
 bif (inb t2 nt)then(
 bif (SlV.isMs (t (Int.toNat t2)).1.2.2.1)then(
 none)
 else(
 bif (SlV.isMs (t (Int.toNat t2)).1.2.2.2.1)then(
 none)
 else(
 bif (SlV.isMs (t (Int.toNat t2)).2.1.2.2.1)then(
 none)
 else(
 bif (SlV.isMs (t (Int.toNat t2)).2.1.2.2.2.1)then(
 none)
 else(
 bif (SlV.isMs (t (Int.toNat t2)).2.2.1.2.2.1)then(
 none)
 else(
 bif (SlV.isMs (t (Int.toNat t2)).2.2.1.2.2.2.1)then(
 none)
 else(
 match(dJ (t (Int.toNat t2)).1.1 (t (Int.toNat t2)).1.2.1 (SlV.len (t (Int.toNat t2)).1.2.2.1) (SlV.fn (.nil:(SlV NI)) (t (Int.toNat t2)).1.2.2.1) (SlV.len (t (Int.toNat t2)).1.2.2.2.1) (SlV.fn ((fun _=>0):NI) (t (Int.toNat t2)).1.2.2.2.1) (t (Int.toNat t2)).1.2.2.2.2 w nw w1 w2)with
 |none=>none
 |some y=>(
 let o:=y.2.1.1.1
 let no:=y.2.1.1.2.1
 let o1:=y.2.1.1.2.2
 let o2:=y.2.1.2
 match(dJ (t (Int.toNat t2)).2.1.1 (t (Int.toNat t2)).2.1.2.1 (SlV.len (t (Int.toNat t2)).2.1.2.2.1) (SlV.fn (.nil:(SlV NI)) (t (Int.toNat t2)).2.1.2.2.1) (SlV.len (t (Int.toNat t2)).2.1.2.2.2.1) (SlV.fn ((fun _=>0):NI) (t (Int.toNat t2)).2.1.2.2.2.1) (t (Int.toNat t2)).2.1.2.2.2.2 o no o1 o2)with
 |none=>none
 |some y1=>(
 let o3:=y1.2.1.1.1
 let no1:=y1.2.1.1.2.1
 let o4:=y1.2.1.1.2.2
 let o5:=y1.2.1.2
 match(dJ (t (Int.toNat t2)).2.2.1.1 (t (Int.toNat t2)).2.2.1.2.1 (SlV.len (t (Int.toNat t2)).2.2.1.2.2.1) (SlV.fn (.nil:(SlV NI)) (t (Int.toNat t2)).2.2.1.2.2.1) (SlV.len (t (Int.toNat t2)).2.2.1.2.2.2.1) (SlV.fn ((fun _=>0):NI) (t (Int.toNat t2)).2.2.1.2.2.2.1) (t (Int.toNat t2)).2.2.1.2.2.2.2 o3 no1 o4 o5)with
 |none=>none
 |some y2=>(
 let o6:=y2.2.1.1.1
 let no2:=y2.2.1.1.2.1
 let o7:=y2.2.1.1.2.2
 let o8:=y2.2.1.2
 match(aI (t (Int.toNat t2)).2.2.2.1 4 o6 no2 o7 o8)with
 |none=>none
 |some y3=>(
 let o9:=y3.2.1.1.1
 let no3:=y3.2.1.1.2.1
 let o10:=y3.2.1.1.2.2
 let o11:=y3.2.1.2
 match(aI (t (Int.toNat t2)).2.2.2.2 4 o9 no3 o10 o11)with
 |none=>none
 |some y4=>(
 let o12:=y4.2.1.1.1
 let no4:=y4.2.1.1.2.1
 let o13:=y4.2.1.1.2.2
 let o14:=y4.2.1.2
 some (.inl (((),((nt,t),(t1,((i64.wrap (t2+1)),())))),(((o12,(no4,o13)),o14),())))))))))))))))
 else(
 none))
 else(
 some (.inr (((),()),(((w,(nw,w1)),w2),()))))
abbrev qE(w:Unit)(nw:Nat)(w1:NI)(w2:Bool):=((),(((w,(nw,w1)),w2),()))
noncomputable def jO(r:ByteArray)(r1:(Int×Int))(r2:ByteArray)(nr:Nat)(r3:Nat→(SlV NI))(nr1:Nat)(r4:Nat→NI)(r5:Int)(nr2:Nat)(r6:Nat→VO)(nr3:Nat)(r7:Nat→VO)(nr4:Nat)(r8:Nat→TO)(w:Unit)(nw:Nat)(w1:NI)(w2:Bool):Option ((Unit×(WR×Unit))):=
 match(bg r w nw w1 w2)with
 |none=>none
 |some y=>(
 let o:=y.2.1.1.1
 let no:=y.2.1.1.2.1
 let o1:=y.2.1.1.2.2
 let o2:=y.2.1.2
 match(dJ r1 r2 nr r3 nr1 r4 r5 o no o1 o2)with
 |none=>none
 |some y1=>(
 let o3:=y1.2.1.1.1
 let no1:=y1.2.1.1.2.1
 let o4:=y1.2.1.1.2.2
 let o5:=y1.2.1.2
 match(iZ nr2 r6 o3 no1 o4 o5)with
 |none=>none
 |some y2=>(
 let o6:=y2.2.1.1.1
 let no2:=y2.2.1.1.2.1
 let o7:=y2.2.1.1.2.2
 let o8:=y2.2.1.2
 match(iZ nr3 r7 o6 no2 o7 o8)with
 |none=>none
 |some y3=>(
 let o9:=y3.2.1.1.1
 let no3:=y3.2.1.1.2.1
 let o10:=y3.2.1.1.2.2
 let o11:=y3.2.1.2
 match(aI ((nr4:Nat):Int) 1 o9 no3 o10 o11)with
 |none=>none
 |some y4=>(
 let o12:=y4.2.1.1.1
 let no4:=y4.2.1.1.2.1
 let o13:=y4.2.1.1.2.2
 let o14:=y4.2.1.2
 match(aj bK (((),((nr4,r8),(((nr4:Nat):Int),(0,())))),(((o12,(no4,o13)),o14),())))with
 |none=>none
 |some y5=>(
 let w3:=y5.2.1.1.1
 let nw1:=y5.2.1.1.2.1
 let w4:=y5.2.1.1.2.2
 let w5:=y5.2.1.2
 some ((),(((w3,(nw1,w4)),w5),()))))))))
noncomputable def kG:=veil jO
theorem sF:kG=jO:=ak _
abbrev DW(nt:Nat)(t:NI)(t1:Int)(t2:Int)(x1:Int)(x2:Int)(x3:Int)(nx:Nat)(x4:NI)(nx1:Nat)(x5:Nat→RE)(w:Unit)(nw:Nat)(w1:NI)(w2:Bool):=(((),((),((nt,t),(t1,(t2,()))))),((x1,(x2,(x3,((nx,x4),(nx1,x5))))),(((w,(nw,w1)),w2),())))
abbrev FY(x1:Int)(x2:Int)(x3:Int)(nx:Nat)(x4:NI)(nx1:Nat)(x5:Nat→RE)(w:Unit)(nw:Nat)(w1:NI)(w2:Bool):=(((),((),())),((x1,(x2,(x3,((nx,x4),(nx1,x5))))),(((w,(nw,w1)),w2),())))
abbrev Lc:Type:=((Unit×(Unit×((Nat×NI)×(Int×(Int×Unit)))))×(IM×(WR×Unit)))
noncomputable def kH:Lc→Option (Lc⊕((Unit×(Unit×Unit))×(IM×(WR×Unit)))):=fun x=>
 let nt:=x.1.2.2.1.1
 let t:=x.1.2.2.1.2
 let t1:=x.1.2.2.2.1
 let t2:=x.1.2.2.2.2.1
 let x1:=x.2.1.1
 let x2:=x.2.1.2.1
 let x3:=x.2.1.2.2.1
 let nx:=x.2.1.2.2.2.1.1
 let x4:=x.2.1.2.2.2.1.2
 let nx1:=x.2.1.2.2.2.2.1
 let x5:=x.2.1.2.2.2.2.2
 let w:=x.2.2.1.1.1
 let nw:=x.2.2.1.1.2.1
 let w1:=x.2.2.1.1.2.2
 let w2:=x.2.2.1.2
 bif (decide (t2<t1))then(
 bif (inb t2 nt)then(
 match(aI (t (Int.toNat t2)) 2 w nw w1 w2)with
 |none=>none
 |some y=>(
 let o:=y.2.1.1.1
 let no:=y.2.1.1.2.1
 let o1:=y.2.1.1.2.2
 let o2:=y.2.1.2
 some (.inl (((),((),((nt,t),(t1,((i64.wrap (t2+1)),()))))),((x1,(x2,(x3,((nx,x4),(nx1,x5))))),(((o,(no,o1)),o2),()))))))
 else(
 none))
 else(
 some (.inr (((),((),())),((x1,(x2,(x3,((nx,x4),(nx1,x5))))),(((w,(nw,w1)),w2),())))))
abbrev DX(nt:Nat)(t:Nat→RE)(t1:Int)(t2:Int)(w:Unit)(nw:Nat)(w1:NI)(w2:Bool):=(((),((nt,t),(t1,(t2,())))),(((w,(nw,w1)),w2),()))
abbrev FZ(w:Unit)(nw:Nat)(w1:NI)(w2:Bool):=(((),()),(((w,(nw,w1)),w2),()))
abbrev Ld:Type:=((Unit×((Nat×(Nat→RE))×(Int×(Int×Unit))))×(WR×Unit))
noncomputable def kI:Ld→Option (Ld⊕((Unit×Unit)×(WR×Unit))):=fun x=>
 let nt:=x.1.2.1.1
 let t:=x.1.2.1.2
 let t1:=x.1.2.2.1
 let t2:=x.1.2.2.2.1
 let w:=x.2.1.1.1
 let nw:=x.2.1.1.2.1
 let w1:=x.2.1.1.2.2
 let w2:=x.2.1.2
 bif (decide (t2<t1))then(
 bif (inb t2 nt)then(
 bif (SlV.isMs (t (Int.toNat t2)).2.1.2.2.1)then(
 none)
 else(
 bif (SlV.isMs (t (Int.toNat t2)).2.1.2.2.2.1)then(
 none)
 else(
 bif (SlV.isMs (t (Int.toNat t2)).2.2.1)then(
 none)
 else(
 bif (SlV.isMs (t (Int.toNat t2)).2.2.2.1)then(
 none)
 else(
 bif (SlV.isMs (t (Int.toNat t2)).2.2.2.2)then(
 none)
 else(
 match(kG (t (Int.toNat t2)).1 (t (Int.toNat t2)).2.1.1 (t (Int.toNat t2)).2.1.2.1 (SlV.len (t (Int.toNat t2)).2.1.2.2.1) (SlV.fn (.nil:(SlV NI)) (t (Int.toNat t2)).2.1.2.2.1) (SlV.len (t (Int.toNat t2)).2.1.2.2.2.1) (SlV.fn ((fun _=>0):NI) (t (Int.toNat t2)).2.1.2.2.2.1) (t (Int.toNat t2)).2.1.2.2.2.2 (SlV.len (t (Int.toNat t2)).2.2.1) (SlV.fn (zV:VO) (t (Int.toNat t2)).2.2.1) (SlV.len (t (Int.toNat t2)).2.2.2.1) (SlV.fn (zV:VO) (t (Int.toNat t2)).2.2.2.1) (SlV.len (t (Int.toNat t2)).2.2.2.2) (SlV.fn (zT:TO) (t (Int.toNat t2)).2.2.2.2) w nw w1 w2)with
 |none=>none
 |some y=>(
 let o:=y.2.1.1.1
 let no:=y.2.1.1.2.1
 let o1:=y.2.1.1.2.2
 let o2:=y.2.1.2
 some (.inl (((),((nt,t),(t1,((i64.wrap (t2+1)),())))),(((o,(no,o1)),o2),()))))))))))
 else(
 none))
 else(
 some (.inr (((),()),(((w,(nw,w1)),w2),()))))
noncomputable def Hy(x:IM):Option (ByteArray×Int):=
 match(aI x.1 1 () 0 (fun _=>0) false)with
 |none=>none
 |some y=>(
 let o:=y.2.1.1.1
 let no:=y.2.1.1.2.1
 let o1:=y.2.1.1.2.2
 let o2:=y.2.1.2
 match(aI x.2.1 1 o no o1 o2)with
 |none=>none
 |some y1=>(
 let o3:=y1.2.1.1.1
 let no1:=y1.2.1.1.2.1
 let o4:=y1.2.1.1.2.2
 let o5:=y1.2.1.2
 match(aI x.2.2.1 1 o3 no1 o4 o5)with
 |none=>none
 |some y2=>(
 let o6:=y2.2.1.1.1
 let no2:=y2.2.1.1.2.1
 let o7:=y2.2.1.1.2.2
 let o8:=y2.2.1.2
 match(aI ((x.2.2.2.1.1:Nat):Int) 1 o6 no2 o7 o8)with
 |none=>none
 |some y3=>(
 let o9:=y3.2.1.1.1
 let no3:=y3.2.1.1.2.1
 let o10:=y3.2.1.1.2.2
 let o11:=y3.2.1.2
 match(aj kH (((),((),((x.2.2.2.1.1,x.2.2.2.1.2),(((x.2.2.2.1.1:Nat):Int),(0,()))))),((x.1,(x.2.1,(x.2.2.1,((x.2.2.2.1.1,x.2.2.2.1.2),(x.2.2.2.2.1,x.2.2.2.2.2))))),(((o9,(no3,o10)),o11),()))))with
 |none=>none
 |some y4=>(
 let x1:=y4.2.1.1
 let x2:=y4.2.1.2.1
 let x3:=y4.2.1.2.2.1
 let nx:=y4.2.1.2.2.2.1.1
 let x4:=y4.2.1.2.2.2.1.2
 let nx1:=y4.2.1.2.2.2.2.1
 let x5:=y4.2.1.2.2.2.2.2
 let w:=y4.2.2.1.1.1
 let nw:=y4.2.2.1.1.2.1
 let w1:=y4.2.2.1.1.2.2
 let w2:=y4.2.2.1.2
 match(aI ((nx1:Nat):Int) 2 w nw w1 w2)with
 |none=>none
 |some y5=>(
 let o12:=y5.2.1.1.1
 let no4:=y5.2.1.1.2.1
 let o13:=y5.2.1.1.2.2
 let o14:=y5.2.1.2
 match(aj kI (((),((nx1,x5),(((nx1:Nat):Int),(0,())))),(((o12,(no4,o13)),o14),())))with
 |none=>none
 |some y6=>(
 let w3:=y6.2.1.1.1
 let nw1:=y6.2.1.1.2.1
 let w4:=y6.2.1.1.2.2
 let w5:=y6.2.1.2
 bif w5 then(
 some ((ByteArray.mk #[]),1))
 else(
 bif ((decide (((nw1:Nat):Int)=((nw1:Nat):Int)))&&(Nat.ble nw1 9223372036854775807))then(
 some ((bytesOf nw1 w4),0))
 else(
 none)))))))))
noncomputable def oZ:=veil Hy
theorem Ob:oZ=Hy:=ak _
noncomputable def DY(x:IM):Option (ByteArray×Int):=
 match(oZ (x.1,(x.2.1,(x.2.2.1,((x.2.2.2.1.1,x.2.2.2.1.2),(x.2.2.2.2.1,x.2.2.2.2.2))))))with
 |none=>none
 |some r=>(
 bif (r.2 !=0)then(
 some ((ByteArray.mk #[]),r.2))
 else(
 match(yL r.1)with
 |none=>none
 |some r1=>(
 bif (decide (((((ByteArray.size r.1)+(ByteArray.size r1)):Nat):Int)>IntKind.i64.max))then(
 none)
 else(
 some ((r.1++r1),0)))))
noncomputable def CK:=veil DY
theorem Le:CK=DY:=ak _
end Go.Pl
