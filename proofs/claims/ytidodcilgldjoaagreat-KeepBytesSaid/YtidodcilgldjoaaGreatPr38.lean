/-
  The functions of a package, plainly.
-/
import Derived.Test.YtidodcilgldjoaaGreatDenM
import Derived.Test.YtidodcilgldjoaaGreatDenI
import Derived.Test.YtidodcilgldjoaaGreatPlA
import Derived.Test.YtidodcilgldjoaaGreatPr16
import Derived.Test.YtidodcilgldjoaaGreatPr05
set_option linter.unusedVariables false
set_option linter.unusedSimpArgs false
set_option maxRecDepth 100000
set_option maxHeartbeats 0
namespace Go.Pl
end Go.Pl
open Go Go.Den Go.Pl
namespace Go.Pl
open Go.IntKind (i64 u64 u32 u8)
noncomputable def vZ(x:GA):Option (Bool):=
 bif (decide ((((ByteArray.size x.2.1):Nat):Int)≤40))then(
 match(PD x.2.2.1.1 x.2.2.1.2 4)with
 |none=>none
 |some r=>(
 bif r then(
 some (decide (((x.2.2.2.1.1:Nat):Int)≤6)))
 else(
 some false)))
 else(
 some false)
noncomputable def mV:=veil vZ
theorem ES:mV=vZ:=ak _
abbrev wO(i:Int)(k:Int)(x1:Int)(x2:Int)(x3:Int)(nx:Nat)(x4:NI)(nx1:Nat)(x5:Nat→RE)(r:ByteArray)(r1:(Int×Int))(r2:ByteArray)(nr:Nat)(r3:Nat→(SlV NI))(nr1:Nat)(r4:Nat→NI)(r5:Int)(nr2:Nat)(r6:Nat→VO)(nr3:Nat)(r7:Nat→VO)(nr4:Nat)(r8:Nat→TO):=(((),(i,((),(k,())))),((x1,(x2,(x3,((nx,x4),(nx1,x5))))),((r,((r1,(r2,((nr,r3),((nr1,r4),r5)))),((nr2,r6),((nr3,r7),(nr4,r8))))),())))
abbrev Gj:Type:=(((Bool×Unit)×Unit)⊕((Unit×(Int×(Unit×Unit)))×(IM×(RA×Unit))))
abbrev Jd(t:Bool):Gj:=(.inl ((t,()),()))
abbrev wh(i:Int)(x1:Int)(x2:Int)(x3:Int)(nx:Nat)(x4:NI)(nx1:Nat)(x5:Nat→RE)(r:ByteArray)(r1:(Int×Int))(r2:ByteArray)(nr:Nat)(r3:Nat→(SlV NI))(nr1:Nat)(r4:Nat→NI)(r5:Int)(nr2:Nat)(r6:Nat→VO)(nr3:Nat)(r7:Nat→VO)(nr4:Nat)(r8:Nat→TO):Gj:=(.inr (((),(i,((),()))),((x1,(x2,(x3,((nx,x4),(nx1,x5))))),((r,((r1,(r2,((nr,r3),((nr1,r4),r5)))),((nr2,r6),((nr3,r7),(nr4,r8))))),()))))
abbrev Oo:Type:=((Unit×(Int×(Unit×(Int×Unit))))×(IM×(RA×Unit)))
noncomputable def kK:Oo→Option (Oo⊕Gj):=fun x=>
 let i:=x.1.2.1
 let k:=x.1.2.2.2.1
 let x1:=x.2.1.1
 let x2:=x.2.1.2.1
 let x3:=x.2.1.2.2.1
 let nx:=x.2.1.2.2.2.1.1
 let x4:=x.2.1.2.2.2.1.2
 let nx1:=x.2.1.2.2.2.2.1
 let x5:=x.2.1.2.2.2.2.2
 let r:=x.2.2.1.1
 let r1:=x.2.2.1.2.1.1
 let r2:=x.2.2.1.2.1.2.1
 let nr:=x.2.2.1.2.1.2.2.1.1
 let r3:=x.2.2.1.2.1.2.2.1.2
 let nr1:=x.2.2.1.2.1.2.2.2.1.1
 let r4:=x.2.2.1.2.1.2.2.2.1.2
 let r5:=x.2.2.1.2.1.2.2.2.2
 let nr2:=x.2.2.1.2.2.1.1
 let r6:=x.2.2.1.2.2.1.2
 let nr3:=x.2.2.1.2.2.2.1.1
 let r7:=x.2.2.1.2.2.2.1.2
 let nr4:=x.2.2.1.2.2.2.2.1
 let r8:=x.2.2.1.2.2.2.2.2
 bif (decide (k<((nr2:Nat):Int)))then(
 bif (inb k nr2)then(
 bif (decide ((((ByteArray.size (r6 (Int.toNat k)).2.2):Nat):Int)>40))then(
 some (.inr (.inl ((false,()),()))))
 else(
 some (.inl (((),(i,((),((i64.wrap (k+1)),())))),((x1,(x2,(x3,((nx,x4),(nx1,x5))))),((r,((r1,(r2,((nr,r3),((nr1,r4),r5)))),((nr2,r6),((nr3,r7),(nr4,r8))))),()))))))
 else(
 none))
 else(
 some (.inr (.inr (((),(i,((),()))),((x1,(x2,(x3,((nx,x4),(nx1,x5))))),((r,((r1,(r2,((nr,r3),((nr1,r4),r5)))),((nr2,r6),((nr3,r7),(nr4,r8))))),()))))))
abbrev wP(i:Int)(k:Int)(x1:Int)(x2:Int)(x3:Int)(nx:Nat)(x4:NI)(nx1:Nat)(x5:Nat→RE)(r:ByteArray)(r1:(Int×Int))(r2:ByteArray)(nr:Nat)(r3:Nat→(SlV NI))(nr1:Nat)(r4:Nat→NI)(r5:Int)(nr2:Nat)(r6:Nat→VO)(nr3:Nat)(r7:Nat→VO)(nr4:Nat)(r8:Nat→TO):=(((),(i,((),(k,())))),((x1,(x2,(x3,((nx,x4),(nx1,x5))))),((r,((r1,(r2,((nr,r3),((nr1,r4),r5)))),((nr2,r6),((nr3,r7),(nr4,r8))))),())))
abbrev Gl:Type:=(((Bool×Unit)×Unit)⊕((Unit×(Int×(Unit×Unit)))×(IM×(RA×Unit))))
abbrev Je(t:Bool):Gl:=(.inl ((t,()),()))
abbrev BL(i:Int)(x1:Int)(x2:Int)(x3:Int)(nx:Nat)(x4:NI)(nx1:Nat)(x5:Nat→RE)(r:ByteArray)(r1:(Int×Int))(r2:ByteArray)(nr:Nat)(r3:Nat→(SlV NI))(nr1:Nat)(r4:Nat→NI)(r5:Int)(nr2:Nat)(r6:Nat→VO)(nr3:Nat)(r7:Nat→VO)(nr4:Nat)(r8:Nat→TO):Gl:=(.inr (((),(i,((),()))),((x1,(x2,(x3,((nx,x4),(nx1,x5))))),((r,((r1,(r2,((nr,r3),((nr1,r4),r5)))),((nr2,r6),((nr3,r7),(nr4,r8))))),()))))
abbrev Oq:Type:=((Unit×(Int×(Unit×(Int×Unit))))×(IM×(RA×Unit)))
noncomputable def kL:Oq→Option (Oq⊕Gl):=fun x=>
 let i:=x.1.2.1
 let k:=x.1.2.2.2.1
 let x1:=x.2.1.1
 let x2:=x.2.1.2.1
 let x3:=x.2.1.2.2.1
 let nx:=x.2.1.2.2.2.1.1
 let x4:=x.2.1.2.2.2.1.2
 let nx1:=x.2.1.2.2.2.2.1
 let x5:=x.2.1.2.2.2.2.2
 let r:=x.2.2.1.1
 let r1:=x.2.2.1.2.1.1
 let r2:=x.2.2.1.2.1.2.1
 let nr:=x.2.2.1.2.1.2.2.1.1
 let r3:=x.2.2.1.2.1.2.2.1.2
 let nr1:=x.2.2.1.2.1.2.2.2.1.1
 let r4:=x.2.2.1.2.1.2.2.2.1.2
 let r5:=x.2.2.1.2.1.2.2.2.2
 let nr2:=x.2.2.1.2.2.1.1
 let r6:=x.2.2.1.2.2.1.2
 let nr3:=x.2.2.1.2.2.2.1.1
 let r7:=x.2.2.1.2.2.2.1.2
 let nr4:=x.2.2.1.2.2.2.2.1
 let r8:=x.2.2.1.2.2.2.2.2
 bif (decide (k<((nr3:Nat):Int)))then(
 bif (inb k nr3)then(
 bif (decide ((((ByteArray.size (r7 (Int.toNat k)).2.2):Nat):Int)>40))then(
 some (.inr (.inl ((false,()),()))))
 else(
 some (.inl (((),(i,((),((i64.wrap (k+1)),())))),((x1,(x2,(x3,((nx,x4),(nx1,x5))))),((r,((r1,(r2,((nr,r3),((nr1,r4),r5)))),((nr2,r6),((nr3,r7),(nr4,r8))))),()))))))
 else(
 none))
 else(
 some (.inr (.inr (((),(i,((),()))),((x1,(x2,(x3,((nx,x4),(nx1,x5))))),((r,((r1,(r2,((nr,r3),((nr1,r4),r5)))),((nr2,r6),((nr3,r7),(nr4,r8))))),()))))))
abbrev pE(i:Int)(k:Int)(x1:Int)(x2:Int)(x3:Int)(nx:Nat)(x4:NI)(nx1:Nat)(x5:Nat→RE)(r:ByteArray)(r1:(Int×Int))(r2:ByteArray)(nr:Nat)(r3:Nat→(SlV NI))(nr1:Nat)(r4:Nat→NI)(r5:Int)(nr2:Nat)(r6:Nat→VO)(nr3:Nat)(r7:Nat→VO)(nr4:Nat)(r8:Nat→TO):=(((),(i,((),(k,())))),((x1,(x2,(x3,((nx,x4),(nx1,x5))))),((r,((r1,(r2,((nr,r3),((nr1,r4),r5)))),((nr2,r6),((nr3,r7),(nr4,r8))))),())))
abbrev Gm:Type:=(((Bool×Unit)×Unit)⊕((Unit×(Int×Unit))×(IM×Unit)))
abbrev Jf(t:Bool):Gm:=(.inl ((t,()),()))
abbrev Jg(i:Int)(x1:Int)(x2:Int)(x3:Int)(nx:Nat)(x4:NI)(nx1:Nat)(x5:Nat→RE):Gm:=(.inr (((),(i,())),((x1,(x2,(x3,((nx,x4),(nx1,x5))))),())))
abbrev Ot:Type:=((Unit×(Int×(Unit×(Int×Unit))))×(IM×(RA×Unit)))
noncomputable def iN:Ot→Option (Ot⊕Gm):=fun x=>
 let i:=x.1.2.1
 let k:=x.1.2.2.2.1
 let x1:=x.2.1.1
 let x2:=x.2.1.2.1
 let x3:=x.2.1.2.2.1
 let nx:=x.2.1.2.2.2.1.1
 let x4:=x.2.1.2.2.2.1.2
 let nx1:=x.2.1.2.2.2.2.1
 let x5:=x.2.1.2.2.2.2.2
 let r:=x.2.2.1.1
 let r1:=x.2.2.1.2.1.1
 let r2:=x.2.2.1.2.1.2.1
 let nr:=x.2.2.1.2.1.2.2.1.1
 let r3:=x.2.2.1.2.1.2.2.1.2
 let nr1:=x.2.2.1.2.1.2.2.2.1.1
 let r4:=x.2.2.1.2.1.2.2.2.1.2
 let r5:=x.2.2.1.2.1.2.2.2.2
 let nr2:=x.2.2.1.2.2.1.1
 let r6:=x.2.2.1.2.2.1.2
 let nr3:=x.2.2.1.2.2.2.1.1
 let r7:=x.2.2.1.2.2.2.1.2
 let nr4:=x.2.2.1.2.2.2.2.1
 let r8:=x.2.2.1.2.2.2.2.2
 bif (decide (k<((nr4:Nat):Int)))then(
 bif (inb k nr4)then(
 bif (SlV.isMs (r8 (Int.toNat k)).1.2.2.1)then(
 none)
 else(
 bif (SlV.isMs (r8 (Int.toNat k)).1.2.2.2.1)then(
 none)
 else(
 match(mV ((r8 (Int.toNat k)).1.1,((r8 (Int.toNat k)).1.2.1,(((SlV.len (r8 (Int.toNat k)).1.2.2.1),(SlV.fn (.nil:(SlV NI)) (r8 (Int.toNat k)).1.2.2.1)),(((SlV.len (r8 (Int.toNat k)).1.2.2.2.1),(SlV.fn ((fun _=>0):NI) (r8 (Int.toNat k)).1.2.2.2.1)),(r8 (Int.toNat k)).1.2.2.2.2)))))with
 |none=>none
 |some r9=>(
 bif (!r9)then(
 some (.inr (.inl ((false,()),()))))
 else(
 bif (inb k nr4)then(
 bif (SlV.isMs (r8 (Int.toNat k)).2.1.2.2.1)then(
 none)
 else(
 bif (SlV.isMs (r8 (Int.toNat k)).2.1.2.2.2.1)then(
 none)
 else(
 match(mV ((r8 (Int.toNat k)).2.1.1,((r8 (Int.toNat k)).2.1.2.1,(((SlV.len (r8 (Int.toNat k)).2.1.2.2.1),(SlV.fn (.nil:(SlV NI)) (r8 (Int.toNat k)).2.1.2.2.1)),(((SlV.len (r8 (Int.toNat k)).2.1.2.2.2.1),(SlV.fn ((fun _=>0):NI) (r8 (Int.toNat k)).2.1.2.2.2.1)),(r8 (Int.toNat k)).2.1.2.2.2.2)))))with
 |none=>none
 |some r10=>(
 bif (!r10)then(
 some (.inr (.inl ((false,()),()))))
 else(
 bif (inb k nr4)then(
 bif (SlV.isMs (r8 (Int.toNat k)).2.2.1.2.2.1)then(
 none)
 else(
 bif (SlV.isMs (r8 (Int.toNat k)).2.2.1.2.2.2.1)then(
 none)
 else(
 match(mV ((r8 (Int.toNat k)).2.2.1.1,((r8 (Int.toNat k)).2.2.1.2.1,(((SlV.len (r8 (Int.toNat k)).2.2.1.2.2.1),(SlV.fn (.nil:(SlV NI)) (r8 (Int.toNat k)).2.2.1.2.2.1)),(((SlV.len (r8 (Int.toNat k)).2.2.1.2.2.2.1),(SlV.fn ((fun _=>0):NI) (r8 (Int.toNat k)).2.2.1.2.2.2.1)),(r8 (Int.toNat k)).2.2.1.2.2.2.2)))))with
 |none=>none
 |some r11=>(
 bif (!r11)then(
 some (.inr (.inl ((false,()),()))))
 else(
 some (.inl (((),(i,((),((i64.wrap (k+1)),())))),((x1,(x2,(x3,((nx,x4),(nx1,x5))))),((r,((r1,(r2,((nr,r3),((nr1,r4),r5)))),((nr2,r6),((nr3,r7),(nr4,r8))))),())))))))))
 else(
 none))))))
 else(
 none))))))
 else(
 none))
 else(
 some (.inr (.inr (((),(i,())),((x1,(x2,(x3,((nx,x4),(nx1,x5))))),())))))
abbrev gM(i:Int)(x1:Int)(x2:Int)(x3:Int)(nx:Nat)(x4:NI)(nx1:Nat)(x5:Nat→RE):=(((),(i,())),((x1,(x2,(x3,((nx,x4),(nx1,x5))))),()))
abbrev Gn:Type:=(((Bool×Unit)×Unit)⊕(Unit×Unit))
abbrev Tg(t:Bool):Gn:=(.inl ((t,()),()))
abbrev Ti:Gn:=(.inr ((),()))
abbrev Ou:Type:=((Unit×(Int×Unit))×(IM×Unit))
noncomputable def dK:Ou→Option (Ou⊕Gn):=fun x=>
 let i:=x.1.2.1
 let x1:=x.2.1.1
 let x2:=x.2.1.2.1
 let x3:=x.2.1.2.2.1
 let nx:=x.2.1.2.2.2.1.1
 let x4:=x.2.1.2.2.2.1.2
 let nx1:=x.2.1.2.2.2.2.1
 let x5:=x.2.1.2.2.2.2.2
 bif (decide (i<((nx1:Nat):Int)))then(
 bif (inb i nx1)then(
 bif (SlV.isMs (x5 (Int.toNat i)).2.1.2.2.1)then(
 none)
 else(
 bif (SlV.isMs (x5 (Int.toNat i)).2.1.2.2.2.1)then(
 none)
 else(
 bif (SlV.isMs (x5 (Int.toNat i)).2.2.1)then(
 none)
 else(
 bif (SlV.isMs (x5 (Int.toNat i)).2.2.2.1)then(
 none)
 else(
 bif (SlV.isMs (x5 (Int.toNat i)).2.2.2.2)then(
 none)
 else(
 bif (decide ((((ByteArray.size (x5 (Int.toNat i)).1):Nat):Int)>20))then(
 some (.inr (.inl ((false,()),()))))
 else(
 bif (decide ((((SlV.len (x5 (Int.toNat i)).2.2.1):Nat):Int)>20))then(
 some (.inr (.inl ((false,()),()))))
 else(
 bif (decide ((((SlV.len (x5 (Int.toNat i)).2.2.2.1):Nat):Int)>20))then(
 some (.inr (.inl ((false,()),()))))
 else(
 bif (decide ((((SlV.len (x5 (Int.toNat i)).2.2.2.2):Nat):Int)>5))then(
 some (.inr (.inl ((false,()),()))))
 else(
 match(mV ((x5 (Int.toNat i)).2.1.1,((x5 (Int.toNat i)).2.1.2.1,(((SlV.len (x5 (Int.toNat i)).2.1.2.2.1),(SlV.fn (.nil:(SlV NI)) (x5 (Int.toNat i)).2.1.2.2.1)),(((SlV.len (x5 (Int.toNat i)).2.1.2.2.2.1),(SlV.fn ((fun _=>0):NI) (x5 (Int.toNat i)).2.1.2.2.2.1)),(x5 (Int.toNat i)).2.1.2.2.2.2)))))with
 |none=>none
 |some r=>(
 bif (!r)then(
 some (.inr (.inl ((false,()),()))))
 else(
 match(aj kK (((),(i,((),(0,())))),((x1,(x2,(x3,((nx,x4),(nx1,x5))))),(((x5 (Int.toNat i)).1,(((x5 (Int.toNat i)).2.1.1,((x5 (Int.toNat i)).2.1.2.1,(((SlV.len (x5 (Int.toNat i)).2.1.2.2.1),(SlV.fn (.nil:(SlV NI)) (x5 (Int.toNat i)).2.1.2.2.1)),(((SlV.len (x5 (Int.toNat i)).2.1.2.2.2.1),(SlV.fn ((fun _=>0):NI) (x5 (Int.toNat i)).2.1.2.2.2.1)),(x5 (Int.toNat i)).2.1.2.2.2.2)))),(((SlV.len (x5 (Int.toNat i)).2.2.1),(SlV.fn (zV:VO) (x5 (Int.toNat i)).2.2.1)),(((SlV.len (x5 (Int.toNat i)).2.2.2.1),(SlV.fn (zV:VO) (x5 (Int.toNat i)).2.2.2.1)),((SlV.len (x5 (Int.toNat i)).2.2.2.2),(SlV.fn (zT:TO) (x5 (Int.toNat i)).2.2.2.2)))))),()))))with
 |none=>none
 |some y=>(
 match y with
 | .inl y1=>(
 let t:=y1.1.1
 some (.inr (.inl ((t,()),()))))
 | .inr y1=>(
 let i1:=y1.1.2.1
 let x6:=y1.2.1.1
 let x7:=y1.2.1.2.1
 let x8:=y1.2.1.2.2.1
 let nx2:=y1.2.1.2.2.2.1.1
 let x9:=y1.2.1.2.2.2.1.2
 let nx3:=y1.2.1.2.2.2.2.1
 let x10:=y1.2.1.2.2.2.2.2
 let r1:=y1.2.2.1.1
 let r2:=y1.2.2.1.2.1.1
 let r3:=y1.2.2.1.2.1.2.1
 let nr:=y1.2.2.1.2.1.2.2.1.1
 let r4:=y1.2.2.1.2.1.2.2.1.2
 let nr1:=y1.2.2.1.2.1.2.2.2.1.1
 let r5:=y1.2.2.1.2.1.2.2.2.1.2
 let r6:=y1.2.2.1.2.1.2.2.2.2
 let nr2:=y1.2.2.1.2.2.1.1
 let r7:=y1.2.2.1.2.2.1.2
 let nr3:=y1.2.2.1.2.2.2.1.1
 let r8:=y1.2.2.1.2.2.2.1.2
 let nr4:=y1.2.2.1.2.2.2.2.1
 let r9:=y1.2.2.1.2.2.2.2.2
 match(aj kL (((),(i1,((),(0,())))),((x6,(x7,(x8,((nx2,x9),(nx3,x10))))),((r1,((r2,(r3,((nr,r4),((nr1,r5),r6)))),((nr2,r7),((nr3,r8),(nr4,r9))))),()))))with
 |none=>none
 |some y2=>(
 match y2 with
 | .inl y3=>(
 let t1:=y3.1.1
 some (.inr (.inl ((t1,()),()))))
 | .inr y3=>(
 let i2:=y3.1.2.1
 let x11:=y3.2.1.1
 let x12:=y3.2.1.2.1
 let x13:=y3.2.1.2.2.1
 let nx4:=y3.2.1.2.2.2.1.1
 let x14:=y3.2.1.2.2.2.1.2
 let nx5:=y3.2.1.2.2.2.2.1
 let x15:=y3.2.1.2.2.2.2.2
 let r10:=y3.2.2.1.1
 let r11:=y3.2.2.1.2.1.1
 let r12:=y3.2.2.1.2.1.2.1
 let nr5:=y3.2.2.1.2.1.2.2.1.1
 let r13:=y3.2.2.1.2.1.2.2.1.2
 let nr6:=y3.2.2.1.2.1.2.2.2.1.1
 let r14:=y3.2.2.1.2.1.2.2.2.1.2
 let r15:=y3.2.2.1.2.1.2.2.2.2
 let nr7:=y3.2.2.1.2.2.1.1
 let r16:=y3.2.2.1.2.2.1.2
 let nr8:=y3.2.2.1.2.2.2.1.1
 let r17:=y3.2.2.1.2.2.2.1.2
 let nr9:=y3.2.2.1.2.2.2.2.1
 let r18:=y3.2.2.1.2.2.2.2.2
 match(aj iN (((),(i2,((),(0,())))),((x11,(x12,(x13,((nx4,x14),(nx5,x15))))),((r10,((r11,(r12,((nr5,r13),((nr6,r14),r15)))),((nr7,r16),((nr8,r17),(nr9,r18))))),()))))with
 |none=>none
 |some y4=>(
 match y4 with
 | .inl y5=>(
 let t2:=y5.1.1
 some (.inr (.inl ((t2,()),()))))
 | .inr y5=>(
 let i3:=y5.1.2.1
 let x16:=y5.2.1.1
 let x17:=y5.2.1.2.1
 let x18:=y5.2.1.2.2.1
 let nx6:=y5.2.1.2.2.2.1.1
 let x19:=y5.2.1.2.2.2.1.2
 let nx7:=y5.2.1.2.2.2.2.1
 let x20:=y5.2.1.2.2.2.2.2
 some (.inl (((),((i64.wrap (i3+1)),())),((x16,(x17,(x18,((nx6,x19),(nx7,x20))))),())))))))))))))))))))))
 else(
 none))
 else(
 some (.inr (.inr ((),()))))
noncomputable def LA(x:IM):Option (Bool):=
 bif (decide (((x.2.2.2.1.1:Nat):Int)>12))then(
 some false)
 else(
 bif (decide (((x.2.2.2.2.1:Nat):Int)>3))then(
 some false)
 else(
 match(aj dK (((),(0,())),((x.1,(x.2.1,(x.2.2.1,((x.2.2.2.1.1,x.2.2.2.1.2),(x.2.2.2.2.1,x.2.2.2.2.2))))),())))with
 |none=>none
 |some y=>(
 match y with
 | .inl y1=>(
 let t:=y1.1.1
 some t)
 | .inr y1=>(
 some true))))
noncomputable def PE:=veil LA
theorem Rf:PE=LA:=ak _
noncomputable def u6(a:GA)(b:GA):Option (Bool):=
 bif (eqF (.pair (.int .i64) (.int .i64)) a.1 b.1)then(
 bif (sEq a.2.1 b.2.1)then(
 match(Ll a.2.2.1.1 a.2.2.1.2 b.2.2.1.1 b.2.2.1.2)with
 |none=>none
 |some r=>(
 bif r then(
 match(FT a.2.2.2.1.1 a.2.2.2.1.2 b.2.2.2.1.1 b.2.2.2.1.2)with
 |none=>none
 |some r1=>(
 bif r1 then(
 some (a.2.2.2.2==b.2.2.2.2))
 else(
 some false)))
 else(
 some false)))
 else(
 some false))
 else(
 some false)
noncomputable def jy:=veil u6
theorem CU:jy=u6:=ak _
abbrev oF(na:Nat)(a:Nat→VO)(nb:Nat)(b:Nat→VO)(i:Int):=(((na,a),((nb,b),(i,()))),())
abbrev u7:Type:=(((Bool×Unit)×Unit)⊕(Unit×Unit))
abbrev Iu(t:Bool):u7:=(.inl ((t,()),()))
abbrev Iw:u7:=(.inr ((),()))
abbrev Bd:Type:=(((Nat×(Nat→VO))×((Nat×(Nat→VO))×(Int×Unit)))×Unit)
noncomputable def dN:Bd→Option (Bd⊕u7):=fun x=>
 let na:=x.1.1.1
 let a:=x.1.1.2
 let nb:=x.1.2.1.1
 let b:=x.1.2.1.2
 let i:=x.1.2.2.1
 bif (decide (i<((na:Nat):Int)))then(
 bif (inb i na)then(
 bif (inb i nb)then(
 bif (!(eqF (.pair (.int .i64) (.pair (.pair (.int .i64) (.int .i64)) .str)) (a (Int.toNat i)) (b (Int.toNat i))))then(
 some (.inr (.inl ((false,()),()))))
 else(
 some (.inl (((na,a),((nb,b),((i64.wrap (i+1)),()))),()))))
 else(
 none))
 else(
 none))
 else(
 some (.inr (.inr ((),()))))
noncomputable def uf(na:Nat)(a:Nat→VO)(nb:Nat)(b:Nat→VO):Option (Bool):=
 bif (((na:Nat):Int) !=((nb:Nat):Int))then(
 some false)
 else(
 match(aj dN (((na,a),((nb,b),(0,()))),()))with
 |none=>none
 |some y=>(
 match y with
 | .inl y1=>(
 let t:=y1.1.1
 some t)
 | .inr y1=>(
 some true)))
noncomputable def qG:=veil uf
theorem CV:qG=uf:=ak _
abbrev mW(i:Int)(a:ByteArray)(a1:(Int×Int))(a2:ByteArray)(na:Nat)(a3:Nat→(SlV NI))(na1:Nat)(a4:Nat→NI)(a5:Int)(na2:Nat)(a6:Nat→VO)(na3:Nat)(a7:Nat→VO)(na4:Nat)(a8:Nat→TO)(b:ByteArray)(b1:(Int×Int))(b2:ByteArray)(nb:Nat)(b3:Nat→(SlV NI))(nb1:Nat)(b4:Nat→NI)(b5:Int)(nb2:Nat)(b6:Nat→VO)(nb3:Nat)(b7:Nat→VO)(nb4:Nat)(b8:Nat→TO):=(((),((),(i,()))),((a,((a1,(a2,((na,a3),((na1,a4),a5)))),((na2,a6),((na3,a7),(na4,a8))))),((b,((b1,(b2,((nb,b3),((nb1,b4),b5)))),((nb2,b6),((nb3,b7),(nb4,b8))))),())))
abbrev rP:Type:=(((Bool×Unit)×Unit)⊕(Unit×Unit))
abbrev Gp(t:Bool):rP:=(.inl ((t,()),()))
abbrev Gq:rP:=(.inr ((),()))
abbrev zO:Type:=((Unit×(Unit×(Int×Unit)))×(RA×(RA×Unit)))
noncomputable def fE:zO→Option (zO⊕rP):=fun x=>
 let i:=x.1.2.2.1
 let a:=x.2.1.1
 let a1:=x.2.1.2.1.1
 let a2:=x.2.1.2.1.2.1
 let na:=x.2.1.2.1.2.2.1.1
 let a3:=x.2.1.2.1.2.2.1.2
 let na1:=x.2.1.2.1.2.2.2.1.1
 let a4:=x.2.1.2.1.2.2.2.1.2
 let a5:=x.2.1.2.1.2.2.2.2
 let na2:=x.2.1.2.2.1.1
 let a6:=x.2.1.2.2.1.2
 let na3:=x.2.1.2.2.2.1.1
 let a7:=x.2.1.2.2.2.1.2
 let na4:=x.2.1.2.2.2.2.1
 let a8:=x.2.1.2.2.2.2.2
 let b:=x.2.2.1.1
 let b1:=x.2.2.1.2.1.1
 let b2:=x.2.2.1.2.1.2.1
 let nb:=x.2.2.1.2.1.2.2.1.1
 let b3:=x.2.2.1.2.1.2.2.1.2
 let nb1:=x.2.2.1.2.1.2.2.2.1.1
 let b4:=x.2.2.1.2.1.2.2.2.1.2
 let b5:=x.2.2.1.2.1.2.2.2.2
 let nb2:=x.2.2.1.2.2.1.1
 let b6:=x.2.2.1.2.2.1.2
 let nb3:=x.2.2.1.2.2.2.1.1
 let b7:=x.2.2.1.2.2.2.1.2
 let nb4:=x.2.2.1.2.2.2.2.1
 let b8:=x.2.2.1.2.2.2.2.2
 bif (decide (i<((na4:Nat):Int)))then(
 bif (inb i na4)then(
 bif (SlV.isMs (a8 (Int.toNat i)).1.2.2.1)then(
 none)
 else(
 bif (SlV.isMs (a8 (Int.toNat i)).1.2.2.2.1)then(
 none)
 else(
 bif (SlV.isMs (a8 (Int.toNat i)).2.1.2.2.1)then(
 none)
 else(
 bif (SlV.isMs (a8 (Int.toNat i)).2.1.2.2.2.1)then(
 none)
 else(
 bif (SlV.isMs (a8 (Int.toNat i)).2.2.1.2.2.1)then(
 none)
 else(
 bif (SlV.isMs (a8 (Int.toNat i)).2.2.1.2.2.2.1)then(
 none)
 else(
 bif (inb i nb4)then(
 bif (SlV.isMs (b8 (Int.toNat i)).1.2.2.1)then(
 none)
 else(
 bif (SlV.isMs (b8 (Int.toNat i)).1.2.2.2.1)then(
 none)
 else(
 bif (SlV.isMs (b8 (Int.toNat i)).2.1.2.2.1)then(
 none)
 else(
 bif (SlV.isMs (b8 (Int.toNat i)).2.1.2.2.2.1)then(
 none)
 else(
 bif (SlV.isMs (b8 (Int.toNat i)).2.2.1.2.2.1)then(
 none)
 else(
 bif (SlV.isMs (b8 (Int.toNat i)).2.2.1.2.2.2.1)then(
 none)
 else(
 match(jy ((a8 (Int.toNat i)).1.1,((a8 (Int.toNat i)).1.2.1,(((SlV.len (a8 (Int.toNat i)).1.2.2.1),(SlV.fn (.nil:(SlV NI)) (a8 (Int.toNat i)).1.2.2.1)),(((SlV.len (a8 (Int.toNat i)).1.2.2.2.1),(SlV.fn ((fun _=>0):NI) (a8 (Int.toNat i)).1.2.2.2.1)),(a8 (Int.toNat i)).1.2.2.2.2)))) ((b8 (Int.toNat i)).1.1,((b8 (Int.toNat i)).1.2.1,(((SlV.len (b8 (Int.toNat i)).1.2.2.1),(SlV.fn (.nil:(SlV NI)) (b8 (Int.toNat i)).1.2.2.1)),(((SlV.len (b8 (Int.toNat i)).1.2.2.2.1),(SlV.fn ((fun _=>0):NI) (b8 (Int.toNat i)).1.2.2.2.1)),(b8 (Int.toNat i)).1.2.2.2.2)))))with
 |none=>none
 |some r=>(
 bif (!r)then(
 some (.inr (.inl ((false,()),()))))
 else(
 match(jy ((a8 (Int.toNat i)).2.1.1,((a8 (Int.toNat i)).2.1.2.1,(((SlV.len (a8 (Int.toNat i)).2.1.2.2.1),(SlV.fn (.nil:(SlV NI)) (a8 (Int.toNat i)).2.1.2.2.1)),(((SlV.len (a8 (Int.toNat i)).2.1.2.2.2.1),(SlV.fn ((fun _=>0):NI) (a8 (Int.toNat i)).2.1.2.2.2.1)),(a8 (Int.toNat i)).2.1.2.2.2.2)))) ((b8 (Int.toNat i)).2.1.1,((b8 (Int.toNat i)).2.1.2.1,(((SlV.len (b8 (Int.toNat i)).2.1.2.2.1),(SlV.fn (.nil:(SlV NI)) (b8 (Int.toNat i)).2.1.2.2.1)),(((SlV.len (b8 (Int.toNat i)).2.1.2.2.2.1),(SlV.fn ((fun _=>0):NI) (b8 (Int.toNat i)).2.1.2.2.2.1)),(b8 (Int.toNat i)).2.1.2.2.2.2)))))with
 |none=>none
 |some r1=>(
 bif (!r1)then(
 some (.inr (.inl ((false,()),()))))
 else(
 match(jy ((a8 (Int.toNat i)).2.2.1.1,((a8 (Int.toNat i)).2.2.1.2.1,(((SlV.len (a8 (Int.toNat i)).2.2.1.2.2.1),(SlV.fn (.nil:(SlV NI)) (a8 (Int.toNat i)).2.2.1.2.2.1)),(((SlV.len (a8 (Int.toNat i)).2.2.1.2.2.2.1),(SlV.fn ((fun _=>0):NI) (a8 (Int.toNat i)).2.2.1.2.2.2.1)),(a8 (Int.toNat i)).2.2.1.2.2.2.2)))) ((b8 (Int.toNat i)).2.2.1.1,((b8 (Int.toNat i)).2.2.1.2.1,(((SlV.len (b8 (Int.toNat i)).2.2.1.2.2.1),(SlV.fn (.nil:(SlV NI)) (b8 (Int.toNat i)).2.2.1.2.2.1)),(((SlV.len (b8 (Int.toNat i)).2.2.1.2.2.2.1),(SlV.fn ((fun _=>0):NI) (b8 (Int.toNat i)).2.2.1.2.2.2.1)),(b8 (Int.toNat i)).2.2.1.2.2.2.2)))))with
 |none=>none
 |some r2=>(
 bif (!r2)then(
 some (.inr (.inl ((false,()),()))))
 else(
 let t:=((a8 (Int.toNat i)).2.2.2.1 !=(b8 (Int.toNat i)).2.2.2.1)
 bif t then(
 some (.inr (.inl ((false,()),()))))
 else(
 let t1:=((a8 (Int.toNat i)).2.2.2.2 !=(b8 (Int.toNat i)).2.2.2.2)
 bif t1 then(
 some (.inr (.inl ((false,()),()))))
 else(
 some (.inl (((),((),((i64.wrap (i+1)),()))),((a,((a1,(a2,((na,a3),((na1,a4),a5)))),((na2,a6),((na3,a7),(na4,a8))))),((b,((b1,(b2,((nb,b3),((nb1,b4),b5)))),((nb2,b6),((nb3,b7),(nb4,b8))))),())))))))))))))))))))
 else(
 none))))))))
 else(
 none))
 else(
 some (.inr (.inr ((),()))))
noncomputable def qU(a:RA)(b:RA):Option (Bool):=
 bif (!(sEq a.1 b.1))then(
 some false)
 else(
 match(jy (a.2.1.1,(a.2.1.2.1,((a.2.1.2.2.1.1,a.2.1.2.2.1.2),((a.2.1.2.2.2.1.1,a.2.1.2.2.2.1.2),a.2.1.2.2.2.2)))) (b.2.1.1,(b.2.1.2.1,((b.2.1.2.2.1.1,b.2.1.2.2.1.2),((b.2.1.2.2.2.1.1,b.2.1.2.2.2.1.2),b.2.1.2.2.2.2)))))with
 |none=>none
 |some r=>(
 bif (!r)then(
 some false)
 else(
 match(qG a.2.2.1.1 a.2.2.1.2 b.2.2.1.1 b.2.2.1.2)with
 |none=>none
 |some r1=>(
 bif (!r1)then(
 some false)
 else(
 match(qG a.2.2.2.1.1 a.2.2.2.1.2 b.2.2.2.1.1 b.2.2.2.1.2)with
 |none=>none
 |some r2=>(
 bif (!r2)then(
 some false)
 else(
 let t:=(((a.2.2.2.2.1:Nat):Int) !=((b.2.2.2.2.1:Nat):Int))
 bif t then(
 some false)
 else(
 match(aj fE (((),((),(0,()))),((a.1,((a.2.1.1,(a.2.1.2.1,((a.2.1.2.2.1.1,a.2.1.2.2.1.2),((a.2.1.2.2.2.1.1,a.2.1.2.2.2.1.2),a.2.1.2.2.2.2)))),((a.2.2.1.1,a.2.2.1.2),((a.2.2.2.1.1,a.2.2.2.1.2),(a.2.2.2.2.1,a.2.2.2.2.2))))),((b.1,((b.2.1.1,(b.2.1.2.1,((b.2.1.2.2.1.1,b.2.1.2.2.1.2),((b.2.1.2.2.2.1.1,b.2.1.2.2.2.1.2),b.2.1.2.2.2.2)))),((b.2.2.1.1,b.2.2.1.2),((b.2.2.2.1.1,b.2.2.2.1.2),(b.2.2.2.2.1,b.2.2.2.2.2))))),()))))with
 |none=>none
 |some y=>(
 match y with
 | .inl y1=>(
 let t1:=y1.1.1
 some t1)
 | .inr y1=>(
 some true))))))))))
noncomputable def ug:=veil qU
theorem Bf:ug=qU:=ak _
abbrev kM(i:Int)(a:Int)(a1:Int)(a2:Int)(na:Nat)(a3:NI)(na1:Nat)(a4:Nat→RE)(b:Int)(b1:Int)(b2:Int)(nb:Nat)(b3:NI)(nb1:Nat)(b4:Nat→RE):=(((),((),(i,()))),((a,(a1,(a2,((na,a3),(na1,a4))))),((b,(b1,(b2,((nb,b3),(nb1,b4))))),())))
abbrev Ed:Type:=(((Bool×Unit)×Unit)⊕((Unit×(Unit×Unit))×(IM×(IM×Unit))))
abbrev Gr(t:Bool):Ed:=(.inl ((t,()),()))
abbrev uh(a:Int)(a1:Int)(a2:Int)(na:Nat)(a3:NI)(na1:Nat)(a4:Nat→RE)(b:Int)(b1:Int)(b2:Int)(nb:Nat)(b3:NI)(nb1:Nat)(b4:Nat→RE):Ed:=(.inr (((),((),())),((a,(a1,(a2,((na,a3),(na1,a4))))),((b,(b1,(b2,((nb,b3),(nb1,b4))))),()))))
abbrev LB:Type:=((Unit×(Unit×(Int×Unit)))×(IM×(IM×Unit)))
noncomputable def fD:LB→Option (LB⊕Ed):=fun x=>
 let i:=x.1.2.2.1
 let a:=x.2.1.1
 let a1:=x.2.1.2.1
 let a2:=x.2.1.2.2.1
 let na:=x.2.1.2.2.2.1.1
 let a3:=x.2.1.2.2.2.1.2
 let na1:=x.2.1.2.2.2.2.1
 let a4:=x.2.1.2.2.2.2.2
 let b:=x.2.2.1.1
 let b1:=x.2.2.1.2.1
 let b2:=x.2.2.1.2.2.1
 let nb:=x.2.2.1.2.2.2.1.1
 let b3:=x.2.2.1.2.2.2.1.2
 let nb1:=x.2.2.1.2.2.2.2.1
 let b4:=x.2.2.1.2.2.2.2.2
 bif (decide (i<((na:Nat):Int)))then(
 bif (inb i na)then(
 bif (inb i nb)then(
 bif ((a3 (Int.toNat i)) !=(b3 (Int.toNat i)))then(
 some (.inr (.inl ((false,()),()))))
 else(
 some (.inl (((),((),((i64.wrap (i+1)),()))),((a,(a1,(a2,((na,a3),(na1,a4))))),((b,(b1,(b2,((nb,b3),(nb1,b4))))),()))))))
 else(
 none))
 else(
 none))
 else(
 some (.inr (.inr (((),((),())),((a,(a1,(a2,((na,a3),(na1,a4))))),((b,(b1,(b2,((nb,b3),(nb1,b4))))),()))))))
abbrev mX(i:Int)(a:Int)(a1:Int)(a2:Int)(na:Nat)(a3:NI)(na1:Nat)(a4:Nat→RE)(b:Int)(b1:Int)(b2:Int)(nb:Nat)(b3:NI)(nb1:Nat)(b4:Nat→RE):=(((),((),(i,()))),((a,(a1,(a2,((na,a3),(na1,a4))))),((b,(b1,(b2,((nb,b3),(nb1,b4))))),())))
abbrev Ee:Type:=(((Bool×Unit)×Unit)⊕(Unit×Unit))
abbrev Rh(t:Bool):Ee:=(.inl ((t,()),()))
abbrev zP:Ee:=(.inr ((),()))
abbrev LC:Type:=((Unit×(Unit×(Int×Unit)))×(IM×(IM×Unit)))
noncomputable def gF:LC→Option (LC⊕Ee):=fun x=>
 let i:=x.1.2.2.1
 let a:=x.2.1.1
 let a1:=x.2.1.2.1
 let a2:=x.2.1.2.2.1
 let na:=x.2.1.2.2.2.1.1
 let a3:=x.2.1.2.2.2.1.2
 let na1:=x.2.1.2.2.2.2.1
 let a4:=x.2.1.2.2.2.2.2
 let b:=x.2.2.1.1
 let b1:=x.2.2.1.2.1
 let b2:=x.2.2.1.2.2.1
 let nb:=x.2.2.1.2.2.2.1.1
 let b3:=x.2.2.1.2.2.2.1.2
 let nb1:=x.2.2.1.2.2.2.2.1
 let b4:=x.2.2.1.2.2.2.2.2
 bif (decide (i<((na1:Nat):Int)))then(
 bif (inb i na1)then(
 bif (SlV.isMs (a4 (Int.toNat i)).2.1.2.2.1)then(
 none)
 else(
 bif (SlV.isMs (a4 (Int.toNat i)).2.1.2.2.2.1)then(
 none)
 else(
 bif (SlV.isMs (a4 (Int.toNat i)).2.2.1)then(
 none)
 else(
 bif (SlV.isMs (a4 (Int.toNat i)).2.2.2.1)then(
 none)
 else(
 bif (SlV.isMs (a4 (Int.toNat i)).2.2.2.2)then(
 none)
 else(
 bif (inb i nb1)then(
 bif (SlV.isMs (b4 (Int.toNat i)).2.1.2.2.1)then(
 none)
 else(
 bif (SlV.isMs (b4 (Int.toNat i)).2.1.2.2.2.1)then(
 none)
 else(
 bif (SlV.isMs (b4 (Int.toNat i)).2.2.1)then(
 none)
 else(
 bif (SlV.isMs (b4 (Int.toNat i)).2.2.2.1)then(
 none)
 else(
 bif (SlV.isMs (b4 (Int.toNat i)).2.2.2.2)then(
 none)
 else(
 match(ug ((a4 (Int.toNat i)).1,(((a4 (Int.toNat i)).2.1.1,((a4 (Int.toNat i)).2.1.2.1,(((SlV.len (a4 (Int.toNat i)).2.1.2.2.1),(SlV.fn (.nil:(SlV NI)) (a4 (Int.toNat i)).2.1.2.2.1)),(((SlV.len (a4 (Int.toNat i)).2.1.2.2.2.1),(SlV.fn ((fun _=>0):NI) (a4 (Int.toNat i)).2.1.2.2.2.1)),(a4 (Int.toNat i)).2.1.2.2.2.2)))),(((SlV.len (a4 (Int.toNat i)).2.2.1),(SlV.fn (zV:VO) (a4 (Int.toNat i)).2.2.1)),(((SlV.len (a4 (Int.toNat i)).2.2.2.1),(SlV.fn (zV:VO) (a4 (Int.toNat i)).2.2.2.1)),((SlV.len (a4 (Int.toNat i)).2.2.2.2),(SlV.fn (zT:TO) (a4 (Int.toNat i)).2.2.2.2)))))) ((b4 (Int.toNat i)).1,(((b4 (Int.toNat i)).2.1.1,((b4 (Int.toNat i)).2.1.2.1,(((SlV.len (b4 (Int.toNat i)).2.1.2.2.1),(SlV.fn (.nil:(SlV NI)) (b4 (Int.toNat i)).2.1.2.2.1)),(((SlV.len (b4 (Int.toNat i)).2.1.2.2.2.1),(SlV.fn ((fun _=>0):NI) (b4 (Int.toNat i)).2.1.2.2.2.1)),(b4 (Int.toNat i)).2.1.2.2.2.2)))),(((SlV.len (b4 (Int.toNat i)).2.2.1),(SlV.fn (zV:VO) (b4 (Int.toNat i)).2.2.1)),(((SlV.len (b4 (Int.toNat i)).2.2.2.1),(SlV.fn (zV:VO) (b4 (Int.toNat i)).2.2.2.1)),((SlV.len (b4 (Int.toNat i)).2.2.2.2),(SlV.fn (zT:TO) (b4 (Int.toNat i)).2.2.2.2)))))))with
 |none=>none
 |some r=>(
 bif (!r)then(
 some (.inr (.inl ((false,()),()))))
 else(
 some (.inl (((),((),((i64.wrap (i+1)),()))),((a,(a1,(a2,((na,a3),(na1,a4))))),((b,(b1,(b2,((nb,b3),(nb1,b4))))),()))))))))))))
 else(
 none)))))))
 else(
 none))
 else(
 some (.inr (.inr ((),()))))
noncomputable def CW(a:IM)(b:IM):Option (Bool):=
 bif (a.1 !=b.1)then(
 some false)
 else(
 bif (a.2.1 !=b.2.1)then(
 some false)
 else(
 bif (a.2.2.1 !=b.2.2.1)then(
 some false)
 else(
 let t:=(((a.2.2.2.1.1:Nat):Int) !=((b.2.2.2.1.1:Nat):Int))
 bif t then(
 some false)
 else(
 let t1:=(((a.2.2.2.2.1:Nat):Int) !=((b.2.2.2.2.1:Nat):Int))
 bif t1 then(
 some false)
 else(
 match(aj fD (((),((),(0,()))),((a.1,(a.2.1,(a.2.2.1,((a.2.2.2.1.1,a.2.2.2.1.2),(a.2.2.2.2.1,a.2.2.2.2.2))))),((b.1,(b.2.1,(b.2.2.1,((b.2.2.2.1.1,b.2.2.2.1.2),(b.2.2.2.2.1,b.2.2.2.2.2))))),()))))with
 |none=>none
 |some y=>(
 match y with
 | .inl y1=>(
 let t2:=y1.1.1
 some t2)
 | .inr y1=>(
 let a1:=y1.2.1.1
 let a2:=y1.2.1.2.1
 let a3:=y1.2.1.2.2.1
 let na:=y1.2.1.2.2.2.1.1
 let a4:=y1.2.1.2.2.2.1.2
 let na1:=y1.2.1.2.2.2.2.1
 let a5:=y1.2.1.2.2.2.2.2
 let b1:=y1.2.2.1.1
 let b2:=y1.2.2.1.2.1
 let b3:=y1.2.2.1.2.2.1
 let nb:=y1.2.2.1.2.2.2.1.1
 let b4:=y1.2.2.1.2.2.2.1.2
 let nb1:=y1.2.2.1.2.2.2.2.1
 let b5:=y1.2.2.1.2.2.2.2.2
 match(aj gF (((),((),(0,()))),((a1,(a2,(a3,((na,a4),(na1,a5))))),((b1,(b2,(b3,((nb,b4),(nb1,b5))))),()))))with
 |none=>none
 |some y2=>(
 match y2 with
 | .inl y3=>(
 let t3:=y3.1.1
 some t3)
 | .inr y3=>(
 some true)))))))))
noncomputable def bV:=veil CW
theorem Gs:bV=CW:=ak _
abbrev kP(n:Int)(k:Int)(w:(ByteArray×Bool)):=(((),(n,(k,()))),(w,()))
abbrev uj(w:(ByteArray×Bool)):=(((),()),(w,()))
abbrev wQ:Type:=((Unit×(Int×(Int×Unit)))×((ByteArray×Bool)×Unit))
noncomputable def bL:wQ→Option (wQ⊕((Unit×Unit)×((ByteArray×Bool)×Unit))):=fun x=>
 let n:=x.1.2.1
 let k:=x.1.2.2.1
 let w:=x.2.1
 bif (decide (k≥0))then(
 bif (decide ((i64.wrap (8*k))<0))then(
 none)
 else(
 let t:=(bytesOf 1 (fun j=>(upd (fun _=>0) 0 (u8.wrap (aA .and .i64 (bX .i64 n (i64.wrap (8*k))) 255))) (0+j)))
 bif (decide (((((ByteArray.size w.1)+(ByteArray.size t)):Nat):Int)>IntKind.i64.max))then(
 none)
 else(
 some (.inl (((),(n,((i64.wrap (k-1)),()))),(((w.1++t),w.2),()))))))
 else(
 some (.inr (((),()),(w,()))))
noncomputable def oG(n:Int)(bytes:Int)(w:(ByteArray×Bool)):Option ((Unit×((ByteArray×Bool)×Unit))):=
 bif (decide (n<0))then(
 match(aj bL (((),(n,((i64.wrap (bytes-1)),()))),((w.1,true),())))with
 |none=>none
 |some y=>(
 let w1:=y.2.1
 some ((),(w1,()))))
 else(
 bif (decide ((i64.wrap (8*bytes))<0))then(
 none)
 else(
 bif ((bX .i64 n (i64.wrap (8*bytes))) !=0)then(
 match(aj bL (((),(n,((i64.wrap (bytes-1)),()))),((w.1,true),())))with
 |none=>none
 |some y1=>(
 let w2:=y1.2.1
 some ((),(w2,()))))
 else(
 match(aj bL (((),(n,((i64.wrap (bytes-1)),()))),(w,())))with
 |none=>none
 |some y2=>(
 let w3:=y2.2.1
 some ((),(w3,()))))))
noncomputable def au:=veil oG
theorem xX:au=oG:=ak _
noncomputable def mY(s:ByteArray)(w:(ByteArray×Bool)):Option ((Unit×((ByteArray×Bool)×Unit))):=
 match(au (((ByteArray.size s):Nat):Int) 2 w)with
 |none=>none
 |some y=>(
 let o:=y.2.1
 bif (decide (((((ByteArray.size o.1)+(ByteArray.size s)):Nat):Int)>IntKind.i64.max))then(
 none)
 else(
 some ((),(((o.1++s),o.2),()))))
noncomputable def bC:=veil mY
theorem wR:bC=mY:=ak _
abbrev mZ(i:Int)(w:(ByteArray×Bool))(x1:(Int×Int))(x2:ByteArray)(nx:Nat)(x3:Nat→(SlV NI))(nx1:Nat)(x4:Nat→NI)(x5:Int):=(((),((),(i,()))),(w,((x1,(x2,((nx,x3),((nx1,x4),x5)))),())))
abbrev qH(w:(ByteArray×Bool))(x1:(Int×Int))(x2:ByteArray)(nx:Nat)(x3:Nat→(SlV NI))(nx1:Nat)(x4:Nat→NI)(x5:Int):=(((),((),())),(w,((x1,(x2,((nx,x3),((nx1,x4),x5)))),())))
abbrev um:Type:=((Unit×(Unit×(Int×Unit)))×((ByteArray×Bool)×(GA×Unit)))
noncomputable def bn:um→Option (um⊕((Unit×(Unit×Unit))×((ByteArray×Bool)×(GA×Unit)))):=fun x=>
 let i:=x.1.2.2.1
 let w:=x.2.1
 let x1:=x.2.2.1.1
 let x2:=x.2.2.1.2.1
 let nx:=x.2.2.1.2.2.1.1
 let x3:=x.2.2.1.2.2.1.2
 let nx1:=x.2.2.1.2.2.2.1.1
 let x4:=x.2.2.1.2.2.2.1.2
 let x5:=x.2.2.1.2.2.2.2
 bif (decide (i<((nx1:Nat):Int)))then(
 bif (inb i nx1)then(
 match(Cr (x4 (Int.toNat i)))with
 |none=>none
 |some r=>(
 match(bC r w)with
 |none=>none
 |some y=>(
 let o:=y.2.1
 some (.inl (((),((),((i64.wrap (i+1)),()))),(o,((x1,(x2,((nx,x3),((nx1,x4),x5)))),())))))))
 else(
 none))
 else(
 some (.inr (((),((),())),(w,((x1,(x2,((nx,x3),((nx1,x4),x5)))),())))))
noncomputable def lF(x1:(Int×Int))(x2:ByteArray)(nx:Nat)(x3:Nat→(SlV NI))(nx1:Nat)(x4:Nat→NI)(x5:Int)(w:(ByteArray×Bool)):Option ((Unit×((ByteArray×Bool)×Unit))):=
 match(CS nx x3)with
 |none=>none
 |some r=>(
 bif (decide (((nx:Nat):Int)>0))then(
 bif (sEq r (ByteArray.mk #[]))then(
 match(au x1.1 6 (w.1,true))with
 |none=>none
 |some y=>(
 let o:=y.2.1
 match(au x1.2 1 o)with
 |none=>none
 |some y1=>(
 let o1:=y1.2.1
 match(bC x2 o1)with
 |none=>none
 |some y2=>(
 let o2:=y2.2.1
 match(bC r o2)with
 |none=>none
 |some y3=>(
 let o3:=y3.2.1
 match(au ((nx1:Nat):Int) 1 o3)with
 |none=>none
 |some y4=>(
 let o4:=y4.2.1
 match(aj bn (((),((),(0,()))),(o4,((x1,(x2,((nx,x3),((nx1,x4),x5)))),()))))with
 |none=>none
 |some y5=>(
 let w1:=y5.2.1
 let x6:=y5.2.2.1.1
 let x7:=y5.2.2.1.2.1
 let nx2:=y5.2.2.1.2.2.1.1
 let x8:=y5.2.2.1.2.2.1.2
 let nx3:=y5.2.2.1.2.2.2.1.1
 let x9:=y5.2.2.1.2.2.2.1.2
 let x10:=y5.2.2.1.2.2.2.2
 match(au x10 4 w1)with
 |none=>none
 |some y6=>(
 let o5:=y6.2.1
 some ((),(o5,()))))))))))
 else(
 match(au x1.1 6 w)with
 |none=>none
 |some y7=>(
 let o6:=y7.2.1
 match(au x1.2 1 o6)with
 |none=>none
 |some y8=>(
 let o7:=y8.2.1
 match(bC x2 o7)with
 |none=>none
 |some y9=>(
 let o8:=y9.2.1
 match(bC r o8)with
 |none=>none
 |some y10=>(
 let o9:=y10.2.1
 match(au ((nx1:Nat):Int) 1 o9)with
 |none=>none
 |some y11=>(
 let o10:=y11.2.1
 match(aj bn (((),((),(0,()))),(o10,((x1,(x2,((nx,x3),((nx1,x4),x5)))),()))))with
 |none=>none
 |some y12=>(
 let w2:=y12.2.1
 let x11:=y12.2.2.1.1
 let x12:=y12.2.2.1.2.1
 let nx4:=y12.2.2.1.2.2.1.1
 let x13:=y12.2.2.1.2.2.1.2
 let nx5:=y12.2.2.1.2.2.2.1.1
 let x14:=y12.2.2.1.2.2.2.1.2
 let x15:=y12.2.2.1.2.2.2.2
 match(au x15 4 w2)with
 |none=>none
 |some y13=>(
 let o11:=y13.2.1
 some ((),(o11,())))))))))))
 else(
 match(au x1.1 6 w)with
 |none=>none
 |some y14=>(
 let o12:=y14.2.1
 match(au x1.2 1 o12)with
 |none=>none
 |some y15=>(
 let o13:=y15.2.1
 match(bC x2 o13)with
 |none=>none
 |some y16=>(
 let o14:=y16.2.1
 match(bC r o14)with
 |none=>none
 |some y17=>(
 let o15:=y17.2.1
 match(au ((nx1:Nat):Int) 1 o15)with
 |none=>none
 |some y18=>(
 let o16:=y18.2.1
 match(aj bn (((),((),(0,()))),(o16,((x1,(x2,((nx,x3),((nx1,x4),x5)))),()))))with
 |none=>none
 |some y19=>(
 let w3:=y19.2.1
 let x16:=y19.2.2.1.1
 let x17:=y19.2.2.1.2.1
 let nx6:=y19.2.2.1.2.2.1.1
 let x18:=y19.2.2.1.2.2.1.2
 let nx7:=y19.2.2.1.2.2.2.1.1
 let x19:=y19.2.2.1.2.2.2.1.2
 let x20:=y19.2.2.1.2.2.2.2
 match(au x20 4 w3)with
 |none=>none
 |some y20=>(
 let o17:=y20.2.1
 some ((),(o17,())))))))))))
noncomputable def bP:=veil lF
theorem uS:bP=lF:=ak _
abbrev ng(nl:Nat)(l:Nat→VO)(i:Int)(w:(ByteArray×Bool)):=(((),((nl,l),(i,()))),(w,()))
abbrev qI(w:(ByteArray×Bool)):=(((),()),(w,()))
abbrev uo:Type:=((Unit×((Nat×(Nat→VO))×(Int×Unit)))×((ByteArray×Bool)×Unit))
noncomputable def bW:uo→Option (uo⊕((Unit×Unit)×((ByteArray×Bool)×Unit))):=fun x=>
 let nl:=x.1.2.1.1
 let l:=x.1.2.1.2
 let i:=x.1.2.2.1
 let w:=x.2.1
 bif (decide (i<((nl:Nat):Int)))then(
 bif (inb i nl)then(
 match(au (l (Int.toNat i)).1 1 w)with
 |none=>none
 |some y=>(
 let o:=y.2.1
 bif (inb i nl)then(
 match(au (l (Int.toNat i)).2.1.1 6 o)with
 |none=>none
 |some y1=>(
 let o1:=y1.2.1
 bif (inb i nl)then(
 match(au (l (Int.toNat i)).2.1.2 1 o1)with
 |none=>none
 |some y2=>(
 let o2:=y2.2.1
 bif (inb i nl)then(
 match(bC (l (Int.toNat i)).2.2 o2)with
 |none=>none
 |some y3=>(
 let o3:=y3.2.1
 some (.inl (((),((nl,l),((i64.wrap (i+1)),()))),(o3,())))))
 else(
 none)))
 else(
 none)))
 else(
 none)))
 else(
 none))
 else(
 some (.inr (((),()),(w,()))))
noncomputable def lG(nl:Nat)(l:Nat→VO)(w:(ByteArray×Bool)):Option ((Unit×((ByteArray×Bool)×Unit))):=
 match(au ((nl:Nat):Int) 2 w)with
 |none=>none
 |some y=>(
 let o:=y.2.1
 match(aj bW (((),((nl,l),(0,()))),(o,())))with
 |none=>none
 |some y1=>(
 let w1:=y1.2.1
 some ((),(w1,()))))
noncomputable def jI:=veil lG
theorem uT:jI=lG:=ak _
abbrev Gt(i:Int)(x1:Int)(x2:Int)(x3:Int)(nx:Nat)(x4:NI)(nx1:Nat)(x5:Nat→RE)(w:(ByteArray×Bool)):=(((),((),(i,()))),((x1,(x2,(x3,((nx,x4),(nx1,x5))))),(w,())))
abbrev Jh(x1:Int)(x2:Int)(x3:Int)(nx:Nat)(x4:NI)(nx1:Nat)(x5:Nat→RE)(w:(ByteArray×Bool)):=(((),((),())),((x1,(x2,(x3,((nx,x4),(nx1,x5))))),(w,())))
abbrev Ov:Type:=((Unit×(Unit×(Int×Unit)))×(IM×((ByteArray×Bool)×Unit)))
noncomputable def mG:Ov→Option (Ov⊕((Unit×(Unit×Unit))×(IM×((ByteArray×Bool)×Unit)))):=fun x=>
 let i:=x.1.2.2.1
 let x1:=x.2.1.1
 let x2:=x.2.1.2.1
 let x3:=x.2.1.2.2.1
 let nx:=x.2.1.2.2.2.1.1
 let x4:=x.2.1.2.2.2.1.2
 let nx1:=x.2.1.2.2.2.2.1
 let x5:=x.2.1.2.2.2.2.2
 let w:=x.2.2.1
 bif (decide (i<((nx:Nat):Int)))then(
 bif (inb i nx)then(
 match(au (x4 (Int.toNat i)) 2 w)with
 |none=>none
 |some y=>(
 let o:=y.2.1
 some (.inl (((),((),((i64.wrap (i+1)),()))),((x1,(x2,(x3,((nx,x4),(nx1,x5))))),(o,()))))))
 else(
 none))
 else(
 some (.inr (((),((),())),((x1,(x2,(x3,((nx,x4),(nx1,x5))))),(w,())))))
abbrev wS(i:Int)(k:Int)(x1:Int)(x2:Int)(x3:Int)(nx:Nat)(x4:NI)(nx1:Nat)(x5:Nat→RE)(w:(ByteArray×Bool))(r:ByteArray)(r1:(Int×Int))(r2:ByteArray)(nr:Nat)(r3:Nat→(SlV NI))(nr1:Nat)(r4:Nat→NI)(r5:Int)(nr2:Nat)(r6:Nat→VO)(nr3:Nat)(r7:Nat→VO)(nr4:Nat)(r8:Nat→TO):=(((),((),(i,((),(k,()))))),((x1,(x2,(x3,((nx,x4),(nx1,x5))))),(w,((r,((r1,(r2,((nr,r3),((nr1,r4),r5)))),((nr2,r6),((nr3,r7),(nr4,r8))))),()))))
abbrev Ji(i:Int)(x1:Int)(x2:Int)(x3:Int)(nx:Nat)(x4:NI)(nx1:Nat)(x5:Nat→RE)(w:(ByteArray×Bool)):=(((),((),(i,()))),((x1,(x2,(x3,((nx,x4),(nx1,x5))))),(w,())))
abbrev Ow:Type:=((Unit×(Unit×(Int×(Unit×(Int×Unit)))))×(IM×((ByteArray×Bool)×(RA×Unit))))
noncomputable def mH:Ow→Option (Ow⊕((Unit×(Unit×(Int×Unit)))×(IM×((ByteArray×Bool)×Unit)))):=fun x=>
 let i:=x.1.2.2.1
 let k:=x.1.2.2.2.2.1
 let x1:=x.2.1.1
 let x2:=x.2.1.2.1
 let x3:=x.2.1.2.2.1
 let nx:=x.2.1.2.2.2.1.1
 let x4:=x.2.1.2.2.2.1.2
 let nx1:=x.2.1.2.2.2.2.1
 let x5:=x.2.1.2.2.2.2.2
 let w:=x.2.2.1
 let r:=x.2.2.2.1.1
 let r1:=x.2.2.2.1.2.1.1
 let r2:=x.2.2.2.1.2.1.2.1
 let nr:=x.2.2.2.1.2.1.2.2.1.1
 let r3:=x.2.2.2.1.2.1.2.2.1.2
 let nr1:=x.2.2.2.1.2.1.2.2.2.1.1
 let r4:=x.2.2.2.1.2.1.2.2.2.1.2
 let r5:=x.2.2.2.1.2.1.2.2.2.2
 let nr2:=x.2.2.2.1.2.2.1.1
 let r6:=x.2.2.2.1.2.2.1.2
 let nr3:=x.2.2.2.1.2.2.2.1.1
 let r7:=x.2.2.2.1.2.2.2.1.2
 let nr4:=x.2.2.2.1.2.2.2.2.1
 let r8:=x.2.2.2.1.2.2.2.2.2
 bif (decide (k<((nr4:Nat):Int)))then(
 bif (inb k nr4)then(
 bif (SlV.isMs (r8 (Int.toNat k)).1.2.2.1)then(
 none)
 else(
 bif (SlV.isMs (r8 (Int.toNat k)).1.2.2.2.1)then(
 none)
 else(
 bif (SlV.isMs (r8 (Int.toNat k)).2.1.2.2.1)then(
 none)
 else(
 bif (SlV.isMs (r8 (Int.toNat k)).2.1.2.2.2.1)then(
 none)
 else(
 bif (SlV.isMs (r8 (Int.toNat k)).2.2.1.2.2.1)then(
 none)
 else(
 bif (SlV.isMs (r8 (Int.toNat k)).2.2.1.2.2.2.1)then(
 none)
 else(
 match(bP (r8 (Int.toNat k)).1.1 (r8 (Int.toNat k)).1.2.1 (SlV.len (r8 (Int.toNat k)).1.2.2.1) (SlV.fn (.nil:(SlV NI)) (r8 (Int.toNat k)).1.2.2.1) (SlV.len (r8 (Int.toNat k)).1.2.2.2.1) (SlV.fn ((fun _=>0):NI) (r8 (Int.toNat k)).1.2.2.2.1) (r8 (Int.toNat k)).1.2.2.2.2 w)with
 |none=>none
 |some y=>(
 let o:=y.2.1
 match(bP (r8 (Int.toNat k)).2.1.1 (r8 (Int.toNat k)).2.1.2.1 (SlV.len (r8 (Int.toNat k)).2.1.2.2.1) (SlV.fn (.nil:(SlV NI)) (r8 (Int.toNat k)).2.1.2.2.1) (SlV.len (r8 (Int.toNat k)).2.1.2.2.2.1) (SlV.fn ((fun _=>0):NI) (r8 (Int.toNat k)).2.1.2.2.2.1) (r8 (Int.toNat k)).2.1.2.2.2.2 o)with
 |none=>none
 |some y1=>(
 let o1:=y1.2.1
 match(bP (r8 (Int.toNat k)).2.2.1.1 (r8 (Int.toNat k)).2.2.1.2.1 (SlV.len (r8 (Int.toNat k)).2.2.1.2.2.1) (SlV.fn (.nil:(SlV NI)) (r8 (Int.toNat k)).2.2.1.2.2.1) (SlV.len (r8 (Int.toNat k)).2.2.1.2.2.2.1) (SlV.fn ((fun _=>0):NI) (r8 (Int.toNat k)).2.2.1.2.2.2.1) (r8 (Int.toNat k)).2.2.1.2.2.2.2 o1)with
 |none=>none
 |some y2=>(
 let o2:=y2.2.1
 match(au (r8 (Int.toNat k)).2.2.2.1 4 o2)with
 |none=>none
 |some y3=>(
 let o3:=y3.2.1
 match(au (r8 (Int.toNat k)).2.2.2.2 4 o3)with
 |none=>none
 |some y4=>(
 let o4:=y4.2.1
 some (.inl (((),((),(i,((),((i64.wrap (k+1)),()))))),((x1,(x2,(x3,((nx,x4),(nx1,x5))))),(o4,((r,((r1,(r2,((nr,r3),((nr1,r4),r5)))),((nr2,r6),((nr3,r7),(nr4,r8))))),())))))))))))))))))
 else(
 none))
 else(
 some (.inr (((),((),(i,()))),((x1,(x2,(x3,((nx,x4),(nx1,x5))))),(w,())))))
abbrev Gu(i:Int)(x1:Int)(x2:Int)(x3:Int)(nx:Nat)(x4:NI)(nx1:Nat)(x5:Nat→RE)(w:(ByteArray×Bool)):=(((),((),(i,()))),((x1,(x2,(x3,((nx,x4),(nx1,x5))))),(w,())))
abbrev Jj(w:(ByteArray×Bool)):=(((),()),(w,()))
abbrev Ox:Type:=((Unit×(Unit×(Int×Unit)))×(IM×((ByteArray×Bool)×Unit)))
noncomputable def mI:Ox→Option (Ox⊕((Unit×Unit)×((ByteArray×Bool)×Unit))):=fun x=>
 let i:=x.1.2.2.1
 let x1:=x.2.1.1
 let x2:=x.2.1.2.1
 let x3:=x.2.1.2.2.1
 let nx:=x.2.1.2.2.2.1.1
 let x4:=x.2.1.2.2.2.1.2
 let nx1:=x.2.1.2.2.2.2.1
 let x5:=x.2.1.2.2.2.2.2
 let w:=x.2.2.1
 bif (decide (i<((nx1:Nat):Int)))then(
 bif (inb i nx1)then(
 bif (SlV.isMs (x5 (Int.toNat i)).2.1.2.2.1)then(
 none)
 else(
 bif (SlV.isMs (x5 (Int.toNat i)).2.1.2.2.2.1)then(
 none)
 else(
 bif (SlV.isMs (x5 (Int.toNat i)).2.2.1)then(
 none)
 else(
 bif (SlV.isMs (x5 (Int.toNat i)).2.2.2.1)then(
 none)
 else(
 bif (SlV.isMs (x5 (Int.toNat i)).2.2.2.2)then(
 none)
 else(
 match(bC (x5 (Int.toNat i)).1 w)with
 |none=>none
 |some y=>(
 let o:=y.2.1
 match(bP (x5 (Int.toNat i)).2.1.1 (x5 (Int.toNat i)).2.1.2.1 (SlV.len (x5 (Int.toNat i)).2.1.2.2.1) (SlV.fn (.nil:(SlV NI)) (x5 (Int.toNat i)).2.1.2.2.1) (SlV.len (x5 (Int.toNat i)).2.1.2.2.2.1) (SlV.fn ((fun _=>0):NI) (x5 (Int.toNat i)).2.1.2.2.2.1) (x5 (Int.toNat i)).2.1.2.2.2.2 o)with
 |none=>none
 |some y1=>(
 let o1:=y1.2.1
 match(jI (SlV.len (x5 (Int.toNat i)).2.2.1) (SlV.fn (zV:VO) (x5 (Int.toNat i)).2.2.1) o1)with
 |none=>none
 |some y2=>(
 let o2:=y2.2.1
 match(jI (SlV.len (x5 (Int.toNat i)).2.2.2.1) (SlV.fn (zV:VO) (x5 (Int.toNat i)).2.2.2.1) o2)with
 |none=>none
 |some y3=>(
 let o3:=y3.2.1
 match(au (((SlV.len (x5 (Int.toNat i)).2.2.2.2):Nat):Int) 1 o3)with
 |none=>none
 |some y4=>(
 let o4:=y4.2.1
 match(aj mH (((),((),(i,((),(0,()))))),((x1,(x2,(x3,((nx,x4),(nx1,x5))))),(o4,(((x5 (Int.toNat i)).1,(((x5 (Int.toNat i)).2.1.1,((x5 (Int.toNat i)).2.1.2.1,(((SlV.len (x5 (Int.toNat i)).2.1.2.2.1),(SlV.fn (.nil:(SlV NI)) (x5 (Int.toNat i)).2.1.2.2.1)),(((SlV.len (x5 (Int.toNat i)).2.1.2.2.2.1),(SlV.fn ((fun _=>0):NI) (x5 (Int.toNat i)).2.1.2.2.2.1)),(x5 (Int.toNat i)).2.1.2.2.2.2)))),(((SlV.len (x5 (Int.toNat i)).2.2.1),(SlV.fn (zV:VO) (x5 (Int.toNat i)).2.2.1)),(((SlV.len (x5 (Int.toNat i)).2.2.2.1),(SlV.fn (zV:VO) (x5 (Int.toNat i)).2.2.2.1)),((SlV.len (x5 (Int.toNat i)).2.2.2.2),(SlV.fn (zT:TO) (x5 (Int.toNat i)).2.2.2.2)))))),())))))with
 |none=>none
 |some y5=>(
 let i1:=y5.1.2.2.1
 let x6:=y5.2.1.1
 let x7:=y5.2.1.2.1
 let x8:=y5.2.1.2.2.1
 let nx2:=y5.2.1.2.2.2.1.1
 let x9:=y5.2.1.2.2.2.1.2
 let nx3:=y5.2.1.2.2.2.2.1
 let x10:=y5.2.1.2.2.2.2.2
 let w1:=y5.2.2.1
 some (.inl (((),((),((i64.wrap (i1+1)),()))),((x6,(x7,(x8,((nx2,x9),(nx3,x10))))),(w1,()))))))))))))))))
 else(
 none))
 else(
 some (.inr (((),()),(w,()))))
noncomputable def LD(x:IM):Option (ByteArray×Int):=
 match(au x.1 1 (ByteArray.empty,false))with
 |none=>none
 |some y=>(
 let o:=y.2.1
 match(au x.2.1 1 o)with
 |none=>none
 |some y1=>(
 let o1:=y1.2.1
 match(au x.2.2.1 1 o1)with
 |none=>none
 |some y2=>(
 let o2:=y2.2.1
 match(au ((x.2.2.2.1.1:Nat):Int) 1 o2)with
 |none=>none
 |some y3=>(
 let o3:=y3.2.1
 match(aj mG (((),((),(0,()))),((x.1,(x.2.1,(x.2.2.1,((x.2.2.2.1.1,x.2.2.2.1.2),(x.2.2.2.2.1,x.2.2.2.2.2))))),(o3,()))))with
 |none=>none
 |some y4=>(
 let x1:=y4.2.1.1
 let x2:=y4.2.1.2.1
 let x3:=y4.2.1.2.2.1
 let nx:=y4.2.1.2.2.2.1.1
 let x4:=y4.2.1.2.2.2.1.2
 let nx1:=y4.2.1.2.2.2.2.1
 let x5:=y4.2.1.2.2.2.2.2
 let w:=y4.2.2.1
 match(au ((nx1:Nat):Int) 2 w)with
 |none=>none
 |some y5=>(
 let o4:=y5.2.1
 match(aj mI (((),((),(0,()))),((x1,(x2,(x3,((nx,x4),(nx1,x5))))),(o4,()))))with
 |none=>none
 |some y6=>(
 let w1:=y6.2.1
 bif w1.2 then(
 some ((ByteArray.mk #[]),1))
 else(
 some (w1.1,0)))))))))
noncomputable def LG:=veil LD
theorem Ri:LG=LD:=ak _
noncomputable def ni(n:Int)(r:(ByteArray×(Int×Bool))):Option (((ByteArray×Unit)×((ByteArray×(Int×Bool))×Unit))):=
 bif r.2.2 then(
 some (((ByteArray.mk #[]),()),((r.1,(r.2.1,true)),())))
 else(
 bif (decide (n>(i64.wrap ((((ByteArray.size r.1):Nat):Int)-r.2.1))))then(
 some (((ByteArray.mk #[]),()),((r.1,(r.2.1,true)),())))
 else(
 bif ((decide (0≤(i64.wrap (r.2.1+n))))&&(decide ((i64.wrap (r.2.1+n))≤(((ByteArray.size r.1):Nat):Int))))then(
 bif ((decide (0≤(i64.wrap ((i64.wrap (r.2.1+n))-n))))&&(decide ((i64.wrap ((i64.wrap (r.2.1+n))-n))≤(((Int.toNat (i64.wrap (r.2.1+n))):Nat):Int))))then(
 let t:=(ByteArray.extract r.1 (Int.toNat (i64.wrap ((i64.wrap (r.2.1+n))-n))) (Int.toNat (i64.wrap (r.2.1+n))))
 some ((t,()),((r.1,((i64.wrap (r.2.1+n)),r.2.2)),())))
 else(
 none))
 else(
 none)))
noncomputable def kQ:=veil ni
theorem wT:kQ=ni:=ak _
abbrev pF(s:ByteArray)(n:Int)(i:Int)(r:(ByteArray×(Int×Bool))):=(((),(s,(n,(i,())))),(r,()))
abbrev uq(n:Int)(r:(ByteArray×(Int×Bool))):=(((),(n,())),(r,()))
abbrev wU:Type:=((Unit×(ByteArray×(Int×(Int×Unit))))×((ByteArray×(Int×Bool))×Unit))
noncomputable def dB:wU→Option (wU⊕((Unit×(Int×Unit))×((ByteArray×(Int×Bool))×Unit))):=fun x=>
 let s:=x.1.2.1
 let n:=x.1.2.2.1
 let i:=x.1.2.2.2.1
 let r:=x.2.1
 bif (decide (i<(((ByteArray.size s):Nat):Int)))then(
 bif (inb i (ByteArray.size s))then(
 let t:=(aA .or .i64 (iK .i64 n 8) (i64.wrap (((UInt8.toNat (List.getD (Array.toList (ByteArray.data s)) (Int.toNat i) 0)):Nat):Int)))
 some (.inl (((),(s,(t,((i64.wrap (i+1)),())))),(r,()))))
 else(
 none))
 else(
 some (.inr (((),(n,())),(r,()))))
noncomputable def oH(bytes:Int)(r:(ByteArray×(Int×Bool))):Option (((Int×Unit)×((ByteArray×(Int×Bool))×Unit))):=
 match(kQ bytes r)with
 |none=>none
 |some y=>(
 let r1:=y.1.1
 let o:=y.2.1
 match(aj dB (((),(r1,(0,(0,())))),(o,())))with
 |none=>none
 |some y1=>(
 let n:=y1.1.2.1
 let r2:=y1.2.1
 some ((n,()),(r2,()))))
noncomputable def aH:=veil oH
theorem xY:aH=oH:=ak _
noncomputable def nk(r:(ByteArray×(Int×Bool))):Option (((ByteArray×Unit)×((ByteArray×(Int×Bool))×Unit))):=
 match(aH 2 r)with
 |none=>none
 |some y=>(
 let r1:=y.1.1
 let o:=y.2.1
 match(kQ r1 o)with
 |none=>none
 |some y1=>(
 let r2:=y1.1.1
 let o1:=y1.2.1
 some ((r2,()),(o1,()))))
noncomputable def eY:=veil nk
theorem wV:eY=nk:=ak _
abbrev gG(n:Int)(i:Int)(r:(ByteArray×(Int×Bool)))(t:(Int×Int))(t1:ByteArray)(nt:Nat)(t2:Nat→(SlV NI))(nt1:Nat)(t3:Nat→NI)(t4:Int)(x1:(Int×Int))(x2:ByteArray)(nx:Nat)(x3:Nat→(SlV NI))(nx1:Nat)(x4:Nat→NI)(x5:Int):=(((),((),((),(n,(i,()))))),(r,((t,(t1,((nt,t2),((nt1,t3),t4)))),((x1,(x2,((nx,x3),((nx1,x4),x5)))),()))))
abbrev qJ(r:(ByteArray×(Int×Bool)))(t:(Int×Int))(t1:ByteArray)(nt:Nat)(t2:Nat→(SlV NI))(nt1:Nat)(t3:Nat→NI)(t4:Int)(x1:(Int×Int))(x2:ByteArray)(nx:Nat)(x3:Nat→(SlV NI))(nx1:Nat)(x4:Nat→NI)(x5:Int):=(((),((),((),()))),(r,((t,(t1,((nt,t2),((nt1,t3),t4)))),((x1,(x2,((nx,x3),((nx1,x4),x5)))),()))))
abbrev uw:Type:=((Unit×(Unit×(Unit×(Int×(Int×Unit)))))×((ByteArray×(Int×Bool))×(GA×(GA×Unit))))
noncomputable def aX:uw→Option (uw⊕((Unit×(Unit×(Unit×Unit)))×((ByteArray×(Int×Bool))×(GA×(GA×Unit))))):=fun x=>
 let n:=x.1.2.2.2.1
 let i:=x.1.2.2.2.2.1
 let r:=x.2.1
 let t:=x.2.2.1.1
 let t1:=x.2.2.1.2.1
 let nt:=x.2.2.1.2.2.1.1
 let t2:=x.2.2.1.2.2.1.2
 let nt1:=x.2.2.1.2.2.2.1.1
 let t3:=x.2.2.1.2.2.2.1.2
 let t4:=x.2.2.1.2.2.2.2
 let x1:=x.2.2.2.1.1
 let x2:=x.2.2.2.1.2.1
 let nx:=x.2.2.2.1.2.2.1.1
 let x3:=x.2.2.2.1.2.2.1.2
 let nx1:=x.2.2.2.1.2.2.2.1.1
 let x4:=x.2.2.2.1.2.2.2.1.2
 let x5:=x.2.2.2.1.2.2.2.2
 bif (decide (i<n))then(
 bif (!r.2.2)then(
 match(eY r)with
 |none=>none
 |some y=>(
 let r1:=y.1.1
 let o:=y.2.1
 match(FR r1)with
 |none=>none
 |some r2=>(
 bif o.2.2 then(
 bif ((Nat.ble ((nx1+1)*32) 140737488355328)&&(Nat.ble (nx1+1) 9223372036854775807))then(
 some (.inl (((),((),((),(n,((i64.wrap (i+1)),()))))),((o.1,(o.2.1,true)),((t,(t1,((nt,t2),((nt1,t3),t4)))),((x1,(x2,((nx,x3),(((nx1+1),(glue nx1 x4 (fun j=>(upd (fun _=>(fun _=>0)) 0 r2.1) (0+j)))),x5)))),()))))))
 else(
 none))
 else(
 bif ((Nat.ble ((nx1+1)*32) 140737488355328)&&(Nat.ble (nx1+1) 9223372036854775807))then(
 some (.inl (((),((),((),(n,((i64.wrap (i+1)),()))))),((o.1,(o.2.1,(r2.2 !=0))),((t,(t1,((nt,t2),((nt1,t3),t4)))),((x1,(x2,((nx,x3),(((nx1+1),(glue nx1 x4 (fun j=>(upd (fun _=>(fun _=>0)) 0 r2.1) (0+j)))),x5)))),()))))))
 else(
 none)))))
 else(
 some (.inr (((),((),((),()))),(r,((t,(t1,((nt,t2),((nt1,t3),t4)))),((x1,(x2,((nx,x3),((nx1,x4),x5)))),())))))))
 else(
 some (.inr (((),((),((),()))),(r,((t,(t1,((nt,t2),((nt1,t3),t4)))),((x1,(x2,((nx,x3),((nx1,x4),x5)))),()))))))
noncomputable def lH(r:(ByteArray×(Int×Bool))):Option (((GA×Unit)×((ByteArray×(Int×Bool))×Unit))):=
 match(aH 6 r)with
 |none=>none
 |some y=>(
 let r1:=y.1.1
 let o:=y.2.1
 match(aH 1 o)with
 |none=>none
 |some y1=>(
 let r2:=y1.1.1
 let o1:=y1.2.1
 match(eY o1)with
 |none=>none
 |some y2=>(
 let r3:=y2.1.1
 let o2:=y2.2.1
 match(eY o2)with
 |none=>none
 |some y3=>(
 let r4:=y3.1.1
 let o3:=y3.2.1
 bif (!(sEq r4 (ByteArray.mk #[])))then(
 match(Lx r4)with
 |none=>none
 |some r5=>(
 bif o3.2.2 then(
 match(aH 1 (o3.1,(o3.2.1,true)))with
 |none=>none
 |some y4=>(
 let r6:=y4.1.1
 let o4:=y4.2.1
 match(aj aX (((),((),((),(r6,(0,()))))),(o4,(((0,0),(ByteArray.empty,((0,(fun _=>.nil)),((0,(fun _=>(fun _=>0))),0)))),(((r1,r2),(r3,((r5.1.1,r5.1.2),((0,(fun _=>(fun _=>0))),0)))),())))))with
 |none=>none
 |some y5=>(
 let r7:=y5.2.1
 let t:=y5.2.2.1.1
 let t1:=y5.2.2.1.2.1
 let nt:=y5.2.2.1.2.2.1.1
 let t2:=y5.2.2.1.2.2.1.2
 let nt1:=y5.2.2.1.2.2.2.1.1
 let t3:=y5.2.2.1.2.2.2.1.2
 let t4:=y5.2.2.1.2.2.2.2
 let x1:=y5.2.2.2.1.1
 let x2:=y5.2.2.2.1.2.1
 let nx:=y5.2.2.2.1.2.2.1.1
 let x3:=y5.2.2.2.1.2.2.1.2
 let nx1:=y5.2.2.2.1.2.2.2.1.1
 let x4:=y5.2.2.2.1.2.2.2.1.2
 let x5:=y5.2.2.2.1.2.2.2.2
 match(aH 4 r7)with
 |none=>none
 |some y6=>(
 let r8:=y6.1.1
 let o5:=y6.2.1
 some (((x1,(x2,((nx,x3),((nx1,(fun j=>x4 (0+j))),r8)))),()),(o5,()))))))
 else(
 match(aH 1 (o3.1,(o3.2.1,(r5.2 !=0))))with
 |none=>none
 |some y7=>(
 let r9:=y7.1.1
 let o6:=y7.2.1
 match(aj aX (((),((),((),(r9,(0,()))))),(o6,(((0,0),(ByteArray.empty,((0,(fun _=>.nil)),((0,(fun _=>(fun _=>0))),0)))),(((r1,r2),(r3,((r5.1.1,r5.1.2),((0,(fun _=>(fun _=>0))),0)))),())))))with
 |none=>none
 |some y8=>(
 let r10:=y8.2.1
 let t5:=y8.2.2.1.1
 let t6:=y8.2.2.1.2.1
 let nt2:=y8.2.2.1.2.2.1.1
 let t7:=y8.2.2.1.2.2.1.2
 let nt3:=y8.2.2.1.2.2.2.1.1
 let t8:=y8.2.2.1.2.2.2.1.2
 let t9:=y8.2.2.1.2.2.2.2
 let x6:=y8.2.2.2.1.1
 let x7:=y8.2.2.2.1.2.1
 let nx2:=y8.2.2.2.1.2.2.1.1
 let x8:=y8.2.2.2.1.2.2.1.2
 let nx3:=y8.2.2.2.1.2.2.2.1.1
 let x9:=y8.2.2.2.1.2.2.2.1.2
 let x10:=y8.2.2.2.1.2.2.2.2
 match(aH 4 r10)with
 |none=>none
 |some y9=>(
 let r11:=y9.1.1
 let o7:=y9.2.1
 some (((x6,(x7,((nx2,x8),((nx3,(fun j=>x9 (0+j))),r11)))),()),(o7,()))))))))
 else(
 match(aH 1 o3)with
 |none=>none
 |some y10=>(
 let r12:=y10.1.1
 let o8:=y10.2.1
 match(aj aX (((),((),((),(r12,(0,()))))),(o8,(((0,0),(ByteArray.empty,((0,(fun _=>.nil)),((0,(fun _=>(fun _=>0))),0)))),(((r1,r2),(r3,((0,(fun _=>.nil)),((0,(fun _=>(fun _=>0))),0)))),())))))with
 |none=>none
 |some y11=>(
 let r13:=y11.2.1
 let t10:=y11.2.2.1.1
 let t11:=y11.2.2.1.2.1
 let nt4:=y11.2.2.1.2.2.1.1
 let t12:=y11.2.2.1.2.2.1.2
 let nt5:=y11.2.2.1.2.2.2.1.1
 let t13:=y11.2.2.1.2.2.2.1.2
 let t14:=y11.2.2.1.2.2.2.2
 let x11:=y11.2.2.2.1.1
 let x12:=y11.2.2.2.1.2.1
 let nx4:=y11.2.2.2.1.2.2.1.1
 let x13:=y11.2.2.2.1.2.2.1.2
 let nx5:=y11.2.2.2.1.2.2.2.1.1
 let x14:=y11.2.2.2.1.2.2.2.1.2
 let x15:=y11.2.2.2.1.2.2.2.2
 match(aH 4 r13)with
 |none=>none
 |some y12=>(
 let r14:=y12.1.1
 let o9:=y12.2.1
 some (((x11,(x12,((nx4,x13),((nx5,(fun j=>x14 (0+j))),r14)))),()),(o9,()))))))))))
noncomputable def fF:=veil lH
theorem uU:fF=lH:=ak _
abbrev gH(nout:Nat)(out:Nat→VO)(n:Int)(i:Int)(r:(ByteArray×(Int×Bool))):=(((),((nout,out),(n,(i,())))),(r,()))
abbrev BM(nout:Nat)(out:Nat→VO)(r:(ByteArray×(Int×Bool))):=(((),((nout,out),())),(r,()))
abbrev uz:Type:=((Unit×((Nat×(Nat→VO))×(Int×(Int×Unit))))×((ByteArray×(Int×Bool))×Unit))
noncomputable def bD:uz→Option (uz⊕((Unit×((Nat×(Nat→VO))×Unit))×((ByteArray×(Int×Bool))×Unit))):=fun x=>
 let nout:=x.1.2.1.1
 let out:=x.1.2.1.2
 let n:=x.1.2.2.1
 let i:=x.1.2.2.2.1
 let r:=x.2.1
 bif (decide (i<n))then(
 bif (!r.2.2)then(
 match(aH 1 r)with
 |none=>none
 |some y=>(
 let r1:=y.1.1
 let o:=y.2.1
 match(aH 6 o)with
 |none=>none
 |some y1=>(
 let r2:=y1.1.1
 let o1:=y1.2.1
 match(aH 1 o1)with
 |none=>none
 |some y2=>(
 let r3:=y2.1.1
 let o2:=y2.2.1
 match(eY o2)with
 |none=>none
 |some y3=>(
 let r4:=y3.1.1
 let o3:=y3.2.1
 bif ((Nat.ble ((nout+1)*40) 140737488355328)&&(Nat.ble (nout+1) 9223372036854775807))then(
 some (.inl (((),(((nout+1),(glue nout out (fun j=>(upd (fun _=>zV) 0 (r1,((r2,r3),r4))) (0+j)))),(n,((i64.wrap (i+1)),())))),(o3,()))))
 else(
 none))))))
 else(
 some (.inr (((),((nout,out),())),(r,())))))
 else(
 some (.inr (((),((nout,out),())),(r,()))))
noncomputable def lI(r:(ByteArray×(Int×Bool))):Option ((((Nat×(Nat→VO))×Unit)×((ByteArray×(Int×Bool))×Unit))):=
 match(aH 2 r)with
 |none=>none
 |some y=>(
 let r1:=y.1.1
 let o:=y.2.1
 match(aj bD (((),((0,(fun _=>zV)),(r1,(0,())))),(o,())))with
 |none=>none
 |some y1=>(
 let nout:=y1.1.2.1.1
 let out:=y1.1.2.1.2
 let r2:=y1.2.1
 some (((nout,(fun j=>out (0+j))),()),(r2,()))))
noncomputable def jJ:=veil lI
theorem uV:jJ=lI:=ak _
abbrev nA(s:ByteArray)(n:Int)(i:Int)(t:Int)(t1:Int)(t2:Int)(r:(ByteArray×(Int×Bool)))(x1:Int)(x2:Int)(x3:Int)(nx:Nat)(x4:NI):=((s,((),((),((),(n,(i,())))))),((t,(t1,(t2,((),())))),(r,((x1,(x2,(x3,((nx,x4),())))),()))))
abbrev Gv(s:ByteArray)(t:Int)(t1:Int)(t2:Int)(r:(ByteArray×(Int×Bool)))(x1:Int)(x2:Int)(x3:Int)(nx:Nat)(x4:NI):=((s,((),((),((),())))),((t,(t1,(t2,((),())))),(r,((x1,(x2,(x3,((nx,x4),())))),()))))
abbrev LH:Type:=((ByteArray×(Unit×(Unit×(Unit×(Int×(Int×Unit))))))×((Int×(Int×(Int×(Unit×Unit))))×((ByteArray×(Int×Bool))×((Int×(Int×(Int×((Nat×NI)×Unit))))×Unit))))
noncomputable def iG:LH→Option (LH⊕((ByteArray×(Unit×(Unit×(Unit×Unit))))×((Int×(Int×(Int×(Unit×Unit))))×((ByteArray×(Int×Bool))×((Int×(Int×(Int×((Nat×NI)×Unit))))×Unit))))):=fun x=>
 let s:=x.1.1
 let n:=x.1.2.2.2.2.1
 let i:=x.1.2.2.2.2.2.1
 let t:=x.2.1.1
 let t1:=x.2.1.2.1
 let t2:=x.2.1.2.2.1
 let r:=x.2.2.1
 let x1:=x.2.2.2.1.1
 let x2:=x.2.2.2.1.2.1
 let x3:=x.2.2.2.1.2.2.1
 let nx:=x.2.2.2.1.2.2.2.1.1
 let x4:=x.2.2.2.1.2.2.2.1.2
 bif (decide (i<n))then(
 bif (!r.2.2)then(
 match(aH 2 r)with
 |none=>none
 |some y=>(
 let r1:=y.1.1
 let o:=y.2.1
 bif ((Nat.ble ((nx+1)*8) 140737488355328)&&(Nat.ble (nx+1) 9223372036854775807))then(
 some (.inl ((s,((),((),((),(n,((i64.wrap (i+1)),())))))),((t,(t1,(t2,((),())))),(o,((x1,(x2,(x3,(((nx+1),(glue nx x4 (fun j=>(upd (fun _=>0) 0 r1) (0+j)))),())))),()))))))
 else(
 none)))
 else(
 some (.inr ((s,((),((),((),())))),((t,(t1,(t2,((),())))),(r,((x1,(x2,(x3,((nx,x4),())))),())))))))
 else(
 some (.inr ((s,((),((),((),())))),((t,(t1,(t2,((),())))),(r,((x1,(x2,(x3,((nx,x4),())))),()))))))
abbrev LJ:Type:=((ByteArray×(Unit×(Unit×(Unit×(Int×(Int×(Unit×(Int×(Int×Unit)))))))))×(IM×((ByteArray×(Int×Bool))×(IM×(RA×Unit)))))
noncomputable def iH:LJ→Option (LJ⊕((ByteArray×(Unit×(Unit×(Unit×(Int×(Int×(Unit×Unit)))))))×(IM×((ByteArray×(Int×Bool))×(IM×(RA×Unit)))))):=fun x=>
 let s:=x.1.1
 let m:=x.1.2.2.2.2.1
 let i:=x.1.2.2.2.2.2.1
 let c:=x.1.2.2.2.2.2.2.2.1
 let k:=x.1.2.2.2.2.2.2.2.2.1
 let t:=x.2.1.1
 let t1:=x.2.1.2.1
 let t2:=x.2.1.2.2.1
 let nt:=x.2.1.2.2.2.1.1
 let t3:=x.2.1.2.2.2.1.2
 let nt1:=x.2.1.2.2.2.2.1
 let t4:=x.2.1.2.2.2.2.2
 let r:=x.2.2.1
 let x1:=x.2.2.2.1.1
 let x2:=x.2.2.2.1.2.1
 let x3:=x.2.2.2.1.2.2.1
 let nx:=x.2.2.2.1.2.2.2.1.1
 let x4:=x.2.2.2.1.2.2.2.1.2
 let nx1:=x.2.2.2.1.2.2.2.2.1
 let x5:=x.2.2.2.1.2.2.2.2.2
 let y:=x.2.2.2.2.1.1
 let y1:=x.2.2.2.2.1.2.1.1
 let y2:=x.2.2.2.2.1.2.1.2.1
 let ny:=x.2.2.2.2.1.2.1.2.2.1.1
 let y3:=x.2.2.2.2.1.2.1.2.2.1.2
 let ny1:=x.2.2.2.2.1.2.1.2.2.2.1.1
 let y4:=x.2.2.2.2.1.2.1.2.2.2.1.2
 let y5:=x.2.2.2.2.1.2.1.2.2.2.2
 let ny2:=x.2.2.2.2.1.2.2.1.1
 let y6:=x.2.2.2.2.1.2.2.1.2
 let ny3:=x.2.2.2.2.1.2.2.2.1.1
 let y7:=x.2.2.2.2.1.2.2.2.1.2
 let ny4:=x.2.2.2.2.1.2.2.2.2.1
 let y8:=x.2.2.2.2.1.2.2.2.2.2
 bif (decide (k<c))then(
 bif (!r.2.2)then(
 match(fF r)with
 |none=>none
 |some y9=>(
 let r1:=y9.1.1.1
 let r2:=y9.1.1.2.1
 let nr:=y9.1.1.2.2.1.1
 let r3:=y9.1.1.2.2.1.2
 let nr1:=y9.1.1.2.2.2.1.1
 let r4:=y9.1.1.2.2.2.1.2
 let r5:=y9.1.1.2.2.2.2
 let o:=y9.2.1
 match(fF o)with
 |none=>none
 |some y10=>(
 let r6:=y10.1.1.1
 let r7:=y10.1.1.2.1
 let nr2:=y10.1.1.2.2.1.1
 let r8:=y10.1.1.2.2.1.2
 let nr3:=y10.1.1.2.2.2.1.1
 let r9:=y10.1.1.2.2.2.1.2
 let r10:=y10.1.1.2.2.2.2
 let o1:=y10.2.1
 match(fF o1)with
 |none=>none
 |some y11=>(
 let r11:=y11.1.1.1
 let r12:=y11.1.1.2.1
 let nr4:=y11.1.1.2.2.1.1
 let r13:=y11.1.1.2.2.1.2
 let nr5:=y11.1.1.2.2.2.1.1
 let r14:=y11.1.1.2.2.2.1.2
 let r15:=y11.1.1.2.2.2.2
 let o2:=y11.2.1
 match(aH 4 o2)with
 |none=>none
 |some y12=>(
 let r16:=y12.1.1
 let o3:=y12.2.1
 match(aH 4 o3)with
 |none=>none
 |some y13=>(
 let r17:=y13.1.1
 let o4:=y13.2.1
 bif ((Nat.ble ((ny4+1)*280) 140737488355328)&&(Nat.ble (ny4+1) 9223372036854775807))then(
 some (.inl ((s,((),((),((),(m,(i,((),(c,((i64.wrap (k+1)),()))))))))),((t,(t1,(t2,((nt,t3),(nt1,t4))))),(o4,((x1,(x2,(x3,((nx,x4),(nx1,x5))))),((y,((y1,(y2,((ny,y3),((ny1,y4),y5)))),((ny2,y6),((ny3,y7),((ny4+1),(glue ny4 y8 (fun j=>(upd (fun _=>zT) 0 ((r1,(r2,((.fz nr r3),((.fz nr1 r4),r5)))),((r6,(r7,((.fz nr2 r8),((.fz nr3 r9),r10)))),((r11,(r12,((.fz nr4 r13),((.fz nr5 r14),r15)))),(r16,r17))))) (0+j)))))))),())))))))
 else(
 none)))))))
 else(
 some (.inr ((s,((),((),((),(m,(i,((),()))))))),((t,(t1,(t2,((nt,t3),(nt1,t4))))),(r,((x1,(x2,(x3,((nx,x4),(nx1,x5))))),((y,((y1,(y2,((ny,y3),((ny1,y4),y5)))),((ny2,y6),((ny3,y7),(ny4,y8))))),()))))))))
 else(
 some (.inr ((s,((),((),((),(m,(i,((),()))))))),((t,(t1,(t2,((nt,t3),(nt1,t4))))),(r,((x1,(x2,(x3,((nx,x4),(nx1,x5))))),((y,((y1,(y2,((ny,y3),((ny1,y4),y5)))),((ny2,y6),((ny3,y7),(ny4,y8))))),())))))))
abbrev LK:Type:=((ByteArray×(Unit×(Unit×(Unit×(Int×(Int×Unit))))))×(IM×((ByteArray×(Int×Bool))×(IM×Unit))))
noncomputable def iI:LK→Option (LK⊕((ByteArray×(Unit×(Unit×(Unit×Unit))))×(IM×((ByteArray×(Int×Bool))×(IM×Unit))))):=fun x=>
 let s:=x.1.1
 let m:=x.1.2.2.2.2.1
 let i:=x.1.2.2.2.2.2.1
 let t:=x.2.1.1
 let t1:=x.2.1.2.1
 let t2:=x.2.1.2.2.1
 let nt:=x.2.1.2.2.2.1.1
 let t3:=x.2.1.2.2.2.1.2
 let nt1:=x.2.1.2.2.2.2.1
 let t4:=x.2.1.2.2.2.2.2
 let r:=x.2.2.1
 let x1:=x.2.2.2.1.1
 let x2:=x.2.2.2.1.2.1
 let x3:=x.2.2.2.1.2.2.1
 let nx:=x.2.2.2.1.2.2.2.1.1
 let x4:=x.2.2.2.1.2.2.2.1.2
 let nx1:=x.2.2.2.1.2.2.2.2.1
 let x5:=x.2.2.2.1.2.2.2.2.2
 bif (decide (i<m))then(
 bif (!r.2.2)then(
 match(eY r)with
 |none=>none
 |some y=>(
 let r1:=y.1.1
 let o:=y.2.1
 match(fF o)with
 |none=>none
 |some y1=>(
 let r2:=y1.1.1.1
 let r3:=y1.1.1.2.1
 let nr:=y1.1.1.2.2.1.1
 let r4:=y1.1.1.2.2.1.2
 let nr1:=y1.1.1.2.2.2.1.1
 let r5:=y1.1.1.2.2.2.1.2
 let r6:=y1.1.1.2.2.2.2
 let o1:=y1.2.1
 match(jJ o1)with
 |none=>none
 |some y2=>(
 let nr2:=y2.1.1.1
 let r7:=y2.1.1.2
 let o2:=y2.2.1
 match(jJ o2)with
 |none=>none
 |some y3=>(
 let nr3:=y3.1.1.1
 let r8:=y3.1.1.2
 let o3:=y3.2.1
 match(aH 1 o3)with
 |none=>none
 |some y4=>(
 let r9:=y4.1.1
 let o4:=y4.2.1
 match(aj iH ((s,((),((),((),(m,(i,((),(r9,(0,()))))))))),((t,(t1,(t2,((nt,t3),(nt1,t4))))),(o4,((x1,(x2,(x3,((nx,x4),(nx1,x5))))),((r1,((r2,(r3,((nr,r4),((nr1,r5),r6)))),((nr2,r7),((nr3,r8),(0,(fun _=>zT)))))),()))))))with
 |none=>none
 |some y5=>(
 let s1:=y5.1.1
 let m1:=y5.1.2.2.2.2.1
 let i1:=y5.1.2.2.2.2.2.1
 let t5:=y5.2.1.1
 let t6:=y5.2.1.2.1
 let t7:=y5.2.1.2.2.1
 let nt2:=y5.2.1.2.2.2.1.1
 let t8:=y5.2.1.2.2.2.1.2
 let nt3:=y5.2.1.2.2.2.2.1
 let t9:=y5.2.1.2.2.2.2.2
 let r10:=y5.2.2.1
 let x6:=y5.2.2.2.1.1
 let x7:=y5.2.2.2.1.2.1
 let x8:=y5.2.2.2.1.2.2.1
 let nx2:=y5.2.2.2.1.2.2.2.1.1
 let x9:=y5.2.2.2.1.2.2.2.1.2
 let nx3:=y5.2.2.2.1.2.2.2.2.1
 let x10:=y5.2.2.2.1.2.2.2.2.2
 let y6:=y5.2.2.2.2.1.1
 let y7:=y5.2.2.2.2.1.2.1.1
 let y8:=y5.2.2.2.2.1.2.1.2.1
 let ny:=y5.2.2.2.2.1.2.1.2.2.1.1
 let y9:=y5.2.2.2.2.1.2.1.2.2.1.2
 let ny1:=y5.2.2.2.2.1.2.1.2.2.2.1.1
 let y10:=y5.2.2.2.2.1.2.1.2.2.2.1.2
 let y11:=y5.2.2.2.2.1.2.1.2.2.2.2
 let ny2:=y5.2.2.2.2.1.2.2.1.1
 let y12:=y5.2.2.2.2.1.2.2.1.2
 let ny3:=y5.2.2.2.2.1.2.2.2.1.1
 let y13:=y5.2.2.2.2.1.2.2.2.1.2
 let ny4:=y5.2.2.2.2.1.2.2.2.2.1
 let y14:=y5.2.2.2.2.1.2.2.2.2.2
 bif ((Nat.ble ((nx3+1)*176) 140737488355328)&&(Nat.ble (nx3+1) 9223372036854775807))then(
 some (.inl ((s1,((),((),((),(m1,((i64.wrap (i1+1)),())))))),((t5,(t6,(t7,((nt2,t8),(nt3,t9))))),(r10,((x6,(x7,(x8,((nx2,x9),((nx3+1),(glue nx3 x10 (fun j=>(upd (fun _=>zR) 0 (y6,((y7,(y8,((.fz ny y9),((.fz ny1 y10),y11)))),((.fz ny2 y12),((.fz ny3 y13),(.fz ny4 (fun j=>y14 (0+j)))))))) (0+j)))))))),()))))))
 else(
 none))))))))
 else(
 some (.inr ((s,((),((),((),())))),((t,(t1,(t2,((nt,t3),(nt1,t4))))),(r,((x1,(x2,(x3,((nx,x4),(nx1,x5))))),())))))))
 else(
 some (.inr ((s,((),((),((),())))),((t,(t1,(t2,((nt,t3),(nt1,t4))))),(r,((x1,(x2,(x3,((nx,x4),(nx1,x5))))),()))))))
noncomputable def I6(s:ByteArray):Option (IM×Int):=
 match(aH 1 (s,(0,false)))with
 |none=>none
 |some y=>(
 let r:=y.1.1
 let o:=y.2.1
 match(aH 1 o)with
 |none=>none
 |some y1=>(
 let r1:=y1.1.1
 let o1:=y1.2.1
 match(aH 1 o1)with
 |none=>none
 |some y2=>(
 let r2:=y2.1.1
 let o2:=y2.2.1
 match(aH 1 o2)with
 |none=>none
 |some y3=>(
 let r3:=y3.1.1
 let o3:=y3.2.1
 match(aj iG ((s,((),((),((),(r3,(0,())))))),((0,(0,(0,((),())))),(o3,((r,(r1,(r2,((0,(fun _=>0)),())))),())))))with
 |none=>none
 |some y4=>(
 let s1:=y4.1.1
 let t:=y4.2.1.1
 let t1:=y4.2.1.2.1
 let t2:=y4.2.1.2.2.1
 let r4:=y4.2.2.1
 let x:=y4.2.2.2.1.1
 let x1:=y4.2.2.2.1.2.1
 let x2:=y4.2.2.2.1.2.2.1
 let nx:=y4.2.2.2.1.2.2.2.1.1
 let x3:=y4.2.2.2.1.2.2.2.1.2
 match(aH 2 r4)with
 |none=>none
 |some y5=>(
 let r5:=y5.1.1
 let o4:=y5.2.1
 match(aj iI ((s1,((),((),((),(r5,(0,())))))),((t,(t1,(t2,((0,(fun _=>0)),(0,(fun _=>zR)))))),(o4,((x,(x1,(x2,((nx,x3),(0,(fun _=>zR)))))),())))))with
 |none=>none
 |some y6=>(
 let s2:=y6.1.1
 let t3:=y6.2.1.1
 let t4:=y6.2.1.2.1
 let t5:=y6.2.1.2.2.1
 let nt:=y6.2.1.2.2.2.1.1
 let t6:=y6.2.1.2.2.2.1.2
 let nt1:=y6.2.1.2.2.2.2.1
 let t7:=y6.2.1.2.2.2.2.2
 let r6:=y6.2.2.1
 let x4:=y6.2.2.2.1.1
 let x5:=y6.2.2.2.1.2.1
 let x6:=y6.2.2.2.1.2.2.1
 let nx1:=y6.2.2.2.1.2.2.2.1.1
 let x7:=y6.2.2.2.1.2.2.2.1.2
 let nx2:=y6.2.2.2.1.2.2.2.2.1
 let x8:=y6.2.2.2.1.2.2.2.2.2
 bif r6.2.2 then(
 some (zI,4))
 else(
 bif (r6.2.1 !=(((ByteArray.size s2):Nat):Int))then(
 some (zI,4))
 else(
 some ((x4,(x5,(x6,((nx1,(fun j=>x7 (0+j))),(nx2,(fun j=>x8 (0+j))))))),0))))))))))
noncomputable def Gw:=veil I6
theorem Oy:Gw=I6:=ak _
noncomputable def I7(s:ByteArray):Option (IM×Int):=
 bif (decide ((((ByteArray.size s):Nat):Int)<32))then(
 some (zI,4))
 else(
 bif ((decide (0≤(i64.wrap ((((ByteArray.size s):Nat):Int)-32))))&&(decide ((i64.wrap ((((ByteArray.size s):Nat):Int)-32))≤(((ByteArray.size s):Nat):Int))))then(
 match(tY (ByteArray.extract s 0 (Int.toNat (i64.wrap ((((ByteArray.size s):Nat):Int)-32)))))with
 |none=>none
 |some r=>(
 bif ((decide (0≤(i64.wrap ((((ByteArray.size s):Nat):Int)-32))))&&(decide ((i64.wrap ((((ByteArray.size s):Nat):Int)-32))≤(((ByteArray.size s):Nat):Int))))then(
 bif (!(sEq r (ByteArray.extract s (Int.toNat (i64.wrap ((((ByteArray.size s):Nat):Int)-32))) (ByteArray.size s))))then(
 some (zI,4))
 else(
 bif ((decide (0≤(i64.wrap ((((ByteArray.size s):Nat):Int)-32))))&&(decide ((i64.wrap ((((ByteArray.size s):Nat):Int)-32))≤(((ByteArray.size s):Nat):Int))))then(
 match(Gw (ByteArray.extract s 0 (Int.toNat (i64.wrap ((((ByteArray.size s):Nat):Int)-32)))))with
 |none=>none
 |some r1=>(
 some ((r1.1.1,(r1.1.2.1,(r1.1.2.2.1,((r1.1.2.2.2.1.1,r1.1.2.2.2.1.2),(r1.1.2.2.2.2.1,r1.1.2.2.2.2.2))))),r1.2)))
 else(
 none)))
 else(
 none)))
 else(
 none))
noncomputable def LM:=veil I7
theorem Oz:LM=I7:=ak _
end Go.Pl
