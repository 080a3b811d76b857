/-
  The functions of a package, plainly.
-/
import Derived.Test.YtidodcilgldjoaaGreatDenM
import Derived.Test.YtidodcilgldjoaaGreatDenI
import Derived.Test.YtidodcilgldjoaaGreatPlA
set_option linter.unusedVariables false
set_option linter.unusedSimpArgs false
set_option maxRecDepth 100000
set_option maxHeartbeats 0
namespace Go.Pl
end Go.Pl
open Go Go.Den Go.Pl
namespace Go.Pl
open Go.IntKind (i64 u64 u32 u8)
abbrev wN(nm:Nat)(m:Nat→(SlV NI))(most:Int)(i:Int):=(((nm,m),(most,(i,()))),())
abbrev Gd:Type:=(((Bool×Unit)×Unit)⊕(((Nat×(Nat→(SlV NI)))×(Int×Unit))×Unit))
abbrev Te(t:Bool):Gd:=(.inl ((t,()),()))
abbrev Tf(nm:Nat)(m:Nat→(SlV NI))(most:Int):Gd:=(.inr (((nm,m),(most,())),()))
abbrev Oi:Type:=(((Nat×(Nat→(SlV NI)))×(Int×(Int×Unit)))×Unit)
noncomputable def jr:Oi→Option (Oi⊕Gd):=fun x=>
 let nm:=x.1.1.1
 let m:=x.1.1.2
 let most:=x.1.2.1
 let i:=x.1.2.2.1
 bif (decide (i<((nm:Nat):Int)))then(
 bif (decide (i<most))then(
 bif (inb i nm)then(
 bif (SlV.isMs (m (Int.toNat i)))then(
 none)
 else(
 bif (decide ((((SlV.len (m (Int.toNat i))):Nat):Int)>8))then(
 some (.inr (.inl ((false,()),()))))
 else(
 some (.inl (((nm,m),(most,((i64.wrap (i+1)),()))),())))))
 else(
 none))
 else(
 some (.inr (.inr (((nm,m),(most,())),())))))
 else(
 some (.inr (.inr (((nm,m),(most,())),()))))
noncomputable def Li(nm:Nat)(m:Nat→(SlV NI))(most:Int):Option (Bool):=
 match(aj jr (((nm,m),(most,(0,()))),()))with
 |none=>none
 |some y=>(
 match y with
 | .inl y1=>(
 let t:=y1.1.1
 some t)
 | .inr y1=>(
 let nm1:=y1.1.1.1
 let m1:=y1.1.1.2
 let most1:=y1.1.2.1
 some (decide (((nm1:Nat):Int)≤most1))))
noncomputable def PD:=veil Li
theorem R8:PD=Li:=ak _
abbrev yT(na:Nat)(a:Nat→(SlV NI))(nb:Nat)(b:Nat→(SlV NI))(i:Int):=(((na,a),((nb,b),(i,()))),())
abbrev E8:Type:=(((Bool×Unit)×Unit)⊕(Unit×Unit))
abbrev R9(t:Bool):E8:=(.inl ((t,()),()))
abbrev Ra:E8:=(.inr ((),()))
abbrev Lj:Type:=(((Nat×(Nat→(SlV NI)))×((Nat×(Nat→(SlV NI)))×(Int×Unit)))×Unit)
noncomputable def jg:Lj→Option (Lj⊕E8):=fun x=>
 let na:=x.1.1.1
 let a:=x.1.1.2
 let nb:=x.1.2.1.1
 let b:=x.1.2.1.2
 let i:=x.1.2.2.1
 bif (decide (i<((na:Nat):Int)))then(
 bif (inb i na)then(
 bif (SlV.isMs (a (Int.toNat i)))then(
 none)
 else(
 bif (inb i nb)then(
 bif (SlV.isMs (b (Int.toNat i)))then(
 none)
 else(
 match(FT (SlV.len (a (Int.toNat i))) (SlV.fn ((fun _=>0):NI) (a (Int.toNat i))) (SlV.len (b (Int.toNat i))) (SlV.fn ((fun _=>0):NI) (b (Int.toNat i))))with
 |none=>none
 |some r=>(
 bif (!r)then(
 some (.inr (.inl ((false,()),()))))
 else(
 some (.inl (((na,a),((nb,b),((i64.wrap (i+1)),()))),()))))))
 else(
 none)))
 else(
 none))
 else(
 some (.inr (.inr ((),()))))
noncomputable def HZ(na:Nat)(a:Nat→(SlV NI))(nb:Nat)(b:Nat→(SlV NI)):Option (Bool):=
 bif (((na:Nat):Int) !=((nb:Nat):Int))then(
 some false)
 else(
 match(aj jg (((na,a),((nb,b),(0,()))),()))with
 |none=>none
 |some y=>(
 match y with
 | .inl y1=>(
 let t:=y1.1.1
 some t)
 | .inr y1=>(
 some true)))
noncomputable def Ll:=veil HZ
theorem Oj:Ll=HZ:=ak _
abbrev qd(nm:Nat)(m:Nat→(SlV NI))(i:Int):=(((nm,m),(i,())),())
abbrev E9:Type:=(((Bool×Unit)×Unit)⊕(((Nat×(Nat→(SlV NI)))×Unit)×Unit))
abbrev Rb(t:Bool):E9:=(.inl ((t,()),()))
abbrev Gf(nm:Nat)(m:Nat→(SlV NI)):E9:=(.inr (((nm,m),()),()))
abbrev Lm:Type:=(((Nat×(Nat→(SlV NI)))×(Int×Unit))×Unit)
noncomputable def gD:Lm→Option (Lm⊕E9):=fun x=>
 let nm:=x.1.1.1
 let m:=x.1.1.2
 let i:=x.1.2.1
 bif (decide (i<((nm:Nat):Int)))then(
 bif (inb i nm)then(
 bif (SlV.isMs (m (Int.toNat i)))then(
 none)
 else(
 bif (inb 0 nm)then(
 bif (SlV.isMs (m 0))then(
 none)
 else(
 bif ((((SlV.len (m (Int.toNat i))):Nat):Int) !=(((SlV.len (m 0)):Nat):Int))then(
 some (.inr (.inl ((false,()),()))))
 else(
 bif (inb i nm)then(
 bif (SlV.isMs (m (Int.toNat i)))then(
 none)
 else(
 bif (decide ((((SlV.len (m (Int.toNat i))):Nat):Int)<1))then(
 some (.inr (.inl ((false,()),()))))
 else(
 bif (inb i nm)then(
 bif (SlV.isMs (m (Int.toNat i)))then(
 none)
 else(
 bif (decide ((((SlV.len (m (Int.toNat i))):Nat):Int)>7))then(
 some (.inr (.inl ((false,()),()))))
 else(
 some (.inl (((nm,m),((i64.wrap (i+1)),())),())))))
 else(
 none))))
 else(
 none))))
 else(
 none)))
 else(
 none))
 else(
 some (.inr (.inr (((nm,m),()),()))))
noncomputable def I4(nm:Nat)(m:Nat→(SlV NI)):Option (Bool):=
 match(aj gD (((nm,m),(0,())),()))with
 |none=>none
 |some y=>(
 match y with
 | .inl y1=>(
 let t:=y1.1.1
 some t)
 | .inr y1=>(
 let nm1:=y1.1.1.1
 let m1:=y1.1.1.2
 bif (decide (((nm1:Nat):Int)≥1))then(
 some (decide (((nm1:Nat):Int)≤25)))
 else(
 some false)))
noncomputable def Lr:=veil I4
theorem Ol:Lr=I4:=ak _
abbrev BJ(nm:Nat)(m:Nat→(SlV NI))(s:ByteArray)(i:Int)(k:Int):=(((nm,m),(s,(i,(k,())))),())
abbrev EP(nm:Nat)(m:Nat→(SlV NI))(s:ByteArray)(i:Int):=(((nm,m),(s,(i,()))),())
abbrev Jb:Type:=(((Nat×(Nat→(SlV NI)))×(ByteArray×(Int×(Int×Unit))))×Unit)
noncomputable def jv:Jb→Option (Jb⊕(((Nat×(Nat→(SlV NI)))×(ByteArray×(Int×Unit)))×Unit)):=fun x=>
 let nm:=x.1.1.1
 let m:=x.1.1.2
 let s:=x.1.2.1
 let i:=x.1.2.2.1
 let k:=x.1.2.2.2.1
 bif (inb i nm)then(
 bif (SlV.isMs (m (Int.toNat i)))then(
 none)
 else(
 bif (decide (k<(((SlV.len (m (Int.toNat i))):Nat):Int)))then(
 bif (inb i nm)then(
 bif (SlV.isMs (m (Int.toNat i)))then(
 none)
 else(
 bif (inb k (SlV.len (m (Int.toNat i))))then(
 match(Cr ((SlV.fn ((fun _=>0):NI) (m (Int.toNat i))) (Int.toNat k)))with
 |none=>none
 |some r=>(
 bif (decide (((((ByteArray.size s)+(ByteArray.size (bytesOf 1 (fun j=>(upd (fun _=>0) 0 (u8.wrap (((ByteArray.size r):Nat):Int))) (0+j))))):Nat):Int)>IntKind.i64.max))then(
 none)
 else(
 bif (decide (((((ByteArray.size (s++(bytesOf 1 (fun j=>(upd (fun _=>0) 0 (u8.wrap (((ByteArray.size r):Nat):Int))) (0+j)))))+(ByteArray.size r)):Nat):Int)>IntKind.i64.max))then(
 none)
 else(
 let t:=((s++(bytesOf 1 (fun j=>(upd (fun _=>0) 0 (u8.wrap (((ByteArray.size r):Nat):Int))) (0+j))))++r)
 some (.inl (((nm,m),(t,(i,((i64.wrap (k+1)),())))),()))))))
 else(
 none)))
 else(
 none))
 else(
 some (.inr (((nm,m),(s,(i,()))),())))))
 else(
 none)
abbrev BK(nm:Nat)(m:Nat→(SlV NI))(s:ByteArray)(i:Int):=(((nm,m),(s,(i,()))),())
abbrev ER(s:ByteArray):=((s,()),())
abbrev Jc:Type:=(((Nat×(Nat→(SlV NI)))×(ByteArray×(Int×Unit)))×Unit)
noncomputable def jw:Jc→Option (Jc⊕((ByteArray×Unit)×Unit)):=fun x=>
 let nm:=x.1.1.1
 let m:=x.1.1.2
 let s:=x.1.2.1
 let i:=x.1.2.2.1
 bif (decide (i<((nm:Nat):Int)))then(
 match(aj jv (((nm,m),(s,(i,(0,())))),()))with
 |none=>none
 |some y=>(
 let nm1:=y.1.1.1
 let m1:=y.1.1.2
 let s1:=y.1.2.1
 let i1:=y.1.2.2.1
 some (.inl (((nm1,m1),(s1,((i64.wrap (i1+1)),()))),()))))
 else(
 some (.inr ((s,()),())))
noncomputable def Ea(nm:Nat)(m:Nat→(SlV NI)):Option (ByteArray):=
 match(Lr nm m)with
 |none=>none
 |some r=>(
 bif (!r)then(
 some (ByteArray.mk #[]))
 else(
 bif (inb 0 nm)then(
 bif (SlV.isMs (m 0))then(
 none)
 else(
 let t:=(bytesOf 2 (fun j=>(upd (upd (fun _=>0) 0 (u8.wrap ((nm:Nat):Int))) 1 (u8.wrap (((SlV.len (m 0)):Nat):Int))) (0+j)))
 match(aj jw (((nm,m),(t,(0,()))),()))with
 |none=>none
 |some y=>(
 let s:=y.1.1
 some s)))
 else(
 none)))
noncomputable def CS:=veil Ea
theorem Ls:CS=Ea:=ak _
abbrev mU(s:ByteArray)(nout:Nat)(out:Nat→(SlV NI))(at_:Int)(i:Int)(nrow:Nat)(row:Nat→NI)(k:Int):=((s,((nout,out),(at_,(i,((nrow,row),(k,())))))),())
abbrev Eb:Type:=((((Nat×(Nat→(SlV NI)))×(Int×Unit))×Unit)⊕((ByteArray×((Nat×(Nat→(SlV NI)))×(Int×(Int×((Nat×(Nat→NI))×Unit)))))×Unit))
abbrev Gg(nt:Nat)(t:Nat→(SlV NI))(t1:Int):Eb:=(.inl (((nt,t),(t1,())),()))
abbrev Gh(s:ByteArray)(nout:Nat)(out:Nat→(SlV NI))(at_:Int)(i:Int)(nrow:Nat)(row:Nat→NI):Eb:=(.inr ((s,((nout,out),(at_,(i,((nrow,row),()))))),()))
abbrev Lu:Type:=((ByteArray×((Nat×(Nat→(SlV NI)))×(Int×(Int×((Nat×(Nat→NI))×(Int×Unit))))))×Unit)
noncomputable def fC:Lu→Option (Lu⊕Eb):=fun x=>
 let s:=x.1.1
 let nout:=x.1.2.1.1
 let out:=x.1.2.1.2
 let at_:=x.1.2.2.1
 let i:=x.1.2.2.2.1
 let nrow:=x.1.2.2.2.2.1.1
 let row:=x.1.2.2.2.2.1.2
 let k:=x.1.2.2.2.2.2.1
 bif (inb 1 (ByteArray.size s))then(
 bif (decide (k<(i64.wrap (((UInt8.toNat (List.getD (Array.toList (ByteArray.data s)) 1 0)):Nat):Int))))then(
 bif (decide (at_≥(((ByteArray.size s):Nat):Int)))then(
 some (.inr (.inl (((0,(fun _=>.nil)),(4,())),()))))
 else(
 bif (inb at_ (ByteArray.size s))then(
 let t:=(decide ((i64.wrap ((i64.wrap ((((ByteArray.size s):Nat):Int)-at_))-1))<(i64.wrap (((UInt8.toNat (List.getD (Array.toList (ByteArray.data s)) (Int.toNat at_) 0)):Nat):Int))))
 bif t then(
 some (.inr (.inl (((0,(fun _=>.nil)),(4,())),()))))
 else(
 bif (inb at_ (ByteArray.size s))then(
 let t1:=(i64.wrap ((i64.wrap (at_+1))+(i64.wrap (((UInt8.toNat (List.getD (Array.toList (ByteArray.data s)) (Int.toNat at_) 0)):Nat):Int))))
 bif ((decide (0≤t1))&&(decide (t1≤(((ByteArray.size s):Nat):Int))))then(
 bif ((decide (0≤(i64.wrap (at_+1))))&&(decide ((i64.wrap (at_+1))≤(((Int.toNat t1):Nat):Int))))then(
 match(FR (ByteArray.extract s (Int.toNat (i64.wrap (at_+1))) (Int.toNat t1)))with
 |none=>none
 |some r=>(
 bif (r.2 !=0)then(
 some (.inr (.inl (((0,(fun _=>.nil)),(4,())),()))))
 else(
 bif ((Nat.ble ((nrow+1)*32) 140737488355328)&&(Nat.ble (nrow+1) 9223372036854775807))then(
 some (.inl ((s,((nout,out),(t1,(i,(((nrow+1),(glue nrow row (fun j=>(upd (fun _=>(fun _=>0)) 0 r.1) (0+j)))),((i64.wrap (k+1)),())))))),())))
 else(
 none))))
 else(
 none))
 else(
 none))
 else(
 none)))
 else(
 none)))
 else(
 some (.inr (.inr ((s,((nout,out),(at_,(i,((nrow,row),()))))),())))))
 else(
 none)
abbrev tZ(s:ByteArray)(nout:Nat)(out:Nat→(SlV NI))(at_:Int)(i:Int):=((s,((nout,out),(at_,(i,())))),())
abbrev Ec:Type:=((((Nat×(Nat→(SlV NI)))×(Int×Unit))×Unit)⊕((ByteArray×((Nat×(Nat→(SlV NI)))×Unit))×Unit))
abbrev Rc(nt:Nat)(t:Nat→(SlV NI))(t1:Int):Ec:=(.inl (((nt,t),(t1,())),()))
abbrev Gi(s:ByteArray)(nout:Nat)(out:Nat→(SlV NI)):Ec:=(.inr ((s,((nout,out),())),()))
abbrev Lv:Type:=((ByteArray×((Nat×(Nat→(SlV NI)))×(Int×(Int×Unit))))×Unit)
noncomputable def iF:Lv→Option (Lv⊕Ec):=fun x=>
 let s:=x.1.1
 let nout:=x.1.2.1.1
 let out:=x.1.2.1.2
 let at_:=x.1.2.2.1
 let i:=x.1.2.2.2.1
 bif (inb 0 (ByteArray.size s))then(
 bif (decide (i<(i64.wrap (((UInt8.toNat (List.getD (Array.toList (ByteArray.data s)) 0 0)):Nat):Int))))then(
 match(aj fC ((s,((nout,out),(at_,(i,((0,(fun _=>(fun _=>0))),(0,())))))),()))with
 |none=>none
 |some y=>(
 match y with
 | .inl y1=>(
 let nt:=y1.1.1.1
 let t:=y1.1.1.2
 let t1:=y1.1.2.1
 some (.inr (.inl (((nt,t),(t1,())),()))))
 | .inr y1=>(
 let s1:=y1.1.1
 let nout1:=y1.1.2.1.1
 let out1:=y1.1.2.1.2
 let at_1:=y1.1.2.2.1
 let i1:=y1.1.2.2.2.1
 let nrow:=y1.1.2.2.2.2.1.1
 let row:=y1.1.2.2.2.2.1.2
 bif ((Nat.ble ((nout1+1)*24) 140737488355328)&&(Nat.ble (nout1+1) 9223372036854775807))then(
 some (.inl ((s1,(((nout1+1),(glue nout1 out1 (fun j=>(upd (fun _=>.nil) 0 (.fz nrow (fun j=>row (0+j)))) (0+j)))),(at_1,((i64.wrap (i1+1)),())))),())))
 else(
 none))))
 else(
 some (.inr (.inr ((s,((nout,out),())),())))))
 else(
 none)
noncomputable def I5(s:ByteArray):Option ((Nat×(Nat→(SlV NI)))×Int):=
 bif (decide ((((ByteArray.size s):Nat):Int)<2))then(
 some ((0,(fun _=>.nil)),4))
 else(
 bif (inb 0 (ByteArray.size s))then(
 bif (decide ((((UInt8.toNat (List.getD (Array.toList (ByteArray.data s)) 0 0)):Nat):Int)>25))then(
 some ((0,(fun _=>.nil)),4))
 else(
 bif (inb 1 (ByteArray.size s))then(
 bif (decide ((((UInt8.toNat (List.getD (Array.toList (ByteArray.data s)) 1 0)):Nat):Int)>7))then(
 some ((0,(fun _=>.nil)),4))
 else(
 match(aj iF ((s,((0,(fun _=>.nil)),(2,(0,())))),()))with
 |none=>none
 |some y=>(
 match y with
 | .inl y1=>(
 let nt:=y1.1.1.1
 let t:=y1.1.1.2
 let t1:=y1.1.2.1
 some ((nt,t),t1))
 | .inr y1=>(
 let s1:=y1.1.1
 let nout:=y1.1.2.1.1
 let out:=y1.1.2.1.2
 match(CS nout (fun j=>out (0+j)))with
 |none=>none
 |some r=>(
 bif (!(sEq r s1))then(
 some ((0,(fun _=>.nil)),4))
 else(
 some ((nout,(fun j=>out (0+j))),0)))))))
 else(
 none)))
 else(
 none))
noncomputable def Lx:=veil I5
theorem Om:Lx=I5:=ak _
end Go.Pl
