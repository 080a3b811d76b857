/-
  The functions of a package, plainly.
-/
import Derived.Test.YtidodcilgldjoaaGreatDenM
import Derived.Test.YtidodcilgldjoaaGreatDenI
import Derived.Test.YtidodcilgldjoaaGreatPlA
set_option linter.unusedVariables false
set_option linter.unusedSimpArgs false
set_option maxRecDepth 100000
set_option maxHeartbeats 0
namespace Go.Pl
end Go.Pl
open Go Go.Den Go.Pl
namespace Go.Pl
open Go.IntKind (i64 u64 u32 u8)
abbrev gX(ns:Nat)(s:Nat→(SlV NI))(t:Int)(t1:Int)(no:Nat)(o:Nat→(SlV NI)):=(((ns,s),((),(t,(t1,())))),((no,o),()))
abbrev rH:Type:=(((Int×Unit)×((Nat×(Nat→(SlV NI)))×Unit))⊕(Unit×((Nat×(Nat→(SlV NI)))×Unit)))
abbrev jY(t:Int)(no:Nat)(o:Nat→(SlV NI)):rH:=(.inl ((t,()),((no,o),())))
abbrev wI(no:Nat)(o:Nat→(SlV NI)):rH:=(.inr ((),((no,o),())))
abbrev zJ:Type:=(((Nat×(Nat→(SlV NI)))×(Unit×(Int×(Int×Unit))))×((Nat×(Nat→(SlV NI)))×Unit))
noncomputable def bO:zJ→Option (zJ⊕rH):=fun x=>
 let ns:=x.1.1.1
 let s:=x.1.1.2
 let t:=x.1.2.2.1
 let t1:=x.1.2.2.2.1
 let no:=x.2.1.1
 let o:=x.2.1.2
 bif (decide (t1<t))then(
 bif (inb t1 ns)then(
 bif (SlV.isMs (s (Int.toNat t1)))then(
 none)
 else(
 bif (inb 0 no)then(
 bif (SlV.isMs (o 0))then(
 none)
 else(
 bif ((((SlV.len (s (Int.toNat t1))):Nat):Int) !=(((SlV.len (o 0)):Nat):Int))then(
 some (.inr (.inl ((t1,()),((no,o),())))))
 else(
 bif (decide ((((SlV.len (s (Int.toNat t1))):Nat):Int)<1))then(
 some (.inr (.inl ((t1,()),((no,o),())))))
 else(
 bif (decide ((((SlV.len (s (Int.toNat t1))):Nat):Int)>7))then(
 some (.inr (.inl ((t1,()),((no,o),())))))
 else(
 some (.inl (((ns,s),((),(t,((i64.wrap (t1+1)),())))),((no,o),()))))))))
 else(
 none)))
 else(
 none))
 else(
 some (.inr (.inr ((),((no,o),())))))
noncomputable def yM(nm:Nat)(m:Nat→(SlV NI)):Option (Bool):=
 match(aj bO (((nm,m),((),(((nm:Nat):Int),(0,())))),((nm,m),())))with
 |none=>none
 |some y=>(
 match y with
 | .inl y1=>(
 let t:=y1.1.1
 let no:=y1.2.1.1
 let o:=y1.2.1.2
 bif (!(decide (t≥0)))then(
 bif (decide (((no:Nat):Int)≥1))then(
 some (decide (((no:Nat):Int)≤25)))
 else(
 some false))
 else(
 some false))
 | .inr y1=>(
 let no1:=y1.2.1.1
 let o1:=y1.2.1.2
 bif (decide (((no1:Nat):Int)≥1))then(
 some (decide (((no1:Nat):Int)≤25)))
 else(
 some false)))
noncomputable def wJ:=veil yM
theorem FU:wJ=yM:=ak _
abbrev iU(s:ByteArray)(rest:ByteArray)(nout:Nat)(out:Nat→(SlV NI))(nrow:Nat)(row:Nat→NI)(t:Int)(t1:Int)(t2:Int)(t3:Int):=((s,(rest,((nout,out),((nrow,row),(t,(t1,(t2,(t3,())))))))),())
abbrev xG:Type:=((((Nat×(Nat→(SlV NI)))×(Int×Unit))×Unit)⊕((ByteArray×(ByteArray×((Nat×(Nat→(SlV NI)))×((Nat×(Nat→NI))×(Int×(Int×Unit))))))×Unit))
abbrev AX(nt:Nat)(t:Nat→(SlV NI))(t1:Int):xG:=(.inl (((nt,t),(t1,())),()))
abbrev AY(s:ByteArray)(rest:ByteArray)(nout:Nat)(out:Nat→(SlV NI))(nrow:Nat)(row:Nat→NI)(t:Int)(t1:Int):xG:=(.inr ((s,(rest,((nout,out),((nrow,row),(t,(t1,())))))),()))
abbrev EL:Type:=((ByteArray×(ByteArray×((Nat×(Nat→(SlV NI)))×((Nat×(Nat→NI))×(Int×(Int×(Int×(Int×Unit))))))))×Unit)
noncomputable def d9:EL→Option (EL⊕xG):=fun x=>
 let s:=x.1.1
 let rest:=x.1.2.1
 let nout:=x.1.2.2.1.1
 let out:=x.1.2.2.1.2
 let nrow:=x.1.2.2.2.1.1
 let row:=x.1.2.2.2.1.2
 let t:=x.1.2.2.2.2.1
 let t1:=x.1.2.2.2.2.2.1
 let t2:=x.1.2.2.2.2.2.2.1
 let t3:=x.1.2.2.2.2.2.2.2.1
 bif (decide (t3<t2))then(
 bif (sEq rest (ByteArray.mk #[]))then(
 some (.inr (.inl (((0,(fun _=>.nil)),(4,())),()))))
 else(
 bif (inb 0 (ByteArray.size rest))then(
 bif (decide ((i64.wrap (((UInt8.toNat (List.getD (Array.toList (ByteArray.data rest)) 0 0)):Nat):Int))≥(((ByteArray.size rest):Nat):Int)))then(
 some (.inr (.inl (((0,(fun _=>.nil)),(4,())),()))))
 else(
 bif (inb 0 (ByteArray.size rest))then(
 bif ((decide (0≤(i64.wrap (1+(i64.wrap (((UInt8.toNat (List.getD (Array.toList (ByteArray.data rest)) 0 0)):Nat):Int))))))&&(decide ((i64.wrap (1+(i64.wrap (((UInt8.toNat (List.getD (Array.toList (ByteArray.data rest)) 0 0)):Nat):Int))))≤(((ByteArray.size rest):Nat):Int))))then(
 bif (decide (1≤(((Int.toNat (i64.wrap (1+(i64.wrap (((UInt8.toNat (List.getD (Array.toList (ByteArray.data rest)) 0 0)):Nat):Int))))):Nat):Int)))then(
 let t4:=(ByteArray.extract rest 1 (Int.toNat (i64.wrap (1+(i64.wrap (((UInt8.toNat (List.getD (Array.toList (ByteArray.data rest)) 0 0)):Nat):Int))))))
 match(FB t4)with
 |none=>none
 |some r=>(
 bif (r.2 !=0)then(
 some (.inr (.inl (((0,(fun _=>.nil)),(4,())),()))))
 else(
 bif ((Nat.ble ((nrow+1)*32) 140737488355328)&&(Nat.ble (nrow+1) 9223372036854775807))then(
 bif ((decide (0≤(i64.wrap (1+(i64.wrap (((UInt8.toNat (List.getD (Array.toList (ByteArray.data rest)) 0 0)):Nat):Int))))))&&(decide ((i64.wrap (1+(i64.wrap (((UInt8.toNat (List.getD (Array.toList (ByteArray.data rest)) 0 0)):Nat):Int))))≤(((ByteArray.size rest):Nat):Int))))then(
 let t5:=(ByteArray.extract rest (Int.toNat (i64.wrap (1+(i64.wrap (((UInt8.toNat (List.getD (Array.toList (ByteArray.data rest)) 0 0)):Nat):Int))))) (ByteArray.size rest))
 some (.inl ((s,(t5,((nout,out),(((nrow+1),(glue nrow row (fun j=>(upd (fun _=>(fun _=>0)) 0 r.1) (0+j)))),(t,(t1,(t2,((u8.wrap (t3+1)),())))))))),())))
 else(
 none))
 else(
 none))))
 else(
 none))
 else(
 none))
 else(
 none)))
 else(
 none)))
 else(
 some (.inr (.inr ((s,(rest,((nout,out),((nrow,row),(t,(t1,())))))),()))))
abbrev nO(s:ByteArray)(rest:ByteArray)(nout:Nat)(out:Nat→(SlV NI))(t:Int)(t1:Int):=((s,(rest,((nout,out),(t,(t1,()))))),())
abbrev xH:Type:=((((Nat×(Nat→(SlV NI)))×(Int×Unit))×Unit)⊕((ByteArray×((Nat×(Nat→(SlV NI)))×Unit))×Unit))
abbrev La(nt:Nat)(t:Nat→(SlV NI))(t1:Int):xH:=(.inl (((nt,t),(t1,())),()))
abbrev AZ(rest:ByteArray)(nout:Nat)(out:Nat→(SlV NI)):xH:=(.inr ((rest,((nout,out),())),()))
abbrev EM:Type:=((ByteArray×(ByteArray×((Nat×(Nat→(SlV NI)))×(Int×(Int×Unit)))))×Unit)
noncomputable def eB:EM→Option (EM⊕xH):=fun x=>
 let s:=x.1.1
 let rest:=x.1.2.1
 let nout:=x.1.2.2.1.1
 let out:=x.1.2.2.1.2
 let t:=x.1.2.2.2.1
 let t1:=x.1.2.2.2.2.1
 bif (decide (t1<t))then(
 bif (inb 1 (ByteArray.size s))then(
 match(aj d9 ((s,(rest,((nout,out),((0,(fun _=>(fun _=>0))),(t,(t1,((((UInt8.toNat (List.getD (Array.toList (ByteArray.data s)) 1 0)):Nat):Int),(0,())))))))),()))with
 |none=>none
 |some y=>(
 match y with
 | .inl y1=>(
 let nt:=y1.1.1.1
 let t2:=y1.1.1.2
 let t3:=y1.1.2.1
 some (.inr (.inl (((nt,t2),(t3,())),()))))
 | .inr y1=>(
 let s1:=y1.1.1
 let rest1:=y1.1.2.1
 let nout1:=y1.1.2.2.1.1
 let out1:=y1.1.2.2.1.2
 let nrow:=y1.1.2.2.2.1.1
 let row:=y1.1.2.2.2.1.2
 let t4:=y1.1.2.2.2.2.1
 let t5:=y1.1.2.2.2.2.2.1
 bif ((Nat.ble ((nout1+1)*24) 140737488355328)&&(Nat.ble (nout1+1) 9223372036854775807))then(
 some (.inl ((s1,(rest1,(((nout1+1),(glue nout1 out1 (fun j=>(upd (fun _=>.nil) 0 (.fz nrow (fun j=>row (0+j)))) (0+j)))),(t4,((u8.wrap (t5+1)),()))))),())))
 else(
 none))))
 else(
 none))
 else(
 some (.inr (.inr ((rest,((nout,out),())),()))))
noncomputable def yN(s:ByteArray):Option ((Nat×(Nat→(SlV NI)))×Int):=
 bif (decide ((((ByteArray.size s):Nat):Int)<2))then(
 some ((0,(fun _=>.nil)),4))
 else(
 bif (inb 0 (ByteArray.size s))then(
 bif (decide ((((UInt8.toNat (List.getD (Array.toList (ByteArray.data s)) 0 0)):Nat):Int)>25))then(
 some ((0,(fun _=>.nil)),4))
 else(
 bif (inb 1 (ByteArray.size s))then(
 bif (decide ((((UInt8.toNat (List.getD (Array.toList (ByteArray.data s)) 1 0)):Nat):Int)>7))then(
 some ((0,(fun _=>.nil)),4))
 else(
 bif (decide (2≤(((ByteArray.size s):Nat):Int)))then(
 bif (inb 0 (ByteArray.size s))then(
 match(aj eB ((s,((ByteArray.extract s 2 (ByteArray.size s)),((0,(fun _=>.nil)),((((UInt8.toNat (List.getD (Array.toList (ByteArray.data s)) 0 0)):Nat):Int),(0,()))))),()))with
 |none=>none
 |some y=>(
 match y with
 | .inl y1=>(
 let nt:=y1.1.1.1
 let t:=y1.1.1.2
 let t1:=y1.1.2.1
 some ((nt,t),t1))
 | .inr y1=>(
 let rest:=y1.1.1
 let nout:=y1.1.2.1.1
 let out:=y1.1.2.1.2
 bif (!(sEq rest (ByteArray.mk #[])))then(
 some ((0,(fun _=>.nil)),4))
 else(
 match(wJ nout (fun j=>out (0+j)))with
 |none=>none
 |some r=>(
 bif (!r)then(
 some ((0,(fun _=>.nil)),4))
 else(
 some ((nout,(fun j=>out (0+j))),0)))))))
 else(
 none))
 else(
 none)))
 else(
 none)))
 else(
 none))
noncomputable def Ba:=veil yN
theorem FV:Ba=yN:=ak _
abbrev vF(nt:Nat)(t:Nat→(SlV NI))(t1:Int)(t2:Int)(nt1:Nat)(t3:Nat→NI)(t4:Int)(t5:Int)(b:Unit)(nb:Nat)(b1:NI):=(((),((nt,t),(t1,(t2,((nt1,t3),(t4,(t5,()))))))),((b,(nb,b1)),()))
abbrev zK(nt:Nat)(t:Nat→(SlV NI))(t1:Int)(t2:Int)(b:Unit)(nb:Nat)(b1:NI):=(((),((nt,t),(t1,(t2,())))),((b,(nb,b1)),()))
abbrev CF:Type:=((Unit×((Nat×(Nat→(SlV NI)))×(Int×(Int×((Nat×(Nat→NI))×(Int×(Int×Unit)))))))×((Unit×(Nat×NI))×Unit))
noncomputable def fM:CF→Option (CF⊕((Unit×((Nat×(Nat→(SlV NI)))×(Int×(Int×Unit))))×((Unit×(Nat×NI))×Unit))):=fun x=>
 let nt:=x.1.2.1.1
 let t:=x.1.2.1.2
 let t1:=x.1.2.2.1
 let t2:=x.1.2.2.2.1
 let nt1:=x.1.2.2.2.2.1.1
 let t3:=x.1.2.2.2.2.1.2
 let t4:=x.1.2.2.2.2.2.1
 let t5:=x.1.2.2.2.2.2.2.1
 let b:=x.2.1.1
 let nb:=x.2.1.2.1
 let b1:=x.2.1.2.2
 bif (decide (t5<t4))then(
 bif (inb t5 nt1)then(
 match(Ck (t3 (Int.toNat t5)))with
 |none=>none
 |some r=>(
 bif ((Nat.ble ((nb+1)*1) 140737488355328)&&(Nat.ble (nb+1) 9223372036854775807))then(
 bif ((Nat.ble (((nb+1)+(ByteArray.size r))*1) 140737488355328)&&(Nat.ble ((nb+1)+(ByteArray.size r)) 9223372036854775807))then(
 some (.inl (((),((nt,t),(t1,(t2,((nt1,t3),(t4,((i64.wrap (t5+1)),()))))))),((b,(((nb+1)+(ByteArray.size r)),(glue (nb+1) (glue nb b1 (fun j=>(upd (fun _=>0) 0 (u8.wrap (((ByteArray.size r):Nat):Int))) (0+j))) (fun i=>(((r).data.toList.getD i 0).toNat:Int))))),()))))
 else(
 none))
 else(
 none)))
 else(
 none))
 else(
 some (.inr (((),((nt,t),(t1,(t2,())))),((b,(nb,b1)),()))))
abbrev vG(nt:Nat)(t:Nat→(SlV NI))(t1:Int)(t2:Int)(b:Unit)(nb:Nat)(b1:NI):=(((),((nt,t),(t1,(t2,())))),((b,(nb,b1)),()))
abbrev zL(b:Unit)(nb:Nat)(b1:NI):=(((),()),((b,(nb,b1)),()))
abbrev CG:Type:=((Unit×((Nat×(Nat→(SlV NI)))×(Int×(Int×Unit))))×((Unit×(Nat×NI))×Unit))
noncomputable def fO:CG→Option (CG⊕((Unit×Unit)×((Unit×(Nat×NI))×Unit))):=fun x=>
 let nt:=x.1.2.1.1
 let t:=x.1.2.1.2
 let t1:=x.1.2.2.1
 let t2:=x.1.2.2.2.1
 let b:=x.2.1.1
 let nb:=x.2.1.2.1
 let b1:=x.2.1.2.2
 bif (decide (t2<t1))then(
 bif (inb t2 nt)then(
 bif (SlV.isMs (t (Int.toNat t2)))then(
 none)
 else(
 match(aj fM (((),((nt,t),(t1,(t2,(((SlV.len (t (Int.toNat t2))),(SlV.fn ((fun _=>0):NI) (t (Int.toNat t2)))),((((SlV.len (t (Int.toNat t2))):Nat):Int),(0,()))))))),((b,(nb,b1)),())))with
 |none=>none
 |some y=>(
 let nt1:=y.1.2.1.1
 let t3:=y.1.2.1.2
 let t4:=y.1.2.2.1
 let t5:=y.1.2.2.2.1
 let b2:=y.2.1.1
 let nb1:=y.2.1.2.1
 let b3:=y.2.1.2.2
 some (.inl (((),((nt1,t3),(t4,((i64.wrap (t5+1)),())))),((b2,(nb1,b3)),()))))))
 else(
 none))
 else(
 some (.inr (((),()),((b,(nb,b1)),()))))
noncomputable def vW(nm:Nat)(m:Nat→(SlV NI)):Option (ByteArray):=
 match(wJ nm m)with
 |none=>none
 |some r=>(
 bif (!r)then(
 some (ByteArray.mk #[]))
 else(
 bif (inb 0 nm)then(
 bif (SlV.isMs (m 0))then(
 none)
 else(
 match(aj fO (((),((nm,m),(((nm:Nat):Int),(0,())))),(((),(2,(glue 1 (glue 0 (fun _=>0) (fun j=>(upd (fun _=>0) 0 (u8.wrap ((nm:Nat):Int))) (0+j))) (fun j=>(upd (fun _=>0) 0 (u8.wrap (((SlV.len (m 0)):Nat):Int))) (0+j))))),())))with
 |none=>none
 |some y=>(
 let b:=y.2.1.1
 let nb:=y.2.1.2.1
 let b1:=y.2.1.2.2
 bif ((decide (((nb:Nat):Int)=((nb:Nat):Int)))&&(Nat.ble nb 9223372036854775807))then(
 some (bytesOf nb b1))
 else(
 none))))
 else(
 none)))
noncomputable def yO:=veil vW
theorem EN:yO=vW:=ak _
end Go.Pl
