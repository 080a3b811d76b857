/-
  The functions of a package, plainly.
-/
import Derived.Test.YtidodcilgldjoaaGreatDenM
import Derived.Test.YtidodcilgldjoaaGreatDenI
set_option linter.unusedVariables false
set_option linter.unusedSimpArgs false
set_option maxRecDepth 100000
set_option maxHeartbeats 0
namespace Go.Pl
end Go.Pl
open Go Go.Den Go.Pl
namespace Go.Pl
open Go.IntKind (i64 u64 u32 u8)
abbrev uL(b:Unit)(o:Unit)(no:Nat)(o1:NI)(o2:Bool):=((b,()),(((o,(no,o1)),o2),()))
noncomputable def fB(c:Int)(b:Unit)(nb:Nat)(b1:NI)(b2:Bool):Option (((Unit×Unit)×(WR×Unit))):=
 bif ((Nat.ble ((nb+1)*1) 140737488355328)&&(Nat.ble (nb+1) 9223372036854775807))then(
 some (((),()),(((b,((nb+1),(glue nb b1 (fun j=>(upd (fun _=>0) 0 c) (0+j))))),b2),())))
 else(
 none)
noncomputable def fQ:=veil fB
theorem lW:fQ=fB:=ak _
abbrev sK(b:Int)(s:Unit)(o:Unit)(no:Nat)(o1:NI)(o2:Bool):=((b,(s,())),(((o,(no,o1)),o2),()))
noncomputable def eH(s:ByteArray)(b:Unit)(nb:Nat)(b1:NI)(b2:Bool):Option (((Int×(Unit×Unit))×(WR×Unit))):=
 bif ((Nat.ble ((nb+(ByteArray.size s))*1) 140737488355328)&&(Nat.ble (nb+(ByteArray.size s)) 9223372036854775807))then(
 some (((((ByteArray.size s):Nat):Int),((),())),(((b,((nb+(ByteArray.size s)),(glue nb b1 (fun i=>(((s).data.toList.getD i 0).toNat:Int))))),b2),())))
 else(
 none)
noncomputable def eX:=veil eH
theorem jZ:eX=eH:=ak _
end Go.Pl
