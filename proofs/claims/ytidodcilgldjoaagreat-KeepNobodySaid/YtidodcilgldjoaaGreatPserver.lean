/-
  The functions of a package, plainly.
-/
import Derived.Test.YtidodcilgldjoaaGreatDenI
set_option linter.unusedVariables false
set_option linter.unusedSimpArgs false
set_option maxRecDepth 100000
set_option maxHeartbeats 0
namespace Go.Pl
end Go.Pl
open Go Go.Den Go.Pl
namespace Go.Pl
open Go.IntKind (i64 u64 u32 u8)
noncomputable def server_Server_Image' (s : (Option ((PtrV (((PtrV (NI × (Int × (NI × NI)))) × (PtrV (NI × (Int × (NI × NI))))) × NI)) × (Int × (Int × (Int × (Int × ((PtrV (Int × (Int × ((SlV ByteArray) × (Option Nat))))) × ((Option Nat) × (SlV (Int × (Int × (Int × (ByteArray × ((Int × Int) × (ByteArray × ((SlV (SlV NI)) × (SlV NI)))))))))))))))))) : Option ((Int × (Int × (Int × ((Nat × NI) × (Nat × (Nat → (ByteArray × (((Int × Int) × (ByteArray × ((SlV (SlV NI)) × ((SlV NI) × Int)))) × ((SlV (Int × ((Int × Int) × ByteArray))) × ((SlV (Int × ((Int × Int) × ByteArray))) × (SlV (((Int × Int) × (ByteArray × ((SlV (SlV NI)) × ((SlV NI) × Int)))) × (((Int × Int) × (ByteArray × ((SlV (SlV NI)) × ((SlV NI) × Int)))) × (((Int × Int) × (ByteArray × ((SlV (SlV NI)) × ((SlV NI) × Int)))) × (Int × Int)))))))))))))))) :=
 match s with
 | none => (
 some (0, (0, (0, ((0, (fun _ => 0)), (0, (fun _ => (ByteArray.empty, (((0, 0), (ByteArray.empty, (.nil, (.nil, 0)))), (.nil, (.nil, .nil)))))))))))
 | some s0 => (
 bif (Option.isSome s0.2.2.2.2.2.2.1) then (
 none)
 else (
 some (0, (0, (0, ((0, (fun _ => 0)), (0, (fun _ => (ByteArray.empty, (((0, 0), (ByteArray.empty, (.nil, (.nil, 0)))), (.nil, (.nil, .nil))))))))))))
noncomputable def server_Server_Image := veil server_Server_Image'
theorem server_Server_Image_eq : server_Server_Image = server_Server_Image' := veil_eq _
end Go.Pl
