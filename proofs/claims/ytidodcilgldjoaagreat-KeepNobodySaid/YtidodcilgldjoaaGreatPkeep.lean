/-
  The functions of a package, plainly.
-/
import Derived.Test.YtidodcilgldjoaaGreatDenI
import Derived.Test.YtidodcilgldjoaaGreatPsha
set_option linter.unusedVariables false
set_option linter.unusedSimpArgs false
set_option maxRecDepth 100000
set_option maxHeartbeats 0
namespace Go.Pl
end Go.Pl
open Go Go.Den Go.Pl
namespace Go.Pl
open Go.IntKind (i64 u64 u32 u8)
noncomputable def keep_Take' (a0 : ByteArray) : Option ((Int × (Int × (Int × ((Nat × NI) × (Nat × (Nat → (ByteArray × (((Int × Int) × (ByteArray × ((SlV (SlV NI)) × ((SlV NI) × Int)))) × ((SlV (Int × ((Int × Int) × ByteArray))) × ((SlV (Int × ((Int × Int) × ByteArray))) × (SlV (((Int × Int) × (ByteArray × ((SlV (SlV NI)) × ((SlV NI) × Int)))) × (((Int × Int) × (ByteArray × ((SlV (SlV NI)) × ((SlV NI) × Int)))) × (((Int × Int) × (ByteArray × ((SlV (SlV NI)) × ((SlV NI) × Int)))) × (Int × Int))))))))))))))) × Int) :=
 none
noncomputable def keep_Take := veil keep_Take'
theorem keep_Take_eq : keep_Take = keep_Take' := veil_eq _
noncomputable def keep_Open' (s : ByteArray) : Option ((Int × (Int × (Int × ((Nat × NI) × (Nat × (Nat → (ByteArray × (((Int × Int) × (ByteArray × ((SlV (SlV NI)) × ((SlV NI) × Int)))) × ((SlV (Int × ((Int × Int) × ByteArray))) × ((SlV (Int × ((Int × Int) × ByteArray))) × (SlV (((Int × Int) × (ByteArray × ((SlV (SlV NI)) × ((SlV NI) × Int)))) × (((Int × Int) × (ByteArray × ((SlV (SlV NI)) × ((SlV NI) × Int)))) × (((Int × Int) × (ByteArray × ((SlV (SlV NI)) × ((SlV NI) × Int)))) × (Int × Int))))))))))))))) × Int) :=
 bif (decide ((i64.wrap ((((ByteArray.size s) : Nat) : Int) - 32)) < 0)) then (
 some ((0, (0, (0, ((0, (fun _ => 0)), (0, (fun _ => (ByteArray.empty, (((0, 0), (ByteArray.empty, (.nil, (.nil, 0)))), (.nil, (.nil, .nil)))))))))), 4))
 else (
 bif ((decide (0 ≤ (i64.wrap ((((ByteArray.size s) : Nat) : Int) - 32)))) && (decide ((i64.wrap ((((ByteArray.size s) : Nat) : Int) - 32)) ≤ (((ByteArray.size s) : Nat) : Int)))) then (
 match (sha_Sum (ByteArray.extract s 0 (Int.toNat (i64.wrap ((((ByteArray.size s) : Nat) : Int) - 32))))) with
 | none => none
 | some r => (
 bif ((decide (0 ≤ (i64.wrap ((((ByteArray.size s) : Nat) : Int) - 32)))) && (decide ((i64.wrap ((((ByteArray.size s) : Nat) : Int) - 32)) ≤ (((ByteArray.size s) : Nat) : Int)))) then (
 bif (!(sEq r (ByteArray.extract s (Int.toNat (i64.wrap ((((ByteArray.size s) : Nat) : Int) - 32))) (ByteArray.size s)))) then (
 some ((0, (0, (0, ((0, (fun _ => 0)), (0, (fun _ => (ByteArray.empty, (((0, 0), (ByteArray.empty, (.nil, (.nil, 0)))), (.nil, (.nil, .nil)))))))))), 4))
 else (
 bif ((decide (0 ≤ (i64.wrap ((((ByteArray.size s) : Nat) : Int) - 32)))) && (decide ((i64.wrap ((((ByteArray.size s) : Nat) : Int) - 32)) ≤ (((ByteArray.size s) : Nat) : Int)))) then (
 match (keep_Take (ByteArray.extract s 0 (Int.toNat (i64.wrap ((((ByteArray.size s) : Nat) : Int) - 32))))) with
 | none => none
 | some r1 => (
 some ((r1.1.1, (r1.1.2.1, (r1.1.2.2.1, ((r1.1.2.2.2.1.1, r1.1.2.2.2.1.2), (r1.1.2.2.2.2.1, r1.1.2.2.2.2.2))))), r1.2)))
 else (
 none)))
 else (
 none)))
 else (
 none))
noncomputable def keep_Open := veil keep_Open'
theorem keep_Open_eq : keep_Open = keep_Open' := veil_eq _
end Go.Pl
