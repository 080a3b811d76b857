/-
  The functions of a package, plainly.
-/
import Derived.Test.YtccbdhpcblfopaaGreatDenI
import Derived.Test.YtccbdhpcblfopaaGreatPsha
set_option linter.unusedVariables false
set_option linter.unusedSimpArgs false
set_option maxRecDepth 100000
set_option maxHeartbeats 0
namespace Go.Pl
end Go.Pl
open Go Go.Den Go.Pl
namespace Go.Pl
open Go.IntKind (i64 u64 u32 u8)
abbrev T_hmac_Sum_1_0 (by_ : Int) (nout : Nat) (out : Nat → Int) (t : Int) := ((by_, ((nout, out), (t, ()))), ())
abbrev Y_hmac_Sum_1_0_0 (nout : Nat) (out : Nat → Int) := (((nout, out), ()), ())
abbrev X_hmac_Sum_1_0 : Type := ((Int × ((Nat × NI) × (Int × Unit))) × Unit)
noncomputable def R_hmac_Sum_1_0 : X_hmac_Sum_1_0 → Option (X_hmac_Sum_1_0 ⊕ (((Nat × NI) × Unit) × Unit)) := fun x =>
 let by_ := x.1.1
 let nout := x.1.2.1.1
 let out := x.1.2.1.2
 let t := x.1.2.2.1
 bif (decide (t < 64)) then (
 bif (inb t nout) then (
 bif (inb t nout) then (
 some (.inl ((by_, ((nout, (upd out (0 + (Int.toNat t)) (bitsOp .xor .u8 (out (0 + (Int.toNat t))) by_))), ((i64.wrap (t + 1)), ()))), ())))
 else (
 none))
 else (
 none))
 else (
 some (.inr (((nout, out), ()), ())))
noncomputable def hmac_Sum_1' (by_ : Int) (a : (Option ByteArray)) : Option (ByteArray) :=
 match a with
 | none => (
 none)
 | some a0 => (
 bif ((Nat.ble 64 0) || (Nat.ble (ByteArray.size a0) 0)) then (
 match (loopF R_hmac_Sum_1_0 ((by_, ((64, (fun _ => 0)), (0, ()))), ())) with
 | none => none
 | some y => (
 let nout := y.1.1.1
 let out := y.1.1.2
 some (bytesOf nout (fun j => out (0 + j)))))
 else (
 match (loopF R_hmac_Sum_1_0 ((by_, ((64, (blit (fun _ => 0) 0 (min (ByteArray.size a0) 64) (fun i => (((a0).data.toList.getD i 0).toNat : Int)))), (0, ()))), ())) with
 | none => none
 | some y1 => (
 let nout1 := y1.1.1.1
 let out1 := y1.1.1.2
 some (bytesOf nout1 (fun j => out1 (0 + j))))))
noncomputable def hmac_Sum_1 := veil hmac_Sum_1'
theorem hmac_Sum_1_eq : hmac_Sum_1 = hmac_Sum_1' := veil_eq _
noncomputable def hmac_Sum' (key : ByteArray) (s : ByteArray) : Option (ByteArray) :=
 bif (decide ((((ByteArray.size key) : Nat) : Int) > 64)) then (
 match (sha_Sum key) with
 | none => none
 | some r => (
 match (hmac_Sum_1 92 (some r)) with
 | none => none
 | some r1 => (
 match (hmac_Sum_1 54 (some r)) with
 | none => none
 | some r2 => (
 bif (decide (((((ByteArray.size r2) + (ByteArray.size s)) : Nat) : Int) > IntKind.i64.max)) then (
 none)
 else (
 match (sha_Sum (r2 ++ s)) with
 | none => none
 | some r3 => (
 bif (decide (((((ByteArray.size r1) + (ByteArray.size r3)) : Nat) : Int) > IntKind.i64.max)) then (
 none)
 else (
 match (sha_Sum (r1 ++ r3)) with
 | none => none
 | some r4 => (
 some r4))))))))
 else (
 match (hmac_Sum_1 92 (some key)) with
 | none => none
 | some r5 => (
 match (hmac_Sum_1 54 (some key)) with
 | none => none
 | some r6 => (
 bif (decide (((((ByteArray.size r6) + (ByteArray.size s)) : Nat) : Int) > IntKind.i64.max)) then (
 none)
 else (
 match (sha_Sum (r6 ++ s)) with
 | none => none
 | some r7 => (
 bif (decide (((((ByteArray.size r5) + (ByteArray.size r7)) : Nat) : Int) > IntKind.i64.max)) then (
 none)
 else (
 match (sha_Sum (r5 ++ r7)) with
 | none => none
 | some r8 => (
 some r8)))))))
noncomputable def hmac_Sum := veil hmac_Sum'
theorem hmac_Sum_eq : hmac_Sum = hmac_Sum' := veil_eq _
end Go.Pl
