/-
  The functions of a package, plainly.
-/
import Derived.Test.YtccbdhpcblfopaaGreatDenI
import Derived.Test.YtccbdhpcblfopaaGreatPr05
set_option linter.unusedVariables false
set_option linter.unusedSimpArgs false
set_option maxRecDepth 100000
set_option maxHeartbeats 0
namespace Go.Pl
end Go.Pl
open Go Go.Den Go.Pl
namespace Go.Pl
open Go.IntKind (i64 u64 u32 u8)
abbrev T_r06_turned_0 (by_ : Int) (k : ByteArray) (nout : Nat) (out : Nat → Int) (i : Int) := ((by_, (k, ((nout, out), (i, ())))), ())
abbrev Y_r06_turned_0_0 (nout : Nat) (out : Nat → Int) := (((nout, out), ()), ())
abbrev X_r06_turned_0 : Type := ((Int × (ByteArray × ((Nat × NI) × (Int × Unit)))) × Unit)
noncomputable def R_r06_turned_0 : X_r06_turned_0 → Option (X_r06_turned_0 ⊕ (((Nat × NI) × Unit) × Unit)) := fun x =>
 let by_ := x.1.1
 let k := x.1.2.1
 let nout := x.1.2.2.1.1
 let out := x.1.2.2.1.2
 let i := x.1.2.2.2.1
 bif (decide (i < 64)) then (
 bif (decide (i < (((ByteArray.size k) : Nat) : Int))) then (
 bif (inb i (ByteArray.size k)) then (
 bif ((Nat.ble ((nout + 1) * 1) 140737488355328) && (Nat.ble (nout + 1) 9223372036854775807)) then (
 some (.inl ((by_, (k, (((nout + 1), (glue nout out (fun j => (upd (fun _ => 0) 0 (bitsOp .xor .u8 (((UInt8.toNat (List.getD (Array.toList (ByteArray.data k)) (Int.toNat i) 0)) : Nat) : Int) by_)) (0 + j)))), ((i64.wrap (i + 1)), ())))), ())))
 else (
 none))
 else (
 none))
 else (
 bif ((Nat.ble ((nout + 1) * 1) 140737488355328) && (Nat.ble (nout + 1) 9223372036854775807)) then (
 some (.inl ((by_, (k, (((nout + 1), (glue nout out (fun j => (upd (fun _ => 0) 0 (bitsOp .xor .u8 0 by_)) (0 + j)))), ((i64.wrap (i + 1)), ())))), ())))
 else (
 none)))
 else (
 some (.inr (((nout, out), ()), ())))
noncomputable def r06_turned' (key : ByteArray) (by_ : Int) : Option (ByteArray) :=
 bif (decide ((((ByteArray.size key) : Nat) : Int) > 64)) then (
 match (r05_Sum key) with
 | none => none
 | some r => (
 match (loopF R_r06_turned_0 ((by_, (r, ((0, (fun _ => 0)), (0, ())))), ())) with
 | none => none
 | some y => (
 let nout := y.1.1.1
 let out := y.1.1.2
 some (bytesOf nout (fun j => out (0 + j))))))
 else (
 match (loopF R_r06_turned_0 ((by_, (key, ((0, (fun _ => 0)), (0, ())))), ())) with
 | none => none
 | some y1 => (
 let nout1 := y1.1.1.1
 let out1 := y1.1.1.2
 some (bytesOf nout1 (fun j => out1 (0 + j)))))
noncomputable def r06_turned := veil r06_turned'
theorem r06_turned_eq : r06_turned = r06_turned' := veil_eq _
noncomputable def r06_Sum' (key : ByteArray) (s : ByteArray) : Option (ByteArray) :=
 match (r06_turned key 92) with
 | none => none
 | some r => (
 match (r06_turned key 54) with
 | none => none
 | some r1 => (
 bif (decide (((((ByteArray.size r1) + (ByteArray.size s)) : Nat) : Int) > IntKind.i64.max)) then (
 none)
 else (
 match (r05_Sum (r1 ++ s)) with
 | none => none
 | some r2 => (
 bif (decide (((((ByteArray.size r) + (ByteArray.size r2)) : Nat) : Int) > IntKind.i64.max)) then (
 none)
 else (
 match (r05_Sum (r ++ r2)) with
 | none => none
 | some r3 => (
 some r3))))))
noncomputable def r06_Sum := veil r06_Sum'
theorem r06_Sum_eq : r06_Sum = r06_Sum' := veil_eq _
end Go.Pl
