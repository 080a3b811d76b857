/-
  The functions of a package, plainly.
-/
import Derived.Test.YtccbdhpcblfopaaGreatDenI
import Derived.Test.YtccbdhpcblfopaaGreatPlA
import Derived.Test.YtccbdhpcblfopaaGreatPr14
import Derived.Test.YtccbdhpcblfopaaGreatPr34
set_option linter.unusedVariables false
set_option linter.unusedSimpArgs false
set_option maxRecDepth 100000
set_option maxHeartbeats 0
namespace Go.Pl
end Go.Pl
open Go Go.Den Go.Pl
namespace Go.Pl
open Go.IntKind (i64 u64 u32 u8)
abbrev T_r36_Weights_2 (n : Int) (nout : Nat) (out : Nat → NI) (i : Int) (b : ByteArray) (k : Int) (x1 : (ByteArray × (ByteArray × Int))) (w : NI) := ((n, ((), ((nout, out), (i, (b, ((), (k, ()))))))), (x1, (w, ())))
abbrev Y_r36_Weights_2_0 (n : Int) (nout : Nat) (out : Nat → NI) (i : Int) (x1 : (ByteArray × (ByteArray × Int))) (w : NI) := ((n, ((), ((nout, out), (i, ((), ()))))), (x1, (w, ())))
abbrev X_r36_Weights_2 : Type := ((Int × (Unit × ((Nat × (Nat → NI)) × (Int × (ByteArray × (Unit × (Int × Unit))))))) × ((ByteArray × (ByteArray × Int)) × (NI × Unit)))
noncomputable def R_r36_Weights_2 : X_r36_Weights_2 → Option (X_r36_Weights_2 ⊕ ((Int × (Unit × ((Nat × (Nat → NI)) × (Int × (Unit × Unit))))) × ((ByteArray × (ByteArray × Int)) × (NI × Unit)))) := fun x =>
 let n := x.1.1
 let nout := x.1.2.2.1.1
 let out := x.1.2.2.1.2
 let i := x.1.2.2.2.1
 let b := x.1.2.2.2.2.1
 let k := x.1.2.2.2.2.2.2.1
 let x1 := x.2.1
 let w := x.2.2.1
 bif (decide (k < (((ByteArray.size b) : Nat) : Int))) then (
 bif (inb k (ByteArray.size b)) then (
 let t := (bitsOp .or .u64 (shlI .u64 (w 0) 8) (u64.wrap (((UInt8.toNat (List.getD (Array.toList (ByteArray.data b)) (Int.toNat k) 0)) : Nat) : Int)))
 some (.inl ((n, ((), ((nout, out), (i, (b, ((), ((i64.wrap (k + 1)), ()))))))), (x1, ((upd w 0 t), ())))))
 else (
 none))
 else (
 some (.inr ((n, ((), ((nout, out), (i, ((), ()))))), (x1, (w, ())))))
abbrev T_r36_Weights_0 (n : Int) (nout : Nat) (out : Nat → NI) (i : Int) (x1 : (ByteArray × (ByteArray × Int))) := ((n, ((), ((nout, out), (i, ())))), (x1, ()))
abbrev Y_r36_Weights_0_0 (nout : Nat) (out : Nat → NI) := (((nout, out), ()), ())
abbrev X_r36_Weights_0 : Type := ((Int × (Unit × ((Nat × (Nat → NI)) × (Int × Unit)))) × ((ByteArray × (ByteArray × Int)) × Unit))
noncomputable def R_r36_Weights_0 : X_r36_Weights_0 → Option (X_r36_Weights_0 ⊕ (((Nat × (Nat → NI)) × Unit) × Unit)) := fun x =>
 let n := x.1.1
 let nout := x.1.2.2.1.1
 let out := x.1.2.2.1.2
 let i := x.1.2.2.2.1
 let x1 := x.2.1
 bif (decide (i < n)) then (
 match (r34_Bytes x1 8 (ByteArray.mk #[])) with
 | none => none
 | some r => (
 match (loopF R_r36_Weights_2 ((n, ((), ((nout, out), (i, (r.2.1, ((), (0, ()))))))), (r.1, ((fun _ => 0), ())))) with
 | none => none
 | some y => (
 let n1 := y.1.1
 let nout1 := y.1.2.2.1.1
 let out1 := y.1.2.2.1.2
 let i1 := y.1.2.2.2.1
 let x2 := y.2.1
 let w := y.2.2.1
 bif ((w 0) == 0) then (
 bif ((Nat.ble ((nout1 + 1) * 32) 140737488355328) && (Nat.ble (nout1 + 1) 9223372036854775807)) then (
 some (.inl ((n1, ((), (((nout1 + 1), (glue nout1 out1 (fun j => (upd (fun _ => (fun _ => 0)) 0 (upd w 0 1)) (0 + j)))), ((i64.wrap (i1 + 1)), ())))), (x2, ()))))
 else (
 none))
 else (
 bif ((Nat.ble ((nout1 + 1) * 32) 140737488355328) && (Nat.ble (nout1 + 1) 9223372036854775807)) then (
 some (.inl ((n1, ((), (((nout1 + 1), (glue nout1 out1 (fun j => (upd (fun _ => (fun _ => 0)) 0 w) (0 + j)))), ((i64.wrap (i1 + 1)), ())))), (x2, ()))))
 else (
 none)))))
 else (
 some (.inr (((nout, out), ()), ())))
noncomputable def r36_Weights' (seed : ByteArray) (n : Int) : Option ((Nat × (Nat → NI)) × Int) :=
 match (r34_New seed) with
 | none => none
 | some r => (
 bif (r.2 != 0) then (
 some ((0, (fun _ => (fun _ => 0))), r.2))
 else (
 bif (decide (n < 0)) then (
 some ((0, (fun _ => (fun _ => 0))), 1))
 else (
 bif (decide (n > 64)) then (
 some ((0, (fun _ => (fun _ => 0))), 1))
 else (
 match (loopF R_r36_Weights_0 ((n, ((), ((0, (fun _ => (fun _ => 0))), (0, ())))), (r.1, ()))) with
 | none => none
 | some y => (
 let nout := y.1.1.1
 let out := y.1.1.2
 some ((nout, (fun j => out (0 + j))), 0))))))
noncomputable def r36_Weights := veil r36_Weights'
theorem r36_Weights_eq : r36_Weights = r36_Weights' := veil_eq _
end Go.Pl
