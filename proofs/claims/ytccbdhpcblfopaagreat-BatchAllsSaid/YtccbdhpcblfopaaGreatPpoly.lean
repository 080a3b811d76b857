/-
  The functions of a package, plainly.
-/
import Derived.Test.YtccbdhpcblfopaaGreatDenI
import Derived.Test.YtccbdhpcblfopaaGreatPlA
import Derived.Test.YtccbdhpcblfopaaGreatPpolyEval
set_option linter.unusedVariables false
set_option linter.unusedSimpArgs false
set_option maxRecDepth 100000
set_option maxHeartbeats 0
namespace Go.Pl
end Go.Pl
open Go Go.Den Go.Pl
namespace Go.Pl
open Go.IntKind (i64 u64 u32 u8)
noncomputable def poly_zero' (a : NI) : Option (Bool) :=
 some (eqF (.arr 4 (.int .u64)) a (fun _ => 0))
noncomputable def poly_zero := veil poly_zero'
theorem poly_zero_eq : poly_zero = poly_zero' := veil_eq _
abbrev T_poly_Trim_0 (g : (((PtrV (NI × (Int × (NI × NI)))) × (PtrV (NI × (Int × (NI × NI))))) × NI)) (nout : Nat) (out : Nat → NI) (nt : Nat) (t : Nat → NI) (t1 : Int) (t2 : Int) := ((g, ((nout, out), ((nt, t), (t1, (t2, ()))))), ())
abbrev Y_poly_Trim_0_0 (nout : Nat) (out : Nat → NI) := (((nout, out), ()), ())
abbrev X_poly_Trim_0 : Type := (((((PtrV (NI × (Int × (NI × NI)))) × (PtrV (NI × (Int × (NI × NI))))) × NI) × ((Nat × (Nat → NI)) × ((Nat × (Nat → NI)) × (Int × (Int × Unit))))) × Unit)
noncomputable def R_poly_Trim_0 : X_poly_Trim_0 → Option (X_poly_Trim_0 ⊕ (((Nat × (Nat → NI)) × Unit) × Unit)) := fun x =>
 let g := x.1.1
 let nout := x.1.2.1.1
 let out := x.1.2.1.2
 let nt := x.1.2.2.1.1
 let t := x.1.2.2.1.2
 let t1 := x.1.2.2.2.1
 let t2 := x.1.2.2.2.2.1
 bif (decide (t2 < t1)) then (
 bif (inb t2 nt) then (
 match (field_Add (some g) (t (Int.toNat t2)) (fun _ => 0)) with
 | none => none
 | some r => (
 bif ((Nat.ble ((nout + 1) * 32) 140737488355328) && (Nat.ble (nout + 1) 9223372036854775807)) then (
 some (.inl ((g, (((nout + 1), (glue nout out (fun j => (upd (fun _ => (fun _ => 0)) 0 r) (0 + j)))), ((nt, t), (t1, ((i64.wrap (t2 + 1)), ()))))), ())))
 else (
 none)))
 else (
 none))
 else (
 some (.inr (((nout, out), ()), ())))
abbrev T_poly_Trim_2 (nout : Nat) (out : Nat → NI) := (((nout, out), ()), ())
abbrev Y_poly_Trim_2_0 (nout : Nat) (out : Nat → NI) := (((nout, out), ()), ())
abbrev X_poly_Trim_2 : Type := (((Nat × (Nat → NI)) × Unit) × Unit)
noncomputable def R_poly_Trim_2 : X_poly_Trim_2 → Option (X_poly_Trim_2 ⊕ (((Nat × (Nat → NI)) × Unit) × Unit)) := fun x =>
 let nout := x.1.1.1
 let out := x.1.1.2
 bif (decide (((nout : Nat) : Int) > 0)) then (
 bif (inb (i64.wrap (((nout : Nat) : Int) - 1)) nout) then (
 match (poly_zero (out (0 + (Int.toNat (i64.wrap (((nout : Nat) : Int) - 1)))))) with
 | none => none
 | some r => (
 bif r then (
 bif ((decide (0 ≤ (i64.wrap (((nout : Nat) : Int) - 1)))) && (decide ((i64.wrap (((nout : Nat) : Int) - 1)) ≤ ((nout : Nat) : Int)))) then (
 some (.inl (((((Int.toNat (i64.wrap (((nout : Nat) : Int) - 1))) - 0), out), ()), ())))
 else (
 none))
 else (
 some (.inr (((nout, out), ()), ())))))
 else (
 none))
 else (
 some (.inr (((nout, out), ()), ())))
noncomputable def poly_Trim' (g : (Option (((PtrV (NI × (Int × (NI × NI)))) × (PtrV (NI × (Int × (NI × NI))))) × NI))) (nf : Nat) (f : Nat → NI) : Option ((((Nat × (Nat → NI)) × Unit) × Unit)) :=
 match g with
 | none => (
 match (group_Group_Field none) with
 | none => none
 | some r1 => (
 match r1 with
 | none => (
 some (((0, (fun _ => (fun _ => 0))), ()), ()))
 | some p1 => (
 none)))
 | some g0 => (
 match (group_Group_Field (some g0)) with
 | none => none
 | some r => (
 match r with
 | none => (
 some (((0, (fun _ => (fun _ => 0))), ()), ()))
 | some p => (
 match (loopF R_poly_Trim_0 ((g0, ((0, (fun _ => (fun _ => 0))), ((nf, f), (((nf : Nat) : Int), (0, ()))))), ())) with
 | none => none
 | some y => (
 let nout := y.1.1.1
 let out := y.1.1.2
 match (loopF R_poly_Trim_2 (((nout, out), ()), ())) with
 | none => none
 | some y1 => (
 let nout1 := y1.1.1.1
 let out1 := y1.1.1.2
 some (((nout1, out1), ()), ()))))))
noncomputable def poly_Trim := veil poly_Trim'
theorem poly_Trim_eq : poly_Trim = poly_Trim' := veil_eq _
end Go.Pl
