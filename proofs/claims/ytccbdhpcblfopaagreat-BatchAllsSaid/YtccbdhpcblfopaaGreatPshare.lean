/-
  The functions of a package, plainly.
-/
import Derived.Test.YtccbdhpcblfopaaGreatDenI
import Derived.Test.YtccbdhpcblfopaaGreatPlA
import Derived.Test.YtccbdhpcblfopaaGreatPpolyEval
set_option linter.unusedVariables false
set_option linter.unusedSimpArgs false
set_option maxRecDepth 100000
set_option maxHeartbeats 0
namespace Go.Pl
end Go.Pl
open Go Go.Den Go.Pl
namespace Go.Pl
open Go.IntKind (i64 u64 u32 u8)
abbrev T_share_Deal_0 (g : (((PtrV (NI × (Int × (NI × NI)))) × (PtrV (NI × (Int × (NI × NI))))) × NI)) (nf : Nat) (f : Nat → NI) (nout : Nat) (out : Nat → (Int × NI)) (t : Int) (t1 : Int) := ((g, ((nf, f), ((nout, out), (t, (t1, ()))))), ())
abbrev Y_share_Deal_0_0 (nout : Nat) (out : Nat → (Int × NI)) := (((nout, out), ()), ())
abbrev X_share_Deal_0 : Type := (((((PtrV (NI × (Int × (NI × NI)))) × (PtrV (NI × (Int × (NI × NI))))) × NI) × ((Nat × (Nat → NI)) × ((Nat × (Nat → (Int × NI))) × (Int × (Int × Unit))))) × Unit)
noncomputable def R_share_Deal_0 : X_share_Deal_0 → Option (X_share_Deal_0 ⊕ (((Nat × (Nat → (Int × NI))) × Unit) × Unit)) := fun x =>
 let g := x.1.1
 let nf := x.1.2.1.1
 let f := x.1.2.1.2
 let nout := x.1.2.2.1.1
 let out := x.1.2.2.1.2
 let t := x.1.2.2.2.1
 let t1 := x.1.2.2.2.2.1
 bif (decide (t1 < t)) then (
 match (nat_Of (i64.wrap (t1 + 1))) with
 | none => none
 | some r => (
 match (poly_Eval (some g) nf f r) with
 | none => none
 | some r1 => (
 bif ((Nat.ble ((nout + 1) * 40) 140737488355328) && (Nat.ble (nout + 1) 9223372036854775807)) then (
 some (.inl ((g, ((nf, f), (((nout + 1), (glue nout out (fun j => (upd (fun _ => (0, (fun _ => 0))) 0 ((i64.wrap (t1 + 1)), r1)) (0 + j)))), (t, ((i64.wrap (t1 + 1)), ()))))), ())))
 else (
 none))))
 else (
 some (.inr (((nout, out), ()), ())))
noncomputable def share_Deal' (g : (Option (((PtrV (NI × (Int × (NI × NI)))) × (PtrV (NI × (Int × (NI × NI))))) × NI))) (nf : Nat) (f : Nat → NI) (n : Int) : Option ((Nat × (Nat → (Int × NI))) × Int) :=
 match g with
 | none => (
 match (group_Group_Field none) with
 | none => none
 | some r1 => (
 match r1 with
 | none => (
 some ((0, (fun _ => (0, (fun _ => 0)))), 1))
 | some p1 => (
 bif (decide (n < 1)) then (
 some ((0, (fun _ => (0, (fun _ => 0)))), 1))
 else (
 bif (decide (n > 7)) then (
 some ((0, (fun _ => (0, (fun _ => 0)))), 1))
 else (
 none)))))
 | some g0 => (
 match (group_Group_Field (some g0)) with
 | none => none
 | some r => (
 match r with
 | none => (
 some ((0, (fun _ => (0, (fun _ => 0)))), 1))
 | some p => (
 bif (decide (n < 1)) then (
 some ((0, (fun _ => (0, (fun _ => 0)))), 1))
 else (
 bif (decide (n > 7)) then (
 some ((0, (fun _ => (0, (fun _ => 0)))), 1))
 else (
 match (loopF R_share_Deal_0 ((g0, ((nf, f), ((0, (fun _ => (0, (fun _ => 0)))), (n, (0, ()))))), ())) with
 | none => none
 | some y => (
 let nout := y.1.1.1
 let out := y.1.1.2
 some ((nout, (fun j => out (0 + j))), 0)))))))
noncomputable def share_Deal := veil share_Deal'
theorem share_Deal_eq : share_Deal = share_Deal' := veil_eq _
end Go.Pl
