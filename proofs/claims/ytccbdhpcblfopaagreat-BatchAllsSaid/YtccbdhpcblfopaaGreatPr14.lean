/-
  The functions of a package, plainly.
-/
import Derived.Test.YtccbdhpcblfopaaGreatDenI
import Derived.Test.YtccbdhpcblfopaaGreatPlA
set_option linter.unusedVariables false
set_option linter.unusedSimpArgs false
set_option maxRecDepth 100000
set_option maxHeartbeats 0
namespace Go.Pl
end Go.Pl
open Go Go.Den Go.Pl
namespace Go.Pl
open Go.IntKind (i64 u64 u32 u8)
abbrev T_r14_May_0 (nc : Nat) (c : Nat → NI) (j : Int) (s : (Int × (Int × Int))) := (((nc, c), ((), (j, ()))), (s, ()))
abbrev Y_r14_May_0_0 (t : Bool) : (((Bool × Unit) × Unit) ⊕ (((Nat × (Nat → NI)) × Unit) × Unit)) := (.inl ((t, ()), ()))
abbrev Y_r14_May_0_1 (nc : Nat) (c : Nat → NI) : (((Bool × Unit) × Unit) ⊕ (((Nat × (Nat → NI)) × Unit) × Unit)) := (.inr (((nc, c), ()), ()))
abbrev X_r14_May_0 : Type := (((Nat × (Nat → NI)) × (Unit × (Int × Unit))) × ((Int × (Int × Int)) × Unit))
noncomputable def R_r14_May_0 : X_r14_May_0 → Option (X_r14_May_0 ⊕ (((Bool × Unit) × Unit) ⊕ (((Nat × (Nat → NI)) × Unit) × Unit))) := fun x =>
 let nc := x.1.1.1
 let c := x.1.1.2
 let j := x.1.2.2.1
 let s := x.2.1
 bif (decide (j < ((nc : Nat) : Int))) then (
 bif (inb j nc) then (
 match (r09_In s (c (Int.toNat j))) with
 | none => none
 | some r => (
 bif (!r) then (
 some (.inr (.inl ((false, ()), ()))))
 else (
 some (.inl (((nc, c), ((), ((i64.wrap (j + 1)), ()))), (s, ()))))))
 else (
 none))
 else (
 some (.inr (.inr (((nc, c), ()), ()))))
noncomputable def r14_May' (s : (Int × (Int × Int))) (nc : Nat) (c : Nat → NI) : Option (Bool) :=
 match (loopF R_r14_May_0 (((nc, c), ((), (0, ()))), (s, ()))) with
 | none => none
 | some y => (
 match y with
 | .inl y1 => (
 let t := y1.1.1
 some t)
 | .inr y1 => (
 let nc1 := y1.1.1.1
 let c1 := y1.1.1.2
 bif (decide (((nc1 : Nat) : Int) ≥ 1)) then (
 some (decide (((nc1 : Nat) : Int) ≤ 7)))
 else (
 some false)))
noncomputable def r14_May := veil r14_May'
theorem r14_May_eq : r14_May = r14_May' := veil_eq _
abbrev T_r14_At_0 (nc : Nat) (c : Nat → NI) (i : Int) (out : Int) (power : Int) (j : Int) (s : (Int × (Int × Int))) := (((nc, c), (i, ((), (out, (power, (j, ())))))), (s, ()))
abbrev Y_r14_At_0_0 (out : Int) := ((out, ()), ())
abbrev X_r14_At_0 : Type := (((Nat × (Nat → NI)) × (Int × (Unit × (Int × (Int × (Int × Unit)))))) × ((Int × (Int × Int)) × Unit))
noncomputable def R_r14_At_0 : X_r14_At_0 → Option (X_r14_At_0 ⊕ ((Int × Unit) × Unit)) := fun x =>
 let nc := x.1.1.1
 let c := x.1.1.2
 let i := x.1.2.1
 let out := x.1.2.2.2.1
 let power := x.1.2.2.2.2.1
 let j := x.1.2.2.2.2.2.1
 let s := x.2.1
 bif (decide (j < ((nc : Nat) : Int))) then (
 bif (inb j nc) then (
 match (r08_By (c (Int.toNat j)) s.1) with
 | none => none
 | some r => (
 match (r01_Int power) with
 | none => none
 | some r1 => (
 match (r09_Exp s r r1) with
 | none => none
 | some r2 => (
 match (r09_Mul s out r2) with
 | none => none
 | some r3 => (
 some (.inl (((nc, c), (i, ((), (r3, ((i64.wrap (power * i)), ((i64.wrap (j + 1)), ())))))), (s, ()))))))))
 else (
 none))
 else (
 some (.inr ((out, ()), ())))
noncomputable def r14_At' (s : (Int × (Int × Int))) (nc : Nat) (c : Nat → NI) (i : Int) : Option (Int) :=
 match (loopF R_r14_At_0 (((nc, c), (i, ((), (1, (1, (0, ())))))), (s, ()))) with
 | none => none
 | some y => (
 let out := y.1.1
 some out)
noncomputable def r14_At := veil r14_At'
theorem r14_At_eq : r14_At = r14_At' := veil_eq _
end Go.Pl
