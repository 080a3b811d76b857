/-
  The functions of a package, plainly.
-/
import Derived.Test.YtccbdhpcblfopaaGreatDenI
set_option linter.unusedVariables false
set_option linter.unusedSimpArgs false
set_option maxRecDepth 100000
set_option maxHeartbeats 0
namespace Go.Pl
end Go.Pl
open Go Go.Den Go.Pl
namespace Go.Pl
open Go.IntKind (i64 u64 u32 u8)
abbrev T_r17_Numbers_0 (na : Nat) (a : Nat → Int) (nb : Nat) (b : Nat → Int) (i : Int) := (((na, a), ((nb, b), (i, ()))), ())
abbrev Y_r17_Numbers_0_1  : (((Bool × Unit) × Unit) ⊕ (Unit × Unit)) := (.inr ((), ()))
abbrev X_r17_Numbers_0 : Type := (((Nat × NI) × ((Nat × NI) × (Int × Unit))) × Unit)
noncomputable def R_r17_Numbers_0 : X_r17_Numbers_0 → Option (X_r17_Numbers_0 ⊕ (((Bool × Unit) × Unit) ⊕ (Unit × Unit))) := fun x =>
 let na := x.1.1.1
 let a := x.1.1.2
 let nb := x.1.2.1.1
 let b := x.1.2.1.2
 let i := x.1.2.2.1
 bif (decide (i < ((na : Nat) : Int))) then (
 bif (inb i na) then (
 bif (inb i nb) then (
 bif ((a (Int.toNat i)) != (b (Int.toNat i))) then (
 some (.inr (.inl ((false, ()), ()))))
 else (
 some (.inl (((na, a), ((nb, b), ((i64.wrap (i + 1)), ()))), ()))))
 else (
 none))
 else (
 none))
 else (
 some (.inr (.inr ((), ()))))
noncomputable def r17_Numbers' (na : Nat) (a : Nat → Int) (nb : Nat) (b : Nat → Int) : Option (Bool) :=
 bif (((na : Nat) : Int) != ((nb : Nat) : Int)) then (
 some false)
 else (
 match (loopF R_r17_Numbers_0 (((na, a), ((nb, b), (0, ()))), ())) with
 | none => none
 | some y => (
 match y with
 | .inl y1 => (
 let t := y1.1.1
 some t)
 | .inr y1 => (
 some true)))
noncomputable def r17_Numbers := veil r17_Numbers'
theorem r17_Numbers_eq : r17_Numbers = r17_Numbers' := veil_eq _
end Go.Pl
