/-
  The functions of a package, plainly.
-/
import Derived.Test.YtidodcilgldjoaaGreatDenI
import Derived.Test.YtidodcilgldjoaaGreatPlA
set_option linter.unusedVariables false
set_option linter.unusedSimpArgs false
set_option maxRecDepth 100000
set_option maxHeartbeats 0
namespace Go.Pl
end Go.Pl
open Go Go.Den Go.Pl
namespace Go.Pl
open Go.IntKind (i64 u64 u32 u8)
abbrev T_r16_Few_0 (nm : Nat) (m : Nat → (SlV NI)) (most : Int) (i : Int) := (((nm, m), (most, (i, ()))), ())
abbrev Y_r16_Few_0_0 (t : Bool) : (((Bool × Unit) × Unit) ⊕ (((Nat × (Nat → (SlV NI))) × (Int × Unit)) × Unit)) := (.inl ((t, ()), ()))
abbrev Y_r16_Few_0_1 (nm : Nat) (m : Nat → (SlV NI)) (most : Int) : (((Bool × Unit) × Unit) ⊕ (((Nat × (Nat → (SlV NI))) × (Int × Unit)) × Unit)) := (.inr (((nm, m), (most, ())), ()))
abbrev X_r16_Few_0 : Type := (((Nat × (Nat → (SlV NI))) × (Int × (Int × Unit))) × Unit)
noncomputable def R_r16_Few_0 : X_r16_Few_0 → Option (X_r16_Few_0 ⊕ (((Bool × Unit) × Unit) ⊕ (((Nat × (Nat → (SlV NI))) × (Int × Unit)) × Unit))) := fun x =>
 let nm := x.1.1.1
 let m := x.1.1.2
 let most := x.1.2.1
 let i := x.1.2.2.1
 bif (decide (i < ((nm : Nat) : Int))) then (
 bif (decide (i < most)) then (
 bif (inb i nm) then (
 bif (SlV.isMs (m (Int.toNat i))) then (
 none)
 else (
 bif (decide ((((SlV.len (m (Int.toNat i))) : Nat) : Int) > 8)) then (
 some (.inr (.inl ((false, ()), ()))))
 else (
 some (.inl (((nm, m), (most, ((i64.wrap (i + 1)), ()))), ())))))
 else (
 none))
 else (
 some (.inr (.inr (((nm, m), (most, ())), ())))))
 else (
 some (.inr (.inr (((nm, m), (most, ())), ()))))
noncomputable def r16_Few' (nm : Nat) (m : Nat → (SlV NI)) (most : Int) : Option (Bool) :=
 match (loopF R_r16_Few_0 (((nm, m), (most, (0, ()))), ())) with
 | none => none
 | some y => (
 match y with
 | .inl y1 => (
 let t := y1.1.1
 some t)
 | .inr y1 => (
 let nm1 := y1.1.1.1
 let m1 := y1.1.1.2
 let most1 := y1.1.2.1
 some (decide (((nm1 : Nat) : Int) ≤ most1))))
noncomputable def r16_Few := veil r16_Few'
theorem r16_Few_eq : r16_Few = r16_Few' := veil_eq _
abbrev X_r16_Same_0 : Type := (((Nat × (Nat → (SlV NI))) × ((Nat × (Nat → (SlV NI))) × (Int × Unit))) × Unit)
noncomputable def R_r16_Same_0 : X_r16_Same_0 → Option (X_r16_Same_0 ⊕ (((Bool × Unit) × Unit) ⊕ (Unit × Unit))) := fun x =>
 let na := x.1.1.1
 let a := x.1.1.2
 let nb := x.1.2.1.1
 let b := x.1.2.1.2
 let i := x.1.2.2.1
 bif (decide (i < ((na : Nat) : Int))) then (
 bif (inb i na) then (
 bif (SlV.isMs (a (Int.toNat i))) then (
 none)
 else (
 bif (inb i nb) then (
 bif (SlV.isMs (b (Int.toNat i))) then (
 none)
 else (
 match (r08_Same (SlV.len (a (Int.toNat i))) (SlV.fn ((fun _ => 0) : NI) (a (Int.toNat i))) (SlV.len (b (Int.toNat i))) (SlV.fn ((fun _ => 0) : NI) (b (Int.toNat i)))) with
 | none => none
 | some r => (
 bif (!r) then (
 some (.inr (.inl ((false, ()), ()))))
 else (
 some (.inl (((na, a), ((nb, b), ((i64.wrap (i + 1)), ()))), ()))))))
 else (
 none)))
 else (
 none))
 else (
 some (.inr (.inr ((), ()))))
noncomputable def r16_Same' (na : Nat) (a : Nat → (SlV NI)) (nb : Nat) (b : Nat → (SlV NI)) : Option (Bool) :=
 bif (((na : Nat) : Int) != ((nb : Nat) : Int)) then (
 some false)
 else (
 match (loopF R_r16_Same_0 (((na, a), ((nb, b), (0, ()))), ())) with
 | none => none
 | some y => (
 match y with
 | .inl y1 => (
 let t := y1.1.1
 some t)
 | .inr y1 => (
 some true)))
noncomputable def r16_Same := veil r16_Same'
theorem r16_Same_eq : r16_Same = r16_Same' := veil_eq _
end Go.Pl
