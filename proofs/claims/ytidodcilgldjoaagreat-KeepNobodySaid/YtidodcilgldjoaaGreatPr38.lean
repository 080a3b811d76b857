/-
  The functions of a package, plainly.
-/
import Derived.Test.YtidodcilgldjoaaGreatDenI
import Derived.Test.YtidodcilgldjoaaGreatPlA
import Derived.Test.YtidodcilgldjoaaGreatPr16
set_option linter.unusedVariables false
set_option linter.unusedSimpArgs false
set_option maxRecDepth 100000
set_option maxHeartbeats 0
namespace Go.Pl
end Go.Pl
open Go Go.Den Go.Pl
namespace Go.Pl
open Go.IntKind (i64 u64 u32 u8)
noncomputable def r38_fewGiven' (x : ((Int × Int) × (ByteArray × ((Nat × (Nat → (SlV NI))) × ((Nat × (Nat → NI)) × Int))))) : Option (Bool) :=
 bif (decide ((((ByteArray.size x.2.1) : Nat) : Int) ≤ 40)) then (
 match (r16_Few x.2.2.1.1 x.2.2.1.2 4) with
 | none => none
 | some r => (
 bif r then (
 some (decide (((x.2.2.2.1.1 : Nat) : Int) ≤ 6)))
 else (
 some false)))
 else (
 some false)
noncomputable def r38_fewGiven := veil r38_fewGiven'
theorem r38_fewGiven_eq : r38_fewGiven = r38_fewGiven' := veil_eq _
abbrev T_r38_Few_2 (i : Int) (k : Int) (x1 : Int) (x2 : Int) (x3 : Int) (nx : Nat) (x4 : Nat → Int) (nx1 : Nat) (x5 : Nat → (ByteArray × (((Int × Int) × (ByteArray × ((SlV (SlV NI)) × ((SlV NI) × Int)))) × ((SlV (Int × ((Int × Int) × ByteArray))) × ((SlV (Int × ((Int × Int) × ByteArray))) × (SlV (((Int × Int) × (ByteArray × ((SlV (SlV NI)) × ((SlV NI) × Int)))) × (((Int × Int) × (ByteArray × ((SlV (SlV NI)) × ((SlV NI) × Int)))) × (((Int × Int) × (ByteArray × ((SlV (SlV NI)) × ((SlV NI) × Int)))) × (Int × Int)))))))))) (r : ByteArray) (r1 : (Int × Int)) (r2 : ByteArray) (nr : Nat) (r3 : Nat → (SlV NI)) (nr1 : Nat) (r4 : Nat → NI) (r5 : Int) (nr2 : Nat) (r6 : Nat → (Int × ((Int × Int) × ByteArray))) (nr3 : Nat) (r7 : Nat → (Int × ((Int × Int) × ByteArray))) (nr4 : Nat) (r8 : Nat → (((Int × Int) × (ByteArray × ((SlV (SlV NI)) × ((SlV NI) × Int)))) × (((Int × Int) × (ByteArray × ((SlV (SlV NI)) × ((SlV NI) × Int)))) × (((Int × Int) × (ByteArray × ((SlV (SlV NI)) × ((SlV NI) × Int)))) × (Int × Int))))) := (((), (i, ((), (k, ())))), ((x1, (x2, (x3, ((nx, x4), (nx1, x5))))), ((r, ((r1, (r2, ((nr, r3), ((nr1, r4), r5)))), ((nr2, r6), ((nr3, r7), (nr4, r8))))), ())))
abbrev Y_r38_Few_2_0 (t : Bool) : (((Bool × Unit) × Unit) ⊕ ((Unit × (Int × (Unit × Unit))) × ((Int × (Int × (Int × ((Nat × NI) × (Nat × (Nat → (ByteArray × (((Int × Int) × (ByteArray × ((SlV (SlV NI)) × ((SlV NI) × Int)))) × ((SlV (Int × ((Int × Int) × ByteArray))) × ((SlV (Int × ((Int × Int) × ByteArray))) × (SlV (((Int × Int) × (ByteArray × ((SlV (SlV NI)) × ((SlV NI) × Int)))) × (((Int × Int) × (ByteArray × ((SlV (SlV NI)) × ((SlV NI) × Int)))) × (((Int × Int) × (ByteArray × ((SlV (SlV NI)) × ((SlV NI) × Int)))) × (Int × Int))))))))))))))) × ((ByteArray × (((Int × Int) × (ByteArray × ((Nat × (Nat → (SlV NI))) × ((Nat × (Nat → NI)) × Int)))) × ((Nat × (Nat → (Int × ((Int × Int) × ByteArray)))) × ((Nat × (Nat → (Int × ((Int × Int) × ByteArray)))) × (Nat × (Nat → (((Int × Int) × (ByteArray × ((SlV (SlV NI)) × ((SlV NI) × Int)))) × (((Int × Int) × (ByteArray × ((SlV (SlV NI)) × ((SlV NI) × Int)))) × (((Int × Int) × (ByteArray × ((SlV (SlV NI)) × ((SlV NI) × Int)))) × (Int × Int)))))))))) × Unit)))) := (.inl ((t, ()), ()))
abbrev Y_r38_Few_2_1 (i : Int) (x1 : Int) (x2 : Int) (x3 : Int) (nx : Nat) (x4 : Nat → Int) (nx1 : Nat) (x5 : Nat → (ByteArray × (((Int × Int) × (ByteArray × ((SlV (SlV NI)) × ((SlV NI) × Int)))) × ((SlV (Int × ((Int × Int) × ByteArray))) × ((SlV (Int × ((Int × Int) × ByteArray))) × (SlV (((Int × Int) × (ByteArray × ((SlV (SlV NI)) × ((SlV NI) × Int)))) × (((Int × Int) × (ByteArray × ((SlV (SlV NI)) × ((SlV NI) × Int)))) × (((Int × Int) × (ByteArray × ((SlV (SlV NI)) × ((SlV NI) × Int)))) × (Int × Int)))))))))) (r : ByteArray) (r1 : (Int × Int)) (r2 : ByteArray) (nr : Nat) (r3 : Nat → (SlV NI)) (nr1 : Nat) (r4 : Nat → NI) (r5 : Int) (nr2 : Nat) (r6 : Nat → (Int × ((Int × Int) × ByteArray))) (nr3 : Nat) (r7 : Nat → (Int × ((Int × Int) × ByteArray))) (nr4 : Nat) (r8 : Nat → (((Int × Int) × (ByteArray × ((SlV (SlV NI)) × ((SlV NI) × Int)))) × (((Int × Int) × (ByteArray × ((SlV (SlV NI)) × ((SlV NI) × Int)))) × (((Int × Int) × (ByteArray × ((SlV (SlV NI)) × ((SlV NI) × Int)))) × (Int × Int))))) : (((Bool × Unit) × Unit) ⊕ ((Unit × (Int × (Unit × Unit))) × ((Int × (Int × (Int × ((Nat × NI) × (Nat × (Nat → (ByteArray × (((Int × Int) × (ByteArray × ((SlV (SlV NI)) × ((SlV NI) × Int)))) × ((SlV (Int × ((Int × Int) × ByteArray))) × ((SlV (Int × ((Int × Int) × ByteArray))) × (SlV (((Int × Int) × (ByteArray × ((SlV (SlV NI)) × ((SlV NI) × Int)))) × (((Int × Int) × (ByteArray × ((SlV (SlV NI)) × ((SlV NI) × Int)))) × (((Int × Int) × (ByteArray × ((SlV (SlV NI)) × ((SlV NI) × Int)))) × (Int × Int))))))))))))))) × ((ByteArray × (((Int × Int) × (ByteArray × ((Nat × (Nat → (SlV NI))) × ((Nat × (Nat → NI)) × Int)))) × ((Nat × (Nat → (Int × ((Int × Int) × ByteArray)))) × ((Nat × (Nat → (Int × ((Int × Int) × ByteArray)))) × (Nat × (Nat → (((Int × Int) × (ByteArray × ((SlV (SlV NI)) × ((SlV NI) × Int)))) × (((Int × Int) × (ByteArray × ((SlV (SlV NI)) × ((SlV NI) × Int)))) × (((Int × Int) × (ByteArray × ((SlV (SlV NI)) × ((SlV NI) × Int)))) × (Int × Int)))))))))) × Unit)))) := (.inr (((), (i, ((), ()))), ((x1, (x2, (x3, ((nx, x4), (nx1, x5))))), ((r, ((r1, (r2, ((nr, r3), ((nr1, r4), r5)))), ((nr2, r6), ((nr3, r7), (nr4, r8))))), ()))))
abbrev X_r38_Few_2 : Type := ((Unit × (Int × (Unit × (Int × Unit)))) × ((Int × (Int × (Int × ((Nat × NI) × (Nat × (Nat → (ByteArray × (((Int × Int) × (ByteArray × ((SlV (SlV NI)) × ((SlV NI) × Int)))) × ((SlV (Int × ((Int × Int) × ByteArray))) × ((SlV (Int × ((Int × Int) × ByteArray))) × (SlV (((Int × Int) × (ByteArray × ((SlV (SlV NI)) × ((SlV NI) × Int)))) × (((Int × Int) × (ByteArray × ((SlV (SlV NI)) × ((SlV NI) × Int)))) × (((Int × Int) × (ByteArray × ((SlV (SlV NI)) × ((SlV NI) × Int)))) × (Int × Int))))))))))))))) × ((ByteArray × (((Int × Int) × (ByteArray × ((Nat × (Nat → (SlV NI))) × ((Nat × (Nat → NI)) × Int)))) × ((Nat × (Nat → (Int × ((Int × Int) × ByteArray)))) × ((Nat × (Nat → (Int × ((Int × Int) × ByteArray)))) × (Nat × (Nat → (((Int × Int) × (ByteArray × ((SlV (SlV NI)) × ((SlV NI) × Int)))) × (((Int × Int) × (ByteArray × ((SlV (SlV NI)) × ((SlV NI) × Int)))) × (((Int × Int) × (ByteArray × ((SlV (SlV NI)) × ((SlV NI) × Int)))) × (Int × Int)))))))))) × Unit)))
noncomputable def R_r38_Few_2 : X_r38_Few_2 → Option (X_r38_Few_2 ⊕ (((Bool × Unit) × Unit) ⊕ ((Unit × (Int × (Unit × Unit))) × ((Int × (Int × (Int × ((Nat × NI) × (Nat × (Nat → (ByteArray × (((Int × Int) × (ByteArray × ((SlV (SlV NI)) × ((SlV NI) × Int)))) × ((SlV (Int × ((Int × Int) × ByteArray))) × ((SlV (Int × ((Int × Int) × ByteArray))) × (SlV (((Int × Int) × (ByteArray × ((SlV (SlV NI)) × ((SlV NI) × Int)))) × (((Int × Int) × (ByteArray × ((SlV (SlV NI)) × ((SlV NI) × Int)))) × (((Int × Int) × (ByteArray × ((SlV (SlV NI)) × ((SlV NI) × Int)))) × (Int × Int))))))))))))))) × ((ByteArray × (((Int × Int) × (ByteArray × ((Nat × (Nat → (SlV NI))) × ((Nat × (Nat → NI)) × Int)))) × ((Nat × (Nat → (Int × ((Int × Int) × ByteArray)))) × ((Nat × (Nat → (Int × ((Int × Int) × ByteArray)))) × (Nat × (Nat → (((Int × Int) × (ByteArray × ((SlV (SlV NI)) × ((SlV NI) × Int)))) × (((Int × Int) × (ByteArray × ((SlV (SlV NI)) × ((SlV NI) × Int)))) × (((Int × Int) × (ByteArray × ((SlV (SlV NI)) × ((SlV NI) × Int)))) × (Int × Int)))))))))) × Unit))))) := fun x =>
 let i := x.1.2.1
 let k := x.1.2.2.2.1
 let x1 := x.2.1.1
 let x2 := x.2.1.2.1
 let x3 := x.2.1.2.2.1
 let nx := x.2.1.2.2.2.1.1
 let x4 := x.2.1.2.2.2.1.2
 let nx1 := x.2.1.2.2.2.2.1
 let x5 := x.2.1.2.2.2.2.2
 let r := x.2.2.1.1
 let r1 := x.2.2.1.2.1.1
 let r2 := x.2.2.1.2.1.2.1
 let nr := x.2.2.1.2.1.2.2.1.1
 let r3 := x.2.2.1.2.1.2.2.1.2
 let nr1 := x.2.2.1.2.1.2.2.2.1.1
 let r4 := x.2.2.1.2.1.2.2.2.1.2
 let r5 := x.2.2.1.2.1.2.2.2.2
 let nr2 := x.2.2.1.2.2.1.1
 let r6 := x.2.2.1.2.2.1.2
 let nr3 := x.2.2.1.2.2.2.1.1
 let r7 := x.2.2.1.2.2.2.1.2
 let nr4 := x.2.2.1.2.2.2.2.1
 let r8 := x.2.2.1.2.2.2.2.2
 bif (decide (k < ((nr2 : Nat) : Int))) then (
 bif (inb k nr2) then (
 bif (decide ((((ByteArray.size (r6 (Int.toNat k)).2.2) : Nat) : Int) > 40)) then (
 some (.inr (.inl ((false, ()), ()))))
 else (
 some (.inl (((), (i, ((), ((i64.wrap (k + 1)), ())))), ((x1, (x2, (x3, ((nx, x4), (nx1, x5))))), ((r, ((r1, (r2, ((nr, r3), ((nr1, r4), r5)))), ((nr2, r6), ((nr3, r7), (nr4, r8))))), ()))))))
 else (
 none))
 else (
 some (.inr (.inr (((), (i, ((), ()))), ((x1, (x2, (x3, ((nx, x4), (nx1, x5))))), ((r, ((r1, (r2, ((nr, r3), ((nr1, r4), r5)))), ((nr2, r6), ((nr3, r7), (nr4, r8))))), ()))))))
abbrev T_r38_Few_4 (i : Int) (k : Int) (x1 : Int) (x2 : Int) (x3 : Int) (nx : Nat) (x4 : Nat → Int) (nx1 : Nat) (x5 : Nat → (ByteArray × (((Int × Int) × (ByteArray × ((SlV (SlV NI)) × ((SlV NI) × Int)))) × ((SlV (Int × ((Int × Int) × ByteArray))) × ((SlV (Int × ((Int × Int) × ByteArray))) × (SlV (((Int × Int) × (ByteArray × ((SlV (SlV NI)) × ((SlV NI) × Int)))) × (((Int × Int) × (ByteArray × ((SlV (SlV NI)) × ((SlV NI) × Int)))) × (((Int × Int) × (ByteArray × ((SlV (SlV NI)) × ((SlV NI) × Int)))) × (Int × Int)))))))))) (r : ByteArray) (r1 : (Int × Int)) (r2 : ByteArray) (nr : Nat) (r3 : Nat → (SlV NI)) (nr1 : Nat) (r4 : Nat → NI) (r5 : Int) (nr2 : Nat) (r6 : Nat → (Int × ((Int × Int) × ByteArray))) (nr3 : Nat) (r7 : Nat → (Int × ((Int × Int) × ByteArray))) (nr4 : Nat) (r8 : Nat → (((Int × Int) × (ByteArray × ((SlV (SlV NI)) × ((SlV NI) × Int)))) × (((Int × Int) × (ByteArray × ((SlV (SlV NI)) × ((SlV NI) × Int)))) × (((Int × Int) × (ByteArray × ((SlV (SlV NI)) × ((SlV NI) × Int)))) × (Int × Int))))) := (((), (i, ((), (k, ())))), ((x1, (x2, (x3, ((nx, x4), (nx1, x5))))), ((r, ((r1, (r2, ((nr, r3), ((nr1, r4), r5)))), ((nr2, r6), ((nr3, r7), (nr4, r8))))), ())))
abbrev Y_r38_Few_4_0 (t : Bool) : (((Bool × Unit) × Unit) ⊕ ((Unit × (Int × (Unit × Unit))) × ((Int × (Int × (Int × ((Nat × NI) × (Nat × (Nat → (ByteArray × (((Int × Int) × (ByteArray × ((SlV (SlV NI)) × ((SlV NI) × Int)))) × ((SlV (Int × ((Int × Int) × ByteArray))) × ((SlV (Int × ((Int × Int) × ByteArray))) × (SlV (((Int × Int) × (ByteArray × ((SlV (SlV NI)) × ((SlV NI) × Int)))) × (((Int × Int) × (ByteArray × ((SlV (SlV NI)) × ((SlV NI) × Int)))) × (((Int × Int) × (ByteArray × ((SlV (SlV NI)) × ((SlV NI) × Int)))) × (Int × Int))))))))))))))) × ((ByteArray × (((Int × Int) × (ByteArray × ((Nat × (Nat → (SlV NI))) × ((Nat × (Nat → NI)) × Int)))) × ((Nat × (Nat → (Int × ((Int × Int) × ByteArray)))) × ((Nat × (Nat → (Int × ((Int × Int) × ByteArray)))) × (Nat × (Nat → (((Int × Int) × (ByteArray × ((SlV (SlV NI)) × ((SlV NI) × Int)))) × (((Int × Int) × (ByteArray × ((SlV (SlV NI)) × ((SlV NI) × Int)))) × (((Int × Int) × (ByteArray × ((SlV (SlV NI)) × ((SlV NI) × Int)))) × (Int × Int)))))))))) × Unit)))) := (.inl ((t, ()), ()))
abbrev Y_r38_Few_4_1 (i : Int) (x1 : Int) (x2 : Int) (x3 : Int) (nx : Nat) (x4 : Nat → Int) (nx1 : Nat) (x5 : Nat → (ByteArray × (((Int × Int) × (ByteArray × ((SlV (SlV NI)) × ((SlV NI) × Int)))) × ((SlV (Int × ((Int × Int) × ByteArray))) × ((SlV (Int × ((Int × Int) × ByteArray))) × (SlV (((Int × Int) × (ByteArray × ((SlV (SlV NI)) × ((SlV NI) × Int)))) × (((Int × Int) × (ByteArray × ((SlV (SlV NI)) × ((SlV NI) × Int)))) × (((Int × Int) × (ByteArray × ((SlV (SlV NI)) × ((SlV NI) × Int)))) × (Int × Int)))))))))) (r : ByteArray) (r1 : (Int × Int)) (r2 : ByteArray) (nr : Nat) (r3 : Nat → (SlV NI)) (nr1 : Nat) (r4 : Nat → NI) (r5 : Int) (nr2 : Nat) (r6 : Nat → (Int × ((Int × Int) × ByteArray))) (nr3 : Nat) (r7 : Nat → (Int × ((Int × Int) × ByteArray))) (nr4 : Nat) (r8 : Nat → (((Int × Int) × (ByteArray × ((SlV (SlV NI)) × ((SlV NI) × Int)))) × (((Int × Int) × (ByteArray × ((SlV (SlV NI)) × ((SlV NI) × Int)))) × (((Int × Int) × (ByteArray × ((SlV (SlV NI)) × ((SlV NI) × Int)))) × (Int × Int))))) : (((Bool × Unit) × Unit) ⊕ ((Unit × (Int × (Unit × Unit))) × ((Int × (Int × (Int × ((Nat × NI) × (Nat × (Nat → (ByteArray × (((Int × Int) × (ByteArray × ((SlV (SlV NI)) × ((SlV NI) × Int)))) × ((SlV (Int × ((Int × Int) × ByteArray))) × ((SlV (Int × ((Int × Int) × ByteArray))) × (SlV (((Int × Int) × (ByteArray × ((SlV (SlV NI)) × ((SlV NI) × Int)))) × (((Int × Int) × (ByteArray × ((SlV (SlV NI)) × ((SlV NI) × Int)))) × (((Int × Int) × (ByteArray × ((SlV (SlV NI)) × ((SlV NI) × Int)))) × (Int × Int))))))))))))))) × ((ByteArray × (((Int × Int) × (ByteArray × ((Nat × (Nat → (SlV NI))) × ((Nat × (Nat → NI)) × Int)))) × ((Nat × (Nat → (Int × ((Int × Int) × ByteArray)))) × ((Nat × (Nat → (Int × ((Int × Int) × ByteArray)))) × (Nat × (Nat → (((Int × Int) × (ByteArray × ((SlV (SlV NI)) × ((SlV NI) × Int)))) × (((Int × Int) × (ByteArray × ((SlV (SlV NI)) × ((SlV NI) × Int)))) × (((Int × Int) × (ByteArray × ((SlV (SlV NI)) × ((SlV NI) × Int)))) × (Int × Int)))))))))) × Unit)))) := (.inr (((), (i, ((), ()))), ((x1, (x2, (x3, ((nx, x4), (nx1, x5))))), ((r, ((r1, (r2, ((nr, r3), ((nr1, r4), r5)))), ((nr2, r6), ((nr3, r7), (nr4, r8))))), ()))))
abbrev X_r38_Few_4 : Type := ((Unit × (Int × (Unit × (Int × Unit)))) × ((Int × (Int × (Int × ((Nat × NI) × (Nat × (Nat → (ByteArray × (((Int × Int) × (ByteArray × ((SlV (SlV NI)) × ((SlV NI) × Int)))) × ((SlV (Int × ((Int × Int) × ByteArray))) × ((SlV (Int × ((Int × Int) × ByteArray))) × (SlV (((Int × Int) × (ByteArray × ((SlV (SlV NI)) × ((SlV NI) × Int)))) × (((Int × Int) × (ByteArray × ((SlV (SlV NI)) × ((SlV NI) × Int)))) × (((Int × Int) × (ByteArray × ((SlV (SlV NI)) × ((SlV NI) × Int)))) × (Int × Int))))))))))))))) × ((ByteArray × (((Int × Int) × (ByteArray × ((Nat × (Nat → (SlV NI))) × ((Nat × (Nat → NI)) × Int)))) × ((Nat × (Nat → (Int × ((Int × Int) × ByteArray)))) × ((Nat × (Nat → (Int × ((Int × Int) × ByteArray)))) × (Nat × (Nat → (((Int × Int) × (ByteArray × ((SlV (SlV NI)) × ((SlV NI) × Int)))) × (((Int × Int) × (ByteArray × ((SlV (SlV NI)) × ((SlV NI) × Int)))) × (((Int × Int) × (ByteArray × ((SlV (SlV NI)) × ((SlV NI) × Int)))) × (Int × Int)))))))))) × Unit)))
noncomputable def R_r38_Few_4 : X_r38_Few_4 → Option (X_r38_Few_4 ⊕ (((Bool × Unit) × Unit) ⊕ ((Unit × (Int × (Unit × Unit))) × ((Int × (Int × (Int × ((Nat × NI) × (Nat × (Nat → (ByteArray × (((Int × Int) × (ByteArray × ((SlV (SlV NI)) × ((SlV NI) × Int)))) × ((SlV (Int × ((Int × Int) × ByteArray))) × ((SlV (Int × ((Int × Int) × ByteArray))) × (SlV (((Int × Int) × (ByteArray × ((SlV (SlV NI)) × ((SlV NI) × Int)))) × (((Int × Int) × (ByteArray × ((SlV (SlV NI)) × ((SlV NI) × Int)))) × (((Int × Int) × (ByteArray × ((SlV (SlV NI)) × ((SlV NI) × Int)))) × (Int × Int))))))))))))))) × ((ByteArray × (((Int × Int) × (ByteArray × ((Nat × (Nat → (SlV NI))) × ((Nat × (Nat → NI)) × Int)))) × ((Nat × (Nat → (Int × ((Int × Int) × ByteArray)))) × ((Nat × (Nat → (Int × ((Int × Int) × ByteArray)))) × (Nat × (Nat → (((Int × Int) × (ByteArray × ((SlV (SlV NI)) × ((SlV NI) × Int)))) × (((Int × Int) × (ByteArray × ((SlV (SlV NI)) × ((SlV NI) × Int)))) × (((Int × Int) × (ByteArray × ((SlV (SlV NI)) × ((SlV NI) × Int)))) × (Int × Int)))))))))) × Unit))))) := fun x =>
 let i := x.1.2.1
 let k := x.1.2.2.2.1
 let x1 := x.2.1.1
 let x2 := x.2.1.2.1
 let x3 := x.2.1.2.2.1
 let nx := x.2.1.2.2.2.1.1
 let x4 := x.2.1.2.2.2.1.2
 let nx1 := x.2.1.2.2.2.2.1
 let x5 := x.2.1.2.2.2.2.2
 let r := x.2.2.1.1
 let r1 := x.2.2.1.2.1.1
 let r2 := x.2.2.1.2.1.2.1
 let nr := x.2.2.1.2.1.2.2.1.1
 let r3 := x.2.2.1.2.1.2.2.1.2
 let nr1 := x.2.2.1.2.1.2.2.2.1.1
 let r4 := x.2.2.1.2.1.2.2.2.1.2
 let r5 := x.2.2.1.2.1.2.2.2.2
 let nr2 := x.2.2.1.2.2.1.1
 let r6 := x.2.2.1.2.2.1.2
 let nr3 := x.2.2.1.2.2.2.1.1
 let r7 := x.2.2.1.2.2.2.1.2
 let nr4 := x.2.2.1.2.2.2.2.1
 let r8 := x.2.2.1.2.2.2.2.2
 bif (decide (k < ((nr3 : Nat) : Int))) then (
 bif (inb k nr3) then (
 bif (decide ((((ByteArray.size (r7 (Int.toNat k)).2.2) : Nat) : Int) > 40)) then (
 some (.inr (.inl ((false, ()), ()))))
 else (
 some (.inl (((), (i, ((), ((i64.wrap (k + 1)), ())))), ((x1, (x2, (x3, ((nx, x4), (nx1, x5))))), ((r, ((r1, (r2, ((nr, r3), ((nr1, r4), r5)))), ((nr2, r6), ((nr3, r7), (nr4, r8))))), ()))))))
 else (
 none))
 else (
 some (.inr (.inr (((), (i, ((), ()))), ((x1, (x2, (x3, ((nx, x4), (nx1, x5))))), ((r, ((r1, (r2, ((nr, r3), ((nr1, r4), r5)))), ((nr2, r6), ((nr3, r7), (nr4, r8))))), ()))))))
abbrev T_r38_Few_6 (i : Int) (k : Int) (x1 : Int) (x2 : Int) (x3 : Int) (nx : Nat) (x4 : Nat → Int) (nx1 : Nat) (x5 : Nat → (ByteArray × (((Int × Int) × (ByteArray × ((SlV (SlV NI)) × ((SlV NI) × Int)))) × ((SlV (Int × ((Int × Int) × ByteArray))) × ((SlV (Int × ((Int × Int) × ByteArray))) × (SlV (((Int × Int) × (ByteArray × ((SlV (SlV NI)) × ((SlV NI) × Int)))) × (((Int × Int) × (ByteArray × ((SlV (SlV NI)) × ((SlV NI) × Int)))) × (((Int × Int) × (ByteArray × ((SlV (SlV NI)) × ((SlV NI) × Int)))) × (Int × Int)))))))))) (r : ByteArray) (r1 : (Int × Int)) (r2 : ByteArray) (nr : Nat) (r3 : Nat → (SlV NI)) (nr1 : Nat) (r4 : Nat → NI) (r5 : Int) (nr2 : Nat) (r6 : Nat → (Int × ((Int × Int) × ByteArray))) (nr3 : Nat) (r7 : Nat → (Int × ((Int × Int) × ByteArray))) (nr4 : Nat) (r8 : Nat → (((Int × Int) × (ByteArray × ((SlV (SlV NI)) × ((SlV NI) × Int)))) × (((Int × Int) × (ByteArray × ((SlV (SlV NI)) × ((SlV NI) × Int)))) × (((Int × Int) × (ByteArray × ((SlV (SlV NI)) × ((SlV NI) × Int)))) × (Int × Int))))) := (((), (i, ((), (k, ())))), ((x1, (x2, (x3, ((nx, x4), (nx1, x5))))), ((r, ((r1, (r2, ((nr, r3), ((nr1, r4), r5)))), ((nr2, r6), ((nr3, r7), (nr4, r8))))), ())))
abbrev Y_r38_Few_6_0 (t : Bool) : (((Bool × Unit) × Unit) ⊕ ((Unit × (Int × Unit)) × ((Int × (Int × (Int × ((Nat × NI) × (Nat × (Nat → (ByteArray × (((Int × Int) × (ByteArray × ((SlV (SlV NI)) × ((SlV NI) × Int)))) × ((SlV (Int × ((Int × Int) × ByteArray))) × ((SlV (Int × ((Int × Int) × ByteArray))) × (SlV (((Int × Int) × (ByteArray × ((SlV (SlV NI)) × ((SlV NI) × Int)))) × (((Int × Int) × (ByteArray × ((SlV (SlV NI)) × ((SlV NI) × Int)))) × (((Int × Int) × (ByteArray × ((SlV (SlV NI)) × ((SlV NI) × Int)))) × (Int × Int))))))))))))))) × Unit))) := (.inl ((t, ()), ()))
abbrev Y_r38_Few_6_1 (i : Int) (x1 : Int) (x2 : Int) (x3 : Int) (nx : Nat) (x4 : Nat → Int) (nx1 : Nat) (x5 : Nat → (ByteArray × (((Int × Int) × (ByteArray × ((SlV (SlV NI)) × ((SlV NI) × Int)))) × ((SlV (Int × ((Int × Int) × ByteArray))) × ((SlV (Int × ((Int × Int) × ByteArray))) × (SlV (((Int × Int) × (ByteArray × ((SlV (SlV NI)) × ((SlV NI) × Int)))) × (((Int × Int) × (ByteArray × ((SlV (SlV NI)) × ((SlV NI) × Int)))) × (((Int × Int) × (ByteArray × ((SlV (SlV NI)) × ((SlV NI) × Int)))) × (Int × Int)))))))))) : (((Bool × Unit) × Unit) ⊕ ((Unit × (Int × Unit)) × ((Int × (Int × (Int × ((Nat × NI) × (Nat × (Nat → (ByteArray × (((Int × Int) × (ByteArray × ((SlV (SlV NI)) × ((SlV NI) × Int)))) × ((SlV (Int × ((Int × Int) × ByteArray))) × ((SlV (Int × ((Int × Int) × ByteArray))) × (SlV (((Int × Int) × (ByteArray × ((SlV (SlV NI)) × ((SlV NI) × Int)))) × (((Int × Int) × (ByteArray × ((SlV (SlV NI)) × ((SlV NI) × Int)))) × (((Int × Int) × (ByteArray × ((SlV (SlV NI)) × ((SlV NI) × Int)))) × (Int × Int))))))))))))))) × Unit))) := (.inr (((), (i, ())), ((x1, (x2, (x3, ((nx, x4), (nx1, x5))))), ())))
abbrev X_r38_Few_6 : Type := ((Unit × (Int × (Unit × (Int × Unit)))) × ((Int × (Int × (Int × ((Nat × NI) × (Nat × (Nat → (ByteArray × (((Int × Int) × (ByteArray × ((SlV (SlV NI)) × ((SlV NI) × Int)))) × ((SlV (Int × ((Int × Int) × ByteArray))) × ((SlV (Int × ((Int × Int) × ByteArray))) × (SlV (((Int × Int) × (ByteArray × ((SlV (SlV NI)) × ((SlV NI) × Int)))) × (((Int × Int) × (ByteArray × ((SlV (SlV NI)) × ((SlV NI) × Int)))) × (((Int × Int) × (ByteArray × ((SlV (SlV NI)) × ((SlV NI) × Int)))) × (Int × Int))))))))))))))) × ((ByteArray × (((Int × Int) × (ByteArray × ((Nat × (Nat → (SlV NI))) × ((Nat × (Nat → NI)) × Int)))) × ((Nat × (Nat → (Int × ((Int × Int) × ByteArray)))) × ((Nat × (Nat → (Int × ((Int × Int) × ByteArray)))) × (Nat × (Nat → (((Int × Int) × (ByteArray × ((SlV (SlV NI)) × ((SlV NI) × Int)))) × (((Int × Int) × (ByteArray × ((SlV (SlV NI)) × ((SlV NI) × Int)))) × (((Int × Int) × (ByteArray × ((SlV (SlV NI)) × ((SlV NI) × Int)))) × (Int × Int)))))))))) × Unit)))
noncomputable def R_r38_Few_6 : X_r38_Few_6 → Option (X_r38_Few_6 ⊕ (((Bool × Unit) × Unit) ⊕ ((Unit × (Int × Unit)) × ((Int × (Int × (Int × ((Nat × NI) × (Nat × (Nat → (ByteArray × (((Int × Int) × (ByteArray × ((SlV (SlV NI)) × ((SlV NI) × Int)))) × ((SlV (Int × ((Int × Int) × ByteArray))) × ((SlV (Int × ((Int × Int) × ByteArray))) × (SlV (((Int × Int) × (ByteArray × ((SlV (SlV NI)) × ((SlV NI) × Int)))) × (((Int × Int) × (ByteArray × ((SlV (SlV NI)) × ((SlV NI) × Int)))) × (((Int × Int) × (ByteArray × ((SlV (SlV NI)) × ((SlV NI) × Int)))) × (Int × Int))))))))))))))) × Unit)))) := fun x =>
 let i := x.1.2.1
 let k := x.1.2.2.2.1
 let x1 := x.2.1.1
 let x2 := x.2.1.2.1
 let x3 := x.2.1.2.2.1
 let nx := x.2.1.2.2.2.1.1
 let x4 := x.2.1.2.2.2.1.2
 let nx1 := x.2.1.2.2.2.2.1
 let x5 := x.2.1.2.2.2.2.2
 let r := x.2.2.1.1
 let r1 := x.2.2.1.2.1.1
 let r2 := x.2.2.1.2.1.2.1
 let nr := x.2.2.1.2.1.2.2.1.1
 let r3 := x.2.2.1.2.1.2.2.1.2
 let nr1 := x.2.2.1.2.1.2.2.2.1.1
 let r4 := x.2.2.1.2.1.2.2.2.1.2
 let r5 := x.2.2.1.2.1.2.2.2.2
 let nr2 := x.2.2.1.2.2.1.1
 let r6 := x.2.2.1.2.2.1.2
 let nr3 := x.2.2.1.2.2.2.1.1
 let r7 := x.2.2.1.2.2.2.1.2
 let nr4 := x.2.2.1.2.2.2.2.1
 let r8 := x.2.2.1.2.2.2.2.2
 bif (decide (k < ((nr4 : Nat) : Int))) then (
 bif (inb k nr4) then (
 bif (SlV.isMs (r8 (Int.toNat k)).1.2.2.1) then (
 none)
 else (
 bif (SlV.isMs (r8 (Int.toNat k)).1.2.2.2.1) then (
 none)
 else (
 match (r38_fewGiven ((r8 (Int.toNat k)).1.1, ((r8 (Int.toNat k)).1.2.1, (((SlV.len (r8 (Int.toNat k)).1.2.2.1), (SlV.fn (.nil : (SlV NI)) (r8 (Int.toNat k)).1.2.2.1)), (((SlV.len (r8 (Int.toNat k)).1.2.2.2.1), (SlV.fn ((fun _ => 0) : NI) (r8 (Int.toNat k)).1.2.2.2.1)), (r8 (Int.toNat k)).1.2.2.2.2))))) with
 | none => none
 | some r9 => (
 bif (!r9) then (
 some (.inr (.inl ((false, ()), ()))))
 else (
 bif (inb k nr4) then (
 bif (SlV.isMs (r8 (Int.toNat k)).2.1.2.2.1) then (
 none)
 else (
 bif (SlV.isMs (r8 (Int.toNat k)).2.1.2.2.2.1) then (
 none)
 else (
 match (r38_fewGiven ((r8 (Int.toNat k)).2.1.1, ((r8 (Int.toNat k)).2.1.2.1, (((SlV.len (r8 (Int.toNat k)).2.1.2.2.1), (SlV.fn (.nil : (SlV NI)) (r8 (Int.toNat k)).2.1.2.2.1)), (((SlV.len (r8 (Int.toNat k)).2.1.2.2.2.1), (SlV.fn ((fun _ => 0) : NI) (r8 (Int.toNat k)).2.1.2.2.2.1)), (r8 (Int.toNat k)).2.1.2.2.2.2))))) with
 | none => none
 | some r10 => (
 bif (!r10) then (
 some (.inr (.inl ((false, ()), ()))))
 else (
 bif (inb k nr4) then (
 bif (SlV.isMs (r8 (Int.toNat k)).2.2.1.2.2.1) then (
 none)
 else (
 bif (SlV.isMs (r8 (Int.toNat k)).2.2.1.2.2.2.1) then (
 none)
 else (
 match (r38_fewGiven ((r8 (Int.toNat k)).2.2.1.1, ((r8 (Int.toNat k)).2.2.1.2.1, (((SlV.len (r8 (Int.toNat k)).2.2.1.2.2.1), (SlV.fn (.nil : (SlV NI)) (r8 (Int.toNat k)).2.2.1.2.2.1)), (((SlV.len (r8 (Int.toNat k)).2.2.1.2.2.2.1), (SlV.fn ((fun _ => 0) : NI) (r8 (Int.toNat k)).2.2.1.2.2.2.1)), (r8 (Int.toNat k)).2.2.1.2.2.2.2))))) with
 | none => none
 | some r11 => (
 bif (!r11) then (
 some (.inr (.inl ((false, ()), ()))))
 else (
 some (.inl (((), (i, ((), ((i64.wrap (k + 1)), ())))), ((x1, (x2, (x3, ((nx, x4), (nx1, x5))))), ((r, ((r1, (r2, ((nr, r3), ((nr1, r4), r5)))), ((nr2, r6), ((nr3, r7), (nr4, r8))))), ())))))))))
 else (
 none))))))
 else (
 none))))))
 else (
 none))
 else (
 some (.inr (.inr (((), (i, ())), ((x1, (x2, (x3, ((nx, x4), (nx1, x5))))), ())))))
abbrev T_r38_Few_0 (i : Int) (x1 : Int) (x2 : Int) (x3 : Int) (nx : Nat) (x4 : Nat → Int) (nx1 : Nat) (x5 : Nat → (ByteArray × (((Int × Int) × (ByteArray × ((SlV (SlV NI)) × ((SlV NI) × Int)))) × ((SlV (Int × ((Int × Int) × ByteArray))) × ((SlV (Int × ((Int × Int) × ByteArray))) × (SlV (((Int × Int) × (ByteArray × ((SlV (SlV NI)) × ((SlV NI) × Int)))) × (((Int × Int) × (ByteArray × ((SlV (SlV NI)) × ((SlV NI) × Int)))) × (((Int × Int) × (ByteArray × ((SlV (SlV NI)) × ((SlV NI) × Int)))) × (Int × Int)))))))))) := (((), (i, ())), ((x1, (x2, (x3, ((nx, x4), (nx1, x5))))), ()))
abbrev Y_r38_Few_0_0 (t : Bool) : (((Bool × Unit) × Unit) ⊕ (Unit × Unit)) := (.inl ((t, ()), ()))
abbrev Y_r38_Few_0_1  : (((Bool × Unit) × Unit) ⊕ (Unit × Unit)) := (.inr ((), ()))
abbrev X_r38_Few_0 : Type := ((Unit × (Int × Unit)) × ((Int × (Int × (Int × ((Nat × NI) × (Nat × (Nat → (ByteArray × (((Int × Int) × (ByteArray × ((SlV (SlV NI)) × ((SlV NI) × Int)))) × ((SlV (Int × ((Int × Int) × ByteArray))) × ((SlV (Int × ((Int × Int) × ByteArray))) × (SlV (((Int × Int) × (ByteArray × ((SlV (SlV NI)) × ((SlV NI) × Int)))) × (((Int × Int) × (ByteArray × ((SlV (SlV NI)) × ((SlV NI) × Int)))) × (((Int × Int) × (ByteArray × ((SlV (SlV NI)) × ((SlV NI) × Int)))) × (Int × Int))))))))))))))) × Unit))
noncomputable def R_r38_Few_0 : X_r38_Few_0 → Option (X_r38_Few_0 ⊕ (((Bool × Unit) × Unit) ⊕ (Unit × Unit))) := fun x =>
 let i := x.1.2.1
 let x1 := x.2.1.1
 let x2 := x.2.1.2.1
 let x3 := x.2.1.2.2.1
 let nx := x.2.1.2.2.2.1.1
 let x4 := x.2.1.2.2.2.1.2
 let nx1 := x.2.1.2.2.2.2.1
 let x5 := x.2.1.2.2.2.2.2
 bif (decide (i < ((nx1 : Nat) : Int))) then (
 bif (inb i nx1) then (
 bif (SlV.isMs (x5 (Int.toNat i)).2.1.2.2.1) then (
 none)
 else (
 bif (SlV.isMs (x5 (Int.toNat i)).2.1.2.2.2.1) then (
 none)
 else (
 bif (SlV.isMs (x5 (Int.toNat i)).2.2.1) then (
 none)
 else (
 bif (SlV.isMs (x5 (Int.toNat i)).2.2.2.1) then (
 none)
 else (
 bif (SlV.isMs (x5 (Int.toNat i)).2.2.2.2) then (
 none)
 else (
 bif (decide ((((ByteArray.size (x5 (Int.toNat i)).1) : Nat) : Int) > 20)) then (
 some (.inr (.inl ((false, ()), ()))))
 else (
 bif (decide ((((SlV.len (x5 (Int.toNat i)).2.2.1) : Nat) : Int) > 20)) then (
 some (.inr (.inl ((false, ()), ()))))
 else (
 bif (decide ((((SlV.len (x5 (Int.toNat i)).2.2.2.1) : Nat) : Int) > 20)) then (
 some (.inr (.inl ((false, ()), ()))))
 else (
 bif (decide ((((SlV.len (x5 (Int.toNat i)).2.2.2.2) : Nat) : Int) > 5)) then (
 some (.inr (.inl ((false, ()), ()))))
 else (
 match (r38_fewGiven ((x5 (Int.toNat i)).2.1.1, ((x5 (Int.toNat i)).2.1.2.1, (((SlV.len (x5 (Int.toNat i)).2.1.2.2.1), (SlV.fn (.nil : (SlV NI)) (x5 (Int.toNat i)).2.1.2.2.1)), (((SlV.len (x5 (Int.toNat i)).2.1.2.2.2.1), (SlV.fn ((fun _ => 0) : NI) (x5 (Int.toNat i)).2.1.2.2.2.1)), (x5 (Int.toNat i)).2.1.2.2.2.2))))) with
 | none => none
 | some r => (
 bif (!r) then (
 some (.inr (.inl ((false, ()), ()))))
 else (
 match (loopF R_r38_Few_2 (((), (i, ((), (0, ())))), ((x1, (x2, (x3, ((nx, x4), (nx1, x5))))), (((x5 (Int.toNat i)).1, (((x5 (Int.toNat i)).2.1.1, ((x5 (Int.toNat i)).2.1.2.1, (((SlV.len (x5 (Int.toNat i)).2.1.2.2.1), (SlV.fn (.nil : (SlV NI)) (x5 (Int.toNat i)).2.1.2.2.1)), (((SlV.len (x5 (Int.toNat i)).2.1.2.2.2.1), (SlV.fn ((fun _ => 0) : NI) (x5 (Int.toNat i)).2.1.2.2.2.1)), (x5 (Int.toNat i)).2.1.2.2.2.2)))), (((SlV.len (x5 (Int.toNat i)).2.2.1), (SlV.fn ((0, ((0, 0), ByteArray.empty)) : (Int × ((Int × Int) × ByteArray))) (x5 (Int.toNat i)).2.2.1)), (((SlV.len (x5 (Int.toNat i)).2.2.2.1), (SlV.fn ((0, ((0, 0), ByteArray.empty)) : (Int × ((Int × Int) × ByteArray))) (x5 (Int.toNat i)).2.2.2.1)), ((SlV.len (x5 (Int.toNat i)).2.2.2.2), (SlV.fn ((((0, 0), (ByteArray.empty, (.nil, (.nil, 0)))), (((0, 0), (ByteArray.empty, (.nil, (.nil, 0)))), (((0, 0), (ByteArray.empty, (.nil, (.nil, 0)))), (0, 0)))) : (((Int × Int) × (ByteArray × ((SlV (SlV NI)) × ((SlV NI) × Int)))) × (((Int × Int) × (ByteArray × ((SlV (SlV NI)) × ((SlV NI) × Int)))) × (((Int × Int) × (ByteArray × ((SlV (SlV NI)) × ((SlV NI) × Int)))) × (Int × Int))))) (x5 (Int.toNat i)).2.2.2.2)))))), ())))) with
 | none => none
 | some y => (
 match y with
 | .inl y1 => (
 let t := y1.1.1
 some (.inr (.inl ((t, ()), ()))))
 | .inr y1 => (
 let i1 := y1.1.2.1
 let x6 := y1.2.1.1
 let x7 := y1.2.1.2.1
 let x8 := y1.2.1.2.2.1
 let nx2 := y1.2.1.2.2.2.1.1
 let x9 := y1.2.1.2.2.2.1.2
 let nx3 := y1.2.1.2.2.2.2.1
 let x10 := y1.2.1.2.2.2.2.2
 let r1 := y1.2.2.1.1
 let r2 := y1.2.2.1.2.1.1
 let r3 := y1.2.2.1.2.1.2.1
 let nr := y1.2.2.1.2.1.2.2.1.1
 let r4 := y1.2.2.1.2.1.2.2.1.2
 let nr1 := y1.2.2.1.2.1.2.2.2.1.1
 let r5 := y1.2.2.1.2.1.2.2.2.1.2
 let r6 := y1.2.2.1.2.1.2.2.2.2
 let nr2 := y1.2.2.1.2.2.1.1
 let r7 := y1.2.2.1.2.2.1.2
 let nr3 := y1.2.2.1.2.2.2.1.1
 let r8 := y1.2.2.1.2.2.2.1.2
 let nr4 := y1.2.2.1.2.2.2.2.1
 let r9 := y1.2.2.1.2.2.2.2.2
 match (loopF R_r38_Few_4 (((), (i1, ((), (0, ())))), ((x6, (x7, (x8, ((nx2, x9), (nx3, x10))))), ((r1, ((r2, (r3, ((nr, r4), ((nr1, r5), r6)))), ((nr2, r7), ((nr3, r8), (nr4, r9))))), ())))) with
 | none => none
 | some y2 => (
 match y2 with
 | .inl y3 => (
 let t1 := y3.1.1
 some (.inr (.inl ((t1, ()), ()))))
 | .inr y3 => (
 let i2 := y3.1.2.1
 let x11 := y3.2.1.1
 let x12 := y3.2.1.2.1
 let x13 := y3.2.1.2.2.1
 let nx4 := y3.2.1.2.2.2.1.1
 let x14 := y3.2.1.2.2.2.1.2
 let nx5 := y3.2.1.2.2.2.2.1
 let x15 := y3.2.1.2.2.2.2.2
 let r10 := y3.2.2.1.1
 let r11 := y3.2.2.1.2.1.1
 let r12 := y3.2.2.1.2.1.2.1
 let nr5 := y3.2.2.1.2.1.2.2.1.1
 let r13 := y3.2.2.1.2.1.2.2.1.2
 let nr6 := y3.2.2.1.2.1.2.2.2.1.1
 let r14 := y3.2.2.1.2.1.2.2.2.1.2
 let r15 := y3.2.2.1.2.1.2.2.2.2
 let nr7 := y3.2.2.1.2.2.1.1
 let r16 := y3.2.2.1.2.2.1.2
 let nr8 := y3.2.2.1.2.2.2.1.1
 let r17 := y3.2.2.1.2.2.2.1.2
 let nr9 := y3.2.2.1.2.2.2.2.1
 let r18 := y3.2.2.1.2.2.2.2.2
 match (loopF R_r38_Few_6 (((), (i2, ((), (0, ())))), ((x11, (x12, (x13, ((nx4, x14), (nx5, x15))))), ((r10, ((r11, (r12, ((nr5, r13), ((nr6, r14), r15)))), ((nr7, r16), ((nr8, r17), (nr9, r18))))), ())))) with
 | none => none
 | some y4 => (
 match y4 with
 | .inl y5 => (
 let t2 := y5.1.1
 some (.inr (.inl ((t2, ()), ()))))
 | .inr y5 => (
 let i3 := y5.1.2.1
 let x16 := y5.2.1.1
 let x17 := y5.2.1.2.1
 let x18 := y5.2.1.2.2.1
 let nx6 := y5.2.1.2.2.2.1.1
 let x19 := y5.2.1.2.2.2.1.2
 let nx7 := y5.2.1.2.2.2.2.1
 let x20 := y5.2.1.2.2.2.2.2
 some (.inl (((), ((i64.wrap (i3 + 1)), ())), ((x16, (x17, (x18, ((nx6, x19), (nx7, x20))))), ())))))))))))))))))))))
 else (
 none))
 else (
 some (.inr (.inr ((), ()))))
noncomputable def r38_Few' (x : (Int × (Int × (Int × ((Nat × NI) × (Nat × (Nat → (ByteArray × (((Int × Int) × (ByteArray × ((SlV (SlV NI)) × ((SlV NI) × Int)))) × ((SlV (Int × ((Int × Int) × ByteArray))) × ((SlV (Int × ((Int × Int) × ByteArray))) × (SlV (((Int × Int) × (ByteArray × ((SlV (SlV NI)) × ((SlV NI) × Int)))) × (((Int × Int) × (ByteArray × ((SlV (SlV NI)) × ((SlV NI) × Int)))) × (((Int × Int) × (ByteArray × ((SlV (SlV NI)) × ((SlV NI) × Int)))) × (Int × Int)))))))))))))))) : Option (Bool) :=
 bif (decide (((x.2.2.2.1.1 : Nat) : Int) > 12)) then (
 some false)
 else (
 bif (decide (((x.2.2.2.2.1 : Nat) : Int) > 3)) then (
 some false)
 else (
 match (loopF R_r38_Few_0 (((), (0, ())), ((x.1, (x.2.1, (x.2.2.1, ((x.2.2.2.1.1, x.2.2.2.1.2), (x.2.2.2.2.1, x.2.2.2.2.2))))), ()))) with
 | none => none
 | some y => (
 match y with
 | .inl y1 => (
 let t := y1.1.1
 some t)
 | .inr y1 => (
 some true))))
noncomputable def r38_Few := veil r38_Few'
theorem r38_Few_eq : r38_Few = r38_Few' := veil_eq _
noncomputable def r38_sameGiven' (a : ((Int × Int) × (ByteArray × ((Nat × (Nat → (SlV NI))) × ((Nat × (Nat → NI)) × Int))))) (b : ((Int × Int) × (ByteArray × ((Nat × (Nat → (SlV NI))) × ((Nat × (Nat → NI)) × Int))))) : Option (Bool) :=
 bif (eqF (.pair (.int .i64) (.int .i64)) a.1 b.1) then (
 bif (sEq a.2.1 b.2.1) then (
 match (r16_Same a.2.2.1.1 a.2.2.1.2 b.2.2.1.1 b.2.2.1.2) with
 | none => none
 | some r => (
 bif r then (
 match (r08_Same a.2.2.2.1.1 a.2.2.2.1.2 b.2.2.2.1.1 b.2.2.2.1.2) with
 | none => none
 | some r1 => (
 bif r1 then (
 some (a.2.2.2.2 == b.2.2.2.2))
 else (
 some false)))
 else (
 some false)))
 else (
 some false))
 else (
 some false)
noncomputable def r38_sameGiven := veil r38_sameGiven'
theorem r38_sameGiven_eq : r38_sameGiven = r38_sameGiven' := veil_eq _
abbrev X_r38_sameVotes_0 : Type := (((Nat × (Nat → (Int × ((Int × Int) × ByteArray)))) × ((Nat × (Nat → (Int × ((Int × Int) × ByteArray)))) × (Int × Unit))) × Unit)
noncomputable def R_r38_sameVotes_0 : X_r38_sameVotes_0 → Option (X_r38_sameVotes_0 ⊕ (((Bool × Unit) × Unit) ⊕ (Unit × Unit))) := fun x =>
 let na := x.1.1.1
 let a := x.1.1.2
 let nb := x.1.2.1.1
 let b := x.1.2.1.2
 let i := x.1.2.2.1
 bif (decide (i < ((na : Nat) : Int))) then (
 bif (inb i na) then (
 bif (inb i nb) then (
 bif (!(eqF (.pair (.int .i64) (.pair (.pair (.int .i64) (.int .i64)) .str)) (a (Int.toNat i)) (b (Int.toNat i)))) then (
 some (.inr (.inl ((false, ()), ()))))
 else (
 some (.inl (((na, a), ((nb, b), ((i64.wrap (i + 1)), ()))), ()))))
 else (
 none))
 else (
 none))
 else (
 some (.inr (.inr ((), ()))))
noncomputable def r38_sameVotes' (na : Nat) (a : Nat → (Int × ((Int × Int) × ByteArray))) (nb : Nat) (b : Nat → (Int × ((Int × Int) × ByteArray))) : Option (Bool) :=
 bif (((na : Nat) : Int) != ((nb : Nat) : Int)) then (
 some false)
 else (
 match (loopF R_r38_sameVotes_0 (((na, a), ((nb, b), (0, ()))), ())) with
 | none => none
 | some y => (
 match y with
 | .inl y1 => (
 let t := y1.1.1
 some t)
 | .inr y1 => (
 some true)))
noncomputable def r38_sameVotes := veil r38_sameVotes'
theorem r38_sameVotes_eq : r38_sameVotes = r38_sameVotes' := veil_eq _
abbrev X_r38_sameRecord_0 : Type := ((Unit × (Unit × (Int × Unit))) × ((ByteArray × (((Int × Int) × (ByteArray × ((Nat × (Nat → (SlV NI))) × ((Nat × (Nat → NI)) × Int)))) × ((Nat × (Nat → (Int × ((Int × Int) × ByteArray)))) × ((Nat × (Nat → (Int × ((Int × Int) × ByteArray)))) × (Nat × (Nat → (((Int × Int) × (ByteArray × ((SlV (SlV NI)) × ((SlV NI) × Int)))) × (((Int × Int) × (ByteArray × ((SlV (SlV NI)) × ((SlV NI) × Int)))) × (((Int × Int) × (ByteArray × ((SlV (SlV NI)) × ((SlV NI) × Int)))) × (Int × Int)))))))))) × ((ByteArray × (((Int × Int) × (ByteArray × ((Nat × (Nat → (SlV NI))) × ((Nat × (Nat → NI)) × Int)))) × ((Nat × (Nat → (Int × ((Int × Int) × ByteArray)))) × ((Nat × (Nat → (Int × ((Int × Int) × ByteArray)))) × (Nat × (Nat → (((Int × Int) × (ByteArray × ((SlV (SlV NI)) × ((SlV NI) × Int)))) × (((Int × Int) × (ByteArray × ((SlV (SlV NI)) × ((SlV NI) × Int)))) × (((Int × Int) × (ByteArray × ((SlV (SlV NI)) × ((SlV NI) × Int)))) × (Int × Int)))))))))) × Unit)))
noncomputable def R_r38_sameRecord_0 : X_r38_sameRecord_0 → Option (X_r38_sameRecord_0 ⊕ (((Bool × Unit) × Unit) ⊕ (Unit × Unit))) := fun x =>
 let i := x.1.2.2.1
 let a := x.2.1.1
 let a1 := x.2.1.2.1.1
 let a2 := x.2.1.2.1.2.1
 let na := x.2.1.2.1.2.2.1.1
 let a3 := x.2.1.2.1.2.2.1.2
 let na1 := x.2.1.2.1.2.2.2.1.1
 let a4 := x.2.1.2.1.2.2.2.1.2
 let a5 := x.2.1.2.1.2.2.2.2
 let na2 := x.2.1.2.2.1.1
 let a6 := x.2.1.2.2.1.2
 let na3 := x.2.1.2.2.2.1.1
 let a7 := x.2.1.2.2.2.1.2
 let na4 := x.2.1.2.2.2.2.1
 let a8 := x.2.1.2.2.2.2.2
 let b := x.2.2.1.1
 let b1 := x.2.2.1.2.1.1
 let b2 := x.2.2.1.2.1.2.1
 let nb := x.2.2.1.2.1.2.2.1.1
 let b3 := x.2.2.1.2.1.2.2.1.2
 let nb1 := x.2.2.1.2.1.2.2.2.1.1
 let b4 := x.2.2.1.2.1.2.2.2.1.2
 let b5 := x.2.2.1.2.1.2.2.2.2
 let nb2 := x.2.2.1.2.2.1.1
 let b6 := x.2.2.1.2.2.1.2
 let nb3 := x.2.2.1.2.2.2.1.1
 let b7 := x.2.2.1.2.2.2.1.2
 let nb4 := x.2.2.1.2.2.2.2.1
 let b8 := x.2.2.1.2.2.2.2.2
 bif (decide (i < ((na4 : Nat) : Int))) then (
 bif (inb i na4) then (
 bif (SlV.isMs (a8 (Int.toNat i)).1.2.2.1) then (
 none)
 else (
 bif (SlV.isMs (a8 (Int.toNat i)).1.2.2.2.1) then (
 none)
 else (
 bif (SlV.isMs (a8 (Int.toNat i)).2.1.2.2.1) then (
 none)
 else (
 bif (SlV.isMs (a8 (Int.toNat i)).2.1.2.2.2.1) then (
 none)
 else (
 bif (SlV.isMs (a8 (Int.toNat i)).2.2.1.2.2.1) then (
 none)
 else (
 bif (SlV.isMs (a8 (Int.toNat i)).2.2.1.2.2.2.1) then (
 none)
 else (
 bif (inb i nb4) then (
 bif (SlV.isMs (b8 (Int.toNat i)).1.2.2.1) then (
 none)
 else (
 bif (SlV.isMs (b8 (Int.toNat i)).1.2.2.2.1) then (
 none)
 else (
 bif (SlV.isMs (b8 (Int.toNat i)).2.1.2.2.1) then (
 none)
 else (
 bif (SlV.isMs (b8 (Int.toNat i)).2.1.2.2.2.1) then (
 none)
 else (
 bif (SlV.isMs (b8 (Int.toNat i)).2.2.1.2.2.1) then (
 none)
 else (
 bif (SlV.isMs (b8 (Int.toNat i)).2.2.1.2.2.2.1) then (
 none)
 else (
 match (r38_sameGiven ((a8 (Int.toNat i)).1.1, ((a8 (Int.toNat i)).1.2.1, (((SlV.len (a8 (Int.toNat i)).1.2.2.1), (SlV.fn (.nil : (SlV NI)) (a8 (Int.toNat i)).1.2.2.1)), (((SlV.len (a8 (Int.toNat i)).1.2.2.2.1), (SlV.fn ((fun _ => 0) : NI) (a8 (Int.toNat i)).1.2.2.2.1)), (a8 (Int.toNat i)).1.2.2.2.2)))) ((b8 (Int.toNat i)).1.1, ((b8 (Int.toNat i)).1.2.1, (((SlV.len (b8 (Int.toNat i)).1.2.2.1), (SlV.fn (.nil : (SlV NI)) (b8 (Int.toNat i)).1.2.2.1)), (((SlV.len (b8 (Int.toNat i)).1.2.2.2.1), (SlV.fn ((fun _ => 0) : NI) (b8 (Int.toNat i)).1.2.2.2.1)), (b8 (Int.toNat i)).1.2.2.2.2))))) with
 | none => none
 | some r => (
 bif (!r) then (
 some (.inr (.inl ((false, ()), ()))))
 else (
 match (r38_sameGiven ((a8 (Int.toNat i)).2.1.1, ((a8 (Int.toNat i)).2.1.2.1, (((SlV.len (a8 (Int.toNat i)).2.1.2.2.1), (SlV.fn (.nil : (SlV NI)) (a8 (Int.toNat i)).2.1.2.2.1)), (((SlV.len (a8 (Int.toNat i)).2.1.2.2.2.1), (SlV.fn ((fun _ => 0) : NI) (a8 (Int.toNat i)).2.1.2.2.2.1)), (a8 (Int.toNat i)).2.1.2.2.2.2)))) ((b8 (Int.toNat i)).2.1.1, ((b8 (Int.toNat i)).2.1.2.1, (((SlV.len (b8 (Int.toNat i)).2.1.2.2.1), (SlV.fn (.nil : (SlV NI)) (b8 (Int.toNat i)).2.1.2.2.1)), (((SlV.len (b8 (Int.toNat i)).2.1.2.2.2.1), (SlV.fn ((fun _ => 0) : NI) (b8 (Int.toNat i)).2.1.2.2.2.1)), (b8 (Int.toNat i)).2.1.2.2.2.2))))) with
 | none => none
 | some r1 => (
 bif (!r1) then (
 some (.inr (.inl ((false, ()), ()))))
 else (
 match (r38_sameGiven ((a8 (Int.toNat i)).2.2.1.1, ((a8 (Int.toNat i)).2.2.1.2.1, (((SlV.len (a8 (Int.toNat i)).2.2.1.2.2.1), (SlV.fn (.nil : (SlV NI)) (a8 (Int.toNat i)).2.2.1.2.2.1)), (((SlV.len (a8 (Int.toNat i)).2.2.1.2.2.2.1), (SlV.fn ((fun _ => 0) : NI) (a8 (Int.toNat i)).2.2.1.2.2.2.1)), (a8 (Int.toNat i)).2.2.1.2.2.2.2)))) ((b8 (Int.toNat i)).2.2.1.1, ((b8 (Int.toNat i)).2.2.1.2.1, (((SlV.len (b8 (Int.toNat i)).2.2.1.2.2.1), (SlV.fn (.nil : (SlV NI)) (b8 (Int.toNat i)).2.2.1.2.2.1)), (((SlV.len (b8 (Int.toNat i)).2.2.1.2.2.2.1), (SlV.fn ((fun _ => 0) : NI) (b8 (Int.toNat i)).2.2.1.2.2.2.1)), (b8 (Int.toNat i)).2.2.1.2.2.2.2))))) with
 | none => none
 | some r2 => (
 bif (!r2) then (
 some (.inr (.inl ((false, ()), ()))))
 else (
 let t := ((a8 (Int.toNat i)).2.2.2.1 != (b8 (Int.toNat i)).2.2.2.1)
 bif t then (
 some (.inr (.inl ((false, ()), ()))))
 else (
 let t1 := ((a8 (Int.toNat i)).2.2.2.2 != (b8 (Int.toNat i)).2.2.2.2)
 bif t1 then (
 some (.inr (.inl ((false, ()), ()))))
 else (
 some (.inl (((), ((), ((i64.wrap (i + 1)), ()))), ((a, ((a1, (a2, ((na, a3), ((na1, a4), a5)))), ((na2, a6), ((na3, a7), (na4, a8))))), ((b, ((b1, (b2, ((nb, b3), ((nb1, b4), b5)))), ((nb2, b6), ((nb3, b7), (nb4, b8))))), ())))))))))))))))))))
 else (
 none))))))))
 else (
 none))
 else (
 some (.inr (.inr ((), ()))))
noncomputable def r38_sameRecord' (a : (ByteArray × (((Int × Int) × (ByteArray × ((Nat × (Nat → (SlV NI))) × ((Nat × (Nat → NI)) × Int)))) × ((Nat × (Nat → (Int × ((Int × Int) × ByteArray)))) × ((Nat × (Nat → (Int × ((Int × Int) × ByteArray)))) × (Nat × (Nat → (((Int × Int) × (ByteArray × ((SlV (SlV NI)) × ((SlV NI) × Int)))) × (((Int × Int) × (ByteArray × ((SlV (SlV NI)) × ((SlV NI) × Int)))) × (((Int × Int) × (ByteArray × ((SlV (SlV NI)) × ((SlV NI) × Int)))) × (Int × Int))))))))))) (b : (ByteArray × (((Int × Int) × (ByteArray × ((Nat × (Nat → (SlV NI))) × ((Nat × (Nat → NI)) × Int)))) × ((Nat × (Nat → (Int × ((Int × Int) × ByteArray)))) × ((Nat × (Nat → (Int × ((Int × Int) × ByteArray)))) × (Nat × (Nat → (((Int × Int) × (ByteArray × ((SlV (SlV NI)) × ((SlV NI) × Int)))) × (((Int × Int) × (ByteArray × ((SlV (SlV NI)) × ((SlV NI) × Int)))) × (((Int × Int) × (ByteArray × ((SlV (SlV NI)) × ((SlV NI) × Int)))) × (Int × Int))))))))))) : Option (Bool) :=
 bif (!(sEq a.1 b.1)) then (
 some false)
 else (
 match (r38_sameGiven (a.2.1.1, (a.2.1.2.1, ((a.2.1.2.2.1.1, a.2.1.2.2.1.2), ((a.2.1.2.2.2.1.1, a.2.1.2.2.2.1.2), a.2.1.2.2.2.2)))) (b.2.1.1, (b.2.1.2.1, ((b.2.1.2.2.1.1, b.2.1.2.2.1.2), ((b.2.1.2.2.2.1.1, b.2.1.2.2.2.1.2), b.2.1.2.2.2.2))))) with
 | none => none
 | some r => (
 bif (!r) then (
 some false)
 else (
 match (r38_sameVotes a.2.2.1.1 a.2.2.1.2 b.2.2.1.1 b.2.2.1.2) with
 | none => none
 | some r1 => (
 bif (!r1) then (
 some false)
 else (
 match (r38_sameVotes a.2.2.2.1.1 a.2.2.2.1.2 b.2.2.2.1.1 b.2.2.2.1.2) with
 | none => none
 | some r2 => (
 bif (!r2) then (
 some false)
 else (
 let t := (((a.2.2.2.2.1 : Nat) : Int) != ((b.2.2.2.2.1 : Nat) : Int))
 bif t then (
 some false)
 else (
 match (loopF R_r38_sameRecord_0 (((), ((), (0, ()))), ((a.1, ((a.2.1.1, (a.2.1.2.1, ((a.2.1.2.2.1.1, a.2.1.2.2.1.2), ((a.2.1.2.2.2.1.1, a.2.1.2.2.2.1.2), a.2.1.2.2.2.2)))), ((a.2.2.1.1, a.2.2.1.2), ((a.2.2.2.1.1, a.2.2.2.1.2), (a.2.2.2.2.1, a.2.2.2.2.2))))), ((b.1, ((b.2.1.1, (b.2.1.2.1, ((b.2.1.2.2.1.1, b.2.1.2.2.1.2), ((b.2.1.2.2.2.1.1, b.2.1.2.2.2.1.2), b.2.1.2.2.2.2)))), ((b.2.2.1.1, b.2.2.1.2), ((b.2.2.2.1.1, b.2.2.2.1.2), (b.2.2.2.2.1, b.2.2.2.2.2))))), ())))) with
 | none => none
 | some y => (
 match y with
 | .inl y1 => (
 let t1 := y1.1.1
 some t1)
 | .inr y1 => (
 some true))))))))))
noncomputable def r38_sameRecord := veil r38_sameRecord'
theorem r38_sameRecord_eq : r38_sameRecord = r38_sameRecord' := veil_eq _
abbrev T_r38_Same_0 (i : Int) (a : Int) (a1 : Int) (a2 : Int) (na : Nat) (a3 : Nat → Int) (na1 : Nat) (a4 : Nat → (ByteArray × (((Int × Int) × (ByteArray × ((SlV (SlV NI)) × ((SlV NI) × Int)))) × ((SlV (Int × ((Int × Int) × ByteArray))) × ((SlV (Int × ((Int × Int) × ByteArray))) × (SlV (((Int × Int) × (ByteArray × ((SlV (SlV NI)) × ((SlV NI) × Int)))) × (((Int × Int) × (ByteArray × ((SlV (SlV NI)) × ((SlV NI) × Int)))) × (((Int × Int) × (ByteArray × ((SlV (SlV NI)) × ((SlV NI) × Int)))) × (Int × Int)))))))))) (b : Int) (b1 : Int) (b2 : Int) (nb : Nat) (b3 : Nat → Int) (nb1 : Nat) (b4 : Nat → (ByteArray × (((Int × Int) × (ByteArray × ((SlV (SlV NI)) × ((SlV NI) × Int)))) × ((SlV (Int × ((Int × Int) × ByteArray))) × ((SlV (Int × ((Int × Int) × ByteArray))) × (SlV (((Int × Int) × (ByteArray × ((SlV (SlV NI)) × ((SlV NI) × Int)))) × (((Int × Int) × (ByteArray × ((SlV (SlV NI)) × ((SlV NI) × Int)))) × (((Int × Int) × (ByteArray × ((SlV (SlV NI)) × ((SlV NI) × Int)))) × (Int × Int)))))))))) := (((), ((), (i, ()))), ((a, (a1, (a2, ((na, a3), (na1, a4))))), ((b, (b1, (b2, ((nb, b3), (nb1, b4))))), ())))
abbrev Y_r38_Same_0_1 (a : Int) (a1 : Int) (a2 : Int) (na : Nat) (a3 : Nat → Int) (na1 : Nat) (a4 : Nat → (ByteArray × (((Int × Int) × (ByteArray × ((SlV (SlV NI)) × ((SlV NI) × Int)))) × ((SlV (Int × ((Int × Int) × ByteArray))) × ((SlV (Int × ((Int × Int) × ByteArray))) × (SlV (((Int × Int) × (ByteArray × ((SlV (SlV NI)) × ((SlV NI) × Int)))) × (((Int × Int) × (ByteArray × ((SlV (SlV NI)) × ((SlV NI) × Int)))) × (((Int × Int) × (ByteArray × ((SlV (SlV NI)) × ((SlV NI) × Int)))) × (Int × Int)))))))))) (b : Int) (b1 : Int) (b2 : Int) (nb : Nat) (b3 : Nat → Int) (nb1 : Nat) (b4 : Nat → (ByteArray × (((Int × Int) × (ByteArray × ((SlV (SlV NI)) × ((SlV NI) × Int)))) × ((SlV (Int × ((Int × Int) × ByteArray))) × ((SlV (Int × ((Int × Int) × ByteArray))) × (SlV (((Int × Int) × (ByteArray × ((SlV (SlV NI)) × ((SlV NI) × Int)))) × (((Int × Int) × (ByteArray × ((SlV (SlV NI)) × ((SlV NI) × Int)))) × (((Int × Int) × (ByteArray × ((SlV (SlV NI)) × ((SlV NI) × Int)))) × (Int × Int)))))))))) : (((Bool × Unit) × Unit) ⊕ ((Unit × (Unit × Unit)) × ((Int × (Int × (Int × ((Nat × NI) × (Nat × (Nat → (ByteArray × (((Int × Int) × (ByteArray × ((SlV (SlV NI)) × ((SlV NI) × Int)))) × ((SlV (Int × ((Int × Int) × ByteArray))) × ((SlV (Int × ((Int × Int) × ByteArray))) × (SlV (((Int × Int) × (ByteArray × ((SlV (SlV NI)) × ((SlV NI) × Int)))) × (((Int × Int) × (ByteArray × ((SlV (SlV NI)) × ((SlV NI) × Int)))) × (((Int × Int) × (ByteArray × ((SlV (SlV NI)) × ((SlV NI) × Int)))) × (Int × Int))))))))))))))) × ((Int × (Int × (Int × ((Nat × NI) × (Nat × (Nat → (ByteArray × (((Int × Int) × (ByteArray × ((SlV (SlV NI)) × ((SlV NI) × Int)))) × ((SlV (Int × ((Int × Int) × ByteArray))) × ((SlV (Int × ((Int × Int) × ByteArray))) × (SlV (((Int × Int) × (ByteArray × ((SlV (SlV NI)) × ((SlV NI) × Int)))) × (((Int × Int) × (ByteArray × ((SlV (SlV NI)) × ((SlV NI) × Int)))) × (((Int × Int) × (ByteArray × ((SlV (SlV NI)) × ((SlV NI) × Int)))) × (Int × Int))))))))))))))) × Unit)))) := (.inr (((), ((), ())), ((a, (a1, (a2, ((na, a3), (na1, a4))))), ((b, (b1, (b2, ((nb, b3), (nb1, b4))))), ()))))
abbrev X_r38_Same_0 : Type := ((Unit × (Unit × (Int × Unit))) × ((Int × (Int × (Int × ((Nat × NI) × (Nat × (Nat → (ByteArray × (((Int × Int) × (ByteArray × ((SlV (SlV NI)) × ((SlV NI) × Int)))) × ((SlV (Int × ((Int × Int) × ByteArray))) × ((SlV (Int × ((Int × Int) × ByteArray))) × (SlV (((Int × Int) × (ByteArray × ((SlV (SlV NI)) × ((SlV NI) × Int)))) × (((Int × Int) × (ByteArray × ((SlV (SlV NI)) × ((SlV NI) × Int)))) × (((Int × Int) × (ByteArray × ((SlV (SlV NI)) × ((SlV NI) × Int)))) × (Int × Int))))))))))))))) × ((Int × (Int × (Int × ((Nat × NI) × (Nat × (Nat → (ByteArray × (((Int × Int) × (ByteArray × ((SlV (SlV NI)) × ((SlV NI) × Int)))) × ((SlV (Int × ((Int × Int) × ByteArray))) × ((SlV (Int × ((Int × Int) × ByteArray))) × (SlV (((Int × Int) × (ByteArray × ((SlV (SlV NI)) × ((SlV NI) × Int)))) × (((Int × Int) × (ByteArray × ((SlV (SlV NI)) × ((SlV NI) × Int)))) × (((Int × Int) × (ByteArray × ((SlV (SlV NI)) × ((SlV NI) × Int)))) × (Int × Int))))))))))))))) × Unit)))
noncomputable def R_r38_Same_0 : X_r38_Same_0 → Option (X_r38_Same_0 ⊕ (((Bool × Unit) × Unit) ⊕ ((Unit × (Unit × Unit)) × ((Int × (Int × (Int × ((Nat × NI) × (Nat × (Nat → (ByteArray × (((Int × Int) × (ByteArray × ((SlV (SlV NI)) × ((SlV NI) × Int)))) × ((SlV (Int × ((Int × Int) × ByteArray))) × ((SlV (Int × ((Int × Int) × ByteArray))) × (SlV (((Int × Int) × (ByteArray × ((SlV (SlV NI)) × ((SlV NI) × Int)))) × (((Int × Int) × (ByteArray × ((SlV (SlV NI)) × ((SlV NI) × Int)))) × (((Int × Int) × (ByteArray × ((SlV (SlV NI)) × ((SlV NI) × Int)))) × (Int × Int))))))))))))))) × ((Int × (Int × (Int × ((Nat × NI) × (Nat × (Nat → (ByteArray × (((Int × Int) × (ByteArray × ((SlV (SlV NI)) × ((SlV NI) × Int)))) × ((SlV (Int × ((Int × Int) × ByteArray))) × ((SlV (Int × ((Int × Int) × ByteArray))) × (SlV (((Int × Int) × (ByteArray × ((SlV (SlV NI)) × ((SlV NI) × Int)))) × (((Int × Int) × (ByteArray × ((SlV (SlV NI)) × ((SlV NI) × Int)))) × (((Int × Int) × (ByteArray × ((SlV (SlV NI)) × ((SlV NI) × Int)))) × (Int × Int))))))))))))))) × Unit))))) := fun x =>
 let i := x.1.2.2.1
 let a := x.2.1.1
 let a1 := x.2.1.2.1
 let a2 := x.2.1.2.2.1
 let na := x.2.1.2.2.2.1.1
 let a3 := x.2.1.2.2.2.1.2
 let na1 := x.2.1.2.2.2.2.1
 let a4 := x.2.1.2.2.2.2.2
 let b := x.2.2.1.1
 let b1 := x.2.2.1.2.1
 let b2 := x.2.2.1.2.2.1
 let nb := x.2.2.1.2.2.2.1.1
 let b3 := x.2.2.1.2.2.2.1.2
 let nb1 := x.2.2.1.2.2.2.2.1
 let b4 := x.2.2.1.2.2.2.2.2
 bif (decide (i < ((na : Nat) : Int))) then (
 bif (inb i na) then (
 bif (inb i nb) then (
 bif ((a3 (Int.toNat i)) != (b3 (Int.toNat i))) then (
 some (.inr (.inl ((false, ()), ()))))
 else (
 some (.inl (((), ((), ((i64.wrap (i + 1)), ()))), ((a, (a1, (a2, ((na, a3), (na1, a4))))), ((b, (b1, (b2, ((nb, b3), (nb1, b4))))), ()))))))
 else (
 none))
 else (
 none))
 else (
 some (.inr (.inr (((), ((), ())), ((a, (a1, (a2, ((na, a3), (na1, a4))))), ((b, (b1, (b2, ((nb, b3), (nb1, b4))))), ()))))))
abbrev T_r38_Same_2 (i : Int) (a : Int) (a1 : Int) (a2 : Int) (na : Nat) (a3 : Nat → Int) (na1 : Nat) (a4 : Nat → (ByteArray × (((Int × Int) × (ByteArray × ((SlV (SlV NI)) × ((SlV NI) × Int)))) × ((SlV (Int × ((Int × Int) × ByteArray))) × ((SlV (Int × ((Int × Int) × ByteArray))) × (SlV (((Int × Int) × (ByteArray × ((SlV (SlV NI)) × ((SlV NI) × Int)))) × (((Int × Int) × (ByteArray × ((SlV (SlV NI)) × ((SlV NI) × Int)))) × (((Int × Int) × (ByteArray × ((SlV (SlV NI)) × ((SlV NI) × Int)))) × (Int × Int)))))))))) (b : Int) (b1 : Int) (b2 : Int) (nb : Nat) (b3 : Nat → Int) (nb1 : Nat) (b4 : Nat → (ByteArray × (((Int × Int) × (ByteArray × ((SlV (SlV NI)) × ((SlV NI) × Int)))) × ((SlV (Int × ((Int × Int) × ByteArray))) × ((SlV (Int × ((Int × Int) × ByteArray))) × (SlV (((Int × Int) × (ByteArray × ((SlV (SlV NI)) × ((SlV NI) × Int)))) × (((Int × Int) × (ByteArray × ((SlV (SlV NI)) × ((SlV NI) × Int)))) × (((Int × Int) × (ByteArray × ((SlV (SlV NI)) × ((SlV NI) × Int)))) × (Int × Int)))))))))) := (((), ((), (i, ()))), ((a, (a1, (a2, ((na, a3), (na1, a4))))), ((b, (b1, (b2, ((nb, b3), (nb1, b4))))), ())))
abbrev Y_r38_Same_2_1  : (((Bool × Unit) × Unit) ⊕ (Unit × Unit)) := (.inr ((), ()))
abbrev X_r38_Same_2 : Type := ((Unit × (Unit × (Int × Unit))) × ((Int × (Int × (Int × ((Nat × NI) × (Nat × (Nat → (ByteArray × (((Int × Int) × (ByteArray × ((SlV (SlV NI)) × ((SlV NI) × Int)))) × ((SlV (Int × ((Int × Int) × ByteArray))) × ((SlV (Int × ((Int × Int) × ByteArray))) × (SlV (((Int × Int) × (ByteArray × ((SlV (SlV NI)) × ((SlV NI) × Int)))) × (((Int × Int) × (ByteArray × ((SlV (SlV NI)) × ((SlV NI) × Int)))) × (((Int × Int) × (ByteArray × ((SlV (SlV NI)) × ((SlV NI) × Int)))) × (Int × Int))))))))))))))) × ((Int × (Int × (Int × ((Nat × NI) × (Nat × (Nat → (ByteArray × (((Int × Int) × (ByteArray × ((SlV (SlV NI)) × ((SlV NI) × Int)))) × ((SlV (Int × ((Int × Int) × ByteArray))) × ((SlV (Int × ((Int × Int) × ByteArray))) × (SlV (((Int × Int) × (ByteArray × ((SlV (SlV NI)) × ((SlV NI) × Int)))) × (((Int × Int) × (ByteArray × ((SlV (SlV NI)) × ((SlV NI) × Int)))) × (((Int × Int) × (ByteArray × ((SlV (SlV NI)) × ((SlV NI) × Int)))) × (Int × Int))))))))))))))) × Unit)))
noncomputable def R_r38_Same_2 : X_r38_Same_2 → Option (X_r38_Same_2 ⊕ (((Bool × Unit) × Unit) ⊕ (Unit × Unit))) := fun x =>
 let i := x.1.2.2.1
 let a := x.2.1.1
 let a1 := x.2.1.2.1
 let a2 := x.2.1.2.2.1
 let na := x.2.1.2.2.2.1.1
 let a3 := x.2.1.2.2.2.1.2
 let na1 := x.2.1.2.2.2.2.1
 let a4 := x.2.1.2.2.2.2.2
 let b := x.2.2.1.1
 let b1 := x.2.2.1.2.1
 let b2 := x.2.2.1.2.2.1
 let nb := x.2.2.1.2.2.2.1.1
 let b3 := x.2.2.1.2.2.2.1.2
 let nb1 := x.2.2.1.2.2.2.2.1
 let b4 := x.2.2.1.2.2.2.2.2
 bif (decide (i < ((na1 : Nat) : Int))) then (
 bif (inb i na1) then (
 bif (SlV.isMs (a4 (Int.toNat i)).2.1.2.2.1) then (
 none)
 else (
 bif (SlV.isMs (a4 (Int.toNat i)).2.1.2.2.2.1) then (
 none)
 else (
 bif (SlV.isMs (a4 (Int.toNat i)).2.2.1) then (
 none)
 else (
 bif (SlV.isMs (a4 (Int.toNat i)).2.2.2.1) then (
 none)
 else (
 bif (SlV.isMs (a4 (Int.toNat i)).2.2.2.2) then (
 none)
 else (
 bif (inb i nb1) then (
 bif (SlV.isMs (b4 (Int.toNat i)).2.1.2.2.1) then (
 none)
 else (
 bif (SlV.isMs (b4 (Int.toNat i)).2.1.2.2.2.1) then (
 none)
 else (
 bif (SlV.isMs (b4 (Int.toNat i)).2.2.1) then (
 none)
 else (
 bif (SlV.isMs (b4 (Int.toNat i)).2.2.2.1) then (
 none)
 else (
 bif (SlV.isMs (b4 (Int.toNat i)).2.2.2.2) then (
 none)
 else (
 match (r38_sameRecord ((a4 (Int.toNat i)).1, (((a4 (Int.toNat i)).2.1.1, ((a4 (Int.toNat i)).2.1.2.1, (((SlV.len (a4 (Int.toNat i)).2.1.2.2.1), (SlV.fn (.nil : (SlV NI)) (a4 (Int.toNat i)).2.1.2.2.1)), (((SlV.len (a4 (Int.toNat i)).2.1.2.2.2.1), (SlV.fn ((fun _ => 0) : NI) (a4 (Int.toNat i)).2.1.2.2.2.1)), (a4 (Int.toNat i)).2.1.2.2.2.2)))), (((SlV.len (a4 (Int.toNat i)).2.2.1), (SlV.fn ((0, ((0, 0), ByteArray.empty)) : (Int × ((Int × Int) × ByteArray))) (a4 (Int.toNat i)).2.2.1)), (((SlV.len (a4 (Int.toNat i)).2.2.2.1), (SlV.fn ((0, ((0, 0), ByteArray.empty)) : (Int × ((Int × Int) × ByteArray))) (a4 (Int.toNat i)).2.2.2.1)), ((SlV.len (a4 (Int.toNat i)).2.2.2.2), (SlV.fn ((((0, 0), (ByteArray.empty, (.nil, (.nil, 0)))), (((0, 0), (ByteArray.empty, (.nil, (.nil, 0)))), (((0, 0), (ByteArray.empty, (.nil, (.nil, 0)))), (0, 0)))) : (((Int × Int) × (ByteArray × ((SlV (SlV NI)) × ((SlV NI) × Int)))) × (((Int × Int) × (ByteArray × ((SlV (SlV NI)) × ((SlV NI) × Int)))) × (((Int × Int) × (ByteArray × ((SlV (SlV NI)) × ((SlV NI) × Int)))) × (Int × Int))))) (a4 (Int.toNat i)).2.2.2.2)))))) ((b4 (Int.toNat i)).1, (((b4 (Int.toNat i)).2.1.1, ((b4 (Int.toNat i)).2.1.2.1, (((SlV.len (b4 (Int.toNat i)).2.1.2.2.1), (SlV.fn (.nil : (SlV NI)) (b4 (Int.toNat i)).2.1.2.2.1)), (((SlV.len (b4 (Int.toNat i)).2.1.2.2.2.1), (SlV.fn ((fun _ => 0) : NI) (b4 (Int.toNat i)).2.1.2.2.2.1)), (b4 (Int.toNat i)).2.1.2.2.2.2)))), (((SlV.len (b4 (Int.toNat i)).2.2.1), (SlV.fn ((0, ((0, 0), ByteArray.empty)) : (Int × ((Int × Int) × ByteArray))) (b4 (Int.toNat i)).2.2.1)), (((SlV.len (b4 (Int.toNat i)).2.2.2.1), (SlV.fn ((0, ((0, 0), ByteArray.empty)) : (Int × ((Int × Int) × ByteArray))) (b4 (Int.toNat i)).2.2.2.1)), ((SlV.len (b4 (Int.toNat i)).2.2.2.2), (SlV.fn ((((0, 0), (ByteArray.empty, (.nil, (.nil, 0)))), (((0, 0), (ByteArray.empty, (.nil, (.nil, 0)))), (((0, 0), (ByteArray.empty, (.nil, (.nil, 0)))), (0, 0)))) : (((Int × Int) × (ByteArray × ((SlV (SlV NI)) × ((SlV NI) × Int)))) × (((Int × Int) × (ByteArray × ((SlV (SlV NI)) × ((SlV NI) × Int)))) × (((Int × Int) × (ByteArray × ((SlV (SlV NI)) × ((SlV NI) × Int)))) × (Int × Int))))) (b4 (Int.toNat i)).2.2.2.2))))))) with
 | none => none
 | some r => (
 bif (!r) then (
 some (.inr (.inl ((false, ()), ()))))
 else (
 some (.inl (((), ((), ((i64.wrap (i + 1)), ()))), ((a, (a1, (a2, ((na, a3), (na1, a4))))), ((b, (b1, (b2, ((nb, b3), (nb1, b4))))), ()))))))))))))
 else (
 none)))))))
 else (
 none))
 else (
 some (.inr (.inr ((), ()))))
noncomputable def r38_Same' (a : (Int × (Int × (Int × ((Nat × NI) × (Nat × (Nat → (ByteArray × (((Int × Int) × (ByteArray × ((SlV (SlV NI)) × ((SlV NI) × Int)))) × ((SlV (Int × ((Int × Int) × ByteArray))) × ((SlV (Int × ((Int × Int) × ByteArray))) × (SlV (((Int × Int) × (ByteArray × ((SlV (SlV NI)) × ((SlV NI) × Int)))) × (((Int × Int) × (ByteArray × ((SlV (SlV NI)) × ((SlV NI) × Int)))) × (((Int × Int) × (ByteArray × ((SlV (SlV NI)) × ((SlV NI) × Int)))) × (Int × Int)))))))))))))))) (b : (Int × (Int × (Int × ((Nat × NI) × (Nat × (Nat → (ByteArray × (((Int × Int) × (ByteArray × ((SlV (SlV NI)) × ((SlV NI) × Int)))) × ((SlV (Int × ((Int × Int) × ByteArray))) × ((SlV (Int × ((Int × Int) × ByteArray))) × (SlV (((Int × Int) × (ByteArray × ((SlV (SlV NI)) × ((SlV NI) × Int)))) × (((Int × Int) × (ByteArray × ((SlV (SlV NI)) × ((SlV NI) × Int)))) × (((Int × Int) × (ByteArray × ((SlV (SlV NI)) × ((SlV NI) × Int)))) × (Int × Int)))))))))))))))) : Option (Bool) :=
 bif (a.1 != b.1) then (
 some false)
 else (
 bif (a.2.1 != b.2.1) then (
 some false)
 else (
 bif (a.2.2.1 != b.2.2.1) then (
 some false)
 else (
 let t := (((a.2.2.2.1.1 : Nat) : Int) != ((b.2.2.2.1.1 : Nat) : Int))
 bif t then (
 some false)
 else (
 let t1 := (((a.2.2.2.2.1 : Nat) : Int) != ((b.2.2.2.2.1 : Nat) : Int))
 bif t1 then (
 some false)
 else (
 match (loopF R_r38_Same_0 (((), ((), (0, ()))), ((a.1, (a.2.1, (a.2.2.1, ((a.2.2.2.1.1, a.2.2.2.1.2), (a.2.2.2.2.1, a.2.2.2.2.2))))), ((b.1, (b.2.1, (b.2.2.1, ((b.2.2.2.1.1, b.2.2.2.1.2), (b.2.2.2.2.1, b.2.2.2.2.2))))), ())))) with
 | none => none
 | some y => (
 match y with
 | .inl y1 => (
 let t2 := y1.1.1
 some t2)
 | .inr y1 => (
 let a1 := y1.2.1.1
 let a2 := y1.2.1.2.1
 let a3 := y1.2.1.2.2.1
 let na := y1.2.1.2.2.2.1.1
 let a4 := y1.2.1.2.2.2.1.2
 let na1 := y1.2.1.2.2.2.2.1
 let a5 := y1.2.1.2.2.2.2.2
 let b1 := y1.2.2.1.1
 let b2 := y1.2.2.1.2.1
 let b3 := y1.2.2.1.2.2.1
 let nb := y1.2.2.1.2.2.2.1.1
 let b4 := y1.2.2.1.2.2.2.1.2
 let nb1 := y1.2.2.1.2.2.2.2.1
 let b5 := y1.2.2.1.2.2.2.2.2
 match (loopF R_r38_Same_2 (((), ((), (0, ()))), ((a1, (a2, (a3, ((na, a4), (na1, a5))))), ((b1, (b2, (b3, ((nb, b4), (nb1, b5))))), ())))) with
 | none => none
 | some y2 => (
 match y2 with
 | .inl y3 => (
 let t3 := y3.1.1
 some t3)
 | .inr y3 => (
 some true)))))))))
noncomputable def r38_Same := veil r38_Same'
theorem r38_Same_eq : r38_Same = r38_Same' := veil_eq _
end Go.Pl
