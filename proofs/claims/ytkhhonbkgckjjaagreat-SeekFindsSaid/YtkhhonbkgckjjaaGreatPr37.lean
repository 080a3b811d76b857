/-
  The functions of a package, plainly.
-/
import Derived.Test.YtkhhonbkgckjjaaGreatDenI
import Derived.Test.YtkhhonbkgckjjaaGreatPlA
import Derived.Test.YtkhhonbkgckjjaaGreatPr34
set_option linter.unusedVariables false
set_option linter.unusedSimpArgs false
set_option maxRecDepth 100000
set_option maxHeartbeats 0
namespace Go.Pl
end Go.Pl
open Go Go.Den Go.Pl
namespace Go.Pl
open Go.IntKind (i64 u64 u32 u8)
abbrev T_r37_number_0 (s : ByteArray) (bits : Int) (i : Int) (t : NI) (n : NI) := ((s, (bits, ((), ((), (i, ()))))), (t, (n, ())))
abbrev Y_r37_number_0_0 (bits : Int) (t : NI) (n : NI) := ((bits, ((), ((), ()))), (t, (n, ())))
abbrev X_r37_number_0 : Type := ((ByteArray × (Int × (Unit × (Unit × (Int × Unit))))) × (NI × (NI × Unit)))
noncomputable def R_r37_number_0 : X_r37_number_0 → Option (X_r37_number_0 ⊕ ((Int × (Unit × (Unit × Unit))) × (NI × (NI × Unit)))) := fun x =>
 let s := x.1.1
 let bits := x.1.2.1
 let i := x.1.2.2.2.2.1
 let t := x.2.1
 let n := x.2.2.1
 bif (decide (i < (((ByteArray.size s) : Nat) : Int))) then (
 match (r01_Up n 8) with
 | none => none
 | some r => (
 bif (inb i (ByteArray.size s)) then (
 match (r01_Int (i64.wrap (((UInt8.toNat (List.getD (Array.toList (ByteArray.data s)) (Int.toNat i) 0)) : Nat) : Int))) with
 | none => none
 | some r1 => (
 match (r01_Add r r1) with
 | none => none
 | some r2 => (
 some (.inl ((s, (bits, ((), ((), ((i64.wrap (i + 1)), ()))))), (t, (r2.1, ())))))))
 else (
 none)))
 else (
 some (.inr ((bits, ((), ((), ()))), (t, (n, ())))))
noncomputable def r37_number' (s : ByteArray) (bits : Int) : Option (NI) :=
 match (loopF R_r37_number_0 ((s, (bits, ((), ((), (0, ()))))), ((fun _ => 0), ((fun _ => 0), ())))) with
 | none => none
 | some y => (
 let bits1 := y.1.1
 let t := y.2.1
 let n := y.2.2.1
 bif (decide (bits1 < 1)) then (
 some (fun _ => 0))
 else (
 match (r01_Up n (i64.wrap (256 - (if 60 < bits1 then 60 else bits1)))) with
 | none => none
 | some r => (
 match (r01_Down r (i64.wrap (256 - (if 60 < bits1 then 60 else bits1)))) with
 | none => none
 | some r1 => (
 some r1))))
noncomputable def r37_number := veil r37_number'
theorem r37_number_eq : r37_number = r37_number' := veil_eq _
abbrev T_r37_First_0 (from_ : Int) (n : Int) := ((from_, (n, ())), ())
abbrev Y_r37_First_0_0 (t : Int) (t1 : Int) : (((Int × (Int × Unit)) × Unit) ⊕ (Unit × Unit)) := (.inl ((t, (t1, ())), ()))
abbrev X_r37_First_0 : Type := ((Int × (Int × Unit)) × Unit)
noncomputable def R_r37_First_0 : X_r37_First_0 → Option (X_r37_First_0 ⊕ (((Int × (Int × Unit)) × Unit) ⊕ (Unit × Unit))) := fun x =>
 let from_ := x.1.1
 let n := x.1.2.1
 bif (decide (n < 65536)) then (
 bif (decide (from_ ≥ 0)) then (
 match (r04_Small n) with
 | none => none
 | some r => (
 bif r then (
 some (.inr (.inl ((n, (0, ())), ()))))
 else (
 some (.inl ((from_, ((i64.wrap (n + 1)), ())), ())))))
 else (
 some (.inr (.inr ((), ())))))
 else (
 some (.inr (.inr ((), ()))))
noncomputable def r37_First' (from_ : Int) : Option (Int × Int) :=
 match (loopF R_r37_First_0 ((from_, ((if from_ < 0 then 0 else from_), ())), ())) with
 | none => none
 | some y => (
 match y with
 | .inl y1 => (
 let t := y1.1.1
 let t1 := y1.1.2.1
 some (t, t1))
 | .inr y1 => (
 some (0, 1)))
noncomputable def r37_First := veil r37_First'
theorem r37_First_eq : r37_First = r37_First' := veil_eq _
noncomputable def r37_at' (k : Int) (factor : NI) : Option (NI) :=
 match (r01_Int k) with
 | none => none
 | some r => (
 match (r02_Mul r factor) with
 | none => none
 | some r1 => (
 match (r01_Int 1) with
 | none => none
 | some r2 => (
 match (r01_Add r1.1 r2) with
 | none => none
 | some r3 => (
 some r3.1))))
noncomputable def r37_at := veil r37_at'
theorem r37_at_eq : r37_at = r37_at' := veil_eq _
abbrev T_r37_least_0 (bits : Int) (n : Int) (factor : NI) := ((bits, ((), (n, ()))), (factor, ()))
abbrev Y_r37_least_0_0 (n : Int) := ((n, ()), ())
abbrev X_r37_least_0 : Type := ((Int × (Unit × (Int × Unit))) × (NI × Unit))
noncomputable def R_r37_least_0 : X_r37_least_0 → Option (X_r37_least_0 ⊕ ((Int × Unit) × Unit)) := fun x =>
 let bits := x.1.1
 let n := x.1.2.2.1
 let factor := x.2.1
 match (r37_at n factor) with
 | none => none
 | some r => (
 match (r01_Len r) with
 | none => none
 | some r1 => (
 bif (decide (r1 < bits)) then (
 some (.inl ((bits, ((), ((i64.wrap (n + 2)), ()))), (factor, ()))))
 else (
 some (.inr ((n, ()), ())))))
noncomputable def r37_least' (factor : NI) (bits : Int) : Option (Int) :=
 match (r01_Int 1) with
 | none => none
 | some r => (
 match (r01_Up r (i64.wrap (bits - 1))) with
 | none => none
 | some r1 => (
 match (r02_Div r1 factor) with
 | none => none
 | some r2 => (
 match (r01_Low r2.1) with
 | none => none
 | some r3 => (
 let t := (if 2 < (i64.wrap (r3.1 - (Int.tmod r3.1 2))) then (i64.wrap (r3.1 - (Int.tmod r3.1 2))) else 2)
 match (loopF R_r37_least_0 ((bits, ((), (t, ()))), (factor, ()))) with
 | none => none
 | some y => (
 let n := y.1.1
 some n)))))
noncomputable def r37_least := veil r37_least'
theorem r37_least_eq : r37_least = r37_least' := veil_eq _
abbrev T_r37_witness_0 (a : Int) (n : NI) (factor : NI) := (((), ((), (a, ()))), (n, (factor, ())))
abbrev Y_r37_witness_0_0 (t : Int) : (((Int × Unit) × Unit) ⊕ (Unit × Unit)) := (.inl ((t, ()), ()))
abbrev Y_r37_witness_0_1  : (((Int × Unit) × Unit) ⊕ (Unit × Unit)) := (.inr ((), ()))
abbrev X_r37_witness_0 : Type := ((Unit × (Unit × (Int × Unit))) × (NI × (NI × Unit)))
noncomputable def R_r37_witness_0 : X_r37_witness_0 → Option (X_r37_witness_0 ⊕ (((Int × Unit) × Unit) ⊕ (Unit × Unit))) := fun x =>
 let a := x.1.2.2.1
 let n := x.2.1
 let factor := x.2.2.1
 bif (decide (a ≤ 100)) then (
 match (r04_Step n factor a) with
 | none => none
 | some r => (
 bif r then (
 some (.inr (.inl ((a, ()), ()))))
 else (
 some (.inl (((), ((), ((i64.wrap (a + 1)), ()))), (n, (factor, ())))))))
 else (
 some (.inr (.inr ((), ()))))
noncomputable def r37_witness' (n : NI) (factor : NI) : Option (Int) :=
 match (r01_Low n) with
 | none => none
 | some r => (
 bif r.2 then (
 bif (decide (r.1 < 4294967296)) then (
 match (r04_Plain r.1) with
 | none => none
 | some r1 => (
 bif (!r1) then (
 some 0)
 else (
 match (loopF R_r37_witness_0 (((), ((), (2, ()))), (n, (factor, ())))) with
 | none => none
 | some y => (
 match y with
 | .inl y1 => (
 let t := y1.1.1
 some t)
 | .inr y1 => (
 some 0)))))
 else (
 match (loopF R_r37_witness_0 (((), ((), (2, ()))), (n, (factor, ())))) with
 | none => none
 | some y2 => (
 match y2 with
 | .inl y3 => (
 let t1 := y3.1.1
 some t1)
 | .inr y3 => (
 some 0))))
 else (
 match (loopF R_r37_witness_0 (((), ((), (2, ()))), (n, (factor, ())))) with
 | none => none
 | some y4 => (
 match y4 with
 | .inl y5 => (
 let t2 := y5.1.1
 some t2)
 | .inr y5 => (
 some 0))))
noncomputable def r37_witness := veil r37_witness'
theorem r37_witness_eq : r37_witness = r37_witness' := veil_eq _
abbrev T_r37_Next_0 (bits : Int) (k : Int) (i : Int) (factor : NI) (t : (NI × Int)) := ((bits, ((), ((), (k, (i, ()))))), (factor, (t, ())))
abbrev Y_r37_Next_0_0 (t : Int) (t1 : (NI × Int)) : (((Unit × (Int × Unit)) × ((NI × Int) × Unit)) ⊕ ((Unit × Unit) × ((NI × Int) × Unit))) := (.inl (((), (t, ())), (t1, ())))
abbrev Y_r37_Next_0_1 (t : (NI × Int)) : (((Unit × (Int × Unit)) × ((NI × Int) × Unit)) ⊕ ((Unit × Unit) × ((NI × Int) × Unit))) := (.inr (((), ()), (t, ())))
abbrev X_r37_Next_0 : Type := ((Int × (Unit × (Unit × (Int × (Int × Unit))))) × (NI × ((NI × Int) × Unit)))
noncomputable def R_r37_Next_0 : X_r37_Next_0 → Option (X_r37_Next_0 ⊕ (((Unit × (Int × Unit)) × ((NI × Int) × Unit)) ⊕ ((Unit × Unit) × ((NI × Int) × Unit)))) := fun x =>
 let bits := x.1.1
 let k := x.1.2.2.2.1
 let i := x.1.2.2.2.2.1
 let factor := x.2.1
 let t := x.2.2.1
 bif (decide (i < 1024)) then (
 match (r37_at (i64.wrap (k + (i64.wrap (2 * i)))) factor) with
 | none => none
 | some r => (
 match (r01_Len r) with
 | none => none
 | some r1 => (
 bif (decide (r1 > bits)) then (
 some (.inr (.inl (((), (3, ())), (((fun _ => 0), 0), ())))))
 else (
 match (r37_witness r factor) with
 | none => none
 | some r2 => (
 bif (decide (r2 > 0)) then (
 some (.inr (.inl (((), (0, ())), ((r, r2), ())))))
 else (
 some (.inl ((bits, ((), ((), (k, ((i64.wrap (i + 1)), ()))))), (factor, (t, ()))))))))))
 else (
 some (.inr (.inr (((), ()), (t, ())))))
noncomputable def r37_Next' (factor : NI) (bits : Int) (from_ : NI) : Option ((NI × Int) × Int) :=
 match (r01_Len factor) with
 | none => none
 | some r => (
 bif ((bitsOp .and .u64 (factor 0) 1) == 0) then (
 some (((fun _ => 0), 0), 1))
 else (
 match (r01_Int 3) with
 | none => none
 | some r1 => (
 match (r01_Cmp factor r1) with
 | none => none
 | some r2 => (
 bif (decide (r2 < 0)) then (
 some (((fun _ => 0), 0), 1))
 else (
 match (r01_Len from_) with
 | none => none
 | some r3 => (
 bif (decide (r3 > 64)) then (
 some (((fun _ => 0), 0), 1))
 else (
 bif (decide (bits < (i64.wrap (r + 2)))) then (
 some (((fun _ => 0), 0), 1))
 else (
 bif (decide (bits > (i64.wrap ((i64.wrap (2 * r)) - 2)))) then (
 some (((fun _ => 0), 0), 1))
 else (
 bif (decide (bits > 250)) then (
 some (((fun _ => 0), 0), 1))
 else (
 match (r01_Low from_) with
 | none => none
 | some r4 => (
 bif (!r4.2) then (
 some (((fun _ => 0), 0), 3))
 else (
 bif (decide (r4.1 ≥ 4611686018427387904)) then (
 some (((fun _ => 0), 0), 3))
 else (
 match (r37_least factor bits) with
 | none => none
 | some r5 => (
 match (loopF R_r37_Next_0 ((bits, ((), ((), ((i64.wrap ((i64.wrap (r5 + r4.1)) - (Int.tmod r4.1 2))), (0, ()))))), (factor, (((fun _ => 0), 0), ())))) with
 | none => none
 | some y => (
 match y with
 | .inl y1 => (
 let t := y1.1.2.1
 let t1 := y1.2.1
 some (t1, t))
 | .inr y1 => (
 let t2 := y1.2.1
 some (((fun _ => 0), 0), 3)))))))))))))))))
noncomputable def r37_Next := veil r37_Next'
theorem r37_Next_eq : r37_Next = r37_Next' := veil_eq _
abbrev T_r37_Spawn_0 (h : Int) (p : NI) (t : NI) (e : NI) := (((), ((), ((), (h, ())))), (p, (t, (e, ()))))
abbrev Y_r37_Spawn_0_0 (t : Int) (t1 : NI) : (((Unit × (Int × Unit)) × (NI × Unit)) ⊕ ((Unit × Unit) × (NI × Unit))) := (.inl (((), (t, ())), (t1, ())))
abbrev Y_r37_Spawn_0_1 (t : NI) : (((Unit × (Int × Unit)) × (NI × Unit)) ⊕ ((Unit × Unit) × (NI × Unit))) := (.inr (((), ()), (t, ())))
abbrev X_r37_Spawn_0 : Type := ((Unit × (Unit × (Unit × (Int × Unit)))) × (NI × (NI × (NI × Unit))))
noncomputable def R_r37_Spawn_0 : X_r37_Spawn_0 → Option (X_r37_Spawn_0 ⊕ (((Unit × (Int × Unit)) × (NI × Unit)) ⊕ ((Unit × Unit) × (NI × Unit)))) := fun x =>
 let h := x.1.2.2.2.1
 let p := x.2.1
 let t := x.2.2.1
 let e := x.2.2.2.1
 bif (decide (h ≤ 100)) then (
 match (r01_Int h) with
 | none => none
 | some r => (
 match (r03_Exp r e p) with
 | none => none
 | some r1 => (
 match (r01_Int 1) with
 | none => none
 | some r2 => (
 bif (!(eqF (.arr 4 (.int .u64)) r1 r2)) then (
 some (.inr (.inl (((), (0, ())), (r1, ())))))
 else (
 some (.inl (((), ((), ((), ((i64.wrap (h + 1)), ())))), (p, (t, (e, ()))))))))))
 else (
 some (.inr (.inr (((), ()), (t, ())))))
noncomputable def r37_Spawn' (p : NI) (q : NI) : Option (NI × Int) :=
 bif ((bitsOp .and .u64 (p 0) 1) == 0) then (
 some ((fun _ => 0), 1))
 else (
 match (r01_Int 5) with
 | none => none
 | some r => (
 match (r01_Cmp p r) with
 | none => none
 | some r1 => (
 bif (decide (r1 < 0)) then (
 some ((fun _ => 0), 1))
 else (
 bif (eqF (.arr 4 (.int .u64)) q (fun _ => 0)) then (
 some ((fun _ => 0), 1))
 else (
 match (r01_Int 1) with
 | none => none
 | some r2 => (
 match (r01_Sub p r2) with
 | none => none
 | some r3 => (
 match (r02_Div r3.1 q) with
 | none => none
 | some r4 => (
 bif (!(eqF (.arr 4 (.int .u64)) r4.2.1 (fun _ => 0))) then (
 some ((fun _ => 0), 1))
 else (
 match (loopF R_r37_Spawn_0 (((), ((), ((), (2, ())))), (p, ((fun _ => 0), (r4.1, ()))))) with
 | none => none
 | some y => (
 match y with
 | .inl y1 => (
 let t := y1.1.2.1
 let t1 := y1.2.1
 some (t1, t))
 | .inr y1 => (
 let t2 := y1.2.1
 some ((fun _ => 0), 3))))))))))))
noncomputable def r37_Spawn := veil r37_Spawn'
theorem r37_Spawn_eq : r37_Spawn = r37_Spawn' := veil_eq _
abbrev T_r37_Find_0 (nbits : Nat) (bits : Nat → Int) (nl : Nat) (l : Nat → (NI × Int)) (i : Int) (nt : Nat) (t : Nat → (NI × Int)) (t1 : NI) (s : (ByteArray × (ByteArray × Int))) := (((nbits, bits), ((), ((), ((nl, l), (i, ()))))), (((nt, t), t1), (s, ())))
abbrev Y_r37_Find_0_0 (t : Int) (nt : Nat) (t1 : Nat → (NI × Int)) (t2 : NI) : (((Unit × (Int × Unit)) × (((Nat × (Nat → (NI × Int))) × NI) × Unit)) ⊕ ((Unit × ((Nat × (Nat → (NI × Int))) × Unit)) × (((Nat × (Nat → (NI × Int))) × NI) × Unit))) := (.inl (((), (t, ())), (((nt, t1), t2), ())))
abbrev Y_r37_Find_0_1 (nl : Nat) (l : Nat → (NI × Int)) (nt : Nat) (t : Nat → (NI × Int)) (t1 : NI) : (((Unit × (Int × Unit)) × (((Nat × (Nat → (NI × Int))) × NI) × Unit)) ⊕ ((Unit × ((Nat × (Nat → (NI × Int))) × Unit)) × (((Nat × (Nat → (NI × Int))) × NI) × Unit))) := (.inr (((), ((nl, l), ())), (((nt, t), t1), ())))
abbrev X_r37_Find_0 : Type := (((Nat × NI) × (Unit × (Unit × ((Nat × (Nat → (NI × Int))) × (Int × Unit))))) × (((Nat × (Nat → (NI × Int))) × NI) × ((ByteArray × (ByteArray × Int)) × Unit)))
noncomputable def R_r37_Find_0 : X_r37_Find_0 → Option (X_r37_Find_0 ⊕ (((Unit × (Int × Unit)) × (((Nat × (Nat → (NI × Int))) × NI) × Unit)) ⊕ ((Unit × ((Nat × (Nat → (NI × Int))) × Unit)) × (((Nat × (Nat → (NI × Int))) × NI) × Unit)))) := fun x =>
 let nbits := x.1.1.1
 let bits := x.1.1.2
 let nl := x.1.2.2.2.1.1
 let l := x.1.2.2.2.1.2
 let i := x.1.2.2.2.2.1
 let nt := x.2.1.1.1
 let t := x.2.1.1.2
 let t1 := x.2.1.2
 let s := x.2.2.1
 bif (decide (i < ((nbits : Nat) : Int))) then (
 bif (inb (i64.wrap (((nl : Nat) : Int) - 1)) nl) then (
 match (r34_Bytes s 8 (ByteArray.mk #[])) with
 | none => none
 | some r => (
 bif (inb i nbits) then (
 bif (inb i nbits) then (
 match (r01_Len (l (0 + (Int.toNat (i64.wrap (((nl : Nat) : Int) - 1))))).1) with
 | none => none
 | some r1 => (
 match (r37_number r.2.1 (i64.wrap ((i64.wrap ((bits (Int.toNat i)) - r1)) - 2))) with
 | none => none
 | some r2 => (
 match (r37_Next (l (0 + (Int.toNat (i64.wrap (((nl : Nat) : Int) - 1))))).1 (bits (Int.toNat i)) r2) with
 | none => none
 | some r3 => (
 bif (r3.2 != 0) then (
 some (.inr (.inl (((), (r3.2, ())), (((0, (fun _ => ((fun _ => 0), 0))), (fun _ => 0)), ())))))
 else (
 bif ((Nat.ble ((nl + 1) * 40) 140737488355328) && (Nat.ble (nl + 1) 9223372036854775807)) then (
 some (.inl (((nbits, bits), ((), ((), (((nl + 1), (glue nl l (fun j => (upd (fun _ => ((fun _ => 0), 0)) 0 r3.1) (0 + j)))), ((i64.wrap (i + 1)), ()))))), (((nt, t), t1), (r.1, ())))))
 else (
 none))))))
 else (
 none))
 else (
 none)))
 else (
 none))
 else (
 some (.inr (.inr (((), ((nl, l), ())), (((nt, t), t1), ())))))
noncomputable def r37_Find' (seed : ByteArray) (nbits : Nat) (bits : Nat → Int) : Option (((Nat × (Nat → (NI × Int))) × NI) × Int) :=
 match (r34_New seed) with
 | none => none
 | some r => (
 bif (r.2 != 0) then (
 some (((0, (fun _ => ((fun _ => 0), 0))), (fun _ => 0)), r.2))
 else (
 bif (decide (((nbits : Nat) : Int) < 2)) then (
 some (((0, (fun _ => ((fun _ => 0), 0))), (fun _ => 0)), 1))
 else (
 bif (decide (((nbits : Nat) : Int) > 7)) then (
 some (((0, (fun _ => ((fun _ => 0), 0))), (fun _ => 0)), 1))
 else (
 match (r34_Bytes r.1 2 (ByteArray.mk #[])) with
 | none => none
 | some r1 => (
 match (r37_number r1.2.1 14) with
 | none => none
 | some r2 => (
 match (r01_Low r2) with
 | none => none
 | some r3 => (
 match (r37_First (i64.wrap (32768 + r3.1))) with
 | none => none
 | some r4 => (
 bif (r4.2 != 0) then (
 some (((0, (fun _ => ((fun _ => 0), 0))), (fun _ => 0)), r4.2))
 else (
 match (r01_Int r4.1) with
 | none => none
 | some r5 => (
 match (loopF R_r37_Find_0 (((nbits, bits), ((), ((), ((1, (upd (fun _ => ((fun _ => 0), 0)) 0 (r5, 0))), (0, ()))))), (((0, (fun _ => ((fun _ => 0), 0))), (fun _ => 0)), (r1.1, ())))) with
 | none => none
 | some y => (
 match y with
 | .inl y1 => (
 let t := y1.1.2.1
 let nt := y1.2.1.1.1
 let t1 := y1.2.1.1.2
 let t2 := y1.2.1.2
 some (((nt, t1), t2), t))
 | .inr y1 => (
 let nl := y1.1.2.1.1
 let l := y1.1.2.1.2
 let nt1 := y1.2.1.1.1
 let t3 := y1.2.1.1.2
 let t4 := y1.2.1.2
 bif (inb (i64.wrap (((nl : Nat) : Int) - 1)) nl) then (
 bif (inb (i64.wrap (((nl : Nat) : Int) - 2)) nl) then (
 match (r37_Spawn (l (0 + (Int.toNat (i64.wrap (((nl : Nat) : Int) - 1))))).1 (l (0 + (Int.toNat (i64.wrap (((nl : Nat) : Int) - 2))))).1) with
 | none => none
 | some r6 => (
 bif (r6.2 != 0) then (
 some (((0, (fun _ => ((fun _ => 0), 0))), (fun _ => 0)), r6.2))
 else (
 match (r07_May ((nl, (fun j => l (0 + j))), r6.1)) with
 | none => none
 | some r7 => (
 bif (!r7) then (
 some (((0, (fun _ => ((fun _ => 0), 0))), (fun _ => 0)), 3))
 else (
 some (((nl, (fun j => l (0 + j))), r6.1), 0))))))
 else (
 none))
 else (
 none)))))))))))))
noncomputable def r37_Find := veil r37_Find'
theorem r37_Find_eq : r37_Find = r37_Find' := veil_eq _
end Go.Pl
