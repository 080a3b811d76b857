/-
  The functions of a package, plainly.
-/
import Derived.Test.YtkhhonbkgckjjaaGreatDenI
import Derived.Test.YtkhhonbkgckjjaaGreatPdrbg
import Derived.Test.YtkhhonbkgckjjaaGreatPlA
set_option linter.unusedVariables false
set_option linter.unusedSimpArgs false
set_option maxRecDepth 100000
set_option maxHeartbeats 0
namespace Go.Pl
end Go.Pl
open Go Go.Den Go.Pl
namespace Go.Pl
open Go.IntKind (i64 u64 u32 u8)
abbrev T_seek_First_0 (n : Int) := ((n, ()), ())
abbrev Y_seek_First_0_0 (t : Int) (t1 : Int) : (((Int × (Int × Unit)) × Unit) ⊕ (Unit × Unit)) := (.inl ((t, (t1, ())), ()))
noncomputable def R_seek_First_0 : ((Int × Unit) × Unit) → Option (((Int × Unit) × Unit) ⊕ (((Int × (Int × Unit)) × Unit) ⊕ (Unit × Unit))) := fun x =>
 let n := x.1.1
 bif (decide (n ≥ 0)) then (
 bif (decide (n < 65536)) then (
 match (prime_Small n) with
 | none => none
 | some r => (
 bif r then (
 some (.inr (.inl ((n, (0, ())), ()))))
 else (
 some (.inl (((i64.wrap (n + 1)), ()), ())))))
 else (
 some (.inr (.inr ((), ())))))
 else (
 some (.inr (.inr ((), ()))))
noncomputable def seek_First' (from_ : Int) : Option (Int × Int) :=
 match (loopF R_seek_First_0 ((from_, ()), ())) with
 | none => none
 | some y => (
 match y with
 | .inl y1 => (
 let t := y1.1.1
 let t1 := y1.1.2.1
 some (t, t1))
 | .inr y1 => (
 some (0, 1)))
noncomputable def seek_First := veil seek_First'
theorem seek_First_eq : seek_First = seek_First' := veil_eq _
noncomputable def seek_even' (a : NI) : Option (NI) :=
 match (nat_Down a 1) with
 | none => none
 | some r => (
 match (nat_Up r 1) with
 | none => none
 | some r1 => (
 some r1))
noncomputable def seek_even := veil seek_even'
theorem seek_even_eq : seek_even = seek_even' := veil_eq _
noncomputable def seek_above' (k : NI) (factor : NI) : Option (NI) :=
 match (wide_Mul k factor) with
 | none => none
 | some r => (
 match (nat_Of 1) with
 | none => none
 | some r1 => (
 match (nat_Add r.1 r1) with
 | none => none
 | some r2 => (
 some r2.1)))
noncomputable def seek_above := veil seek_above'
theorem seek_above_eq : seek_above = seek_above' := veil_eq _
abbrev T_seek_least_0 (bits : Int) (factor : NI) (t : NI) (k : NI) := ((bits, ((), ((), ((), ())))), (factor, (t, (k, ()))))
abbrev Y_seek_least_0_0 (t : NI) (k : NI) := (((), ((), ())), (t, (k, ())))
abbrev X_seek_least_0 : Type := ((Int × (Unit × (Unit × (Unit × Unit)))) × (NI × (NI × (NI × Unit))))
noncomputable def R_seek_least_0 : X_seek_least_0 → Option (X_seek_least_0 ⊕ ((Unit × (Unit × Unit)) × (NI × (NI × Unit)))) := fun x =>
 let bits := x.1.1
 let factor := x.2.1
 let t := x.2.2.1
 let k := x.2.2.2.1
 match (seek_above k factor) with
 | none => none
 | some r => (
 match (nat_Len r) with
 | none => none
 | some r1 => (
 bif (decide (r1 < bits)) then (
 match (nat_Of 2) with
 | none => none
 | some r2 => (
 match (nat_Add k r2) with
 | none => none
 | some r3 => (
 some (.inl ((bits, ((), ((), ((), ())))), (factor, (t, (r3.1, ()))))))))
 else (
 some (.inr (((), ((), ())), (t, (k, ())))))))
noncomputable def seek_least' (factor : NI) (bits : Int) : Option (NI) :=
 match (nat_Of 1) with
 | none => none
 | some r => (
 match (nat_Up r (i64.wrap (bits - 1))) with
 | none => none
 | some r1 => (
 match (wide_Div r1 factor) with
 | none => none
 | some r2 => (
 match (seek_even r2.1) with
 | none => none
 | some r3 => (
 bif (eqF (.arr 4 (.int .u64)) r3 (fun _ => 0)) then (
 match (nat_Of 2) with
 | none => none
 | some r4 => (
 match (loopF R_seek_least_0 ((bits, ((), ((), ((), ())))), (factor, ((fun _ => 0), (r4, ()))))) with
 | none => none
 | some y => (
 let t := y.2.1
 let k := y.2.2.1
 some k)))
 else (
 match (loopF R_seek_least_0 ((bits, ((), ((), ((), ())))), (factor, ((fun _ => 0), (r3, ()))))) with
 | none => none
 | some y1 => (
 let t1 := y1.2.1
 let k1 := y1.2.2.1
 some k1))))))
noncomputable def seek_least := veil seek_least'
theorem seek_least_eq : seek_least = seek_least' := veil_eq _
noncomputable def seek_witness' (n : NI) (factor : NI) : Option (Int × Int) :=
 match (mont_New n) with
 | none => none
 | some r => (
 match r.1 with
 | none => (
 match (nat_Of 1) with
 | none => none
 | some r7 => (
 match (nat_Sub n r7) with
 | none => none
 | some r8 => (
 bif (r.2 != 0) then (
 some (0, 3))
 else (
 match (nat_Of 2) with
 | none => none
 | some r9 => (
 match (mont_Ring_Exp none r9 r8.1) with
 | none => none
 | some r10 => (
 match (nat_Of 1) with
 | none => none
 | some r11 => (
 bif (!(eqF (.arr 4 (.int .u64)) r10 r11)) then (
 some (0, 3))
 else (
 match (prime_Witness n factor) with
 | none => none
 | some r12 => (
 some (r12.1, r12.2))))))))))
 | some p => (
 match (nat_Of 1) with
 | none => none
 | some r1 => (
 match (nat_Sub n r1) with
 | none => none
 | some r2 => (
 bif (r.2 != 0) then (
 some (0, 3))
 else (
 match (nat_Of 2) with
 | none => none
 | some r3 => (
 match (mont_Ring_Exp (some p) r3 r2.1) with
 | none => none
 | some r4 => (
 match (nat_Of 1) with
 | none => none
 | some r5 => (
 bif (!(eqF (.arr 4 (.int .u64)) r4 r5)) then (
 some (0, 3))
 else (
 match (prime_Witness n factor) with
 | none => none
 | some r6 => (
 some (r6.1, r6.2)))))))))))
noncomputable def seek_witness := veil seek_witness'
theorem seek_witness_eq : seek_witness = seek_witness' := veil_eq _
abbrev T_seek_Next_0 (bits : Int) (t : Int) (factor : NI) (t1 : (NI × Int)) (k : NI) (found : (NI × Int)) := ((bits, ((), ((), ((), ((), (t, ())))))), (factor, (t1, (k, (found, ())))))
abbrev Y_seek_Next_0_0 (t : (NI × Int)) (found : (NI × Int)) := (((), ((), ())), (t, (found, ())))
abbrev X_seek_Next_0 : Type := ((Int × (Unit × (Unit × (Unit × (Unit × (Int × Unit)))))) × (NI × ((NI × Int) × (NI × ((NI × Int) × Unit)))))
noncomputable def R_seek_Next_0 : X_seek_Next_0 → Option (X_seek_Next_0 ⊕ ((Unit × (Unit × Unit)) × ((NI × Int) × ((NI × Int) × Unit)))) := fun x =>
 let bits := x.1.1
 let t := x.1.2.2.2.2.2.1
 let factor := x.2.1
 let t1 := x.2.2.1
 let k := x.2.2.2.1
 let found := x.2.2.2.2.1
 bif (decide (t < 1024)) then (
 match (seek_above k factor) with
 | none => none
 | some r => (
 match (nat_Len r) with
 | none => none
 | some r1 => (
 bif (decide (r1 > bits)) then (
 some (.inr (((), ((), ())), (t1, (found, ())))))
 else (
 match (seek_witness r factor) with
 | none => none
 | some r2 => (
 bif (r2.2 == 0) then (
 some (.inr (((), ((), ())), (t1, ((r, r2.1), ())))))
 else (
 match (nat_Of 2) with
 | none => none
 | some r3 => (
 match (nat_Add k r3) with
 | none => none
 | some r4 => (
 some (.inl ((bits, ((), ((), ((), ((), ((i64.wrap (t + 1)), ())))))), (factor, (t1, (r4.1, (found, ()))))))))))))))
 else (
 some (.inr (((), ((), ())), (t1, (found, ())))))
noncomputable def seek_Next' (factor : NI) (bits : Int) (from_ : NI) : Option ((NI × Int) × Int) :=
 match (nat_Len factor) with
 | none => none
 | some r => (
 bif ((bitsOp .and .u64 (factor 0) 1) == 0) then (
 some (((fun _ => 0), 0), 1))
 else (
 bif (decide (r < 2)) then (
 some (((fun _ => 0), 0), 1))
 else (
 match (nat_Len from_) with
 | none => none
 | some r1 => (
 bif (decide (r1 > 64)) then (
 some (((fun _ => 0), 0), 1))
 else (
 bif (decide (bits < (i64.wrap (r + 2)))) then (
 some (((fun _ => 0), 0), 1))
 else (
 bif (decide (bits > (i64.wrap ((i64.wrap (2 * r)) - 2)))) then (
 some (((fun _ => 0), 0), 1))
 else (
 bif (decide (bits > 250)) then (
 some (((fun _ => 0), 0), 1))
 else (
 match (seek_least factor bits) with
 | none => none
 | some r2 => (
 match (seek_even from_) with
 | none => none
 | some r3 => (
 match (nat_Add r2 r3) with
 | none => none
 | some r4 => (
 match (loopF R_seek_Next_0 ((bits, ((), ((), ((), ((), (0, ())))))), (factor, (((fun _ => 0), 0), (r4.1, (((fun _ => 0), 0), ())))))) with
 | none => none
 | some y => (
 let t := y.2.1
 let found := y.2.2.1
 bif (found.2 == 0) then (
 some (((fun _ => 0), 0), 3))
 else (
 some (found, 0))))))))))))))
noncomputable def seek_Next := veil seek_Next'
theorem seek_Next_eq : seek_Next = seek_Next' := veil_eq _
abbrev T_seek_Spawn_0 (ring : (NI × (Int × (NI × NI)))) (h : Int) (t : NI) (power : NI) := (((), (ring, ((), (h, ())))), (t, (power, ())))
abbrev Y_seek_Spawn_0_0 (t : Int) (t1 : NI) : (((Unit × (Int × Unit)) × (NI × Unit)) ⊕ ((Unit × Unit) × (NI × Unit))) := (.inl (((), (t, ())), (t1, ())))
abbrev Y_seek_Spawn_0_1 (t : NI) : (((Unit × (Int × Unit)) × (NI × Unit)) ⊕ ((Unit × Unit) × (NI × Unit))) := (.inr (((), ()), (t, ())))
abbrev X_seek_Spawn_0 : Type := ((Unit × ((NI × (Int × (NI × NI))) × (Unit × (Int × Unit)))) × (NI × (NI × Unit)))
noncomputable def R_seek_Spawn_0 : X_seek_Spawn_0 → Option (X_seek_Spawn_0 ⊕ (((Unit × (Int × Unit)) × (NI × Unit)) ⊕ ((Unit × Unit) × (NI × Unit)))) := fun x =>
 let ring := x.1.2.1
 let h := x.1.2.2.2.1
 let t := x.2.1
 let power := x.2.2.1
 bif (decide (h ≤ 100)) then (
 match (nat_Of h) with
 | none => none
 | some r => (
 match (mont_Ring_Exp (some ring) r power) with
 | none => none
 | some r1 => (
 match (nat_Of 1) with
 | none => none
 | some r2 => (
 bif (!(eqF (.arr 4 (.int .u64)) r1 r2)) then (
 some (.inr (.inl (((), (0, ())), (r1, ())))))
 else (
 some (.inl (((), (ring, ((), ((i64.wrap (h + 1)), ())))), (t, (power, ())))))))))
 else (
 some (.inr (.inr (((), ()), (t, ())))))
noncomputable def seek_Spawn' (p : NI) (q : NI) : Option (NI × Int) :=
 match (mont_New p) with
 | none => none
 | some r => (
 match r.1 with
 | none => (
 bif (r.2 != 0) then (
 some ((fun _ => 0), 1))
 else (
 match (nat_Of 5) with
 | none => none
 | some r6 => (
 match (nat_Cmp p r6) with
 | none => none
 | some r7 => (
 bif (decide (r7 < 0)) then (
 some ((fun _ => 0), 1))
 else (
 match (nat_Of 1) with
 | none => none
 | some r8 => (
 match (nat_Sub p r8) with
 | none => none
 | some r9 => (
 match (wide_Div r9.1 q) with
 | none => none
 | some r10 => (
 bif (r10.2.2 != 0) then (
 some ((fun _ => 0), 1))
 else (
 bif (!(eqF (.arr 4 (.int .u64)) r10.2.1 (fun _ => 0))) then (
 some ((fun _ => 0), 1))
 else (
 none))))))))))
 | some p1 => (
 bif (r.2 != 0) then (
 some ((fun _ => 0), 1))
 else (
 match (nat_Of 5) with
 | none => none
 | some r1 => (
 match (nat_Cmp p r1) with
 | none => none
 | some r2 => (
 bif (decide (r2 < 0)) then (
 some ((fun _ => 0), 1))
 else (
 match (nat_Of 1) with
 | none => none
 | some r3 => (
 match (nat_Sub p r3) with
 | none => none
 | some r4 => (
 match (wide_Div r4.1 q) with
 | none => none
 | some r5 => (
 bif (r5.2.2 != 0) then (
 some ((fun _ => 0), 1))
 else (
 bif (!(eqF (.arr 4 (.int .u64)) r5.2.1 (fun _ => 0))) then (
 some ((fun _ => 0), 1))
 else (
 match (loopF R_seek_Spawn_0 (((), (p1, ((), (2, ())))), ((fun _ => 0), (r5.1, ())))) with
 | none => none
 | some y => (
 match y with
 | .inl y1 => (
 let t := y1.1.2.1
 let t1 := y1.2.1
 some (t1, t))
 | .inr y1 => (
 let t2 := y1.2.1
 some ((fun _ => 0), 3))))))))))))))
noncomputable def seek_Spawn := veil seek_Spawn'
theorem seek_Spawn_eq : seek_Spawn = seek_Spawn' := veil_eq _
abbrev T_seek_number_m_0 (bits : Int) (nt : Nat) (t : Nat → Int) (t1 : Int) (t2 : Int) (s : (ByteArray × (ByteArray × Int))) (t3 : NI) (n : NI) := (((), (bits, ((), ((), ((nt, t), (t1, (t2, ()))))))), (s, (t3, (n, ()))))
abbrev Y_seek_number_m_0_0 (bits : Int) (s : (ByteArray × (ByteArray × Int))) (t : NI) (n : NI) := (((), (bits, ((), ((), ())))), (s, (t, (n, ()))))
abbrev X_seek_number_m_0 : Type := ((Unit × (Int × (Unit × (Unit × ((Nat × NI) × (Int × (Int × Unit))))))) × ((ByteArray × (ByteArray × Int)) × (NI × (NI × Unit))))
noncomputable def R_seek_number_m_0 : X_seek_number_m_0 → Option (X_seek_number_m_0 ⊕ ((Unit × (Int × (Unit × (Unit × Unit)))) × ((ByteArray × (ByteArray × Int)) × (NI × (NI × Unit))))) := fun x =>
 let bits := x.1.2.1
 let nt := x.1.2.2.2.2.1.1
 let t := x.1.2.2.2.2.1.2
 let t1 := x.1.2.2.2.2.2.1
 let t2 := x.1.2.2.2.2.2.2.1
 let s := x.2.1
 let t3 := x.2.2.1
 let n := x.2.2.2.1
 bif (decide (t2 < t1)) then (
 bif (inb t2 nt) then (
 match (nat_Up n 8) with
 | none => none
 | some r => (
 some (.inl (((), (bits, ((), ((), ((nt, t), (t1, ((i64.wrap (t2 + 1)), ()))))))), (s, (t3, ((upd r 0 (bitsOp .or .u64 (r 0) (u64.wrap (t (0 + (Int.toNat t2)))))), ())))))))
 else (
 none))
 else (
 some (.inr (((), (bits, ((), ((), ())))), (s, (t3, (n, ()))))))
abbrev Y_seek_number_m_0 (s : NI) (bytes : Int) (s1 : (ByteArray × (ByteArray × Int))) := ((s, (bytes, ())), (s1, ()))
noncomputable def seek_number_m' (bytes : Int) (bits : Int) (s : (ByteArray × (ByteArray × Int))) : Option (((NI × (Int × Unit)) × ((ByteArray × (ByteArray × Int)) × Unit))) :=
 match (drbg_Source_Bytes_m bytes (ByteArray.mk #[]) s) with
 | none => none
 | some y => (
 let r := y.1.1
 let r1 := y.1.2.1
 let o := y.2.1
 bif (r1 != 0) then (
 some (((fun _ => 0), (r1, ())), (o, ())))
 else (
 bif (decide (bits < 1)) then (
 some (((fun _ => 0), (r1, ())), (o, ())))
 else (
 bif (Nat.ble (ByteArray.size r) 9223372036854775807) then (
 match (loopF R_seek_number_m_0 (((), (bits, ((), ((), (((ByteArray.size r), (fun i => (((r).data.toList.getD i 0).toNat : Int))), ((((ByteArray.size r) : Nat) : Int), (0, ()))))))), (o, ((fun _ => 0), ((fun _ => 0), ()))))) with
 | none => none
 | some y1 => (
 let bits1 := y1.1.2.1
 let s1 := y1.2.1
 let t := y1.2.2.1
 let n := y1.2.2.2.1
 match (nat_Up n (i64.wrap (256 - (if 60 < bits1 then 60 else bits1)))) with
 | none => none
 | some r2 => (
 match (nat_Down r2 (i64.wrap (256 - (if 60 < bits1 then 60 else bits1)))) with
 | none => none
 | some r3 => (
 some ((r3, (0, ())), (s1, ()))))))
 else (
 none))))
noncomputable def seek_number_m := veil seek_number_m'
theorem seek_number_m_eq : seek_number_m = seek_number_m' := veil_eq _
abbrev X_seek_number_0 : Type := ((Int × (Unit × (Unit × ((Nat × NI) × (Int × (Int × Unit)))))) × (NI × (NI × Unit)))
noncomputable def R_seek_number_0 : X_seek_number_0 → Option (X_seek_number_0 ⊕ ((Int × (Unit × (Unit × Unit))) × (NI × (NI × Unit)))) := fun x =>
 let bits := x.1.1
 let nt := x.1.2.2.2.1.1
 let t := x.1.2.2.2.1.2
 let t1 := x.1.2.2.2.2.1
 let t2 := x.1.2.2.2.2.2.1
 let t3 := x.2.1
 let n := x.2.2.1
 bif (decide (t2 < t1)) then (
 bif (inb t2 nt) then (
 match (nat_Up n 8) with
 | none => none
 | some r => (
 some (.inl ((bits, ((), ((), ((nt, t), (t1, ((i64.wrap (t2 + 1)), ())))))), (t3, ((upd r 0 (bitsOp .or .u64 (r 0) (u64.wrap (t (0 + (Int.toNat t2)))))), ()))))))
 else (
 none))
 else (
 some (.inr ((bits, ((), ((), ()))), (t3, (n, ())))))
noncomputable def seek_number' (s : (Option (ByteArray × (ByteArray × Int)))) (bytes : Int) (bits : Int) : Option (NI × Int) :=
 match s with
 | none => (
 match (drbg_Source_Bytes none bytes (ByteArray.mk #[])) with
 | none => none
 | some r3 => (
 bif (r3.2 != 0) then (
 some ((fun _ => 0), r3.2))
 else (
 bif (decide (bits < 1)) then (
 some ((fun _ => 0), r3.2))
 else (
 bif (Nat.ble (ByteArray.size r3.1) 9223372036854775807) then (
 match (loopF R_seek_number_0 ((bits, ((), ((), (((ByteArray.size r3.1), (fun i => (((r3.1).data.toList.getD i 0).toNat : Int))), ((((ByteArray.size r3.1) : Nat) : Int), (0, ())))))), ((fun _ => 0), ((fun _ => 0), ())))) with
 | none => none
 | some y1 => (
 let bits2 := y1.1.1
 let t1 := y1.2.1
 let n1 := y1.2.2.1
 match (nat_Up n1 (i64.wrap (256 - (if 60 < bits2 then 60 else bits2)))) with
 | none => none
 | some r4 => (
 match (nat_Down r4 (i64.wrap (256 - (if 60 < bits2 then 60 else bits2)))) with
 | none => none
 | some r5 => (
 some (r5, 0)))))
 else (
 none)))))
 | some s0 => (
 match (drbg_Source_Bytes (some s0) bytes (ByteArray.mk #[])) with
 | none => none
 | some r => (
 bif (r.2 != 0) then (
 some ((fun _ => 0), r.2))
 else (
 bif (decide (bits < 1)) then (
 some ((fun _ => 0), r.2))
 else (
 bif (Nat.ble (ByteArray.size r.1) 9223372036854775807) then (
 match (loopF R_seek_number_0 ((bits, ((), ((), (((ByteArray.size r.1), (fun i => (((r.1).data.toList.getD i 0).toNat : Int))), ((((ByteArray.size r.1) : Nat) : Int), (0, ())))))), ((fun _ => 0), ((fun _ => 0), ())))) with
 | none => none
 | some y => (
 let bits1 := y.1.1
 let t := y.2.1
 let n := y.2.2.1
 match (nat_Up n (i64.wrap (256 - (if 60 < bits1 then 60 else bits1)))) with
 | none => none
 | some r1 => (
 match (nat_Down r1 (i64.wrap (256 - (if 60 < bits1 then 60 else bits1)))) with
 | none => none
 | some r2 => (
 some (r2, 0)))))
 else (
 none)))))
noncomputable def seek_number := veil seek_number'
theorem seek_number_eq : seek_number = seek_number' := veil_eq _
abbrev Y_seek_first_m_0 (s : (NI × Int)) (s1 : Int) (o : (ByteArray × (ByteArray × Int))) := ((s, (s1, ())), (o, ()))
noncomputable def seek_first_m' (s : (ByteArray × (ByteArray × Int))) : Option ((((NI × Int) × (Int × Unit)) × ((ByteArray × (ByteArray × Int)) × Unit))) :=
 match (seek_number_m 2 14 s) with
 | none => none
 | some y => (
 let r := y.1.1
 let r1 := y.1.2.1
 let o := y.2.1
 bif (r1 != 0) then (
 some ((((fun _ => 0), 0), (r1, ())), (o, ())))
 else (
 match (nat_Int r) with
 | none => none
 | some r2 => (
 match (seek_First (i64.wrap (32768 + r2.1))) with
 | none => none
 | some r3 => (
 match (nat_Of r3.1) with
 | none => none
 | some r4 => (
 some (((r4, 0), (r3.2, ())), (o, ())))))))
noncomputable def seek_first_m := veil seek_first_m'
theorem seek_first_m_eq : seek_first_m = seek_first_m' := veil_eq _
noncomputable def seek_first' (s : (Option (ByteArray × (ByteArray × Int)))) : Option ((NI × Int) × Int) :=
 match s with
 | none => (
 match (seek_number none 2 14) with
 | none => none
 | some r4 => (
 bif (r4.2 != 0) then (
 some (((fun _ => 0), 0), r4.2))
 else (
 match (nat_Int r4.1) with
 | none => none
 | some r5 => (
 match (seek_First (i64.wrap (32768 + r5.1))) with
 | none => none
 | some r6 => (
 match (nat_Of r6.1) with
 | none => none
 | some r7 => (
 some ((r7, 0), r6.2)))))))
 | some s0 => (
 match (seek_number (some s0) 2 14) with
 | none => none
 | some r => (
 bif (r.2 != 0) then (
 some (((fun _ => 0), 0), r.2))
 else (
 match (nat_Int r.1) with
 | none => none
 | some r1 => (
 match (seek_First (i64.wrap (32768 + r1.1))) with
 | none => none
 | some r2 => (
 match (nat_Of r2.1) with
 | none => none
 | some r3 => (
 some ((r3, 0), r2.2)))))))
noncomputable def seek_first := veil seek_first'
theorem seek_first_eq : seek_first = seek_first' := veil_eq _
abbrev T_seek_chain_m_0 (e : Int) (nl : Nat) (l : Nat → (NI × Int)) (nt : Nat) (t : Nat → Int) (t1 : Int) (t2 : Int) (s : (ByteArray × (ByteArray × Int))) (link : (NI × Int)) := (((), ((), (e, ((nl, l), ((nt, t), (t1, (t2, ()))))))), (s, (link, ())))
abbrev Y_seek_chain_m_0_0 (e : Int) (nl : Nat) (l : Nat → (NI × Int)) (s : (ByteArray × (ByteArray × Int))) := (((), (e, ((nl, l), ()))), (s, ()))
abbrev X_seek_chain_m_0 : Type := ((Unit × (Unit × (Int × ((Nat × (Nat → (NI × Int))) × ((Nat × NI) × (Int × (Int × Unit))))))) × ((ByteArray × (ByteArray × Int)) × ((NI × Int) × Unit)))
noncomputable def R_seek_chain_m_0 : X_seek_chain_m_0 → Option (X_seek_chain_m_0 ⊕ ((Unit × (Int × ((Nat × (Nat → (NI × Int))) × Unit))) × ((ByteArray × (ByteArray × Int)) × Unit))) := fun x =>
 let e := x.1.2.2.1
 let nl := x.1.2.2.2.1.1
 let l := x.1.2.2.2.1.2
 let nt := x.1.2.2.2.2.1.1
 let t := x.1.2.2.2.2.1.2
 let t1 := x.1.2.2.2.2.2.1
 let t2 := x.1.2.2.2.2.2.2.1
 let s := x.2.1
 let link := x.2.2.1
 bif (decide (t2 < t1)) then (
 bif (inb t2 nt) then (
 bif (e != 0) then (
 some (.inr (((), (e, ((nl, l), ()))), (s, ()))))
 else (
 bif (inb (i64.wrap (((nl : Nat) : Int) - 1)) nl) then (
 match (nat_Len (l (0 + (Int.toNat (i64.wrap (((nl : Nat) : Int) - 1))))).1) with
 | none => none
 | some r => (
 match (seek_number_m 8 (i64.wrap ((i64.wrap ((t (Int.toNat t2)) - r)) - 2)) s) with
 | none => none
 | some y => (
 let r1 := y.1.1
 let r2 := y.1.2.1
 let o := y.2.1
 bif (r2 != 0) then (
 some (.inr (((), (r2, ((nl, l), ()))), (o, ()))))
 else (
 match (seek_Next (l (0 + (Int.toNat (i64.wrap (((nl : Nat) : Int) - 1))))).1 (t (Int.toNat t2)) r1) with
 | none => none
 | some r3 => (
 bif ((Nat.ble ((nl + 1) * 40) 140737488355328) && (Nat.ble (nl + 1) 9223372036854775807)) then (
 some (.inl (((), ((), (r3.2, (((nl + 1), (glue nl l (fun j => (upd (fun _ => ((fun _ => 0), 0)) 0 r3.1) (0 + j)))), ((nt, t), (t1, ((i64.wrap (t2 + 1)), ()))))))), (o, (r3.1, ())))))
 else (
 none))))))
 else (
 none)))
 else (
 none))
 else (
 some (.inr (((), (e, ((nl, l), ()))), (s, ()))))
abbrev Y_seek_chain_m_0 (ns : Nat) (s : Nat → (NI × Int)) (bits : Int) (s1 : (ByteArray × (ByteArray × Int))) := (((ns, s), (bits, ())), (s1, ()))
noncomputable def seek_chain_m' (nbits : Nat) (bits : Nat → Int) (s : (ByteArray × (ByteArray × Int))) : Option ((((Nat × (Nat → (NI × Int))) × (Int × Unit)) × ((ByteArray × (ByteArray × Int)) × Unit))) :=
 match (seek_first_m s) with
 | none => none
 | some y => (
 let r := y.1.1
 let r1 := y.1.2.1
 let o := y.2.1
 match (loopF R_seek_chain_m_0 (((), ((), (r1, ((1, (upd (fun _ => ((fun _ => 0), 0)) 0 r)), ((nbits, bits), (((nbits : Nat) : Int), (0, ()))))))), (o, (r, ())))) with
 | none => none
 | some y1 => (
 let e := y1.1.2.1
 let nl := y1.1.2.2.1.1
 let l := y1.1.2.2.1.2
 let s1 := y1.2.1
 bif (e != 0) then (
 some (((0, (fun _ => ((fun _ => 0), 0))), (e, ())), (s1, ())))
 else (
 some (((nl, (fun j => l (0 + j))), (0, ())), (s1, ())))))
noncomputable def seek_chain_m := veil seek_chain_m'
theorem seek_chain_m_eq : seek_chain_m = seek_chain_m' := veil_eq _
abbrev X_seek_chain_0 : Type := (((ByteArray × (ByteArray × Int)) × (Unit × (Int × ((Nat × (Nat → (NI × Int))) × ((Nat × NI) × (Int × (Int × Unit))))))) × ((NI × Int) × Unit))
noncomputable def R_seek_chain_0 : X_seek_chain_0 → Option (X_seek_chain_0 ⊕ ((Int × ((Nat × (Nat → (NI × Int))) × Unit)) × Unit)) := fun x =>
 let s := x.1.1
 let e := x.1.2.2.1
 let nl := x.1.2.2.2.1.1
 let l := x.1.2.2.2.1.2
 let nt := x.1.2.2.2.2.1.1
 let t := x.1.2.2.2.2.1.2
 let t1 := x.1.2.2.2.2.2.1
 let t2 := x.1.2.2.2.2.2.2.1
 let link := x.2.1
 bif (decide (t2 < t1)) then (
 bif (inb t2 nt) then (
 bif (e != 0) then (
 some (.inr ((e, ((nl, l), ())), ())))
 else (
 bif (inb (i64.wrap (((nl : Nat) : Int) - 1)) nl) then (
 match (nat_Len (l (0 + (Int.toNat (i64.wrap (((nl : Nat) : Int) - 1))))).1) with
 | none => none
 | some r => (
 match (seek_number (some s) 8 (i64.wrap ((i64.wrap ((t (Int.toNat t2)) - r)) - 2))) with
 | none => none
 | some r1 => (
 bif (r1.2 != 0) then (
 some (.inr ((r1.2, ((nl, l), ())), ())))
 else (
 match (seek_Next (l (0 + (Int.toNat (i64.wrap (((nl : Nat) : Int) - 1))))).1 (t (Int.toNat t2)) r1.1) with
 | none => none
 | some r2 => (
 bif ((Nat.ble ((nl + 1) * 40) 140737488355328) && (Nat.ble (nl + 1) 9223372036854775807)) then (
 some (.inl ((s, ((), (r2.2, (((nl + 1), (glue nl l (fun j => (upd (fun _ => ((fun _ => 0), 0)) 0 r2.1) (0 + j)))), ((nt, t), (t1, ((i64.wrap (t2 + 1)), ()))))))), (r2.1, ()))))
 else (
 none))))))
 else (
 none)))
 else (
 none))
 else (
 some (.inr ((e, ((nl, l), ())), ())))
noncomputable def seek_chain' (s : (Option (ByteArray × (ByteArray × Int)))) (nbits : Nat) (bits : Nat → Int) : Option ((Nat × (Nat → (NI × Int))) × Int) :=
 match s with
 | none => (
 match (seek_first none) with
 | none => none
 | some r1 => (
 none))
 | some s0 => (
 match (seek_first (some s0)) with
 | none => none
 | some r => (
 match (loopF R_seek_chain_0 ((s0, ((), (r.2, ((1, (upd (fun _ => ((fun _ => 0), 0)) 0 r.1)), ((nbits, bits), (((nbits : Nat) : Int), (0, ()))))))), (r.1, ()))) with
 | none => none
 | some y => (
 let e := y.1.1
 let nl := y.1.2.1.1
 let l := y.1.2.1.2
 bif (e != 0) then (
 some ((0, (fun _ => ((fun _ => 0), 0))), e))
 else (
 some ((nl, (fun j => l (0 + j))), 0)))))
noncomputable def seek_chain := veil seek_chain'
theorem seek_chain_eq : seek_chain = seek_chain' := veil_eq _
noncomputable def seek_Find' (seed : ByteArray) (nbits : Nat) (bits : Nat → Int) : Option (((Nat × (Nat → (NI × Int))) × NI) × Int) :=
 match (drbg_New_m seed) with
 | none => none
 | some y => (
 match y with
 | .inl y1 => (
 let r := y1.1.2.1
 bif (r != 0) then (
 some (((0, (fun _ => ((fun _ => 0), 0))), (fun _ => 0)), r))
 else (
 bif (decide (((nbits : Nat) : Int) < 2)) then (
 some (((0, (fun _ => ((fun _ => 0), 0))), (fun _ => 0)), 1))
 else (
 bif (decide (((nbits : Nat) : Int) ≥ 8)) then (
 some (((0, (fun _ => ((fun _ => 0), 0))), (fun _ => 0)), 1))
 else (
 match (seek_chain none nbits bits) with
 | none => none
 | some r1 => (
 bif (r1.2 != 0) then (
 some (((0, (fun _ => ((fun _ => 0), 0))), (fun _ => 0)), r1.2))
 else (
 bif (inb (i64.wrap (((r1.1.1 : Nat) : Int) - 1)) r1.1.1) then (
 bif (inb (i64.wrap (((r1.1.1 : Nat) : Int) - 2)) r1.1.1) then (
 match (seek_Spawn (r1.1.2 (Int.toNat (i64.wrap (((r1.1.1 : Nat) : Int) - 1)))).1 (r1.1.2 (Int.toNat (i64.wrap (((r1.1.1 : Nat) : Int) - 2)))).1) with
 | none => none
 | some r2 => (
 bif (r2.2 != 0) then (
 some (((0, (fun _ => ((fun _ => 0), 0))), (fun _ => 0)), r2.2))
 else (
 match (group_Check ((r1.1.1, r1.1.2), r2.1)) with
 | none => none
 | some r3 => (
 bif (r3 != 0) then (
 some (((0, (fun _ => ((fun _ => 0), 0))), (fun _ => 0)), 3))
 else (
 some (((r1.1.1, r1.1.2), r2.1), 0))))))
 else (
 none))
 else (
 none)))))))
 | .inr y1 => (
 let r4 := y1.1.2.1
 let o := y1.2.1
 bif (r4 != 0) then (
 some (((0, (fun _ => ((fun _ => 0), 0))), (fun _ => 0)), r4))
 else (
 bif (decide (((nbits : Nat) : Int) < 2)) then (
 some (((0, (fun _ => ((fun _ => 0), 0))), (fun _ => 0)), 1))
 else (
 bif (decide (((nbits : Nat) : Int) ≥ 8)) then (
 some (((0, (fun _ => ((fun _ => 0), 0))), (fun _ => 0)), 1))
 else (
 match (seek_chain_m nbits bits o) with
 | none => none
 | some y2 => (
 let nr := y2.1.1.1
 let r5 := y2.1.1.2
 let r6 := y2.1.2.1
 let o1 := y2.2.1
 bif (r6 != 0) then (
 some (((0, (fun _ => ((fun _ => 0), 0))), (fun _ => 0)), r6))
 else (
 bif (inb (i64.wrap (((nr : Nat) : Int) - 1)) nr) then (
 bif (inb (i64.wrap (((nr : Nat) : Int) - 2)) nr) then (
 match (seek_Spawn (r5 (Int.toNat (i64.wrap (((nr : Nat) : Int) - 1)))).1 (r5 (Int.toNat (i64.wrap (((nr : Nat) : Int) - 2)))).1) with
 | none => none
 | some r7 => (
 bif (r7.2 != 0) then (
 some (((0, (fun _ => ((fun _ => 0), 0))), (fun _ => 0)), r7.2))
 else (
 match (group_Check ((nr, r5), r7.1)) with
 | none => none
 | some r8 => (
 bif (r8 != 0) then (
 some (((0, (fun _ => ((fun _ => 0), 0))), (fun _ => 0)), 3))
 else (
 some (((nr, r5), r7.1), 0))))))
 else (
 none))
 else (
 none))))))))
noncomputable def seek_Find := veil seek_Find'
theorem seek_Find_eq : seek_Find = seek_Find' := veil_eq _
end Go.Pl
