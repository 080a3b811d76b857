/-
  The functions of a package, plainly.
-/
import Derived.Test.YtejjdkhjdcjbbaaDenI
set_option linter.unusedVariables false
set_option linter.unusedSimpArgs false
set_option maxRecDepth 100000
set_option maxHeartbeats 0
namespace Go.Pl
end Go.Pl
open Go Go.Den Go.Pl
namespace Go.Pl
open Go.IntKind (i64 u64 u32 u8)
abbrev T_r22_Same_0 (na : Nat) (a : Nat → ByteArray) (nb : Nat) (b : Nat → ByteArray) (i : Int) := (((na, a), ((nb, b), (i, ()))), ())
abbrev Y_r22_Same_0_1  : (((Bool × Unit) × Unit) ⊕ (Unit × Unit)) := (.inr ((), ()))
abbrev X_r22_Same_0 : Type := (((Nat × (Nat → ByteArray)) × ((Nat × (Nat → ByteArray)) × (Int × Unit))) × Unit)
noncomputable def R_r22_Same_0 : X_r22_Same_0 → Option (X_r22_Same_0 ⊕ (((Bool × Unit) × Unit) ⊕ (Unit × Unit))) := fun x =>
 let na := x.1.1.1
 let a := x.1.1.2
 let nb := x.1.2.1.1
 let b := x.1.2.1.2
 let i := x.1.2.2.1
 bif (decide (i < ((na : Nat) : Int))) then (
 bif (inb i na) then (
 bif (inb i nb) then (
 bif (!(sEq (a (Int.toNat i)) (b (Int.toNat i)))) then (
 some (.inr (.inl ((false, ()), ()))))
 else (
 some (.inl (((na, a), ((nb, b), ((i64.wrap (i + 1)), ()))), ()))))
 else (
 none))
 else (
 none))
 else (
 some (.inr (.inr ((), ()))))
noncomputable def r22_Same' (na : Nat) (a : Nat → ByteArray) (nb : Nat) (b : Nat → ByteArray) : Option (Bool) :=
 bif (((na : Nat) : Int) != ((nb : Nat) : Int)) then (
 some false)
 else (
 match (loopF R_r22_Same_0 (((na, a), ((nb, b), (0, ()))), ())) with
 | none => none
 | some y => (
 match y with
 | .inl y1 => (
 let t := y1.1.1
 some t)
 | .inr y1 => (
 some true)))
noncomputable def r22_Same := veil r22_Same'
theorem r22_Same_eq : r22_Same = r22_Same' := veil_eq _
noncomputable def r22_Quota' (s : (Int × (Int × ((Nat × (Nat → ByteArray)) × (Nat × NI))))) (end_ : Int) : Option (Int) :=
 bif (decide (end_ ≥ 1)) then (
 bif (decide (end_ ≤ s.1)) then (
 some (i64.wrap ((i64.wrap (s.2.1 * s.1)) * 4)))
 else (
 bif (decide (end_ > s.1)) then (
 bif (decide (end_ ≤ (i64.wrap (s.1 + s.2.1)))) then (
 some 4)
 else (
 some 0))
 else (
 some 0)))
 else (
 bif (decide (end_ > s.1)) then (
 bif (decide (end_ ≤ (i64.wrap (s.1 + s.2.1)))) then (
 some 4)
 else (
 some 0))
 else (
 some 0))
noncomputable def r22_Quota := veil r22_Quota'
theorem r22_Quota_eq : r22_Quota = r22_Quota' := veil_eq _
abbrev T_r22_Find_0 (key : ByteArray) (n : Int) (known : Bool) (i : Int) (s : Int) (s1 : Int) (ns : Nat) (s2 : Nat → ByteArray) (ns1 : Nat) (s3 : Nat → Int) := ((key, ((), (n, (known, (i, ()))))), ((s, (s1, ((ns, s2), (ns1, s3)))), ()))
abbrev Y_r22_Find_0_0 (n : Int) (known : Bool) := ((n, (known, ())), ())
abbrev X_r22_Find_0 : Type := ((ByteArray × (Unit × (Int × (Bool × (Int × Unit))))) × ((Int × (Int × ((Nat × (Nat → ByteArray)) × (Nat × NI)))) × Unit))
noncomputable def R_r22_Find_0 : X_r22_Find_0 → Option (X_r22_Find_0 ⊕ ((Int × (Bool × Unit)) × Unit)) := fun x =>
 let key := x.1.1
 let n := x.1.2.2.1
 let known := x.1.2.2.2.1
 let i := x.1.2.2.2.2.1
 let s := x.2.1.1
 let s1 := x.2.1.2.1
 let ns := x.2.1.2.2.1.1
 let s2 := x.2.1.2.2.1.2
 let ns1 := x.2.1.2.2.2.1
 let s3 := x.2.1.2.2.2.2
 bif (decide (i < ((ns : Nat) : Int))) then (
 bif (inb i ns) then (
 bif (Op.bytesLess (ByteArray.toList (s2 (Int.toNat i))) (ByteArray.toList key)) then (
 bif known then (
 some (.inl ((key, ((), ((i64.wrap (n + 1)), (true, ((i64.wrap (i + 1)), ()))))), ((s, (s1, ((ns, s2), (ns1, s3)))), ()))))
 else (
 bif (inb i ns) then (
 some (.inl ((key, ((), ((i64.wrap (n + 1)), ((sEq (s2 (Int.toNat i)) key), ((i64.wrap (i + 1)), ()))))), ((s, (s1, ((ns, s2), (ns1, s3)))), ()))))
 else (
 none)))
 else (
 bif known then (
 some (.inl ((key, ((), (n, (true, ((i64.wrap (i + 1)), ()))))), ((s, (s1, ((ns, s2), (ns1, s3)))), ()))))
 else (
 bif (inb i ns) then (
 some (.inl ((key, ((), (n, ((sEq (s2 (Int.toNat i)) key), ((i64.wrap (i + 1)), ()))))), ((s, (s1, ((ns, s2), (ns1, s3)))), ()))))
 else (
 none))))
 else (
 none))
 else (
 some (.inr ((n, (known, ())), ())))
noncomputable def r22_Find' (s : (Int × (Int × ((Nat × (Nat → ByteArray)) × (Nat × NI))))) (key : ByteArray) : Option (Int × Bool) :=
 match (loopF R_r22_Find_0 ((key, ((), (0, (false, (0, ()))))), ((s.1, (s.2.1, ((s.2.2.1.1, s.2.2.1.2), (s.2.2.2.1, s.2.2.2.2)))), ()))) with
 | none => none
 | some y => (
 let n := y.1.1
 let known := y.1.2.1
 bif (!known) then (
 some (0, false))
 else (
 some (n, true)))
noncomputable def r22_Find := veil r22_Find'
theorem r22_Find_eq : r22_Find = r22_Find' := veil_eq _
abbrev T_r22_Used_0 (end_ : Int) (n : Int) (i : Int) (s : Int) (s1 : Int) (ns : Nat) (s2 : Nat → ByteArray) (ns1 : Nat) (s3 : Nat → Int) := ((end_, ((), (n, (i, ())))), ((s, (s1, ((ns, s2), (ns1, s3)))), ()))
abbrev Y_r22_Used_0_0 (n : Int) := ((n, ()), ())
abbrev X_r22_Used_0 : Type := ((Int × (Unit × (Int × (Int × Unit)))) × ((Int × (Int × ((Nat × (Nat → ByteArray)) × (Nat × NI)))) × Unit))
noncomputable def R_r22_Used_0 : X_r22_Used_0 → Option (X_r22_Used_0 ⊕ ((Int × Unit) × Unit)) := fun x =>
 let end_ := x.1.1
 let n := x.1.2.2.1
 let i := x.1.2.2.2.1
 let s := x.2.1.1
 let s1 := x.2.1.2.1
 let ns := x.2.1.2.2.1.1
 let s2 := x.2.1.2.2.1.2
 let ns1 := x.2.1.2.2.2.1
 let s3 := x.2.1.2.2.2.2
 bif (decide (i < ((ns1 : Nat) : Int))) then (
 bif (inb i ns1) then (
 bif ((s3 (Int.toNat i)) == end_) then (
 some (.inl ((end_, ((), ((i64.wrap (n + 1)), ((i64.wrap (i + 1)), ())))), ((s, (s1, ((ns, s2), (ns1, s3)))), ()))))
 else (
 some (.inl ((end_, ((), (n, ((i64.wrap (i + 1)), ())))), ((s, (s1, ((ns, s2), (ns1, s3)))), ())))))
 else (
 none))
 else (
 some (.inr ((n, ()), ())))
noncomputable def r22_Used' (s : (Int × (Int × ((Nat × (Nat → ByteArray)) × (Nat × NI))))) (end_ : Int) : Option (Int) :=
 match (loopF R_r22_Used_0 ((end_, ((), (0, (0, ())))), ((s.1, (s.2.1, ((s.2.2.1.1, s.2.2.1.2), (s.2.2.2.1, s.2.2.2.2)))), ()))) with
 | none => none
 | some y => (
 let n := y.1.1
 some n)
noncomputable def r22_Used := veil r22_Used'
theorem r22_Used_eq : r22_Used = r22_Used' := veil_eq _
noncomputable def r22_Open' (s : (Int × (Int × ((Nat × (Nat → ByteArray)) × (Nat × NI))))) (key : ByteArray) (end_ : Int) : Option ((Int × (Int × ((Nat × (Nat → ByteArray)) × (Nat × NI)))) × Int × Bool × Int) :=
 bif (decide ((((ByteArray.size key) : Nat) : Int) < 1)) then (
 some ((s.1, (s.2.1, ((s.2.2.1.1, s.2.2.1.2), (s.2.2.2.1, s.2.2.2.2)))), 0, false, 1))
 else (
 bif (decide ((((ByteArray.size key) : Nat) : Int) > 8)) then (
 some ((s.1, (s.2.1, ((s.2.2.1.1, s.2.2.1.2), (s.2.2.2.1, s.2.2.2.2)))), 0, false, 1))
 else (
 match (r22_Quota (s.1, (s.2.1, ((s.2.2.1.1, s.2.2.1.2), (s.2.2.2.1, s.2.2.2.2)))) end_) with
 | none => none
 | some r => (
 bif (r == 0) then (
 some ((s.1, (s.2.1, ((s.2.2.1.1, s.2.2.1.2), (s.2.2.2.1, s.2.2.2.2)))), 0, false, 1))
 else (
 match (r22_Find (s.1, (s.2.1, ((s.2.2.1.1, s.2.2.1.2), (s.2.2.2.1, s.2.2.2.2)))) key) with
 | none => none
 | some r1 => (
 bif r1.2 then (
 some ((s.1, (s.2.1, ((s.2.2.1.1, s.2.2.1.2), (s.2.2.2.1, s.2.2.2.2)))), r1.1, false, 0))
 else (
 match (r22_Used (s.1, (s.2.1, ((s.2.2.1.1, s.2.2.1.2), (s.2.2.2.1, s.2.2.2.2)))) end_) with
 | none => none
 | some r2 => (
 match (r22_Quota (s.1, (s.2.1, ((s.2.2.1.1, s.2.2.1.2), (s.2.2.2.1, s.2.2.2.2)))) end_) with
 | none => none
 | some r3 => (
 bif (decide (r2 ≥ r3)) then (
 some ((s.1, (s.2.1, ((s.2.2.1.1, s.2.2.1.2), (s.2.2.2.1, s.2.2.2.2)))), 0, false, 7))
 else (
 bif ((Nat.ble ((0 + s.2.2.1.1) * 16) 140737488355328) && (Nat.ble (0 + s.2.2.1.1) 9223372036854775807)) then (
 bif ((Nat.ble ((0 + s.2.2.2.1) * 8) 140737488355328) && (Nat.ble (0 + s.2.2.2.1) 9223372036854775807)) then (
 bif ((Nat.ble (((0 + s.2.2.1.1) + 1) * 16) 140737488355328) && (Nat.ble ((0 + s.2.2.1.1) + 1) 9223372036854775807)) then (
 bif ((Nat.ble (((0 + s.2.2.2.1) + 1) * 8) 140737488355328) && (Nat.ble ((0 + s.2.2.2.1) + 1) 9223372036854775807)) then (
 match (r22_Find (s.1, (s.2.1, ((((0 + s.2.2.1.1) + 1), (fun j => (glue (0 + s.2.2.1.1) (glue 0 (fun _ => ByteArray.empty) s.2.2.1.2) (fun j => (upd (fun _ => ByteArray.empty) 0 key) (0 + j))) (0 + j))), (((0 + s.2.2.2.1) + 1), (fun j => (glue (0 + s.2.2.2.1) (glue 0 (fun _ => 0) s.2.2.2.2) (fun j => (upd (fun _ => 0) 0 end_) (0 + j))) (0 + j)))))) key) with
 | none => none
 | some r4 => (
 some ((s.1, (s.2.1, ((((0 + s.2.2.1.1) + 1), (fun j => (glue (0 + s.2.2.1.1) (glue 0 (fun _ => ByteArray.empty) s.2.2.1.2) (fun j => (upd (fun _ => ByteArray.empty) 0 key) (0 + j))) (0 + j))), (((0 + s.2.2.2.1) + 1), (fun j => (glue (0 + s.2.2.2.1) (glue 0 (fun _ => 0) s.2.2.2.2) (fun j => (upd (fun _ => 0) 0 end_) (0 + j))) (0 + j)))))), r4.1, true, 0)))
 else (
 none))
 else (
 none))
 else (
 none))
 else (
 none))))))))))
noncomputable def r22_Open := veil r22_Open'
theorem r22_Open_eq : r22_Open = r22_Open' := veil_eq _
end Go.Pl
