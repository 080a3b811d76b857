/-
  The functions of a package, plainly.
-/
import Derived.Test.YtejjdkhjdcjbbaaDenL
import Derived.Test.YtejjdkhjdcjbbaaPwire
set_option linter.unusedVariables false
set_option linter.unusedSimpArgs false
set_option maxRecDepth 100000
set_option maxHeartbeats 0
namespace Go.Pl
end Go.Pl
open Go Go.Den Go.Pl
namespace Go.Pl
open Go.IntKind (i64 u64 u32 u8)
abbrev Y_space_New_m_0 (clients : Int) : (((Unit × (Int × Unit)) × Unit) ⊕ ((Unit × (Int × Unit)) × ((Int × (Int × ((Nat × (Nat → ByteArray)) × (List (Int × Int))))) × Unit))) := (.inl (((), (clients, ())), ()))
abbrev Y_space_New_m_1 (clients : Int) (o : Int) (o1 : Int) (no : Nat) (o2 : Nat → ByteArray) (o3 : List (Int × Int)) : (((Unit × (Int × Unit)) × Unit) ⊕ ((Unit × (Int × Unit)) × ((Int × (Int × ((Nat × (Nat → ByteArray)) × (List (Int × Int))))) × Unit))) := (.inr (((), (clients, ())), ((o, (o1, ((no, o2), o3))), ())))
noncomputable def space_New_m' (servers : Int) (clients : Int) : Option ((((Unit × (Int × Unit)) × Unit) ⊕ ((Unit × (Int × Unit)) × ((Int × (Int × ((Nat × (Nat → ByteArray)) × (List (Int × Int))))) × Unit)))) :=
 bif (decide (servers < 1)) then (
 some (.inl (((), (1, ())), ())))
 else (
 bif (decide (servers > 7)) then (
 some (.inl (((), (1, ())), ())))
 else (
 bif (decide (clients < 1)) then (
 some (.inl (((), (1, ())), ())))
 else (
 bif (decide (clients > 4)) then (
 some (.inl (((), (1, ())), ())))
 else (
 some (.inr (((), (0, ())), ((servers, (clients, ((0, (fun _ => ByteArray.empty)), ([] : List (Int × Int))))), ())))))))
noncomputable def space_New_m := veil space_New_m'
theorem space_New_m_eq : space_New_m = space_New_m' := veil_eq _
noncomputable def space_Space_find_1' (a : ByteArray) (b : ByteArray) : Option (Int) :=
 match (strCompare a b) with
 | none => none
 | some r => (
 some r)
noncomputable def space_Space_find_1 := veil space_Space_find_1'
theorem space_Space_find_1_eq : space_Space_find_1 = space_Space_find_1' := veil_eq _
abbrev T_slices_BinarySearchFunc___string_string_string__0 (nx : Nat) (x1 : Nat → ByteArray) (target : ByteArray) (n : Int) (i : Int) (j : Int) := (((nx, x1), (target, ((), (n, (i, (j, ())))))), ())
abbrev Y_slices_BinarySearchFunc___string_string_string__0_0 (nx : Nat) (x1 : Nat → ByteArray) (target : ByteArray) (n : Int) (i : Int) := (((nx, x1), (target, ((), (n, (i, ()))))), ())
abbrev X_slices_BinarySearchFunc___string_string_string__0 : Type := (((Nat × (Nat → ByteArray)) × (ByteArray × (Unit × (Int × (Int × (Int × Unit)))))) × Unit)
noncomputable def R_slices_BinarySearchFunc___string_string_string__0 : X_slices_BinarySearchFunc___string_string_string__0 → Option (X_slices_BinarySearchFunc___string_string_string__0 ⊕ (((Nat × (Nat → ByteArray)) × (ByteArray × (Unit × (Int × (Int × Unit))))) × Unit)) := fun x =>
 let nx := x.1.1.1
 let x1 := x.1.1.2
 let target := x.1.2.1
 let n := x.1.2.2.2.1
 let i := x.1.2.2.2.2.1
 let j := x.1.2.2.2.2.2.1
 bif (decide (i < j)) then (
 bif (inb (i64.wrap (shrI .u64 (u64.wrap (i64.wrap (i + j))) 1)) nx) then (
 match (space_Space_find_1 (x1 (Int.toNat (i64.wrap (shrI .u64 (u64.wrap (i64.wrap (i + j))) 1)))) target) with
 | none => none
 | some r => (
 bif (decide (r < 0)) then (
 some (.inl (((nx, x1), (target, ((), (n, ((i64.wrap ((i64.wrap (shrI .u64 (u64.wrap (i64.wrap (i + j))) 1)) + 1)), (j, ())))))), ())))
 else (
 some (.inl (((nx, x1), (target, ((), (n, (i, ((i64.wrap (shrI .u64 (u64.wrap (i64.wrap (i + j))) 1)), ())))))), ())))))
 else (
 none))
 else (
 some (.inr (((nx, x1), (target, ((), (n, (i, ()))))), ())))
noncomputable def slices_BinarySearchFunc___string_string_string_' (nx : Nat) (x : Nat → ByteArray) (target : ByteArray) : Option (Int × Bool) :=
 match (loopF R_slices_BinarySearchFunc___string_string_string__0 (((nx, x), (target, ((), (((nx : Nat) : Int), (0, (((nx : Nat) : Int), ())))))), ())) with
 | none => none
 | some y => (
 let nx1 := y.1.1.1
 let x1 := y.1.1.2
 let target1 := y.1.2.1
 let n := y.1.2.2.2.1
 let i := y.1.2.2.2.2.1
 bif (decide (i < n)) then (
 bif (inb i nx1) then (
 match (space_Space_find_1 (x1 (Int.toNat i)) target1) with
 | none => none
 | some r => (
 some (i, (r == 0))))
 else (
 none))
 else (
 some (i, false)))
noncomputable def slices_BinarySearchFunc___string_string_string_ := veil slices_BinarySearchFunc___string_string_string_'
theorem slices_BinarySearchFunc___string_string_string__eq : slices_BinarySearchFunc___string_string_string_ = slices_BinarySearchFunc___string_string_string_' := veil_eq _
noncomputable def space_Space_find_m' (key : ByteArray) (s : Int) (s1 : Int) (ns : Nat) (s2 : Nat → ByteArray) (s3 : List (Int × Int)) : Option (((Int × (Bool × Unit)) × ((Int × (Int × ((Nat × (Nat → ByteArray)) × (List (Int × Int))))) × Unit))) :=
 match (slices_BinarySearchFunc___string_string_string_ ns (fun j => s2 (0 + j)) key) with
 | none => none
 | some r => (
 some ((r.1, (r.2, ())), ((s, (s1, ((ns, s2), s3))), ())))
noncomputable def space_Space_find_m := veil space_Space_find_m'
theorem space_Space_find_m_eq : space_Space_find_m = space_Space_find_m' := veil_eq _
noncomputable def space_Space_find' (s : (Option (Int × (Int × ((SlV ByteArray) × (Option Nat)))))) (key : ByteArray) : Option (Int × Bool) :=
 match s with
 | none => (
 none)
 | some s0 => (
 bif (SlV.isMs s0.2.2.1) then (
 none)
 else (
 match (slices_BinarySearchFunc___string_string_string_ (SlV.len s0.2.2.1) (SlV.fn (ByteArray.empty : ByteArray) s0.2.2.1) key) with
 | none => none
 | some r => (
 some (r.1, r.2))))
noncomputable def space_Space_find := veil space_Space_find'
theorem space_Space_find_eq : space_Space_find = space_Space_find' := veil_eq _
noncomputable def space_Space_Open_m' (key : ByteArray) (end_ : Int) (s : Int) (s1 : Int) (ns : Nat) (s2 : Nat → ByteArray) (s3 : List (Int × Int)) : Option (((Int × (Bool × (Int × Unit))) × ((Int × (Int × ((Nat × (Nat → ByteArray)) × (List (Int × Int))))) × Unit))) :=
 match (wire_Key key) with
 | none => none
 | some r => (
 bif (!r) then (
 some ((0, (false, (1, ()))), ((s, (s1, ((ns, s2), s3))), ())))
 else (
 bif ((quotaV s s1 end_) == 0) then (
 some ((0, (false, (1, ()))), ((s, (s1, ((ns, s2), s3))), ())))
 else (
 match (space_Space_find_m key s s1 ns s2 s3) with
 | none => none
 | some y => (
 let r1 := y.1.1
 let r2 := y.1.2.1
 let o := y.2.1.1
 let o1 := y.2.1.2.1
 let no := y.2.1.2.2.1.1
 let o2 := y.2.1.2.2.1.2
 let o3 := y.2.1.2.2.2
 bif r2 then (
 some ((r1, (false, (0, ()))), ((o, (o1, ((no, o2), o3))), ())))
 else (
 bif (decide ((Option.getD (mfind (.int .i64) (.int .i64) o3 end_) (0 : Int)) ≥ (quotaV o o1 end_))) then (
 some ((0, (false, (7, ()))), ((o, (o1, ((no, o2), o3))), ())))
 else (
 bif (((decide (0 ≤ r1)) && (decide (r1 ≤ ((no : Nat) : Int)))) && (Nat.ble ((no + 1) * 16) 140737488355328)) then (
 some ((r1, (true, (0, ()))), ((o, (o1, (((no + 1), (insF o2 (Int.toNat r1) key)), (mset (.int .i64) (.int .i64) o3 end_ (i64.wrap ((Option.getD (mfind (.int .i64) (.int .i64) o3 end_) (0 : Int)) + 1)))))), ())))
 else (
 none)))))))
noncomputable def space_Space_Open_m := veil space_Space_Open_m'
theorem space_Space_Open_m_eq : space_Space_Open_m = space_Space_Open_m' := veil_eq _
noncomputable def space_Space_Open' (s : (Option (Int × (Int × ((SlV ByteArray) × (Option Nat)))))) (key : ByteArray) (end_ : Int) : Option (Int × Bool × Int) :=
 match s with
 | none => (
 match (wire_Key key) with
 | none => none
 | some r2 => (
 bif (!r2) then (
 some (0, false, 1))
 else (
 some (0, false, 1))))
 | some s0 => (
 match (wire_Key key) with
 | none => none
 | some r => (
 bif (!r) then (
 some (0, false, 1))
 else (
 bif ((quotaV s0.1 s0.2.1 end_) == 0) then (
 some (0, false, 1))
 else (
 match (space_Space_find (some s0) key) with
 | none => none
 | some r1 => (
 bif r1.2 then (
 some (r1.1, false, 0))
 else (
 bif (Option.isSome s0.2.2.2) then (
 none)
 else (
 bif (decide (0 ≥ (quotaV s0.1 s0.2.1 end_))) then (
 some (0, false, 7))
 else (
 bif (Option.isSome s0.2.2.2) then (
 none)
 else (
 none)))))))))
noncomputable def space_Space_Open := veil space_Space_Open'
theorem space_Space_Open_eq : space_Space_Open = space_Space_Open' := veil_eq _
noncomputable def space_Space_Find_m' (key : ByteArray) (s : Int) (s1 : Int) (ns : Nat) (s2 : Nat → ByteArray) (s3 : List (Int × Int)) : Option (((Int × (Bool × Unit)) × ((Int × (Int × ((Nat × (Nat → ByteArray)) × (List (Int × Int))))) × Unit))) :=
 match (space_Space_find_m key s s1 ns s2 s3) with
 | none => none
 | some y => (
 let r := y.1.1
 let r1 := y.1.2.1
 let o := y.2.1.1
 let o1 := y.2.1.2.1
 let no := y.2.1.2.2.1.1
 let o2 := y.2.1.2.2.1.2
 let o3 := y.2.1.2.2.2
 bif (!r1) then (
 some ((0, (false, ())), ((o, (o1, ((no, o2), o3))), ())))
 else (
 some ((r, (true, ())), ((o, (o1, ((no, o2), o3))), ()))))
noncomputable def space_Space_Find_m := veil space_Space_Find_m'
theorem space_Space_Find_m_eq : space_Space_Find_m = space_Space_Find_m' := veil_eq _
noncomputable def space_Space_Find' (s : (Option (Int × (Int × ((SlV ByteArray) × (Option Nat)))))) (key : ByteArray) : Option (Int × Bool) :=
 match s with
 | none => (
 some (0, false))
 | some s0 => (
 match (space_Space_find (some s0) key) with
 | none => none
 | some r => (
 bif (!r.2) then (
 some (0, false))
 else (
 some (r.1, true))))
noncomputable def space_Space_Find := veil space_Space_Find'
theorem space_Space_Find_eq : space_Space_Find = space_Space_Find' := veil_eq _
noncomputable def space_Space_Used_m' (end_ : Int) (s : Int) (s1 : Int) (ns : Nat) (s2 : Nat → ByteArray) (s3 : List (Int × Int)) : Option (((Int × Unit) × ((Int × (Int × ((Nat × (Nat → ByteArray)) × (List (Int × Int))))) × Unit))) :=
 some (((Option.getD (mfind (.int .i64) (.int .i64) s3 end_) (0 : Int)), ()), ((s, (s1, ((ns, s2), s3))), ()))
noncomputable def space_Space_Used_m := veil space_Space_Used_m'
theorem space_Space_Used_m_eq : space_Space_Used_m = space_Space_Used_m' := veil_eq _
noncomputable def space_Space_Used' (s : (Option (Int × (Int × ((SlV ByteArray) × (Option Nat)))))) (end_ : Int) : Option (Int) :=
 match s with
 | none => (
 some 0)
 | some s0 => (
 bif (Option.isSome s0.2.2.2) then (
 none)
 else (
 some 0))
noncomputable def space_Space_Used := veil space_Space_Used'
theorem space_Space_Used_eq : space_Space_Used = space_Space_Used' := veil_eq _
noncomputable def space_Space_Keys_m' (s : Int) (s1 : Int) (ns : Nat) (s2 : Nat → ByteArray) (s3 : List (Int × Int)) : Option ((((Nat × (Nat → ByteArray)) × Unit) × ((Int × (Int × ((Nat × (Nat → ByteArray)) × (List (Int × Int))))) × Unit))) :=
 bif (Nat.ble (ns * 16) 140737488355328) then (
 some (((ns, (fun j => s2 (0 + j))), ()), ((s, (s1, ((ns, s2), s3))), ())))
 else (
 none)
noncomputable def space_Space_Keys_m := veil space_Space_Keys_m'
theorem space_Space_Keys_m_eq : space_Space_Keys_m = space_Space_Keys_m' := veil_eq _
noncomputable def space_Space_Keys' (s : (Option (Int × (Int × ((SlV ByteArray) × (Option Nat)))))) : Option ((Nat × (Nat → ByteArray))) :=
 match s with
 | none => (
 some (0, (fun _ => ByteArray.empty)))
 | some s0 => (
 bif (SlV.isMs s0.2.2.1) then (
 none)
 else (
 bif (Nat.ble ((SlV.len s0.2.2.1) * 16) 140737488355328) then (
 some ((SlV.len s0.2.2.1), (fun j => (SlV.fn (ByteArray.empty : ByteArray) s0.2.2.1) (0 + j))))
 else (
 none)))
noncomputable def space_Space_Keys := veil space_Space_Keys'
theorem space_Space_Keys_eq : space_Space_Keys = space_Space_Keys' := veil_eq _
abbrev X_space_Of_m_0 : Type := (((Nat × (Nat → ByteArray)) × (Unit × (Int × ((Nat × NI) × (Int × (Int × Unit)))))) × Unit)
noncomputable def R_space_Of_m_0 : X_space_Of_m_0 → Option (X_space_Of_m_0 ⊕ (((Unit × (Int × Unit)) × Unit) ⊕ (((Nat × (Nat → ByteArray)) × (Unit × (Int × Unit))) × Unit))) := fun x =>
 let nkeys := x.1.1.1
 let keys := x.1.1.2
 let sum := x.1.2.2.1
 let nt := x.1.2.2.2.1.1
 let t := x.1.2.2.2.1.2
 let t1 := x.1.2.2.2.2.1
 let t2 := x.1.2.2.2.2.2.1
 bif (decide (t2 < t1)) then (
 bif (inb t2 nt) then (
 bif (decide ((t (Int.toNat t2)) < 0)) then (
 some (.inr (.inl (((), (1, ())), ()))))
 else (
 bif (decide ((t (Int.toNat t2)) > 0)) then (
 some (.inr (.inl (((), (1, ())), ()))))
 else (
 none)))
 else (
 none))
 else (
 some (.inr (.inr (((nkeys, keys), ((), (sum, ()))), ()))))
abbrev X_space_Of_m_2 : Type := (((Nat × (Nat → ByteArray)) × (Unit × (Int × ((Nat × (Nat → ByteArray)) × (Int × (Int × Unit)))))) × Unit)
noncomputable def R_space_Of_m_2 : X_space_Of_m_2 → Option (X_space_Of_m_2 ⊕ (((Unit × (Int × Unit)) × Unit) ⊕ (((Nat × (Nat → ByteArray)) × (Unit × (Int × Unit))) × Unit))) := fun x =>
 let nkeys := x.1.1.1
 let keys := x.1.1.2
 let sum := x.1.2.2.1
 let nt := x.1.2.2.2.1.1
 let t := x.1.2.2.2.1.2
 let t1 := x.1.2.2.2.2.1
 let t2 := x.1.2.2.2.2.2.1
 bif (decide (t2 < t1)) then (
 bif (inb t2 nt) then (
 match (wire_Key (t (Int.toNat t2))) with
 | none => none
 | some r => (
 bif (!r) then (
 some (.inr (.inl (((), (1, ())), ()))))
 else (
 bif (decide (t2 > 0)) then (
 bif (inb (i64.wrap (t2 - 1)) nkeys) then (
 let t3 := (!(Op.bytesLess (ByteArray.toList (keys (Int.toNat (i64.wrap (t2 - 1))))) (ByteArray.toList (t (Int.toNat t2)))))
 bif t3 then (
 some (.inr (.inl (((), (1, ())), ()))))
 else (
 some (.inl (((nkeys, keys), ((), (sum, ((nt, t), (t1, ((i64.wrap (t2 + 1)), ())))))), ()))))
 else (
 none))
 else (
 some (.inl (((nkeys, keys), ((), (sum, ((nt, t), (t1, ((i64.wrap (t2 + 1)), ())))))), ()))))))
 else (
 none))
 else (
 some (.inr (.inr (((nkeys, keys), ((), (sum, ()))), ()))))
abbrev T_space_Of_m_0_v1 (nkeys : Nat) (keys : Nat → ByteArray) (sum : Int) (nt : Nat) (t : Nat → Int) (t1 : Int) (t2 : Int) (s : Int) (s1 : Int) (ns : Nat) (s2 : Nat → ByteArray) (s3 : List (Int × Int)) := (((nkeys, keys), ((), (sum, ((nt, t), (t1, (t2, ())))))), ((s, (s1, ((ns, s2), s3))), ()))
abbrev Y_space_Of_m_0_v1_0 (t : Int) : (((Unit × (Int × Unit)) × Unit) ⊕ (((Nat × (Nat → ByteArray)) × (Unit × (Int × Unit))) × ((Int × (Int × ((Nat × (Nat → ByteArray)) × (List (Int × Int))))) × Unit))) := (.inl (((), (t, ())), ()))
abbrev Y_space_Of_m_0_v1_1 (nkeys : Nat) (keys : Nat → ByteArray) (sum : Int) (s : Int) (s1 : Int) (ns : Nat) (s2 : Nat → ByteArray) (s3 : List (Int × Int)) : (((Unit × (Int × Unit)) × Unit) ⊕ (((Nat × (Nat → ByteArray)) × (Unit × (Int × Unit))) × ((Int × (Int × ((Nat × (Nat → ByteArray)) × (List (Int × Int))))) × Unit))) := (.inr (((nkeys, keys), ((), (sum, ()))), ((s, (s1, ((ns, s2), s3))), ())))
abbrev X_space_Of_m_0_v1 : Type := (((Nat × (Nat → ByteArray)) × (Unit × (Int × ((Nat × NI) × (Int × (Int × Unit)))))) × ((Int × (Int × ((Nat × (Nat → ByteArray)) × (List (Int × Int))))) × Unit))
noncomputable def R_space_Of_m_0_v1 : X_space_Of_m_0_v1 → Option (X_space_Of_m_0_v1 ⊕ (((Unit × (Int × Unit)) × Unit) ⊕ (((Nat × (Nat → ByteArray)) × (Unit × (Int × Unit))) × ((Int × (Int × ((Nat × (Nat → ByteArray)) × (List (Int × Int))))) × Unit)))) := fun x =>
 let nkeys := x.1.1.1
 let keys := x.1.1.2
 let sum := x.1.2.2.1
 let nt := x.1.2.2.2.1.1
 let t := x.1.2.2.2.1.2
 let t1 := x.1.2.2.2.2.1
 let t2 := x.1.2.2.2.2.2.1
 let s := x.2.1.1
 let s1 := x.2.1.2.1
 let ns := x.2.1.2.2.1.1
 let s2 := x.2.1.2.2.1.2
 let s3 := x.2.1.2.2.2
 bif (decide (t2 < t1)) then (
 bif (inb t2 nt) then (
 bif (decide ((t (Int.toNat t2)) < 0)) then (
 some (.inr (.inl (((), (1, ())), ()))))
 else (
 bif (decide ((t (Int.toNat t2)) > (quotaV s s1 (i64.wrap (t2 + 1))))) then (
 some (.inr (.inl (((), (1, ())), ()))))
 else (
 some (.inl (((nkeys, keys), ((), ((i64.wrap (sum + (t (Int.toNat t2)))), ((nt, t), (t1, ((i64.wrap (t2 + 1)), ())))))), ((s, (s1, ((ns, s2), (mset (.int .i64) (.int .i64) s3 (i64.wrap (t2 + 1)) (t (Int.toNat t2)))))), ()))))))
 else (
 none))
 else (
 some (.inr (.inr (((nkeys, keys), ((), (sum, ()))), ((s, (s1, ((ns, s2), s3))), ())))))
abbrev T_space_Of_m_2_v1 (nkeys : Nat) (keys : Nat → ByteArray) (sum : Int) (nt : Nat) (t : Nat → ByteArray) (t1 : Int) (t2 : Int) (s : Int) (s1 : Int) (ns : Nat) (s2 : Nat → ByteArray) (s3 : List (Int × Int)) := (((nkeys, keys), ((), (sum, ((nt, t), (t1, (t2, ())))))), ((s, (s1, ((ns, s2), s3))), ()))
abbrev Y_space_Of_m_2_v1_0 (t : Int) : (((Unit × (Int × Unit)) × Unit) ⊕ (((Nat × (Nat → ByteArray)) × (Unit × (Int × Unit))) × ((Int × (Int × ((Nat × (Nat → ByteArray)) × (List (Int × Int))))) × Unit))) := (.inl (((), (t, ())), ()))
abbrev Y_space_Of_m_2_v1_1 (nkeys : Nat) (keys : Nat → ByteArray) (sum : Int) (s : Int) (s1 : Int) (ns : Nat) (s2 : Nat → ByteArray) (s3 : List (Int × Int)) : (((Unit × (Int × Unit)) × Unit) ⊕ (((Nat × (Nat → ByteArray)) × (Unit × (Int × Unit))) × ((Int × (Int × ((Nat × (Nat → ByteArray)) × (List (Int × Int))))) × Unit))) := (.inr (((nkeys, keys), ((), (sum, ()))), ((s, (s1, ((ns, s2), s3))), ())))
abbrev X_space_Of_m_2_v1 : Type := (((Nat × (Nat → ByteArray)) × (Unit × (Int × ((Nat × (Nat → ByteArray)) × (Int × (Int × Unit)))))) × ((Int × (Int × ((Nat × (Nat → ByteArray)) × (List (Int × Int))))) × Unit))
noncomputable def R_space_Of_m_2_v1 : X_space_Of_m_2_v1 → Option (X_space_Of_m_2_v1 ⊕ (((Unit × (Int × Unit)) × Unit) ⊕ (((Nat × (Nat → ByteArray)) × (Unit × (Int × Unit))) × ((Int × (Int × ((Nat × (Nat → ByteArray)) × (List (Int × Int))))) × Unit)))) := fun x =>
 let nkeys := x.1.1.1
 let keys := x.1.1.2
 let sum := x.1.2.2.1
 let nt := x.1.2.2.2.1.1
 let t := x.1.2.2.2.1.2
 let t1 := x.1.2.2.2.2.1
 let t2 := x.1.2.2.2.2.2.1
 let s := x.2.1.1
 let s1 := x.2.1.2.1
 let ns := x.2.1.2.2.1.1
 let s2 := x.2.1.2.2.1.2
 let s3 := x.2.1.2.2.2
 bif (decide (t2 < t1)) then (
 bif (inb t2 nt) then (
 match (wire_Key (t (Int.toNat t2))) with
 | none => none
 | some r => (
 bif (!r) then (
 some (.inr (.inl (((), (1, ())), ()))))
 else (
 bif (decide (t2 > 0)) then (
 bif (inb (i64.wrap (t2 - 1)) nkeys) then (
 let t3 := (!(Op.bytesLess (ByteArray.toList (keys (Int.toNat (i64.wrap (t2 - 1))))) (ByteArray.toList (t (Int.toNat t2)))))
 bif t3 then (
 some (.inr (.inl (((), (1, ())), ()))))
 else (
 some (.inl (((nkeys, keys), ((), (sum, ((nt, t), (t1, ((i64.wrap (t2 + 1)), ())))))), ((s, (s1, ((ns, s2), s3))), ())))))
 else (
 none))
 else (
 some (.inl (((nkeys, keys), ((), (sum, ((nt, t), (t1, ((i64.wrap (t2 + 1)), ())))))), ((s, (s1, ((ns, s2), s3))), ())))))))
 else (
 none))
 else (
 some (.inr (.inr (((nkeys, keys), ((), (sum, ()))), ((s, (s1, ((ns, s2), s3))), ())))))
abbrev Y_space_Of_m_0 (clients : Int) : (((Unit × (Int × Unit)) × Unit) ⊕ ((Unit × (Int × Unit)) × ((Int × (Int × ((Nat × (Nat → ByteArray)) × (List (Int × Int))))) × Unit))) := (.inl (((), (clients, ())), ()))
abbrev Y_space_Of_m_1 (clients : Int) (s : Int) (s1 : Int) (ns : Nat) (s2 : Nat → ByteArray) (s3 : List (Int × Int)) : (((Unit × (Int × Unit)) × Unit) ⊕ ((Unit × (Int × Unit)) × ((Int × (Int × ((Nat × (Nat → ByteArray)) × (List (Int × Int))))) × Unit))) := (.inr (((), (clients, ())), ((s, (s1, ((ns, s2), s3))), ())))
noncomputable def space_Of_m' (servers : Int) (clients : Int) (nkeys : Nat) (keys : Nat → ByteArray) (nused : Nat) (used : Nat → Int) : Option ((((Unit × (Int × Unit)) × Unit) ⊕ ((Unit × (Int × Unit)) × ((Int × (Int × ((Nat × (Nat → ByteArray)) × (List (Int × Int))))) × Unit)))) :=
 match (space_New_m servers clients) with
 | none => none
 | some y => (
 match y with
 | .inl y1 => (
 let r := y1.1.2.1
 bif (r != 0) then (
 some (.inl (((), (1, ())), ())))
 else (
 bif (((nused : Nat) : Int) != (i64.wrap (servers + clients))) then (
 some (.inl (((), (1, ())), ())))
 else (
 match (loopF R_space_Of_m_0 (((nkeys, keys), ((), (0, ((nused, used), (((nused : Nat) : Int), (0, ())))))), ())) with
 | none => none
 | some y2 => (
 match y2 with
 | .inl y3 => (
 let t := y3.1.2.1
 some (.inl (((), (t, ())), ())))
 | .inr y3 => (
 let nkeys1 := y3.1.1.1
 let keys1 := y3.1.1.2
 let sum := y3.1.2.2.1
 match (loopF R_space_Of_m_2 (((nkeys1, keys1), ((), (sum, ((nkeys1, keys1), (((nkeys1 : Nat) : Int), (0, ())))))), ())) with
 | none => none
 | some y4 => (
 match y4 with
 | .inl y5 => (
 let t1 := y5.1.2.1
 some (.inl (((), (t1, ())), ())))
 | .inr y5 => (
 let nkeys2 := y5.1.1.1
 let keys2 := y5.1.1.2
 let sum1 := y5.1.2.2.1
 bif (sum1 != ((nkeys2 : Nat) : Int)) then (
 some (.inl (((), (1, ())), ())))
 else (
 bif (Nat.ble (nkeys2 * 16) 140737488355328) then (
 none)
 else (
 none)))))))))
 | .inr y1 => (
 let r1 := y1.1.2.1
 let o := y1.2.1.1
 let o1 := y1.2.1.2.1
 let no := y1.2.1.2.2.1.1
 let o2 := y1.2.1.2.2.1.2
 let o3 := y1.2.1.2.2.2
 bif (r1 != 0) then (
 some (.inl (((), (1, ())), ())))
 else (
 bif (((nused : Nat) : Int) != (i64.wrap (servers + clients))) then (
 some (.inl (((), (1, ())), ())))
 else (
 match (loopF R_space_Of_m_0_v1 (((nkeys, keys), ((), (0, ((nused, used), (((nused : Nat) : Int), (0, ())))))), ((o, (o1, ((no, o2), o3))), ()))) with
 | none => none
 | some y6 => (
 match y6 with
 | .inl y7 => (
 let t2 := y7.1.2.1
 some (.inl (((), (t2, ())), ())))
 | .inr y7 => (
 let nkeys3 := y7.1.1.1
 let keys3 := y7.1.1.2
 let sum2 := y7.1.2.2.1
 let s := y7.2.1.1
 let s1 := y7.2.1.2.1
 let ns := y7.2.1.2.2.1.1
 let s2 := y7.2.1.2.2.1.2
 let s3 := y7.2.1.2.2.2
 match (loopF R_space_Of_m_2_v1 (((nkeys3, keys3), ((), (sum2, ((nkeys3, keys3), (((nkeys3 : Nat) : Int), (0, ())))))), ((s, (s1, ((ns, s2), s3))), ()))) with
 | none => none
 | some y8 => (
 match y8 with
 | .inl y9 => (
 let t3 := y9.1.2.1
 some (.inl (((), (t3, ())), ())))
 | .inr y9 => (
 let nkeys4 := y9.1.1.1
 let keys4 := y9.1.1.2
 let sum3 := y9.1.2.2.1
 let s4 := y9.2.1.1
 let s5 := y9.2.1.2.1
 let ns1 := y9.2.1.2.2.1.1
 let s6 := y9.2.1.2.2.1.2
 let s7 := y9.2.1.2.2.2
 bif (sum3 != ((nkeys4 : Nat) : Int)) then (
 some (.inl (((), (1, ())), ())))
 else (
 bif (Nat.ble (nkeys4 * 16) 140737488355328) then (
 some (.inr (((), (0, ())), ((s4, (s5, ((nkeys4, keys4), s7))), ()))))
 else (
 none))))))))))
noncomputable def space_Of_m := veil space_Of_m'
theorem space_Of_m_eq : space_Of_m = space_Of_m' := veil_eq _
end Go.Pl
