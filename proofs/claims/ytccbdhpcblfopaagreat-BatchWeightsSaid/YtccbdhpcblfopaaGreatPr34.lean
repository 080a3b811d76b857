/-
  The functions of a package, plainly.
-/
import Derived.Test.YtccbdhpcblfopaaGreatDenI
import Derived.Test.YtccbdhpcblfopaaGreatPr06
set_option linter.unusedVariables false
set_option linter.unusedSimpArgs false
set_option maxRecDepth 100000
set_option maxHeartbeats 0
namespace Go.Pl
end Go.Pl
open Go Go.Den Go.Pl
namespace Go.Pl
open Go.IntKind (i64 u64 u32 u8)
noncomputable def r34_seed' (x : ByteArray) : Option (Bool) :=
 bif (decide ((((ByteArray.size x) : Nat) : Int) ≥ 16)) then (
 some (decide ((((ByteArray.size x) : Nat) : Int) ≤ 1024)))
 else (
 some false)
noncomputable def r34_seed := veil r34_seed'
theorem r34_seed_eq : r34_seed = r34_seed' := veil_eq _
abbrev T_r34_of_0 (c : Int) (nb : Nat) (b : Nat → Int) (i : Int) := ((c, ((nb, b), (i, ()))), ())
abbrev Y_r34_of_0_0 (nb : Nat) (b : Nat → Int) := (((nb, b), ()), ())
abbrev X_r34_of_0 : Type := ((Int × ((Nat × NI) × (Int × Unit))) × Unit)
noncomputable def R_r34_of_0 : X_r34_of_0 → Option (X_r34_of_0 ⊕ (((Nat × NI) × Unit) × Unit)) := fun x =>
 let c := x.1.1
 let nb := x.1.2.1.1
 let b := x.1.2.1.2
 let i := x.1.2.2.1
 bif (decide (i < ((nb : Nat) : Int))) then (
 bif (inb i nb) then (
 some (.inl ((c, ((nb, (upd b (0 + (Int.toNat i)) c)), ((i64.wrap (i + 1)), ()))), ())))
 else (
 none))
 else (
 some (.inr (((nb, b), ()), ())))
noncomputable def r34_of' (c : Int) : Option (ByteArray) :=
 match (loopF R_r34_of_0 ((c, ((32, (fun _ => 0)), (0, ()))), ())) with
 | none => none
 | some y => (
 let nb := y.1.1.1
 let b := y.1.1.2
 some (bytesOf nb (fun j => b (0 + j))))
noncomputable def r34_of := veil r34_of'
theorem r34_of_eq : r34_of = r34_of' := veil_eq _
noncomputable def r34_Stirred' (s : (ByteArray × (ByteArray × Int))) (x : ByteArray) : Option ((ByteArray × (ByteArray × Int))) :=
 bif (decide (((((ByteArray.size s.2.1) + 1) : Nat) : Int) > IntKind.i64.max)) then (
 none)
 else (
 bif (decide (((((ByteArray.size (s.2.1 ++ (ByteArray.mk #[0]))) + (ByteArray.size x)) : Nat) : Int) > IntKind.i64.max)) then (
 none)
 else (
 match (r06_Sum s.1 ((s.2.1 ++ (ByteArray.mk #[0])) ++ x)) with
 | none => none
 | some r => (
 match (r06_Sum r s.2.1) with
 | none => none
 | some r1 => (
 bif (!(sEq x (ByteArray.mk #[]))) then (
 bif (decide (((((ByteArray.size r1) + 1) : Nat) : Int) > IntKind.i64.max)) then (
 none)
 else (
 bif (decide (((((ByteArray.size (r1 ++ (ByteArray.mk #[1]))) + (ByteArray.size x)) : Nat) : Int) > IntKind.i64.max)) then (
 none)
 else (
 match (r06_Sum r ((r1 ++ (ByteArray.mk #[1])) ++ x)) with
 | none => none
 | some r2 => (
 match (r06_Sum r2 r1) with
 | none => none
 | some r3 => (
 some (r2, (r3, s.2.2)))))))
 else (
 some (r, (r1, s.2.2)))))))
noncomputable def r34_Stirred := veil r34_Stirred'
theorem r34_Stirred_eq : r34_Stirred = r34_Stirred' := veil_eq _
noncomputable def r34_New' (x : ByteArray) : Option ((ByteArray × (ByteArray × Int)) × Int) :=
 match (r34_seed x) with
 | none => none
 | some r => (
 bif (!r) then (
 some ((ByteArray.empty, (ByteArray.empty, 0)), 1))
 else (
 match (r34_of 0) with
 | none => none
 | some r1 => (
 match (r34_of 1) with
 | none => none
 | some r2 => (
 match (r34_Stirred (r1, (r2, 0)) x) with
 | none => none
 | some r3 => (
 some (r3, 0))))))
noncomputable def r34_New := veil r34_New'
theorem r34_New_eq : r34_New = r34_New' := veil_eq _
abbrev T_r34_Bytes_0 (n : Int) (more : ByteArray) (out : ByteArray) (s : (ByteArray × (ByteArray × Int))) (t : (ByteArray × (ByteArray × Int))) (t1 : (ByteArray × (ByteArray × Int))) := ((n, (more, ((), ((), ((), (out, ())))))), (s, (t, (t1, ()))))
abbrev Y_r34_Bytes_0_0 (n : Int) (more : ByteArray) (out : ByteArray) (s : (ByteArray × (ByteArray × Int))) (t : (ByteArray × (ByteArray × Int))) (t1 : (ByteArray × (ByteArray × Int))) := ((n, (more, ((), ((), ((), (out, ())))))), (s, (t, (t1, ()))))
abbrev X_r34_Bytes_0 : Type := ((Int × (ByteArray × (Unit × (Unit × (Unit × (ByteArray × Unit)))))) × ((ByteArray × (ByteArray × Int)) × ((ByteArray × (ByteArray × Int)) × ((ByteArray × (ByteArray × Int)) × Unit))))
noncomputable def R_r34_Bytes_0 : X_r34_Bytes_0 → Option (X_r34_Bytes_0 ⊕ ((Int × (ByteArray × (Unit × (Unit × (Unit × (ByteArray × Unit)))))) × ((ByteArray × (ByteArray × Int)) × ((ByteArray × (ByteArray × Int)) × ((ByteArray × (ByteArray × Int)) × Unit))))) := fun x =>
 let n := x.1.1
 let more := x.1.2.1
 let out := x.1.2.2.2.2.2.1
 let s := x.2.1
 let t := x.2.2.1
 let t1 := x.2.2.2.1
 bif (decide ((((ByteArray.size out) : Nat) : Int) < n)) then (
 match (r06_Sum t1.1 t1.2.1) with
 | none => none
 | some r => (
 bif (decide (((((ByteArray.size out) + (ByteArray.size r)) : Nat) : Int) > IntKind.i64.max)) then (
 none)
 else (
 some (.inl ((n, (more, ((), ((), ((), ((out ++ r), ())))))), (s, (t, ((t1.1, (r, t1.2.2)), ()))))))))
 else (
 some (.inr ((n, (more, ((), ((), ((), (out, ())))))), (s, (t, (t1, ()))))))
noncomputable def r34_Bytes' (s : (ByteArray × (ByteArray × Int))) (n : Int) (more : ByteArray) : Option ((ByteArray × (ByteArray × Int)) × ByteArray × Int) :=
 bif (decide (n < 0)) then (
 some (s, (ByteArray.mk #[]), 1))
 else (
 bif (decide (n > 8192)) then (
 some (s, (ByteArray.mk #[]), 1))
 else (
 bif (decide ((((ByteArray.size more) : Nat) : Int) > 1024)) then (
 some (s, (ByteArray.mk #[]), 1))
 else (
 bif (decide (s.2.2 ≥ 1000)) then (
 some (s, (ByteArray.mk #[]), 5))
 else (
 bif (!(sEq more (ByteArray.mk #[]))) then (
 match (r34_Stirred s more) with
 | none => none
 | some r => (
 match (loopF R_r34_Bytes_0 ((n, (more, ((), ((), ((), ((ByteArray.mk #[]), ())))))), (s, ((ByteArray.empty, (ByteArray.empty, 0)), (r, ()))))) with
 | none => none
 | some y => (
 let n1 := y.1.1
 let more1 := y.1.2.1
 let out := y.1.2.2.2.2.2.1
 let s1 := y.2.1
 let t := y.2.2.1
 let t1 := y.2.2.2.1
 match (r34_Stirred t1 more1) with
 | none => none
 | some r1 => (
 bif ((decide (0 ≤ n1)) && (decide (n1 ≤ (((ByteArray.size out) : Nat) : Int)))) then (
 some ((r1.1, (r1.2.1, (i64.wrap (s1.2.2 + 1)))), (ByteArray.extract out 0 (Int.toNat n1)), 0))
 else (
 none)))))
 else (
 match (loopF R_r34_Bytes_0 ((n, (more, ((), ((), ((), ((ByteArray.mk #[]), ())))))), (s, ((ByteArray.empty, (ByteArray.empty, 0)), (s, ()))))) with
 | none => none
 | some y1 => (
 let n2 := y1.1.1
 let more2 := y1.1.2.1
 let out1 := y1.1.2.2.2.2.2.1
 let s2 := y1.2.1
 let t2 := y1.2.2.1
 let t3 := y1.2.2.2.1
 match (r34_Stirred t3 more2) with
 | none => none
 | some r2 => (
 bif ((decide (0 ≤ n2)) && (decide (n2 ≤ (((ByteArray.size out1) : Nat) : Int)))) then (
 some ((r2.1, (r2.2.1, (i64.wrap (s2.2.2 + 1)))), (ByteArray.extract out1 0 (Int.toNat n2)), 0))
 else (
 none))))))))
noncomputable def r34_Bytes := veil r34_Bytes'
theorem r34_Bytes_eq : r34_Bytes = r34_Bytes' := veil_eq _
end Go.Pl
