/-
  One statement, plainly.
-/
import Derived.Test.YtejjdkhjdcjbbaaDenI
import Derived.Test.YtejjdkhjdcjbbaaL22
import Derived.Test.YtejjdkhjdcjbbaaPr22
import Derived.Test.YtejjdkhjdcjbbaaPspace
import Derived.Test.YtejjdkhjdcjbbaaEqA
import Derived.Test.YtejjdkhjdcjbbaaDenM
import Derived.Test.YtejjdkhjdcjbbaaDenF
import Derived.Test.YtejjdkhjdcjbbaaEr22
import Derived.Test.YtejjdkhjdcjbbaaEspace
import Derived.Test.YtejjdkhjdcjbbaaMF
set_option linter.unusedVariables false
set_option linter.unusedSimpArgs false
set_option maxRecDepth 100000
set_option maxHeartbeats 0
namespace Go.Pl
end Go.Pl
open Go Go.Den Go.Pl
namespace Go.Pl
open Go.IntKind (i64 u64 u32 u8)
abbrev T_l22_SpaceOf_0 (nkeys : Nat) (keys : Nat → ByteArray) (nused : Nat) (used : Nat → Int) (i : Int) (size : NI) := (((nkeys, keys), ((nused, used), ((), (i, ())))), (size, ()))
abbrev Y_l22_SpaceOf_0_0 (t : Bool) : (((Bool × Unit) × Unit) ⊕ (((Nat × (Nat → ByteArray)) × ((Nat × NI) × (Unit × Unit))) × (NI × Unit))) := (.inl ((t, ()), ()))
abbrev Y_l22_SpaceOf_0_1 (nkeys : Nat) (keys : Nat → ByteArray) (nused : Nat) (used : Nat → Int) (size : NI) : (((Bool × Unit) × Unit) ⊕ (((Nat × (Nat → ByteArray)) × ((Nat × NI) × (Unit × Unit))) × (NI × Unit))) := (.inr (((nkeys, keys), ((nused, used), ((), ()))), (size, ())))
abbrev X_l22_SpaceOf_0 : Type := (((Nat × (Nat → ByteArray)) × ((Nat × NI) × (Unit × (Int × Unit)))) × (NI × Unit))
noncomputable def R_l22_SpaceOf_0 : X_l22_SpaceOf_0 → Option (X_l22_SpaceOf_0 ⊕ (((Bool × Unit) × Unit) ⊕ (((Nat × (Nat → ByteArray)) × ((Nat × NI) × (Unit × Unit))) × (NI × Unit)))) := fun x =>
 let nkeys := x.1.1.1
 let keys := x.1.1.2
 let nused := x.1.2.1.1
 let used := x.1.2.1.2
 let i := x.1.2.2.2.1
 let size := x.2.1
 bif (decide (i < ((nkeys : Nat) : Int))) then (
 bif (inb i nkeys) then (
 bif (decide ((((ByteArray.size (keys (Int.toNat i))) : Nat) : Int) > 40)) then (
 match l22_awake with
 | none => none
 | some r => (
 some (.inr (.inl ((r, ()), ())))))
 else (
 some (.inl (((nkeys, keys), ((nused, used), ((), ((i64.wrap (i + 1)), ())))), (size, ())))))
 else (
 none))
 else (
 some (.inr (.inr (((nkeys, keys), ((nused, used), ((), ()))), (size, ())))))
abbrev T_l22_SpaceOf_4 (nkeys : Nat) (keys : Nat → ByteArray) (nused : Nat) (used : Nat → Int) (e : Int) (may : Bool) (i : Int) (k : Int) (size : NI) (m : Int) (m1 : Int) (nm : Nat) (m2 : Nat → ByteArray) (nm1 : Nat) (m3 : Nat → Int) := (((nkeys, keys), ((nused, used), ((), ((), (e, (may, ((), (i, (k, ()))))))))), (size, ((m, (m1, ((nm, m2), (nm1, m3)))), ())))
abbrev Y_l22_SpaceOf_4_0 (nkeys : Nat) (keys : Nat → ByteArray) (nused : Nat) (used : Nat → Int) (e : Int) (may : Bool) (i : Int) (size : NI) (m : Int) (m1 : Int) (nm : Nat) (m2 : Nat → ByteArray) (nm1 : Nat) (m3 : Nat → Int) := (((nkeys, keys), ((nused, used), ((), ((), (e, (may, ((), (i, ())))))))), (size, ((m, (m1, ((nm, m2), (nm1, m3)))), ())))
abbrev X_l22_SpaceOf_4 : Type := (((Nat × (Nat → ByteArray)) × ((Nat × NI) × (Unit × (Unit × (Int × (Bool × (Unit × (Int × (Int × Unit))))))))) × (NI × ((Int × (Int × ((Nat × (Nat → ByteArray)) × (Nat × NI)))) × Unit)))
noncomputable def R_l22_SpaceOf_4 : X_l22_SpaceOf_4 → Option (X_l22_SpaceOf_4 ⊕ (((Nat × (Nat → ByteArray)) × ((Nat × NI) × (Unit × (Unit × (Int × (Bool × (Unit × (Int × Unit)))))))) × (NI × ((Int × (Int × ((Nat × (Nat → ByteArray)) × (Nat × NI)))) × Unit)))) := fun x =>
 let nkeys := x.1.1.1
 let keys := x.1.1.2
 let nused := x.1.2.1.1
 let used := x.1.2.1.2
 let e := x.1.2.2.2.2.1
 let may := x.1.2.2.2.2.2.1
 let i := x.1.2.2.2.2.2.2.2.1
 let k := x.1.2.2.2.2.2.2.2.2.1
 let size := x.2.1
 let m := x.2.2.1.1
 let m1 := x.2.2.1.2.1
 let nm := x.2.2.1.2.2.1.1
 let m2 := x.2.2.1.2.2.1.2
 let nm1 := x.2.2.1.2.2.2.1
 let m3 := x.2.2.1.2.2.2.2
 bif (inb i nused) then (
 bif (decide (k < (used (Int.toNat i)))) then (
 bif may then (
 bif (decide (((nm1 : Nat) : Int) ≤ ((nkeys : Nat) : Int))) then (
 bif ((Nat.ble ((nm1 + 1) * 8) 140737488355328) && (Nat.ble (nm1 + 1) 9223372036854775807)) then (
 some (.inl (((nkeys, keys), ((nused, used), ((), ((), (e, (may, ((), (i, ((i64.wrap (k + 1)), ()))))))))), (size, ((m, (m1, ((nm, m2), ((nm1 + 1), (glue nm1 m3 (fun j => (upd (fun _ => 0) 0 (i64.wrap (i + 1))) (0 + j))))))), ())))))
 else (
 none))
 else (
 some (.inr (((nkeys, keys), ((nused, used), ((), ((), (e, (may, ((), (i, ())))))))), (size, ((m, (m1, ((nm, m2), (nm1, m3)))), ()))))))
 else (
 some (.inr (((nkeys, keys), ((nused, used), ((), ((), (e, (may, ((), (i, ())))))))), (size, ((m, (m1, ((nm, m2), (nm1, m3)))), ()))))))
 else (
 some (.inr (((nkeys, keys), ((nused, used), ((), ((), (e, (may, ((), (i, ())))))))), (size, ((m, (m1, ((nm, m2), (nm1, m3)))), ()))))))
 else (
 none)
abbrev T_l22_SpaceOf_2 (nkeys : Nat) (keys : Nat → ByteArray) (nused : Nat) (used : Nat → Int) (e : Int) (may : Bool) (i : Int) (size : NI) (m : Int) (m1 : Int) (nm : Nat) (m2 : Nat → ByteArray) (nm1 : Nat) (m3 : Nat → Int) := (((nkeys, keys), ((nused, used), ((), ((), (e, (may, ((), (i, ())))))))), (size, ((m, (m1, ((nm, m2), (nm1, m3)))), ())))
abbrev Y_l22_SpaceOf_2_0 (nkeys : Nat) (keys : Nat → ByteArray) (e : Int) (may : Bool) (size : NI) (m : Int) (m1 : Int) (nm : Nat) (m2 : Nat → ByteArray) (nm1 : Nat) (m3 : Nat → Int) := (((nkeys, keys), ((), ((), (e, (may, ((), ())))))), (size, ((m, (m1, ((nm, m2), (nm1, m3)))), ())))
abbrev X_l22_SpaceOf_2 : Type := (((Nat × (Nat → ByteArray)) × ((Nat × NI) × (Unit × (Unit × (Int × (Bool × (Unit × (Int × Unit)))))))) × (NI × ((Int × (Int × ((Nat × (Nat → ByteArray)) × (Nat × NI)))) × Unit)))
noncomputable def R_l22_SpaceOf_2 : X_l22_SpaceOf_2 → Option (X_l22_SpaceOf_2 ⊕ (((Nat × (Nat → ByteArray)) × (Unit × (Unit × (Int × (Bool × (Unit × Unit)))))) × (NI × ((Int × (Int × ((Nat × (Nat → ByteArray)) × (Nat × NI)))) × Unit)))) := fun x =>
 let nkeys := x.1.1.1
 let keys := x.1.1.2
 let nused := x.1.2.1.1
 let used := x.1.2.1.2
 let e := x.1.2.2.2.2.1
 let may := x.1.2.2.2.2.2.1
 let i := x.1.2.2.2.2.2.2.2.1
 let size := x.2.1
 let m := x.2.2.1.1
 let m1 := x.2.2.1.2.1
 let nm := x.2.2.1.2.2.1.1
 let m2 := x.2.2.1.2.2.1.2
 let nm1 := x.2.2.1.2.2.2.1
 let m3 := x.2.2.1.2.2.2.2
 bif (decide (i < ((nused : Nat) : Int))) then (
 bif may then (
 bif (inb i nused) then (
 bif (decide ((used (Int.toNat i)) ≥ 0)) then (
 bif (inb i nused) then (
 match (r22_Quota (m, (m1, ((nm, m2), (nm1, (fun j => m3 (0 + j)))))) (i64.wrap (i + 1))) with
 | none => none
 | some r => (
 match (loopF R_l22_SpaceOf_4 (((nkeys, keys), ((nused, used), ((), ((), (e, ((decide ((used (Int.toNat i)) ≤ r)), ((), (i, (0, ()))))))))), (size, ((m, (m1, ((nm, m2), (nm1, m3)))), ())))) with
 | none => none
 | some y => (
 let nkeys1 := y.1.1.1
 let keys1 := y.1.1.2
 let nused1 := y.1.2.1.1
 let used1 := y.1.2.1.2
 let e1 := y.1.2.2.2.2.1
 let may1 := y.1.2.2.2.2.2.1
 let i1 := y.1.2.2.2.2.2.2.2.1
 let size1 := y.2.1
 let m4 := y.2.2.1.1
 let m5 := y.2.2.1.2.1
 let nm2 := y.2.2.1.2.2.1.1
 let m6 := y.2.2.1.2.2.1.2
 let nm3 := y.2.2.1.2.2.2.1
 let m7 := y.2.2.1.2.2.2.2
 some (.inl (((nkeys1, keys1), ((nused1, used1), ((), ((), (e1, (may1, ((), ((i64.wrap (i1 + 1)), ())))))))), (size1, ((m4, (m5, ((nm2, m6), (nm3, m7)))), ())))))))
 else (
 none))
 else (
 match (loopF R_l22_SpaceOf_4 (((nkeys, keys), ((nused, used), ((), ((), (e, (false, ((), (i, (0, ()))))))))), (size, ((m, (m1, ((nm, m2), (nm1, m3)))), ())))) with
 | none => none
 | some y1 => (
 let nkeys2 := y1.1.1.1
 let keys2 := y1.1.1.2
 let nused2 := y1.1.2.1.1
 let used2 := y1.1.2.1.2
 let e2 := y1.1.2.2.2.2.1
 let may2 := y1.1.2.2.2.2.2.1
 let i2 := y1.1.2.2.2.2.2.2.2.1
 let size2 := y1.2.1
 let m8 := y1.2.2.1.1
 let m9 := y1.2.2.1.2.1
 let nm4 := y1.2.2.1.2.2.1.1
 let m10 := y1.2.2.1.2.2.1.2
 let nm5 := y1.2.2.1.2.2.2.1
 let m11 := y1.2.2.1.2.2.2.2
 some (.inl (((nkeys2, keys2), ((nused2, used2), ((), ((), (e2, (may2, ((), ((i64.wrap (i2 + 1)), ())))))))), (size2, ((m8, (m9, ((nm4, m10), (nm5, m11)))), ())))))))
 else (
 none))
 else (
 some (.inr (((nkeys, keys), ((), ((), (e, (may, ((), ())))))), (size, ((m, (m1, ((nm, m2), (nm1, m3)))), ()))))))
 else (
 some (.inr (((nkeys, keys), ((), ((), (e, (may, ((), ())))))), (size, ((m, (m1, ((nm, m2), (nm1, m3)))), ())))))
abbrev T_l22_SpaceOf_6 (nkeys : Nat) (keys : Nat → ByteArray) (e : Int) (may : Bool) (i : Int) (size : NI) (m : Int) (m1 : Int) (nm : Nat) (m2 : Nat → ByteArray) (nm1 : Nat) (m3 : Nat → Int) := (((nkeys, keys), ((), ((), (e, (may, ((), (i, ()))))))), (size, ((m, (m1, ((nm, m2), (nm1, m3)))), ())))
abbrev Y_l22_SpaceOf_6_0 (nkeys : Nat) (keys : Nat → ByteArray) (e : Int) (may : Bool) (size : NI) (m : Int) (m1 : Int) (nm : Nat) (m2 : Nat → ByteArray) (nm1 : Nat) (m3 : Nat → Int) := (((nkeys, keys), ((), ((), (e, (may, ((), ())))))), (size, ((m, (m1, ((nm, m2), (nm1, m3)))), ())))
abbrev X_l22_SpaceOf_6 : Type := (((Nat × (Nat → ByteArray)) × (Unit × (Unit × (Int × (Bool × (Unit × (Int × Unit))))))) × (NI × ((Int × (Int × ((Nat × (Nat → ByteArray)) × (Nat × NI)))) × Unit)))
noncomputable def R_l22_SpaceOf_6 : X_l22_SpaceOf_6 → Option (X_l22_SpaceOf_6 ⊕ (((Nat × (Nat → ByteArray)) × (Unit × (Unit × (Int × (Bool × (Unit × Unit)))))) × (NI × ((Int × (Int × ((Nat × (Nat → ByteArray)) × (Nat × NI)))) × Unit)))) := fun x =>
 let nkeys := x.1.1.1
 let keys := x.1.1.2
 let e := x.1.2.2.2.1
 let may := x.1.2.2.2.2.1
 let i := x.1.2.2.2.2.2.2.1
 let size := x.2.1
 let m := x.2.2.1.1
 let m1 := x.2.2.1.2.1
 let nm := x.2.2.1.2.2.1.1
 let m2 := x.2.2.1.2.2.1.2
 let nm1 := x.2.2.1.2.2.2.1
 let m3 := x.2.2.1.2.2.2.2
 bif (decide (i < ((nkeys : Nat) : Int))) then (
 bif may then (
 bif (inb i nkeys) then (
 bif (decide ((((ByteArray.size (keys (Int.toNat i))) : Nat) : Int) ≥ 1)) then (
 bif (inb i nkeys) then (
 bif (decide ((((ByteArray.size (keys (Int.toNat i))) : Nat) : Int) ≤ 8)) then (
 bif (i == 0) then (
 some (.inl (((nkeys, keys), ((), ((), (e, (true, ((), ((i64.wrap (i + 1)), ()))))))), (size, ((m, (m1, ((nm, m2), (nm1, m3)))), ())))))
 else (
 bif (inb (i64.wrap (i - 1)) nkeys) then (
 bif (inb i nkeys) then (
 some (.inl (((nkeys, keys), ((), ((), (e, ((Op.bytesLess (ByteArray.toList (keys (Int.toNat (i64.wrap (i - 1))))) (ByteArray.toList (keys (Int.toNat i)))), ((), ((i64.wrap (i + 1)), ()))))))), (size, ((m, (m1, ((nm, m2), (nm1, m3)))), ())))))
 else (
 none))
 else (
 none)))
 else (
 some (.inl (((nkeys, keys), ((), ((), (e, (false, ((), ((i64.wrap (i + 1)), ()))))))), (size, ((m, (m1, ((nm, m2), (nm1, m3)))), ()))))))
 else (
 none))
 else (
 some (.inl (((nkeys, keys), ((), ((), (e, (false, ((), ((i64.wrap (i + 1)), ()))))))), (size, ((m, (m1, ((nm, m2), (nm1, m3)))), ()))))))
 else (
 none))
 else (
 some (.inl (((nkeys, keys), ((), ((), (e, (false, ((), ((i64.wrap (i + 1)), ()))))))), (size, ((m, (m1, ((nm, m2), (nm1, m3)))), ()))))))
 else (
 some (.inr (((nkeys, keys), ((), ((), (e, (may, ((), ())))))), (size, ((m, (m1, ((nm, m2), (nm1, m3)))), ())))))
abbrev T_l22_SpaceOf_4_v1 (nkeys : Nat) (keys : Nat → ByteArray) (nused : Nat) (used : Nat → Int) (e : Int) (may : Bool) (i : Int) (k : Int) (size : NI) (s : Int) (s1 : Int) (ns : Nat) (s2 : Nat → ByteArray) (s3 : List (Int × Int)) (m : Int) (m1 : Int) (nm : Nat) (m2 : Nat → ByteArray) (nm1 : Nat) (m3 : Nat → Int) := (((nkeys, keys), ((nused, used), ((), ((), (e, (may, ((), (i, (k, ()))))))))), (size, ((s, (s1, ((ns, s2), s3))), ((m, (m1, ((nm, m2), (nm1, m3)))), ()))))
abbrev Y_l22_SpaceOf_4_v1_0 (nkeys : Nat) (keys : Nat → ByteArray) (nused : Nat) (used : Nat → Int) (e : Int) (may : Bool) (i : Int) (size : NI) (s : Int) (s1 : Int) (ns : Nat) (s2 : Nat → ByteArray) (s3 : List (Int × Int)) (m : Int) (m1 : Int) (nm : Nat) (m2 : Nat → ByteArray) (nm1 : Nat) (m3 : Nat → Int) := (((nkeys, keys), ((nused, used), ((), ((), (e, (may, ((), (i, ())))))))), (size, ((s, (s1, ((ns, s2), s3))), ((m, (m1, ((nm, m2), (nm1, m3)))), ()))))
abbrev X_l22_SpaceOf_4_v1 : Type := (((Nat × (Nat → ByteArray)) × ((Nat × NI) × (Unit × (Unit × (Int × (Bool × (Unit × (Int × (Int × Unit))))))))) × (NI × ((Int × (Int × ((Nat × (Nat → ByteArray)) × (List (Int × Int))))) × ((Int × (Int × ((Nat × (Nat → ByteArray)) × (Nat × NI)))) × Unit))))
noncomputable def R_l22_SpaceOf_4_v1 : X_l22_SpaceOf_4_v1 → Option (X_l22_SpaceOf_4_v1 ⊕ (((Nat × (Nat → ByteArray)) × ((Nat × NI) × (Unit × (Unit × (Int × (Bool × (Unit × (Int × Unit)))))))) × (NI × ((Int × (Int × ((Nat × (Nat → ByteArray)) × (List (Int × Int))))) × ((Int × (Int × ((Nat × (Nat → ByteArray)) × (Nat × NI)))) × Unit))))) := fun x =>
 let nkeys := x.1.1.1
 let keys := x.1.1.2
 let nused := x.1.2.1.1
 let used := x.1.2.1.2
 let e := x.1.2.2.2.2.1
 let may := x.1.2.2.2.2.2.1
 let i := x.1.2.2.2.2.2.2.2.1
 let k := x.1.2.2.2.2.2.2.2.2.1
 let size := x.2.1
 let s := x.2.2.1.1
 let s1 := x.2.2.1.2.1
 let ns := x.2.2.1.2.2.1.1
 let s2 := x.2.2.1.2.2.1.2
 let s3 := x.2.2.1.2.2.2
 let m := x.2.2.2.1.1
 let m1 := x.2.2.2.1.2.1
 let nm := x.2.2.2.1.2.2.1.1
 let m2 := x.2.2.2.1.2.2.1.2
 let nm1 := x.2.2.2.1.2.2.2.1
 let m3 := x.2.2.2.1.2.2.2.2
 bif (inb i nused) then (
 bif (decide (k < (used (Int.toNat i)))) then (
 bif may then (
 bif (decide (((nm1 : Nat) : Int) ≤ ((nkeys : Nat) : Int))) then (
 bif ((Nat.ble ((nm1 + 1) * 8) 140737488355328) && (Nat.ble (nm1 + 1) 9223372036854775807)) then (
 some (.inl (((nkeys, keys), ((nused, used), ((), ((), (e, (may, ((), (i, ((i64.wrap (k + 1)), ()))))))))), (size, ((s, (s1, ((ns, s2), s3))), ((m, (m1, ((nm, m2), ((nm1 + 1), (glue nm1 m3 (fun j => (upd (fun _ => 0) 0 (i64.wrap (i + 1))) (0 + j))))))), ()))))))
 else (
 none))
 else (
 some (.inr (((nkeys, keys), ((nused, used), ((), ((), (e, (may, ((), (i, ())))))))), (size, ((s, (s1, ((ns, s2), s3))), ((m, (m1, ((nm, m2), (nm1, m3)))), ())))))))
 else (
 some (.inr (((nkeys, keys), ((nused, used), ((), ((), (e, (may, ((), (i, ())))))))), (size, ((s, (s1, ((ns, s2), s3))), ((m, (m1, ((nm, m2), (nm1, m3)))), ())))))))
 else (
 some (.inr (((nkeys, keys), ((nused, used), ((), ((), (e, (may, ((), (i, ())))))))), (size, ((s, (s1, ((ns, s2), s3))), ((m, (m1, ((nm, m2), (nm1, m3)))), ())))))))
 else (
 none)
abbrev T_l22_SpaceOf_2_v1 (nkeys : Nat) (keys : Nat → ByteArray) (nused : Nat) (used : Nat → Int) (e : Int) (may : Bool) (i : Int) (size : NI) (s : Int) (s1 : Int) (ns : Nat) (s2 : Nat → ByteArray) (s3 : List (Int × Int)) (m : Int) (m1 : Int) (nm : Nat) (m2 : Nat → ByteArray) (nm1 : Nat) (m3 : Nat → Int) := (((nkeys, keys), ((nused, used), ((), ((), (e, (may, ((), (i, ())))))))), (size, ((s, (s1, ((ns, s2), s3))), ((m, (m1, ((nm, m2), (nm1, m3)))), ()))))
abbrev Y_l22_SpaceOf_2_v1_0 (nkeys : Nat) (keys : Nat → ByteArray) (e : Int) (may : Bool) (size : NI) (s : Int) (s1 : Int) (ns : Nat) (s2 : Nat → ByteArray) (s3 : List (Int × Int)) (m : Int) (m1 : Int) (nm : Nat) (m2 : Nat → ByteArray) (nm1 : Nat) (m3 : Nat → Int) := (((nkeys, keys), ((), ((), (e, (may, ((), ())))))), (size, ((s, (s1, ((ns, s2), s3))), ((m, (m1, ((nm, m2), (nm1, m3)))), ()))))
abbrev X_l22_SpaceOf_2_v1 : Type := (((Nat × (Nat → ByteArray)) × ((Nat × NI) × (Unit × (Unit × (Int × (Bool × (Unit × (Int × Unit)))))))) × (NI × ((Int × (Int × ((Nat × (Nat → ByteArray)) × (List (Int × Int))))) × ((Int × (Int × ((Nat × (Nat → ByteArray)) × (Nat × NI)))) × Unit))))
noncomputable def R_l22_SpaceOf_2_v1 : X_l22_SpaceOf_2_v1 → Option (X_l22_SpaceOf_2_v1 ⊕ (((Nat × (Nat → ByteArray)) × (Unit × (Unit × (Int × (Bool × (Unit × Unit)))))) × (NI × ((Int × (Int × ((Nat × (Nat → ByteArray)) × (List (Int × Int))))) × ((Int × (Int × ((Nat × (Nat → ByteArray)) × (Nat × NI)))) × Unit))))) := fun x =>
 let nkeys := x.1.1.1
 let keys := x.1.1.2
 let nused := x.1.2.1.1
 let used := x.1.2.1.2
 let e := x.1.2.2.2.2.1
 let may := x.1.2.2.2.2.2.1
 let i := x.1.2.2.2.2.2.2.2.1
 let size := x.2.1
 let s := x.2.2.1.1
 let s1 := x.2.2.1.2.1
 let ns := x.2.2.1.2.2.1.1
 let s2 := x.2.2.1.2.2.1.2
 let s3 := x.2.2.1.2.2.2
 let m := x.2.2.2.1.1
 let m1 := x.2.2.2.1.2.1
 let nm := x.2.2.2.1.2.2.1.1
 let m2 := x.2.2.2.1.2.2.1.2
 let nm1 := x.2.2.2.1.2.2.2.1
 let m3 := x.2.2.2.1.2.2.2.2
 bif (decide (i < ((nused : Nat) : Int))) then (
 bif may then (
 bif (inb i nused) then (
 bif (decide ((used (Int.toNat i)) ≥ 0)) then (
 bif (inb i nused) then (
 match (r22_Quota (m, (m1, ((nm, m2), (nm1, (fun j => m3 (0 + j)))))) (i64.wrap (i + 1))) with
 | none => none
 | some r => (
 match (loopF R_l22_SpaceOf_4_v1 (((nkeys, keys), ((nused, used), ((), ((), (e, ((decide ((used (Int.toNat i)) ≤ r)), ((), (i, (0, ()))))))))), (size, ((s, (s1, ((ns, s2), s3))), ((m, (m1, ((nm, m2), (nm1, m3)))), ()))))) with
 | none => none
 | some y => (
 let nkeys1 := y.1.1.1
 let keys1 := y.1.1.2
 let nused1 := y.1.2.1.1
 let used1 := y.1.2.1.2
 let e1 := y.1.2.2.2.2.1
 let may1 := y.1.2.2.2.2.2.1
 let i1 := y.1.2.2.2.2.2.2.2.1
 let size1 := y.2.1
 let s4 := y.2.2.1.1
 let s5 := y.2.2.1.2.1
 let ns1 := y.2.2.1.2.2.1.1
 let s6 := y.2.2.1.2.2.1.2
 let s7 := y.2.2.1.2.2.2
 let m4 := y.2.2.2.1.1
 let m5 := y.2.2.2.1.2.1
 let nm2 := y.2.2.2.1.2.2.1.1
 let m6 := y.2.2.2.1.2.2.1.2
 let nm3 := y.2.2.2.1.2.2.2.1
 let m7 := y.2.2.2.1.2.2.2.2
 some (.inl (((nkeys1, keys1), ((nused1, used1), ((), ((), (e1, (may1, ((), ((i64.wrap (i1 + 1)), ())))))))), (size1, ((s4, (s5, ((ns1, s6), s7))), ((m4, (m5, ((nm2, m6), (nm3, m7)))), ()))))))))
 else (
 none))
 else (
 match (loopF R_l22_SpaceOf_4_v1 (((nkeys, keys), ((nused, used), ((), ((), (e, (false, ((), (i, (0, ()))))))))), (size, ((s, (s1, ((ns, s2), s3))), ((m, (m1, ((nm, m2), (nm1, m3)))), ()))))) with
 | none => none
 | some y1 => (
 let nkeys2 := y1.1.1.1
 let keys2 := y1.1.1.2
 let nused2 := y1.1.2.1.1
 let used2 := y1.1.2.1.2
 let e2 := y1.1.2.2.2.2.1
 let may2 := y1.1.2.2.2.2.2.1
 let i2 := y1.1.2.2.2.2.2.2.2.1
 let size2 := y1.2.1
 let s8 := y1.2.2.1.1
 let s9 := y1.2.2.1.2.1
 let ns2 := y1.2.2.1.2.2.1.1
 let s10 := y1.2.2.1.2.2.1.2
 let s11 := y1.2.2.1.2.2.2
 let m8 := y1.2.2.2.1.1
 let m9 := y1.2.2.2.1.2.1
 let nm4 := y1.2.2.2.1.2.2.1.1
 let m10 := y1.2.2.2.1.2.2.1.2
 let nm5 := y1.2.2.2.1.2.2.2.1
 let m11 := y1.2.2.2.1.2.2.2.2
 some (.inl (((nkeys2, keys2), ((nused2, used2), ((), ((), (e2, (may2, ((), ((i64.wrap (i2 + 1)), ())))))))), (size2, ((s8, (s9, ((ns2, s10), s11))), ((m8, (m9, ((nm4, m10), (nm5, m11)))), ()))))))))
 else (
 none))
 else (
 some (.inr (((nkeys, keys), ((), ((), (e, (may, ((), ())))))), (size, ((s, (s1, ((ns, s2), s3))), ((m, (m1, ((nm, m2), (nm1, m3)))), ())))))))
 else (
 some (.inr (((nkeys, keys), ((), ((), (e, (may, ((), ())))))), (size, ((s, (s1, ((ns, s2), s3))), ((m, (m1, ((nm, m2), (nm1, m3)))), ()))))))
abbrev T_l22_SpaceOf_6_v1 (nkeys : Nat) (keys : Nat → ByteArray) (e : Int) (may : Bool) (i : Int) (size : NI) (s : Int) (s1 : Int) (ns : Nat) (s2 : Nat → ByteArray) (s3 : List (Int × Int)) (m : Int) (m1 : Int) (nm : Nat) (m2 : Nat → ByteArray) (nm1 : Nat) (m3 : Nat → Int) := (((nkeys, keys), ((), ((), (e, (may, ((), (i, ()))))))), (size, ((s, (s1, ((ns, s2), s3))), ((m, (m1, ((nm, m2), (nm1, m3)))), ()))))
abbrev Y_l22_SpaceOf_6_v1_0 (nkeys : Nat) (keys : Nat → ByteArray) (e : Int) (may : Bool) (size : NI) (s : Int) (s1 : Int) (ns : Nat) (s2 : Nat → ByteArray) (s3 : List (Int × Int)) (m : Int) (m1 : Int) (nm : Nat) (m2 : Nat → ByteArray) (nm1 : Nat) (m3 : Nat → Int) := (((nkeys, keys), ((), ((), (e, (may, ((), ())))))), (size, ((s, (s1, ((ns, s2), s3))), ((m, (m1, ((nm, m2), (nm1, m3)))), ()))))
abbrev X_l22_SpaceOf_6_v1 : Type := (((Nat × (Nat → ByteArray)) × (Unit × (Unit × (Int × (Bool × (Unit × (Int × Unit))))))) × (NI × ((Int × (Int × ((Nat × (Nat → ByteArray)) × (List (Int × Int))))) × ((Int × (Int × ((Nat × (Nat → ByteArray)) × (Nat × NI)))) × Unit))))
noncomputable def R_l22_SpaceOf_6_v1 : X_l22_SpaceOf_6_v1 → Option (X_l22_SpaceOf_6_v1 ⊕ (((Nat × (Nat → ByteArray)) × (Unit × (Unit × (Int × (Bool × (Unit × Unit)))))) × (NI × ((Int × (Int × ((Nat × (Nat → ByteArray)) × (List (Int × Int))))) × ((Int × (Int × ((Nat × (Nat → ByteArray)) × (Nat × NI)))) × Unit))))) := fun x =>
 let nkeys := x.1.1.1
 let keys := x.1.1.2
 let e := x.1.2.2.2.1
 let may := x.1.2.2.2.2.1
 let i := x.1.2.2.2.2.2.2.1
 let size := x.2.1
 let s := x.2.2.1.1
 let s1 := x.2.2.1.2.1
 let ns := x.2.2.1.2.2.1.1
 let s2 := x.2.2.1.2.2.1.2
 let s3 := x.2.2.1.2.2.2
 let m := x.2.2.2.1.1
 let m1 := x.2.2.2.1.2.1
 let nm := x.2.2.2.1.2.2.1.1
 let m2 := x.2.2.2.1.2.2.1.2
 let nm1 := x.2.2.2.1.2.2.2.1
 let m3 := x.2.2.2.1.2.2.2.2
 bif (decide (i < ((nkeys : Nat) : Int))) then (
 bif may then (
 bif (inb i nkeys) then (
 bif (decide ((((ByteArray.size (keys (Int.toNat i))) : Nat) : Int) ≥ 1)) then (
 bif (inb i nkeys) then (
 bif (decide ((((ByteArray.size (keys (Int.toNat i))) : Nat) : Int) ≤ 8)) then (
 bif (i == 0) then (
 some (.inl (((nkeys, keys), ((), ((), (e, (true, ((), ((i64.wrap (i + 1)), ()))))))), (size, ((s, (s1, ((ns, s2), s3))), ((m, (m1, ((nm, m2), (nm1, m3)))), ()))))))
 else (
 bif (inb (i64.wrap (i - 1)) nkeys) then (
 bif (inb i nkeys) then (
 some (.inl (((nkeys, keys), ((), ((), (e, ((Op.bytesLess (ByteArray.toList (keys (Int.toNat (i64.wrap (i - 1))))) (ByteArray.toList (keys (Int.toNat i)))), ((), ((i64.wrap (i + 1)), ()))))))), (size, ((s, (s1, ((ns, s2), s3))), ((m, (m1, ((nm, m2), (nm1, m3)))), ()))))))
 else (
 none))
 else (
 none)))
 else (
 some (.inl (((nkeys, keys), ((), ((), (e, (false, ((), ((i64.wrap (i + 1)), ()))))))), (size, ((s, (s1, ((ns, s2), s3))), ((m, (m1, ((nm, m2), (nm1, m3)))), ())))))))
 else (
 none))
 else (
 some (.inl (((nkeys, keys), ((), ((), (e, (false, ((), ((i64.wrap (i + 1)), ()))))))), (size, ((s, (s1, ((ns, s2), s3))), ((m, (m1, ((nm, m2), (nm1, m3)))), ())))))))
 else (
 none))
 else (
 some (.inl (((nkeys, keys), ((), ((), (e, (false, ((), ((i64.wrap (i + 1)), ()))))))), (size, ((s, (s1, ((ns, s2), s3))), ((m, (m1, ((nm, m2), (nm1, m3)))), ())))))))
 else (
 some (.inr (((nkeys, keys), ((), ((), (e, (may, ((), ())))))), (size, ((s, (s1, ((ns, s2), s3))), ((m, (m1, ((nm, m2), (nm1, m3)))), ()))))))
abbrev T_l22_SpaceOf_8 (i : Int) (size : NI) (s : Int) (s1 : Int) (ns : Nat) (s2 : Nat → ByteArray) (s3 : List (Int × Int)) (m : Int) (m1 : Int) (nm : Nat) (m2 : Nat → ByteArray) (nm1 : Nat) (m3 : Nat → Int) := (((), ((), ((), (i, ())))), (size, ((s, (s1, ((ns, s2), s3))), ((m, (m1, ((nm, m2), (nm1, m3)))), ()))))
abbrev Y_l22_SpaceOf_8_1  : (((Bool × Unit) × Unit) ⊕ (Unit × Unit)) := (.inr ((), ()))
abbrev X_l22_SpaceOf_8 : Type := ((Unit × (Unit × (Unit × (Int × Unit)))) × (NI × ((Int × (Int × ((Nat × (Nat → ByteArray)) × (List (Int × Int))))) × ((Int × (Int × ((Nat × (Nat → ByteArray)) × (Nat × NI)))) × Unit))))
noncomputable def R_l22_SpaceOf_8 : X_l22_SpaceOf_8 → Option (X_l22_SpaceOf_8 ⊕ (((Bool × Unit) × Unit) ⊕ (Unit × Unit))) := fun x =>
 let i := x.1.2.2.2.1
 let size := x.2.1
 let s := x.2.2.1.1
 let s1 := x.2.2.1.2.1
 let ns := x.2.2.1.2.2.1.1
 let s2 := x.2.2.1.2.2.1.2
 let s3 := x.2.2.1.2.2.2
 let m := x.2.2.2.1.1
 let m1 := x.2.2.2.1.2.1
 let nm := x.2.2.2.1.2.2.1.1
 let m2 := x.2.2.2.1.2.2.1.2
 let nm1 := x.2.2.2.1.2.2.2.1
 let m3 := x.2.2.2.1.2.2.2.2
 bif (decide (i ≤ (i64.wrap ((size 0) + (size 1))))) then (
 match (r22_Open (m, (m1, ((nm, m2), (nm1, m3)))) (bytesOf 1 (fun j => (upd (fun _ => 0) 0 (u8.wrap (i64.wrap (97 + i)))) (0 + j))) i) with
 | none => none
 | some r => (
 match (space_Space_Open_m (bytesOf 1 (fun j => (upd (fun _ => 0) 0 (u8.wrap (i64.wrap (97 + i)))) (0 + j))) i s s1 ns s2 s3) with
 | none => none
 | some y => (
 let r1 := y.1.1
 let r2 := y.1.2.1
 let r3 := y.1.2.2.1
 let o := y.2.1.1
 let o1 := y.2.1.2.1
 let no := y.2.1.2.2.1.1
 let o2 := y.2.1.2.2.1.2
 let o3 := y.2.1.2.2.2
 bif (r1 != r.2.1) then (
 some (.inr (.inl ((false, ()), ()))))
 else (
 bif (!(r2 == r.2.2.1)) then (
 some (.inr (.inl ((false, ()), ()))))
 else (
 bif (r.2.2.2 != r3) then (
 some (.inr (.inl ((false, ()), ()))))
 else (
 match (space_Space_Used_m i o o1 no o2 o3) with
 | none => none
 | some y1 => (
 let r4 := y1.1.1
 let o4 := y1.2.1.1
 let o5 := y1.2.1.2.1
 let no1 := y1.2.1.2.2.1.1
 let o6 := y1.2.1.2.2.1.2
 let o7 := y1.2.1.2.2.2
 match (r22_Used (r.1.1, (r.1.2.1, ((r.1.2.2.1.1, r.1.2.2.1.2), (r.1.2.2.2.1, r.1.2.2.2.2)))) i) with
 | none => none
 | some r5 => (
 bif (r4 != r5) then (
 some (.inr (.inl ((false, ()), ()))))
 else (
 some (.inl (((), ((), ((), ((i64.wrap (i + 1)), ())))), (size, ((o4, (o5, ((no1, o6), o7))), ((r.1.1, (r.1.2.1, ((r.1.2.2.1.1, r.1.2.2.1.2), (r.1.2.2.2.1, r.1.2.2.2.2)))), ()))))))))))))))
 else (
 some (.inr (.inr ((), ()))))
noncomputable def l22_SpaceOf' (size : NI) (nkeys : Nat) (keys : Nat → ByteArray) (nused : Nat) (used : Nat → Int) : Option (Unit) :=
 bif (decide (((nkeys : Nat) : Int) > 20)) then (
 match l22_awake with
 | none => none
 | some r => (
 bif r then (
 some ())
 else (
 none)))
 else (
 bif (decide (((nused : Nat) : Int) > 12)) then (
 match l22_awake with
 | none => none
 | some r1 => (
 bif r1 then (
 some ())
 else (
 none)))
 else (
 match (loopF R_l22_SpaceOf_0 (((nkeys, keys), ((nused, used), ((), (0, ())))), (size, ()))) with
 | none => none
 | some y => (
 match y with
 | .inl y1 => (
 let t := y1.1.1
 bif t then (
 some ())
 else (
 none))
 | .inr y1 => (
 let nkeys1 := y1.1.1.1
 let keys1 := y1.1.1.2
 let nused1 := y1.1.2.1.1
 let used1 := y1.1.2.1.2
 let size1 := y1.2.1
 match (space_Of_m (size1 0) (size1 1) nkeys1 keys1 nused1 used1) with
 | none => none
 | some y2 => (
 match y2 with
 | .inl y3 => (
 let r2 := y3.1.2.1
 bif (decide ((size1 0) ≥ 1)) then (
 bif (decide ((size1 0) ≤ 7)) then (
 bif (decide ((size1 1) ≥ 1)) then (
 bif (decide ((size1 1) ≤ 4)) then (
 match (loopF R_l22_SpaceOf_2 (((nkeys1, keys1), ((nused1, used1), ((), ((), (r2, ((((nused1 : Nat) : Int) == (i64.wrap ((size1 0) + (size1 1)))), ((), (0, ())))))))), (size1, (((size1 0), ((size1 1), ((nkeys1, keys1), (0, (fun _ => 0))))), ())))) with
 | none => none
 | some y4 => (
 let nkeys2 := y4.1.1.1
 let keys2 := y4.1.1.2
 let e := y4.1.2.2.2.1
 let may := y4.1.2.2.2.2.1
 let size2 := y4.2.1
 let m := y4.2.2.1.1
 let m1 := y4.2.2.1.2.1
 let nm := y4.2.2.1.2.2.1.1
 let m2 := y4.2.2.1.2.2.1.2
 let nm1 := y4.2.2.1.2.2.2.1
 let m3 := y4.2.2.1.2.2.2.2
 match (loopF R_l22_SpaceOf_6 (((nkeys2, keys2), ((), ((), (e, (may, ((), (0, ()))))))), (size2, ((m, (m1, ((nm, m2), (nm1, m3)))), ())))) with
 | none => none
 | some y5 => (
 let nkeys3 := y5.1.1.1
 let keys3 := y5.1.1.2
 let e1 := y5.1.2.2.2.1
 let may1 := y5.1.2.2.2.2.1
 let size3 := y5.2.1
 let m4 := y5.2.2.1.1
 let m5 := y5.2.2.1.2.1
 let nm2 := y5.2.2.1.2.2.1.1
 let m6 := y5.2.2.1.2.2.1.2
 let nm3 := y5.2.2.1.2.2.2.1
 let m7 := y5.2.2.1.2.2.2.2
 bif may1 then (
 bif (!(((nm3 : Nat) : Int) == ((nkeys3 : Nat) : Int))) then (
 bif (e1 == 1) then (
 match l22_awake with
 | none => none
 | some r3 => (
 bif r3 then (
 some ())
 else (
 none)))
 else (
 none))
 else (
 bif (e1 != 0) then (
 none)
 else (
 none)))
 else (
 bif (e1 == 1) then (
 match l22_awake with
 | none => none
 | some r4 => (
 bif r4 then (
 some ())
 else (
 none)))
 else (
 none)))))
 else (
 match (loopF R_l22_SpaceOf_2 (((nkeys1, keys1), ((nused1, used1), ((), ((), (r2, (false, ((), (0, ())))))))), (size1, (((size1 0), ((size1 1), ((nkeys1, keys1), (0, (fun _ => 0))))), ())))) with
 | none => none
 | some y6 => (
 let nkeys4 := y6.1.1.1
 let keys4 := y6.1.1.2
 let e2 := y6.1.2.2.2.1
 let may2 := y6.1.2.2.2.2.1
 let size4 := y6.2.1
 let m8 := y6.2.2.1.1
 let m9 := y6.2.2.1.2.1
 let nm4 := y6.2.2.1.2.2.1.1
 let m10 := y6.2.2.1.2.2.1.2
 let nm5 := y6.2.2.1.2.2.2.1
 let m11 := y6.2.2.1.2.2.2.2
 match (loopF R_l22_SpaceOf_6 (((nkeys4, keys4), ((), ((), (e2, (may2, ((), (0, ()))))))), (size4, ((m8, (m9, ((nm4, m10), (nm5, m11)))), ())))) with
 | none => none
 | some y7 => (
 let nkeys5 := y7.1.1.1
 let keys5 := y7.1.1.2
 let e3 := y7.1.2.2.2.1
 let may3 := y7.1.2.2.2.2.1
 let size5 := y7.2.1
 let m12 := y7.2.2.1.1
 let m13 := y7.2.2.1.2.1
 let nm6 := y7.2.2.1.2.2.1.1
 let m14 := y7.2.2.1.2.2.1.2
 let nm7 := y7.2.2.1.2.2.2.1
 let m15 := y7.2.2.1.2.2.2.2
 bif may3 then (
 bif (!(((nm7 : Nat) : Int) == ((nkeys5 : Nat) : Int))) then (
 bif (e3 == 1) then (
 match l22_awake with
 | none => none
 | some r5 => (
 bif r5 then (
 some ())
 else (
 none)))
 else (
 none))
 else (
 bif (e3 != 0) then (
 none)
 else (
 none)))
 else (
 bif (e3 == 1) then (
 match l22_awake with
 | none => none
 | some r6 => (
 bif r6 then (
 some ())
 else (
 none)))
 else (
 none))))))
 else (
 match (loopF R_l22_SpaceOf_2 (((nkeys1, keys1), ((nused1, used1), ((), ((), (r2, (false, ((), (0, ())))))))), (size1, (((size1 0), ((size1 1), ((nkeys1, keys1), (0, (fun _ => 0))))), ())))) with
 | none => none
 | some y8 => (
 let nkeys6 := y8.1.1.1
 let keys6 := y8.1.1.2
 let e4 := y8.1.2.2.2.1
 let may4 := y8.1.2.2.2.2.1
 let size6 := y8.2.1
 let m16 := y8.2.2.1.1
 let m17 := y8.2.2.1.2.1
 let nm8 := y8.2.2.1.2.2.1.1
 let m18 := y8.2.2.1.2.2.1.2
 let nm9 := y8.2.2.1.2.2.2.1
 let m19 := y8.2.2.1.2.2.2.2
 match (loopF R_l22_SpaceOf_6 (((nkeys6, keys6), ((), ((), (e4, (may4, ((), (0, ()))))))), (size6, ((m16, (m17, ((nm8, m18), (nm9, m19)))), ())))) with
 | none => none
 | some y9 => (
 let nkeys7 := y9.1.1.1
 let keys7 := y9.1.1.2
 let e5 := y9.1.2.2.2.1
 let may5 := y9.1.2.2.2.2.1
 let size7 := y9.2.1
 let m20 := y9.2.2.1.1
 let m21 := y9.2.2.1.2.1
 let nm10 := y9.2.2.1.2.2.1.1
 let m22 := y9.2.2.1.2.2.1.2
 let nm11 := y9.2.2.1.2.2.2.1
 let m23 := y9.2.2.1.2.2.2.2
 bif may5 then (
 bif (!(((nm11 : Nat) : Int) == ((nkeys7 : Nat) : Int))) then (
 bif (e5 == 1) then (
 match l22_awake with
 | none => none
 | some r7 => (
 bif r7 then (
 some ())
 else (
 none)))
 else (
 none))
 else (
 bif (e5 != 0) then (
 none)
 else (
 none)))
 else (
 bif (e5 == 1) then (
 match l22_awake with
 | none => none
 | some r8 => (
 bif r8 then (
 some ())
 else (
 none)))
 else (
 none))))))
 else (
 match (loopF R_l22_SpaceOf_2 (((nkeys1, keys1), ((nused1, used1), ((), ((), (r2, (false, ((), (0, ())))))))), (size1, (((size1 0), ((size1 1), ((nkeys1, keys1), (0, (fun _ => 0))))), ())))) with
 | none => none
 | some y10 => (
 let nkeys8 := y10.1.1.1
 let keys8 := y10.1.1.2
 let e6 := y10.1.2.2.2.1
 let may6 := y10.1.2.2.2.2.1
 let size8 := y10.2.1
 let m24 := y10.2.2.1.1
 let m25 := y10.2.2.1.2.1
 let nm12 := y10.2.2.1.2.2.1.1
 let m26 := y10.2.2.1.2.2.1.2
 let nm13 := y10.2.2.1.2.2.2.1
 let m27 := y10.2.2.1.2.2.2.2
 match (loopF R_l22_SpaceOf_6 (((nkeys8, keys8), ((), ((), (e6, (may6, ((), (0, ()))))))), (size8, ((m24, (m25, ((nm12, m26), (nm13, m27)))), ())))) with
 | none => none
 | some y11 => (
 let nkeys9 := y11.1.1.1
 let keys9 := y11.1.1.2
 let e7 := y11.1.2.2.2.1
 let may7 := y11.1.2.2.2.2.1
 let size9 := y11.2.1
 let m28 := y11.2.2.1.1
 let m29 := y11.2.2.1.2.1
 let nm14 := y11.2.2.1.2.2.1.1
 let m30 := y11.2.2.1.2.2.1.2
 let nm15 := y11.2.2.1.2.2.2.1
 let m31 := y11.2.2.1.2.2.2.2
 bif may7 then (
 bif (!(((nm15 : Nat) : Int) == ((nkeys9 : Nat) : Int))) then (
 bif (e7 == 1) then (
 match l22_awake with
 | none => none
 | some r9 => (
 bif r9 then (
 some ())
 else (
 none)))
 else (
 none))
 else (
 bif (e7 != 0) then (
 none)
 else (
 none)))
 else (
 bif (e7 == 1) then (
 match l22_awake with
 | none => none
 | some r10 => (
 bif r10 then (
 some ())
 else (
 none)))
 else (
 none))))))
 else (
 match (loopF R_l22_SpaceOf_2 (((nkeys1, keys1), ((nused1, used1), ((), ((), (r2, (false, ((), (0, ())))))))), (size1, (((size1 0), ((size1 1), ((nkeys1, keys1), (0, (fun _ => 0))))), ())))) with
 | none => none
 | some y12 => (
 let nkeys10 := y12.1.1.1
 let keys10 := y12.1.1.2
 let e8 := y12.1.2.2.2.1
 let may8 := y12.1.2.2.2.2.1
 let size10 := y12.2.1
 let m32 := y12.2.2.1.1
 let m33 := y12.2.2.1.2.1
 let nm16 := y12.2.2.1.2.2.1.1
 let m34 := y12.2.2.1.2.2.1.2
 let nm17 := y12.2.2.1.2.2.2.1
 let m35 := y12.2.2.1.2.2.2.2
 match (loopF R_l22_SpaceOf_6 (((nkeys10, keys10), ((), ((), (e8, (may8, ((), (0, ()))))))), (size10, ((m32, (m33, ((nm16, m34), (nm17, m35)))), ())))) with
 | none => none
 | some y13 => (
 let nkeys11 := y13.1.1.1
 let keys11 := y13.1.1.2
 let e9 := y13.1.2.2.2.1
 let may9 := y13.1.2.2.2.2.1
 let size11 := y13.2.1
 let m36 := y13.2.2.1.1
 let m37 := y13.2.2.1.2.1
 let nm18 := y13.2.2.1.2.2.1.1
 let m38 := y13.2.2.1.2.2.1.2
 let nm19 := y13.2.2.1.2.2.2.1
 let m39 := y13.2.2.1.2.2.2.2
 bif may9 then (
 bif (!(((nm19 : Nat) : Int) == ((nkeys11 : Nat) : Int))) then (
 bif (e9 == 1) then (
 match l22_awake with
 | none => none
 | some r11 => (
 bif r11 then (
 some ())
 else (
 none)))
 else (
 none))
 else (
 bif (e9 != 0) then (
 none)
 else (
 none)))
 else (
 bif (e9 == 1) then (
 match l22_awake with
 | none => none
 | some r12 => (
 bif r12 then (
 some ())
 else (
 none)))
 else (
 none))))))
 | .inr y3 => (
 let r13 := y3.1.2.1
 let o := y3.2.1.1
 let o1 := y3.2.1.2.1
 let no := y3.2.1.2.2.1.1
 let o2 := y3.2.1.2.2.1.2
 let o3 := y3.2.1.2.2.2
 bif (decide ((size1 0) ≥ 1)) then (
 bif (decide ((size1 0) ≤ 7)) then (
 bif (decide ((size1 1) ≥ 1)) then (
 bif (decide ((size1 1) ≤ 4)) then (
 match (loopF R_l22_SpaceOf_2_v1 (((nkeys1, keys1), ((nused1, used1), ((), ((), (r13, ((((nused1 : Nat) : Int) == (i64.wrap ((size1 0) + (size1 1)))), ((), (0, ())))))))), (size1, ((o, (o1, ((no, o2), o3))), (((size1 0), ((size1 1), ((nkeys1, keys1), (0, (fun _ => 0))))), ()))))) with
 | none => none
 | some y14 => (
 let nkeys12 := y14.1.1.1
 let keys12 := y14.1.1.2
 let e10 := y14.1.2.2.2.1
 let may10 := y14.1.2.2.2.2.1
 let size12 := y14.2.1
 let s := y14.2.2.1.1
 let s1 := y14.2.2.1.2.1
 let ns := y14.2.2.1.2.2.1.1
 let s2 := y14.2.2.1.2.2.1.2
 let s3 := y14.2.2.1.2.2.2
 let m40 := y14.2.2.2.1.1
 let m41 := y14.2.2.2.1.2.1
 let nm20 := y14.2.2.2.1.2.2.1.1
 let m42 := y14.2.2.2.1.2.2.1.2
 let nm21 := y14.2.2.2.1.2.2.2.1
 let m43 := y14.2.2.2.1.2.2.2.2
 match (loopF R_l22_SpaceOf_6_v1 (((nkeys12, keys12), ((), ((), (e10, (may10, ((), (0, ()))))))), (size12, ((s, (s1, ((ns, s2), s3))), ((m40, (m41, ((nm20, m42), (nm21, m43)))), ()))))) with
 | none => none
 | some y15 => (
 let nkeys13 := y15.1.1.1
 let keys13 := y15.1.1.2
 let e11 := y15.1.2.2.2.1
 let may11 := y15.1.2.2.2.2.1
 let size13 := y15.2.1
 let s4 := y15.2.2.1.1
 let s5 := y15.2.2.1.2.1
 let ns1 := y15.2.2.1.2.2.1.1
 let s6 := y15.2.2.1.2.2.1.2
 let s7 := y15.2.2.1.2.2.2
 let m44 := y15.2.2.2.1.1
 let m45 := y15.2.2.2.1.2.1
 let nm22 := y15.2.2.2.1.2.2.1.1
 let m46 := y15.2.2.2.1.2.2.1.2
 let nm23 := y15.2.2.2.1.2.2.2.1
 let m47 := y15.2.2.2.1.2.2.2.2
 bif may11 then (
 bif (!(((nm23 : Nat) : Int) == ((nkeys13 : Nat) : Int))) then (
 none)
 else (
 bif (e11 != 0) then (
 none)
 else (
 match (space_Space_Keys_m s4 s5 ns1 s6 s7) with
 | none => none
 | some y16 => (
 let nr := y16.1.1.1
 let r14 := y16.1.1.2
 let o4 := y16.2.1.1
 let o5 := y16.2.1.2.1
 let no1 := y16.2.1.2.2.1.1
 let o6 := y16.2.1.2.2.1.2
 let o7 := y16.2.1.2.2.2
 match (r22_Same nr r14 nkeys13 keys13) with
 | none => none
 | some r15 => (
 bif (!r15) then (
 none)
 else (
 match (loopF R_l22_SpaceOf_8 (((), ((), ((), (1, ())))), (size13, ((o4, (o5, ((no1, o6), o7))), ((m44, (m45, ((nm22, m46), (nm23, (fun j => m47 (0 + j)))))), ()))))) with
 | none => none
 | some y17 => (
 match y17 with
 | .inl y18 => (
 let t1 := y18.1.1
 bif t1 then (
 some ())
 else (
 none))
 | .inr y18 => (
 match l22_awake with
 | none => none
 | some r16 => (
 bif r16 then (
 some ())
 else (
 none))))))))))
 else (
 none))))
 else (
 match (loopF R_l22_SpaceOf_2_v1 (((nkeys1, keys1), ((nused1, used1), ((), ((), (r13, (false, ((), (0, ())))))))), (size1, ((o, (o1, ((no, o2), o3))), (((size1 0), ((size1 1), ((nkeys1, keys1), (0, (fun _ => 0))))), ()))))) with
 | none => none
 | some y19 => (
 let nkeys14 := y19.1.1.1
 let keys14 := y19.1.1.2
 let e12 := y19.1.2.2.2.1
 let may12 := y19.1.2.2.2.2.1
 let size14 := y19.2.1
 let s8 := y19.2.2.1.1
 let s9 := y19.2.2.1.2.1
 let ns2 := y19.2.2.1.2.2.1.1
 let s10 := y19.2.2.1.2.2.1.2
 let s11 := y19.2.2.1.2.2.2
 let m48 := y19.2.2.2.1.1
 let m49 := y19.2.2.2.1.2.1
 let nm24 := y19.2.2.2.1.2.2.1.1
 let m50 := y19.2.2.2.1.2.2.1.2
 let nm25 := y19.2.2.2.1.2.2.2.1
 let m51 := y19.2.2.2.1.2.2.2.2
 match (loopF R_l22_SpaceOf_6_v1 (((nkeys14, keys14), ((), ((), (e12, (may12, ((), (0, ()))))))), (size14, ((s8, (s9, ((ns2, s10), s11))), ((m48, (m49, ((nm24, m50), (nm25, m51)))), ()))))) with
 | none => none
 | some y20 => (
 let nkeys15 := y20.1.1.1
 let keys15 := y20.1.1.2
 let e13 := y20.1.2.2.2.1
 let may13 := y20.1.2.2.2.2.1
 let size15 := y20.2.1
 let s12 := y20.2.2.1.1
 let s13 := y20.2.2.1.2.1
 let ns3 := y20.2.2.1.2.2.1.1
 let s14 := y20.2.2.1.2.2.1.2
 let s15 := y20.2.2.1.2.2.2
 let m52 := y20.2.2.2.1.1
 let m53 := y20.2.2.2.1.2.1
 let nm26 := y20.2.2.2.1.2.2.1.1
 let m54 := y20.2.2.2.1.2.2.1.2
 let nm27 := y20.2.2.2.1.2.2.2.1
 let m55 := y20.2.2.2.1.2.2.2.2
 bif may13 then (
 bif (!(((nm27 : Nat) : Int) == ((nkeys15 : Nat) : Int))) then (
 none)
 else (
 bif (e13 != 0) then (
 none)
 else (
 match (space_Space_Keys_m s12 s13 ns3 s14 s15) with
 | none => none
 | some y21 => (
 let nr1 := y21.1.1.1
 let r17 := y21.1.1.2
 let o8 := y21.2.1.1
 let o9 := y21.2.1.2.1
 let no2 := y21.2.1.2.2.1.1
 let o10 := y21.2.1.2.2.1.2
 let o11 := y21.2.1.2.2.2
 match (r22_Same nr1 r17 nkeys15 keys15) with
 | none => none
 | some r18 => (
 bif (!r18) then (
 none)
 else (
 match (loopF R_l22_SpaceOf_8 (((), ((), ((), (1, ())))), (size15, ((o8, (o9, ((no2, o10), o11))), ((m52, (m53, ((nm26, m54), (nm27, (fun j => m55 (0 + j)))))), ()))))) with
 | none => none
 | some y22 => (
 match y22 with
 | .inl y23 => (
 let t2 := y23.1.1
 bif t2 then (
 some ())
 else (
 none))
 | .inr y23 => (
 match l22_awake with
 | none => none
 | some r19 => (
 bif r19 then (
 some ())
 else (
 none))))))))))
 else (
 none)))))
 else (
 match (loopF R_l22_SpaceOf_2_v1 (((nkeys1, keys1), ((nused1, used1), ((), ((), (r13, (false, ((), (0, ())))))))), (size1, ((o, (o1, ((no, o2), o3))), (((size1 0), ((size1 1), ((nkeys1, keys1), (0, (fun _ => 0))))), ()))))) with
 | none => none
 | some y24 => (
 let nkeys16 := y24.1.1.1
 let keys16 := y24.1.1.2
 let e14 := y24.1.2.2.2.1
 let may14 := y24.1.2.2.2.2.1
 let size16 := y24.2.1
 let s16 := y24.2.2.1.1
 let s17 := y24.2.2.1.2.1
 let ns4 := y24.2.2.1.2.2.1.1
 let s18 := y24.2.2.1.2.2.1.2
 let s19 := y24.2.2.1.2.2.2
 let m56 := y24.2.2.2.1.1
 let m57 := y24.2.2.2.1.2.1
 let nm28 := y24.2.2.2.1.2.2.1.1
 let m58 := y24.2.2.2.1.2.2.1.2
 let nm29 := y24.2.2.2.1.2.2.2.1
 let m59 := y24.2.2.2.1.2.2.2.2
 match (loopF R_l22_SpaceOf_6_v1 (((nkeys16, keys16), ((), ((), (e14, (may14, ((), (0, ()))))))), (size16, ((s16, (s17, ((ns4, s18), s19))), ((m56, (m57, ((nm28, m58), (nm29, m59)))), ()))))) with
 | none => none
 | some y25 => (
 let nkeys17 := y25.1.1.1
 let keys17 := y25.1.1.2
 let e15 := y25.1.2.2.2.1
 let may15 := y25.1.2.2.2.2.1
 let size17 := y25.2.1
 let s20 := y25.2.2.1.1
 let s21 := y25.2.2.1.2.1
 let ns5 := y25.2.2.1.2.2.1.1
 let s22 := y25.2.2.1.2.2.1.2
 let s23 := y25.2.2.1.2.2.2
 let m60 := y25.2.2.2.1.1
 let m61 := y25.2.2.2.1.2.1
 let nm30 := y25.2.2.2.1.2.2.1.1
 let m62 := y25.2.2.2.1.2.2.1.2
 let nm31 := y25.2.2.2.1.2.2.2.1
 let m63 := y25.2.2.2.1.2.2.2.2
 bif may15 then (
 bif (!(((nm31 : Nat) : Int) == ((nkeys17 : Nat) : Int))) then (
 none)
 else (
 bif (e15 != 0) then (
 none)
 else (
 match (space_Space_Keys_m s20 s21 ns5 s22 s23) with
 | none => none
 | some y26 => (
 let nr2 := y26.1.1.1
 let r20 := y26.1.1.2
 let o12 := y26.2.1.1
 let o13 := y26.2.1.2.1
 let no3 := y26.2.1.2.2.1.1
 let o14 := y26.2.1.2.2.1.2
 let o15 := y26.2.1.2.2.2
 match (r22_Same nr2 r20 nkeys17 keys17) with
 | none => none
 | some r21 => (
 bif (!r21) then (
 none)
 else (
 match (loopF R_l22_SpaceOf_8 (((), ((), ((), (1, ())))), (size17, ((o12, (o13, ((no3, o14), o15))), ((m60, (m61, ((nm30, m62), (nm31, (fun j => m63 (0 + j)))))), ()))))) with
 | none => none
 | some y27 => (
 match y27 with
 | .inl y28 => (
 let t3 := y28.1.1
 bif t3 then (
 some ())
 else (
 none))
 | .inr y28 => (
 match l22_awake with
 | none => none
 | some r22 => (
 bif r22 then (
 some ())
 else (
 none))))))))))
 else (
 none)))))
 else (
 match (loopF R_l22_SpaceOf_2_v1 (((nkeys1, keys1), ((nused1, used1), ((), ((), (r13, (false, ((), (0, ())))))))), (size1, ((o, (o1, ((no, o2), o3))), (((size1 0), ((size1 1), ((nkeys1, keys1), (0, (fun _ => 0))))), ()))))) with
 | none => none
 | some y29 => (
 let nkeys18 := y29.1.1.1
 let keys18 := y29.1.1.2
 let e16 := y29.1.2.2.2.1
 let may16 := y29.1.2.2.2.2.1
 let size18 := y29.2.1
 let s24 := y29.2.2.1.1
 let s25 := y29.2.2.1.2.1
 let ns6 := y29.2.2.1.2.2.1.1
 let s26 := y29.2.2.1.2.2.1.2
 let s27 := y29.2.2.1.2.2.2
 let m64 := y29.2.2.2.1.1
 let m65 := y29.2.2.2.1.2.1
 let nm32 := y29.2.2.2.1.2.2.1.1
 let m66 := y29.2.2.2.1.2.2.1.2
 let nm33 := y29.2.2.2.1.2.2.2.1
 let m67 := y29.2.2.2.1.2.2.2.2
 match (loopF R_l22_SpaceOf_6_v1 (((nkeys18, keys18), ((), ((), (e16, (may16, ((), (0, ()))))))), (size18, ((s24, (s25, ((ns6, s26), s27))), ((m64, (m65, ((nm32, m66), (nm33, m67)))), ()))))) with
 | none => none
 | some y30 => (
 let nkeys19 := y30.1.1.1
 let keys19 := y30.1.1.2
 let e17 := y30.1.2.2.2.1
 let may17 := y30.1.2.2.2.2.1
 let size19 := y30.2.1
 let s28 := y30.2.2.1.1
 let s29 := y30.2.2.1.2.1
 let ns7 := y30.2.2.1.2.2.1.1
 let s30 := y30.2.2.1.2.2.1.2
 let s31 := y30.2.2.1.2.2.2
 let m68 := y30.2.2.2.1.1
 let m69 := y30.2.2.2.1.2.1
 let nm34 := y30.2.2.2.1.2.2.1.1
 let m70 := y30.2.2.2.1.2.2.1.2
 let nm35 := y30.2.2.2.1.2.2.2.1
 let m71 := y30.2.2.2.1.2.2.2.2
 bif may17 then (
 bif (!(((nm35 : Nat) : Int) == ((nkeys19 : Nat) : Int))) then (
 none)
 else (
 bif (e17 != 0) then (
 none)
 else (
 match (space_Space_Keys_m s28 s29 ns7 s30 s31) with
 | none => none
 | some y31 => (
 let nr3 := y31.1.1.1
 let r23 := y31.1.1.2
 let o16 := y31.2.1.1
 let o17 := y31.2.1.2.1
 let no4 := y31.2.1.2.2.1.1
 let o18 := y31.2.1.2.2.1.2
 let o19 := y31.2.1.2.2.2
 match (r22_Same nr3 r23 nkeys19 keys19) with
 | none => none
 | some r24 => (
 bif (!r24) then (
 none)
 else (
 match (loopF R_l22_SpaceOf_8 (((), ((), ((), (1, ())))), (size19, ((o16, (o17, ((no4, o18), o19))), ((m68, (m69, ((nm34, m70), (nm35, (fun j => m71 (0 + j)))))), ()))))) with
 | none => none
 | some y32 => (
 match y32 with
 | .inl y33 => (
 let t4 := y33.1.1
 bif t4 then (
 some ())
 else (
 none))
 | .inr y33 => (
 match l22_awake with
 | none => none
 | some r25 => (
 bif r25 then (
 some ())
 else (
 none))))))))))
 else (
 none)))))
 else (
 match (loopF R_l22_SpaceOf_2_v1 (((nkeys1, keys1), ((nused1, used1), ((), ((), (r13, (false, ((), (0, ())))))))), (size1, ((o, (o1, ((no, o2), o3))), (((size1 0), ((size1 1), ((nkeys1, keys1), (0, (fun _ => 0))))), ()))))) with
 | none => none
 | some y34 => (
 let nkeys20 := y34.1.1.1
 let keys20 := y34.1.1.2
 let e18 := y34.1.2.2.2.1
 let may18 := y34.1.2.2.2.2.1
 let size20 := y34.2.1
 let s32 := y34.2.2.1.1
 let s33 := y34.2.2.1.2.1
 let ns8 := y34.2.2.1.2.2.1.1
 let s34 := y34.2.2.1.2.2.1.2
 let s35 := y34.2.2.1.2.2.2
 let m72 := y34.2.2.2.1.1
 let m73 := y34.2.2.2.1.2.1
 let nm36 := y34.2.2.2.1.2.2.1.1
 let m74 := y34.2.2.2.1.2.2.1.2
 let nm37 := y34.2.2.2.1.2.2.2.1
 let m75 := y34.2.2.2.1.2.2.2.2
 match (loopF R_l22_SpaceOf_6_v1 (((nkeys20, keys20), ((), ((), (e18, (may18, ((), (0, ()))))))), (size20, ((s32, (s33, ((ns8, s34), s35))), ((m72, (m73, ((nm36, m74), (nm37, m75)))), ()))))) with
 | none => none
 | some y35 => (
 let nkeys21 := y35.1.1.1
 let keys21 := y35.1.1.2
 let e19 := y35.1.2.2.2.1
 let may19 := y35.1.2.2.2.2.1
 let size21 := y35.2.1
 let s36 := y35.2.2.1.1
 let s37 := y35.2.2.1.2.1
 let ns9 := y35.2.2.1.2.2.1.1
 let s38 := y35.2.2.1.2.2.1.2
 let s39 := y35.2.2.1.2.2.2
 let m76 := y35.2.2.2.1.1
 let m77 := y35.2.2.2.1.2.1
 let nm38 := y35.2.2.2.1.2.2.1.1
 let m78 := y35.2.2.2.1.2.2.1.2
 let nm39 := y35.2.2.2.1.2.2.2.1
 let m79 := y35.2.2.2.1.2.2.2.2
 bif may19 then (
 bif (!(((nm39 : Nat) : Int) == ((nkeys21 : Nat) : Int))) then (
 none)
 else (
 bif (e19 != 0) then (
 none)
 else (
 match (space_Space_Keys_m s36 s37 ns9 s38 s39) with
 | none => none
 | some y36 => (
 let nr4 := y36.1.1.1
 let r26 := y36.1.1.2
 let o20 := y36.2.1.1
 let o21 := y36.2.1.2.1
 let no5 := y36.2.1.2.2.1.1
 let o22 := y36.2.1.2.2.1.2
 let o23 := y36.2.1.2.2.2
 match (r22_Same nr4 r26 nkeys21 keys21) with
 | none => none
 | some r27 => (
 bif (!r27) then (
 none)
 else (
 match (loopF R_l22_SpaceOf_8 (((), ((), ((), (1, ())))), (size21, ((o20, (o21, ((no5, o22), o23))), ((m76, (m77, ((nm38, m78), (nm39, (fun j => m79 (0 + j)))))), ()))))) with
 | none => none
 | some y37 => (
 match y37 with
 | .inl y38 => (
 let t5 := y38.1.1
 bif t5 then (
 some ())
 else (
 none))
 | .inr y38 => (
 match l22_awake with
 | none => none
 | some r28 => (
 bif r28 then (
 some ())
 else (
 none))))))))))
 else (
 none))))))))))
end Go.Pl

namespace Go.Proofs.Ytejjdkhjdcjbbaa
abbrev S_l22_SpaceOf_0 : Shape := { sl := [(1, (.sz .str)), (2, (.sz tI)), (pc 3 (.arr 2 tI) 0), (pv 7 tI)], ob := [(pv 0 (.arr 2 tI))], lo := 1, nx := 1 }
abbrev E_l22_SpaceOf_0 : List Ex := [(.ret, { sl := [(6, (.v .bool))], ob := [], lo := 1, nx := 1 }), (.normal, { sl := [(1, (.sz .str)), (2, (.sz tI)), (pc 3 (.arr 2 tI) 0)], ob := [(pv 0 (.arr 2 tI))], lo := 1, nx := 1 })]
noncomputable def L_l22_SpaceOf_0 : Code := loopIn (bodyOf Try.f9) 0
noncomputable def P_l22_SpaceOf_0 : Lp := lpOf S_l22_SpaceOf_0 E_l22_SpaceOf_0 271 R_l22_SpaceOf_0
abbrev S_l22_SpaceOf_4 : Shape := { sl := [(1, (.sz .str)), (2, (.sz tI)), (pc 3 (.arr 2 tI) 0), (8, (.c ⟨(.ptr (.pair tI (.pair tI (.pair (.sl .str) .mp)))), .nil⟩)), (pv 9 tI), (10, (.v .bool)), (pc 11 (.pair tI (.pair tI (.pair (.sl .str) (.sl tI)))) 13), (pv 12 tI), (pv 13 tI)], ob := [(pv 0 (.arr 2 tI)), (13, (.p (.v tI) (.p (.v tI) (.p (.sz .str) (.w 3 tI 15)))))], lo := 15, nx := 16 }
abbrev E_l22_SpaceOf_4 : List Ex := [(.normal, { sl := [(1, (.sz .str)), (2, (.sz tI)), (pc 3 (.arr 2 tI) 0), (8, (.c ⟨(.ptr (.pair tI (.pair tI (.pair (.sl .str) .mp)))), .nil⟩)), (pv 9 tI), (10, (.v .bool)), (pc 11 (.pair tI (.pair tI (.pair (.sl .str) (.sl tI)))) 13), (pv 12 tI)], ob := [(pv 0 (.arr 2 tI)), (13, (.p (.v tI) (.p (.v tI) (.p (.sz .str) (.w 3 tI 16)))))], lo := 16, nx := 17 })]
noncomputable def L_l22_SpaceOf_4 : Code := loopIn (bodyOf Try.f9) 4
noncomputable def P_l22_SpaceOf_4 : Lp := lpOf S_l22_SpaceOf_4 E_l22_SpaceOf_4 271 R_l22_SpaceOf_4
abbrev S_l22_SpaceOf_2 : Shape := { sl := [(1, (.sz .str)), (2, (.sz tI)), (pc 3 (.arr 2 tI) 0), (8, (.c ⟨(.ptr (.pair tI (.pair tI (.pair (.sl .str) .mp)))), .nil⟩)), (pv 9 tI), (10, (.v .bool)), (pc 11 (.pair tI (.pair tI (.pair (.sl .str) (.sl tI)))) 13), (pv 12 tI)], ob := [(pv 0 (.arr 2 tI)), (13, (.p (.v tI) (.p (.v tI) (.p (.sz .str) (.w 3 tI 14)))))], lo := 14, nx := 15 }
abbrev E_l22_SpaceOf_2 : List Ex := [(.normal, { sl := [(1, (.sz .str)), (pc 3 (.arr 2 tI) 0), (8, (.c ⟨(.ptr (.pair tI (.pair tI (.pair (.sl .str) .mp)))), .nil⟩)), (pv 9 tI), (10, (.v .bool)), (pc 11 (.pair tI (.pair tI (.pair (.sl .str) (.sl tI)))) 13)], ob := [(pv 0 (.arr 2 tI)), (13, (.p (.v tI) (.p (.v tI) (.p (.sz .str) (.w 3 tI 15)))))], lo := 15, nx := 16 })]
noncomputable def L_l22_SpaceOf_2 : Code := loopIn (bodyOf Try.f9) 2
noncomputable def P_l22_SpaceOf_2 : Lp := lpOf S_l22_SpaceOf_2 E_l22_SpaceOf_2 271 R_l22_SpaceOf_2
abbrev S_l22_SpaceOf_6 : Shape := { sl := [(1, (.sz .str)), (pc 3 (.arr 2 tI) 0), (8, (.c ⟨(.ptr (.pair tI (.pair tI (.pair (.sl .str) .mp)))), .nil⟩)), (pv 9 tI), (10, (.v .bool)), (pc 11 (.pair tI (.pair tI (.pair (.sl .str) (.sl tI)))) 13), (pv 14 tI)], ob := [(pv 0 (.arr 2 tI)), (13, (.p (.v tI) (.p (.v tI) (.p (.sz .str) (.w 3 tI 16)))))], lo := 16, nx := 17 }
abbrev E_l22_SpaceOf_6 : List Ex := [(.normal, { sl := [(1, (.sz .str)), (pc 3 (.arr 2 tI) 0), (8, (.c ⟨(.ptr (.pair tI (.pair tI (.pair (.sl .str) .mp)))), .nil⟩)), (pv 9 tI), (10, (.v .bool)), (pc 11 (.pair tI (.pair tI (.pair (.sl .str) (.sl tI)))) 13)], ob := [(pv 0 (.arr 2 tI)), (13, (.p (.v tI) (.p (.v tI) (.p (.sz .str) (.w 3 tI 17)))))], lo := 17, nx := 18 })]
noncomputable def L_l22_SpaceOf_6 : Code := loopIn (bodyOf Try.f9) 6
noncomputable def P_l22_SpaceOf_6 : Lp := lpOf S_l22_SpaceOf_6 E_l22_SpaceOf_6 271 R_l22_SpaceOf_6
abbrev S_l22_SpaceOf_4_v1 : Shape := { sl := [(1, (.sz .str)), (2, (.sz tI)), (pc 3 (.arr 2 tI) 0), (pc 8 (.pair tI (.pair tI (.pair (.sl .str) .mp))) 2), (pv 9 tI), (10, (.v .bool)), (pc 11 (.pair tI (.pair tI (.pair (.sl .str) (.sl tI)))) 16), (pv 12 tI), (pv 13 tI)], ob := [(pv 0 (.arr 2 tI)), (2, (.p (.v tI) (.p (.v tI) (.p (.w 9 .str 20) (.m tI tI 21))))), (16, (.p (.v tI) (.p (.v tI) (.p (.sz .str) (.w 3 tI 22)))))], lo := 20, nx := 23 }
abbrev E_l22_SpaceOf_4_v1 : List Ex := [(.normal, { sl := [(1, (.sz .str)), (2, (.sz tI)), (pc 3 (.arr 2 tI) 0), (pc 8 (.pair tI (.pair tI (.pair (.sl .str) .mp))) 2), (pv 9 tI), (10, (.v .bool)), (pc 11 (.pair tI (.pair tI (.pair (.sl .str) (.sl tI)))) 16), (pv 12 tI)], ob := [(pv 0 (.arr 2 tI)), (2, (.p (.v tI) (.p (.v tI) (.p (.w 9 .str 23) (.m tI tI 24))))), (16, (.p (.v tI) (.p (.v tI) (.p (.sz .str) (.w 3 tI 25)))))], lo := 23, nx := 26 })]
noncomputable def L_l22_SpaceOf_4_v1 : Code := loopIn (bodyOf Try.f9) 4
noncomputable def P_l22_SpaceOf_4_v1 : Lp := lpOf S_l22_SpaceOf_4_v1 E_l22_SpaceOf_4_v1 271 R_l22_SpaceOf_4_v1
abbrev S_l22_SpaceOf_2_v1 : Shape := { sl := [(1, (.sz .str)), (2, (.sz tI)), (pc 3 (.arr 2 tI) 0), (pc 8 (.pair tI (.pair tI (.pair (.sl .str) .mp))) 2), (pv 9 tI), (10, (.v .bool)), (pc 11 (.pair tI (.pair tI (.pair (.sl .str) (.sl tI)))) 16), (pv 12 tI)], ob := [(pv 0 (.arr 2 tI)), (2, (.p (.v tI) (.p (.v tI) (.p (.w 9 .str 17) (.m tI tI 18))))), (16, (.p (.v tI) (.p (.v tI) (.p (.sz .str) (.w 3 tI 19)))))], lo := 17, nx := 20 }
abbrev E_l22_SpaceOf_2_v1 : List Ex := [(.normal, { sl := [(1, (.sz .str)), (pc 3 (.arr 2 tI) 0), (pc 8 (.pair tI (.pair tI (.pair (.sl .str) .mp))) 2), (pv 9 tI), (10, (.v .bool)), (pc 11 (.pair tI (.pair tI (.pair (.sl .str) (.sl tI)))) 16)], ob := [(pv 0 (.arr 2 tI)), (2, (.p (.v tI) (.p (.v tI) (.p (.w 9 .str 20) (.m tI tI 21))))), (16, (.p (.v tI) (.p (.v tI) (.p (.sz .str) (.w 3 tI 22)))))], lo := 20, nx := 23 })]
noncomputable def L_l22_SpaceOf_2_v1 : Code := loopIn (bodyOf Try.f9) 2
noncomputable def P_l22_SpaceOf_2_v1 : Lp := lpOf S_l22_SpaceOf_2_v1 E_l22_SpaceOf_2_v1 271 R_l22_SpaceOf_2_v1
abbrev S_l22_SpaceOf_6_v1 : Shape := { sl := [(1, (.sz .str)), (pc 3 (.arr 2 tI) 0), (pc 8 (.pair tI (.pair tI (.pair (.sl .str) .mp))) 2), (pv 9 tI), (10, (.v .bool)), (pc 11 (.pair tI (.pair tI (.pair (.sl .str) (.sl tI)))) 16), (pv 14 tI)], ob := [(pv 0 (.arr 2 tI)), (2, (.p (.v tI) (.p (.v tI) (.p (.w 9 .str 23) (.m tI tI 24))))), (16, (.p (.v tI) (.p (.v tI) (.p (.sz .str) (.w 3 tI 25)))))], lo := 23, nx := 26 }
abbrev E_l22_SpaceOf_6_v1 : List Ex := [(.normal, { sl := [(1, (.sz .str)), (pc 3 (.arr 2 tI) 0), (pc 8 (.pair tI (.pair tI (.pair (.sl .str) .mp))) 2), (pv 9 tI), (10, (.v .bool)), (pc 11 (.pair tI (.pair tI (.pair (.sl .str) (.sl tI)))) 16)], ob := [(pv 0 (.arr 2 tI)), (2, (.p (.v tI) (.p (.v tI) (.p (.w 9 .str 26) (.m tI tI 27))))), (16, (.p (.v tI) (.p (.v tI) (.p (.sz .str) (.w 3 tI 28)))))], lo := 26, nx := 29 })]
noncomputable def L_l22_SpaceOf_6_v1 : Code := loopIn (bodyOf Try.f9) 6
noncomputable def P_l22_SpaceOf_6_v1 : Lp := lpOf S_l22_SpaceOf_6_v1 E_l22_SpaceOf_6_v1 271 R_l22_SpaceOf_6_v1
abbrev S_l22_SpaceOf_8 : Shape := { sl := [(pc 3 (.arr 2 tI) 0), (pc 8 (.pair tI (.pair tI (.pair (.sl .str) .mp))) 2), (pc 11 (.pair tI (.pair tI (.pair (.sl .str) (.sl tI)))) 16), (pv 15 tI)], ob := [(pv 0 (.arr 2 tI)), (2, (.p (.v tI) (.p (.v tI) (.p (.w 9 .str 34) (.m tI tI 35))))), (16, (.p (.v tI) (.p (.v tI) (.p (.sz .str) (.sz tI)))))], lo := 34, nx := 36 }
abbrev E_l22_SpaceOf_8 : List Ex := [(.ret, { sl := [(6, (.v .bool))], ob := [], lo := 53, nx := 53 }), (.normal, { sl := [], ob := [], lo := 36, nx := 36 })]
noncomputable def L_l22_SpaceOf_8 : Code := loopIn (bodyOf Try.f9) 8
noncomputable def P_l22_SpaceOf_8 : Lp := lpOf S_l22_SpaceOf_8 E_l22_SpaceOf_8 271 R_l22_SpaceOf_8
noncomputable def x_l22_SpaceOf : Cx := { ti := ti, con := [(22, c_l22_awake), (35, c0j_), (31, c01_), (33, conIf 0 c0h_ c0i_), (32, c00_), (24, c04_), (25, conIf 0 c0b_ c0c_), (28, conIf 0 c0f_ c0g_), (29, c03_)], fns := [], un := 6 }
theorem xok_l22_SpaceOf : CxOk Try.prog x_l22_SpaceOf := CxOk.of mixed ti_ok (fc ⟨con_l22_awake, fc ⟨con0j_, fc ⟨con01_, fc ⟨conIf_ok con0h_ con0i_, fc ⟨con00_, fc ⟨con04_, fc ⟨conIf_ok con0b_ con0c_, fc ⟨conIf_ok con0f_ con0g_, fc ⟨con03_, fz⟩⟩⟩⟩⟩⟩⟩⟩⟩) fz
theorem r_l22_SpaceOf_0 (x : S_l22_SpaceOf_0.X) : denC x_l22_SpaceOf [] (denF x_l22_SpaceOf 8) L_l22_SpaceOf_0 (S_l22_SpaceOf_0.mkS 271 x) (kRound 0 S_l22_SpaceOf_0 E_l22_SpaceOf_0) = R_l22_SpaceOf_0 x := by kernel_rfl
theorem l_l22_SpaceOf_0 : LpOk Try.prog 0 (.loop L_l22_SpaceOf_0) P_l22_SpaceOf_0 := lpOf_ok xok_l22_SpaceOf 8 (lps_nil) S_l22_SpaceOf_0 E_l22_SpaceOf_0 271 R_l22_SpaceOf_0 (by decide) r_l22_SpaceOf_0
theorem r_l22_SpaceOf_4 (x : S_l22_SpaceOf_4.X) : denC x_l22_SpaceOf [] (denF x_l22_SpaceOf 8) L_l22_SpaceOf_4 (S_l22_SpaceOf_4.mkS 271 x) (kRound 4 S_l22_SpaceOf_4 E_l22_SpaceOf_4) = R_l22_SpaceOf_4 x := by kernel_rfl
theorem l_l22_SpaceOf_4 : LpOk Try.prog 4 (.loop L_l22_SpaceOf_4) P_l22_SpaceOf_4 := lpOf_ok xok_l22_SpaceOf 8 (lps_nil) S_l22_SpaceOf_4 E_l22_SpaceOf_4 271 R_l22_SpaceOf_4 (by decide) r_l22_SpaceOf_4
theorem r_l22_SpaceOf_2 (x : S_l22_SpaceOf_2.X) : denC x_l22_SpaceOf [(4, P_l22_SpaceOf_4)] (denF x_l22_SpaceOf 8) L_l22_SpaceOf_2 (S_l22_SpaceOf_2.mkS 271 x) (kRound 2 S_l22_SpaceOf_2 E_l22_SpaceOf_2) = R_l22_SpaceOf_2 x := by kernel_rfl
theorem l_l22_SpaceOf_2 : LpOk Try.prog 2 (.loop L_l22_SpaceOf_2) P_l22_SpaceOf_2 := lpOf_ok xok_l22_SpaceOf 8 (lps_of (by kernel_rfl) (lps_one l_l22_SpaceOf_4 (by kernel_rfl) fz)) S_l22_SpaceOf_2 E_l22_SpaceOf_2 271 R_l22_SpaceOf_2 (by decide) r_l22_SpaceOf_2
theorem r_l22_SpaceOf_6 (x : S_l22_SpaceOf_6.X) : denC x_l22_SpaceOf [] (denF x_l22_SpaceOf 8) L_l22_SpaceOf_6 (S_l22_SpaceOf_6.mkS 271 x) (kRound 6 S_l22_SpaceOf_6 E_l22_SpaceOf_6) = R_l22_SpaceOf_6 x := by kernel_rfl
theorem l_l22_SpaceOf_6 : LpOk Try.prog 6 (.loop L_l22_SpaceOf_6) P_l22_SpaceOf_6 := lpOf_ok xok_l22_SpaceOf 8 (lps_nil) S_l22_SpaceOf_6 E_l22_SpaceOf_6 271 R_l22_SpaceOf_6 (by decide) r_l22_SpaceOf_6
theorem r_l22_SpaceOf_4_v1 (x : S_l22_SpaceOf_4_v1.X) : denC x_l22_SpaceOf [] (denF x_l22_SpaceOf 8) L_l22_SpaceOf_4_v1 (S_l22_SpaceOf_4_v1.mkS 271 x) (kRound 4 S_l22_SpaceOf_4_v1 E_l22_SpaceOf_4_v1) = R_l22_SpaceOf_4_v1 x := by kernel_rfl
theorem l_l22_SpaceOf_4_v1 : LpOk Try.prog 4 (.loop L_l22_SpaceOf_4_v1) P_l22_SpaceOf_4_v1 := lpOf_ok xok_l22_SpaceOf 8 (lps_nil) S_l22_SpaceOf_4_v1 E_l22_SpaceOf_4_v1 271 R_l22_SpaceOf_4_v1 (by decide) r_l22_SpaceOf_4_v1
theorem r_l22_SpaceOf_2_v1 (x : S_l22_SpaceOf_2_v1.X) : denC x_l22_SpaceOf [(4, P_l22_SpaceOf_4_v1)] (denF x_l22_SpaceOf 8) L_l22_SpaceOf_2_v1 (S_l22_SpaceOf_2_v1.mkS 271 x) (kRound 2 S_l22_SpaceOf_2_v1 E_l22_SpaceOf_2_v1) = R_l22_SpaceOf_2_v1 x := by kernel_rfl
theorem l_l22_SpaceOf_2_v1 : LpOk Try.prog 2 (.loop L_l22_SpaceOf_2_v1) P_l22_SpaceOf_2_v1 := lpOf_ok xok_l22_SpaceOf 8 (lps_of (by kernel_rfl) (lps_one l_l22_SpaceOf_4_v1 (by kernel_rfl) fz)) S_l22_SpaceOf_2_v1 E_l22_SpaceOf_2_v1 271 R_l22_SpaceOf_2_v1 (by decide) r_l22_SpaceOf_2_v1
theorem r_l22_SpaceOf_6_v1 (x : S_l22_SpaceOf_6_v1.X) : denC x_l22_SpaceOf [] (denF x_l22_SpaceOf 8) L_l22_SpaceOf_6_v1 (S_l22_SpaceOf_6_v1.mkS 271 x) (kRound 6 S_l22_SpaceOf_6_v1 E_l22_SpaceOf_6_v1) = R_l22_SpaceOf_6_v1 x := by kernel_rfl
theorem l_l22_SpaceOf_6_v1 : LpOk Try.prog 6 (.loop L_l22_SpaceOf_6_v1) P_l22_SpaceOf_6_v1 := lpOf_ok xok_l22_SpaceOf 8 (lps_nil) S_l22_SpaceOf_6_v1 E_l22_SpaceOf_6_v1 271 R_l22_SpaceOf_6_v1 (by decide) r_l22_SpaceOf_6_v1
theorem r_l22_SpaceOf_8 (x : S_l22_SpaceOf_8.X) : denC x_l22_SpaceOf [] (denF x_l22_SpaceOf 8) L_l22_SpaceOf_8 (S_l22_SpaceOf_8.mkS 271 x) (kRound 8 S_l22_SpaceOf_8 E_l22_SpaceOf_8) = R_l22_SpaceOf_8 x := by kernel_rfl
theorem l_l22_SpaceOf_8 : LpOk Try.prog 8 (.loop L_l22_SpaceOf_8) P_l22_SpaceOf_8 := lpOf_ok xok_l22_SpaceOf 8 (lps_nil) S_l22_SpaceOf_8 E_l22_SpaceOf_8 271 R_l22_SpaceOf_8 (by decide) r_l22_SpaceOf_8
theorem fn_l22_SpaceOf : FnOk Try.prog 9 Try.f9 [(0, P_l22_SpaceOf_0), (4, (lpOr S_l22_SpaceOf_4 P_l22_SpaceOf_4 P_l22_SpaceOf_4_v1)), (2, (lpOr S_l22_SpaceOf_2 P_l22_SpaceOf_2 P_l22_SpaceOf_2_v1)), (6, (lpOr S_l22_SpaceOf_6 P_l22_SpaceOf_6 P_l22_SpaceOf_6_v1)), (8, (lpFz 16 [.R, .R, .R] P_l22_SpaceOf_8))] := ⟨Try.func9, Try.call9, lps_of (by kernel_rfl) (lps_one l_l22_SpaceOf_0 (by kernel_rfl) (lps_one (lpOr_ok l_l22_SpaceOf_4 l_l22_SpaceOf_4_v1) (by kernel_rfl) (lps_one (lpOr_ok l_l22_SpaceOf_2 l_l22_SpaceOf_2_v1) (by kernel_rfl) (lps_one (lpOr_ok l_l22_SpaceOf_6 l_l22_SpaceOf_6_v1) (by kernel_rfl) (lps_one (lpFz_ok 16 [.R, .R, .R] l_l22_SpaceOf_8) (by kernel_rfl) fz)))))⟩
theorem e_l22_SpaceOf (size : NI) (nkeys : Nat) (keys : Nat → ByteArray) (nused : Nat) (used : Nat → Int) : bodyK x_l22_SpaceOf [(0, P_l22_SpaceOf_0), (4, (lpOr S_l22_SpaceOf_4 P_l22_SpaceOf_4 P_l22_SpaceOf_4_v1)), (2, (lpOr S_l22_SpaceOf_2 P_l22_SpaceOf_2 P_l22_SpaceOf_2_v1)), (6, (lpOr S_l22_SpaceOf_6 P_l22_SpaceOf_6 P_l22_SpaceOf_6_v1)), (8, (lpFz 16 [.R, .R, .R] P_l22_SpaceOf_8))] (denF x_l22_SpaceOf 8) Try.f9 (domV [(.arr 2 tI), (.sl .str), (.sl tI)] (size, (nkeys, keys), (nused, used), ())) [] 0 kTrue = l22_SpaceOf' size nkeys keys nused used := by kernel_rfl
end Go.Proofs.Ytejjdkhjdcjbbaa

namespace Go.Pl
open Go Go.Den
theorem cnt_glue1 {α : Type} (p : α → Bool) (m : Nat → α) (z x : α) (n : Nat) : cnt p (glue n m (fun j => (upd (fun _ => z) 0 x) (0 + j))) (n + 1) = cnt p m n + if p x then 1 else 0 := by
  have hf : ∀ j, glue n m (fun j => (upd (fun _ => z) 0 x) (0 + j)) j = if j < n then m j else (upd (fun _ => z) 0 x) (0 + (j - n)) := by
    intro j
    unfold glue
    by_cases h : j < n
    · have : Nat.blt j n = true := Nat.ble_eq_true_of_le h
      rw [this, if_pos h]; rfl
    · have : Nat.blt j n = false := by
        cases hb : Nat.blt j n with
        | false => rfl
        | true => exact absurd (Nat.le_of_ble_eq_true hb) h
      rw [this, if_neg h]; rfl
  simp only [cnt, hf]
  rw [if_neg (Nat.lt_irrefl _), Nat.sub_self, Nat.zero_add, upd_same]
  congr 1
  exact cnt_congr fun i hi => by rw [hf, if_pos hi]
theorem so4 (nk : Nat) (keys : Nat → ByteArray) (nu : Nat) (used : Nat → Int) (er : Int) (may : Bool) (i : Nat) (size : Nat → Int) (a b : Int) (L0 : Nat) (m0 : Nat → Int) (hi : i < nu) (hn : nu ≤ 12) (hk : nk ≤ 20) (hL : L0 ≤ nk + 1) (hu : may = true → 0 ≤ used i) :
    ∃ L m, loopF R_l22_SpaceOf_4 (T_l22_SpaceOf_4 nk keys nu used er may (i : Int) 0 size a b nk keys L0 m0) = some (Y_l22_SpaceOf_4_0 nk keys nu used er may (i : Int) size a b nk keys L m) ∧
      L ≤ nk + 1 ∧ (may = true → L = min (L0 + (used i).toNat) (nk + 1) ∧ ∀ e, cnt (fun y => y == e) m L = cnt (fun y => y == e) m0 L0 + if e = ((i + 1 : Nat) : Int) then L - L0 else 0) := by
  cases may with
  | false =>
    refine ⟨L0, m0, ?_, hL, fun h => by cases h⟩
    by_cases h : 0 < used i
    · exact loopF_exit (by simp (disch := omega) only [R_l22_SpaceOf_4, T_l22_SpaceOf_4, WW, CC])
    · exact loopF_exit (by simp (disch := omega) only [R_l22_SpaceOf_4, T_l22_SpaceOf_4, WW, CC])
  | true =>
    obtain ⟨v, hv⟩ : ∃ v : Nat, used i = (v : Int) := ⟨(used i).toNat, by have := hu rfl; omega⟩
    obtain ⟨m, h1, h2⟩ := loop_for (R := R_l22_SpaceOf_4) (S := Nat → Int) (fun k m => T_l22_SpaceOf_4 nk keys nu used er true (i : Int) (k : Int) size a b nk keys (L0 + k) m)
      (fun m => Y_l22_SpaceOf_4_0 nk keys nu used er true (i : Int) size a b nk keys (L0 + min v (nk + 1 - L0)) m)
      (fun k m => ∀ e, cnt (fun y => y == e) m (L0 + k) = cnt (fun y => y == e) m0 L0 + if e = ((i + 1 : Nat) : Int) then k else 0) (min v (nk + 1 - L0))
      (fun k hk2 m hm => by
        have hble : ∀ a b : Nat, a ≤ b → Nat.ble a b = true := fun a b h => Nat.ble_eq_true_of_le h
        refine ⟨glue (L0 + k) m (fun j => (upd (fun _ => 0) 0 ((i + 1 : Nat) : Int)) (0 + j)), ?_, fun e => ?_⟩
        · simp (disch := omega) only [R_l22_SpaceOf_4, T_l22_SpaceOf_4, hv, WW, CC, hble, Bool.and_true, Nat.add_assoc]
        · rw [show L0 + (k + 1) = L0 + k + 1 from rfl, cnt_glue1, hm e]
          by_cases he : e = ((i + 1 : Nat) : Int)
          · rw [if_pos he, if_pos he, he]; simp; omega
          · rw [if_neg he, if_neg he, if_neg (by simp; omega)])
      (fun m hm => by
        by_cases h : v ≤ nk + 1 - L0
        · rw [Nat.min_eq_left h]
          simp (disch := omega) only [R_l22_SpaceOf_4, T_l22_SpaceOf_4, hv, WW, CC]
        · rw [Nat.min_eq_right (by omega)]
          simp (disch := omega) only [R_l22_SpaceOf_4, T_l22_SpaceOf_4, hv, WW, CC])
      m0 (fun e => by simp)
    refine ⟨L0 + min v (nk + 1 - L0), m, h1, by omega, fun _ => ⟨by rw [hv, Int.toNat_natCast]; omega, fun e => ?_⟩⟩
    rw [h2 e]
    congr 1
    split <;> omega
theorem so2 (nk : Nat) (keys : Nat → ByteArray) (nu : Nat) (used : Nat → Int) (er : Int) (may : Bool) (size : Nat → Int) (a b : Int) (hn : nu ≤ 12) (hk : nk ≤ 20) (hz : may = true → 1 ≤ a ∧ a ≤ 7 ∧ 1 ≤ b ∧ b ≤ 4) :
    ∃ may' L m, loopF R_l22_SpaceOf_2 (T_l22_SpaceOf_2 nk keys nu used er may 0 size a b nk keys 0 (fun _ => 0)) = some (Y_l22_SpaceOf_2_0 nk keys er may' size a b nk keys L m) ∧
      (may' = true → may = true ∧ uOk a b used nu ∧ L = min (sumU used nu) (nk + 1) ∧ (sumU used nu ≤ nk → ∀ e, ((cnt (fun y => y == e) m L : Nat) : Int) = usedAt used nu e)) ∧ (may' = false → may = true → ¬ uOk a b used nu) := by
  obtain ⟨y, h1, may', L, m, rfl, h2⟩ := loop_seek (R := R_l22_SpaceOf_2) (S := Bool × Nat × (Nat → Int)) (fun k s => T_l22_SpaceOf_2 nk keys nu used er s.1 (k : Int) size a b nk keys s.2.1 s.2.2)
    (fun k s => s.2.1 ≤ nk + 1 ∧ (s.1 = true → may = true ∧ uOk a b used k ∧ s.2.1 = min (sumU used k) (nk + 1) ∧ (sumU used k ≤ nk → ∀ e, ((cnt (fun y => y == e) s.2.2 s.2.1 : Nat) : Int) = usedAt used k e)) ∧ (s.1 = false → may = true → ¬ uOk a b used nu))
    (fun y => ∃ may' L m, y = Y_l22_SpaceOf_2_0 nk keys er may' size a b nk keys L m ∧ (may' = true → may = true ∧ uOk a b used nu ∧ L = min (sumU used nu) (nk + 1) ∧ (sumU used nu ≤ nk → ∀ e, ((cnt (fun y => y == e) m L : Nat) : Int) = usedAt used nu e)) ∧ (may' = false → may = true → ¬ uOk a b used nu)) nu
    (fun k hk2 s hs => by
      obtain ⟨mk, L, m⟩ := s
      obtain ⟨g0, g1, g2⟩ := hs
      simp only at g0 g1 g2
      cases mk with
      | false =>
        refine .inr ⟨_, ?_, false, L, m, rfl, (fun h => by cases h), g2⟩
        simp (disch := omega) only [R_l22_SpaceOf_2, T_l22_SpaceOf_2, WW, CC]
      | true =>
        obtain ⟨g3, g4, g5, g6⟩ := g1 rfl
        have hQ := rQuota_spec (a, (b, ((nk, keys), (L, fun j => m (0 + j))))) ((k + 1 : Nat) : Int) (hz g3)
        simp only at hQ
        by_cases u0 : used k ≥ 0
        · obtain ⟨L', m', l1, l2, l3⟩ := so4 nk keys nu used er (decide (used k ≤ quotaV a b ((k + 1 : Nat) : Int))) k size a b L m hk2 hn hk g0 (fun _ => u0)
          have l1' : loopF R_l22_SpaceOf_4 (((nk, keys), ((nu, used), ((), ((), (er, ((decide (used k ≤ quotaV a b ((k + 1 : Nat) : Int))), ((), ((k : Int), (0, ()))))))))), (size, ((a, (b, ((nk, keys), (L, m)))), ()))) = some (Y_l22_SpaceOf_4_0 nk keys nu used er (decide (used k ≤ quotaV a b ((k + 1 : Nat) : Int))) (k : Int) size a b nk keys L' m') := l1
          refine .inl ⟨(decide (used k ≤ quotaV a b ((k + 1 : Nat) : Int)), L', m'), ?_, l2, fun h => ?_, fun h _ hu => ?_⟩
          · have hd : decide (used k ≥ 0) = true := dec_t u0
            simp (disch := omega) only [R_l22_SpaceOf_2, T_l22_SpaceOf_2, Y_l22_SpaceOf_4_0, Int.toNat_natCast, hd, hQ, l1', wrap_i64n, inb_t, dec_t, cond_t, CC]
          · simp only at h
            obtain ⟨l4, l5⟩ := l3 h
            have hq := of_decide_eq_true h
            have hu := quota_le (hz g3) ((k + 1 : Nat) : Int)
            refine ⟨g3, uOk_succ.2 ⟨g4, u0, hq⟩, by simp only [sumU]; omega, fun hle e => ?_⟩
            simp only [sumU] at hle
            have g7 := g6 (by omega) e
            rw [l5 e, usedAt_succ]
            by_cases he : e = ((k + 1 : Nat) : Int)
            · rw [if_pos he, if_pos he]
              have : usedAt used k e = 0 := by unfold usedAt; rw [if_neg (by omega)]
              omega
            · rw [if_neg he, if_neg he]; omega
          · have := hu k hk2
            simp only at h
            have := of_decide_eq_false h
            omega
        · obtain ⟨L', m', l1, l2, l3⟩ := so4 nk keys nu used er false k size a b L m hk2 hn hk g0 (fun h => by cases h)
          have l1' : loopF R_l22_SpaceOf_4 (((nk, keys), ((nu, used), ((), ((), (er, (false, ((), ((k : Int), (0, ()))))))))), (size, ((a, (b, ((nk, keys), (L, m)))), ()))) = some (Y_l22_SpaceOf_4_0 nk keys nu used er false (k : Int) size a b nk keys L' m') := l1
          refine .inl ⟨(false, L', m'), ?_, l2, fun h => (by cases h), fun _ _ hu => ?_⟩
          · simp (disch := omega) only [R_l22_SpaceOf_2, T_l22_SpaceOf_2, Y_l22_SpaceOf_4_0, WW, l1', CC]
          · have := hu k hk2; omega)
    (fun s hs => by
      obtain ⟨mk, L, m⟩ := s
      obtain ⟨g0, g1, g2⟩ := hs
      refine ⟨_, ?_, mk, L, m, rfl, g1, g2⟩
      cases mk <;> simp (disch := omega) only [R_l22_SpaceOf_2, T_l22_SpaceOf_2, WW, CC])
    (may, 0, (fun _ => 0)) ⟨Nat.zero_le _, fun h => ⟨h, fun j hj => absurd hj (Nat.not_lt_zero _), by simp [sumU], fun _ e => by unfold usedAt; rw [if_neg (by omega)]; rfl⟩, fun h h2 => by simp only at h; rw [h] at h2; cases h2⟩
  exact ⟨may', L, m, h1, h2⟩
theorem so6 (nk : Nat) (keys : Nat → ByteArray) (er : Int) (may : Bool) (size : Nat → Int) (a b : Int) (L : Nat) (m : Nat → Int) (hk : nk ≤ 20) :
    ∃ may', loopF R_l22_SpaceOf_6 (T_l22_SpaceOf_6 nk keys er may 0 size a b nk keys L m) = some (Y_l22_SpaceOf_6_0 nk keys er may' size a b nk keys L m) ∧ (may' = true ↔ may = true ∧ kOk keys nk) := by
  obtain ⟨mk, h1, h2⟩ := loop_for (R := R_l22_SpaceOf_6) (S := Bool) (fun k mk => T_l22_SpaceOf_6 nk keys er mk (k : Int) size a b nk keys L m)
    (fun mk => Y_l22_SpaceOf_6_0 nk keys er mk size a b nk keys L m) (fun k mk => (mk = true ↔ may = true ∧ kOk keys k)) nk
    (fun k hk2 mk hm => by
      have no : ∀ {p : Prop}, (kOk keys (k + 1) → p) → ¬ p → ¬ (may = true ∧ kOk keys (k + 1)) := fun h1 h2 h3 => h2 (h1 h3.2)
      cases mk with
      | false =>
        refine ⟨false, ?_, ?_⟩
        · simp (disch := omega) only [R_l22_SpaceOf_6, T_l22_SpaceOf_6, WW, CC]
        · constructor
          · intro h; cases h
          · rintro ⟨h3, h4⟩; exact hm.2 ⟨h3, fun i hi => h4 i (by omega)⟩
      | true =>
        obtain ⟨h3, h4⟩ := hm.1 rfl
        by_cases g1 : 1 ≤ (keys k).size
        · by_cases g2 : (keys k).size ≤ 8
          · by_cases g3 : k = 0
            · refine ⟨true, ?_, ⟨fun _ => ⟨h3, fun i hi => ?_⟩, fun _ => rfl⟩⟩
              · subst g3
                have e0 : (((0 : Nat) : Int) == 0) = true := rfl
                simp (disch := omega) only [R_l22_SpaceOf_6, T_l22_SpaceOf_6, WW, CC, e0]
              · obtain rfl : i = k := by omega
                exact ⟨⟨g1, g2⟩, .inl g3⟩
            · refine ⟨lessT (keys (k - 1)) (keys k), ?_, ⟨fun h => ⟨h3, fun i hi => ?_⟩, fun h => ?_⟩⟩
              · simp (disch := omega) only [R_l22_SpaceOf_6, T_l22_SpaceOf_6, WW, CC, less_toList]
              · by_cases e : i = k
                · subst e; exact ⟨⟨g1, g2⟩, .inr h⟩
                · exact h4 i (by omega)
              · rcases (h.2 k (by omega)).2 with h | h
                · exact absurd h g3
                · exact h
          · refine ⟨false, ?_, ⟨fun h => (by cases h), fun h => absurd (h.2 k (by omega)).1.2 g2⟩⟩
            simp (disch := omega) only [R_l22_SpaceOf_6, T_l22_SpaceOf_6, WW, CC]
        · refine ⟨false, ?_, ⟨fun h => (by cases h), fun h => absurd (h.2 k (by omega)).1.1 g1⟩⟩
          simp (disch := omega) only [R_l22_SpaceOf_6, T_l22_SpaceOf_6, WW, CC])
    (fun mk _ => by simp (disch := omega) only [R_l22_SpaceOf_6, T_l22_SpaceOf_6, WW, CC]) may ⟨fun h => ⟨h, fun j hj => absurd hj (Nat.not_lt_zero _)⟩, fun h => h.1⟩
  exact ⟨mk, h1, h2⟩
theorem so4_v1 (nk : Nat) (keys : Nat → ByteArray) (nu : Nat) (used : Nat → Int) (er : Int) (may : Bool) (i : Nat) (size : Nat → Int) (z z1 : Int) (nz : Nat) (z2 : Nat → ByteArray) (z3 : List (Int × Int)) (a b : Int) (L0 : Nat) (m0 : Nat → Int) (hi : i < nu) (hn : nu ≤ 12) (hk : nk ≤ 20) (hL : L0 ≤ nk + 1) (hu : may = true → 0 ≤ used i) :
    ∃ L m, loopF R_l22_SpaceOf_4_v1 (T_l22_SpaceOf_4_v1 nk keys nu used er may (i : Int) 0 size z z1 nz z2 z3 a b nk keys L0 m0) = some (Y_l22_SpaceOf_4_v1_0 nk keys nu used er may (i : Int) size z z1 nz z2 z3 a b nk keys L m) ∧
      L ≤ nk + 1 ∧ (may = true → L = min (L0 + (used i).toNat) (nk + 1) ∧ ∀ e, cnt (fun y => y == e) m L = cnt (fun y => y == e) m0 L0 + if e = ((i + 1 : Nat) : Int) then L - L0 else 0) := by
  cases may with
  | false =>
    refine ⟨L0, m0, ?_, hL, fun h => by cases h⟩
    by_cases h : 0 < used i
    · exact loopF_exit (by simp (disch := omega) only [R_l22_SpaceOf_4_v1, T_l22_SpaceOf_4_v1, WW, CC])
    · exact loopF_exit (by simp (disch := omega) only [R_l22_SpaceOf_4_v1, T_l22_SpaceOf_4_v1, WW, CC])
  | true =>
    obtain ⟨v, hv⟩ : ∃ v : Nat, used i = (v : Int) := ⟨(used i).toNat, by have := hu rfl; omega⟩
    obtain ⟨m, h1, h2⟩ := loop_for (R := R_l22_SpaceOf_4_v1) (S := Nat → Int) (fun k m => T_l22_SpaceOf_4_v1 nk keys nu used er true (i : Int) (k : Int) size z z1 nz z2 z3 a b nk keys (L0 + k) m)
      (fun m => Y_l22_SpaceOf_4_v1_0 nk keys nu used er true (i : Int) size z z1 nz z2 z3 a b nk keys (L0 + min v (nk + 1 - L0)) m)
      (fun k m => ∀ e, cnt (fun y => y == e) m (L0 + k) = cnt (fun y => y == e) m0 L0 + if e = ((i + 1 : Nat) : Int) then k else 0) (min v (nk + 1 - L0))
      (fun k hk2 m hm => by
        have hble : ∀ a b : Nat, a ≤ b → Nat.ble a b = true := fun a b h => Nat.ble_eq_true_of_le h
        refine ⟨glue (L0 + k) m (fun j => (upd (fun _ => 0) 0 ((i + 1 : Nat) : Int)) (0 + j)), ?_, fun e => ?_⟩
        · simp (disch := omega) only [R_l22_SpaceOf_4_v1, T_l22_SpaceOf_4_v1, hv, WW, CC, hble, Bool.and_true, Nat.add_assoc]
        · rw [show L0 + (k + 1) = L0 + k + 1 from rfl, cnt_glue1, hm e]
          by_cases he : e = ((i + 1 : Nat) : Int)
          · rw [if_pos he, if_pos he, he]; simp; omega
          · rw [if_neg he, if_neg he, if_neg (by simp; omega)])
      (fun m hm => by
        by_cases h : v ≤ nk + 1 - L0
        · rw [Nat.min_eq_left h]
          simp (disch := omega) only [R_l22_SpaceOf_4_v1, T_l22_SpaceOf_4_v1, hv, WW, CC]
        · rw [Nat.min_eq_right (by omega)]
          simp (disch := omega) only [R_l22_SpaceOf_4_v1, T_l22_SpaceOf_4_v1, hv, WW, CC])
      m0 (fun e => by simp)
    refine ⟨L0 + min v (nk + 1 - L0), m, h1, by omega, fun _ => ⟨by rw [hv, Int.toNat_natCast]; omega, fun e => ?_⟩⟩
    rw [h2 e]
    congr 1
    split <;> omega
theorem so2_v1 (nk : Nat) (keys : Nat → ByteArray) (nu : Nat) (used : Nat → Int) (er : Int) (may : Bool) (size : Nat → Int) (z z1 : Int) (nz : Nat) (z2 : Nat → ByteArray) (z3 : List (Int × Int)) (a b : Int) (hn : nu ≤ 12) (hk : nk ≤ 20) (hz : may = true → 1 ≤ a ∧ a ≤ 7 ∧ 1 ≤ b ∧ b ≤ 4) :
    ∃ may' L m, loopF R_l22_SpaceOf_2_v1 (T_l22_SpaceOf_2_v1 nk keys nu used er may 0 size z z1 nz z2 z3 a b nk keys 0 (fun _ => 0)) = some (Y_l22_SpaceOf_2_v1_0 nk keys er may' size z z1 nz z2 z3 a b nk keys L m) ∧
      (may' = true → may = true ∧ uOk a b used nu ∧ L = min (sumU used nu) (nk + 1) ∧ (sumU used nu ≤ nk → ∀ e, ((cnt (fun y => y == e) m L : Nat) : Int) = usedAt used nu e)) ∧ (may' = false → may = true → ¬ uOk a b used nu) := by
  obtain ⟨y, h1, may', L, m, rfl, h2⟩ := loop_seek (R := R_l22_SpaceOf_2_v1) (S := Bool × Nat × (Nat → Int)) (fun k s => T_l22_SpaceOf_2_v1 nk keys nu used er s.1 (k : Int) size z z1 nz z2 z3 a b nk keys s.2.1 s.2.2)
    (fun k s => s.2.1 ≤ nk + 1 ∧ (s.1 = true → may = true ∧ uOk a b used k ∧ s.2.1 = min (sumU used k) (nk + 1) ∧ (sumU used k ≤ nk → ∀ e, ((cnt (fun y => y == e) s.2.2 s.2.1 : Nat) : Int) = usedAt used k e)) ∧ (s.1 = false → may = true → ¬ uOk a b used nu))
    (fun y => ∃ may' L m, y = Y_l22_SpaceOf_2_v1_0 nk keys er may' size z z1 nz z2 z3 a b nk keys L m ∧ (may' = true → may = true ∧ uOk a b used nu ∧ L = min (sumU used nu) (nk + 1) ∧ (sumU used nu ≤ nk → ∀ e, ((cnt (fun y => y == e) m L : Nat) : Int) = usedAt used nu e)) ∧ (may' = false → may = true → ¬ uOk a b used nu)) nu
    (fun k hk2 s hs => by
      obtain ⟨mk, L, m⟩ := s
      obtain ⟨g0, g1, g2⟩ := hs
      simp only at g0 g1 g2
      cases mk with
      | false =>
        refine .inr ⟨_, ?_, false, L, m, rfl, (fun h => by cases h), g2⟩
        simp (disch := omega) only [R_l22_SpaceOf_2_v1, T_l22_SpaceOf_2_v1, WW, CC]
      | true =>
        obtain ⟨g3, g4, g5, g6⟩ := g1 rfl
        have hQ := rQuota_spec (a, (b, ((nk, keys), (L, fun j => m (0 + j))))) ((k + 1 : Nat) : Int) (hz g3)
        simp only at hQ
        by_cases u0 : used k ≥ 0
        · obtain ⟨L', m', l1, l2, l3⟩ := so4_v1 nk keys nu used er (decide (used k ≤ quotaV a b ((k + 1 : Nat) : Int))) k size z z1 nz z2 z3 a b L m hk2 hn hk g0 (fun _ => u0)
          have l1' : loopF R_l22_SpaceOf_4_v1 (((nk, keys), ((nu, used), ((), ((), (er, ((decide (used k ≤ quotaV a b ((k + 1 : Nat) : Int))), ((), ((k : Int), (0, ()))))))))), (size, ((z, (z1, ((nz, z2), z3))), ((a, (b, ((nk, keys), (L, m)))), ())))) = some (Y_l22_SpaceOf_4_v1_0 nk keys nu used er (decide (used k ≤ quotaV a b ((k + 1 : Nat) : Int))) (k : Int) size z z1 nz z2 z3 a b nk keys L' m') := l1
          refine .inl ⟨(decide (used k ≤ quotaV a b ((k + 1 : Nat) : Int)), L', m'), ?_, l2, fun h => ?_, fun h _ hu => ?_⟩
          · have hd : decide (used k ≥ 0) = true := dec_t u0
            simp (disch := omega) only [R_l22_SpaceOf_2_v1, T_l22_SpaceOf_2_v1, Y_l22_SpaceOf_4_v1_0, Int.toNat_natCast, hd, hQ, l1', wrap_i64n, inb_t, dec_t, cond_t, CC]
          · simp only at h
            obtain ⟨l4, l5⟩ := l3 h
            have hq := of_decide_eq_true h
            have hu := quota_le (hz g3) ((k + 1 : Nat) : Int)
            refine ⟨g3, uOk_succ.2 ⟨g4, u0, hq⟩, by simp only [sumU]; omega, fun hle e => ?_⟩
            simp only [sumU] at hle
            have g7 := g6 (by omega) e
            rw [l5 e, usedAt_succ]
            by_cases he : e = ((k + 1 : Nat) : Int)
            · rw [if_pos he, if_pos he]
              have : usedAt used k e = 0 := by unfold usedAt; rw [if_neg (by omega)]
              omega
            · rw [if_neg he, if_neg he]; omega
          · have := hu k hk2
            simp only at h
            have := of_decide_eq_false h
            omega
        · obtain ⟨L', m', l1, l2, l3⟩ := so4_v1 nk keys nu used er false k size z z1 nz z2 z3 a b L m hk2 hn hk g0 (fun h => by cases h)
          have l1' : loopF R_l22_SpaceOf_4_v1 (((nk, keys), ((nu, used), ((), ((), (er, (false, ((), ((k : Int), (0, ()))))))))), (size, ((z, (z1, ((nz, z2), z3))), ((a, (b, ((nk, keys), (L, m)))), ())))) = some (Y_l22_SpaceOf_4_v1_0 nk keys nu used er false (k : Int) size z z1 nz z2 z3 a b nk keys L' m') := l1
          refine .inl ⟨(false, L', m'), ?_, l2, fun h => (by cases h), fun _ _ hu => ?_⟩
          · simp (disch := omega) only [R_l22_SpaceOf_2_v1, T_l22_SpaceOf_2_v1, Y_l22_SpaceOf_4_v1_0, WW, l1', CC]
          · have := hu k hk2; omega)
    (fun s hs => by
      obtain ⟨mk, L, m⟩ := s
      obtain ⟨g0, g1, g2⟩ := hs
      refine ⟨_, ?_, mk, L, m, rfl, g1, g2⟩
      cases mk <;> simp (disch := omega) only [R_l22_SpaceOf_2_v1, T_l22_SpaceOf_2_v1, WW, CC])
    (may, 0, (fun _ => 0)) ⟨Nat.zero_le _, fun h => ⟨h, fun j hj => absurd hj (Nat.not_lt_zero _), by simp [sumU], fun _ e => by unfold usedAt; rw [if_neg (by omega)]; rfl⟩, fun h h2 => by simp only at h; rw [h] at h2; cases h2⟩
  exact ⟨may', L, m, h1, h2⟩
theorem so6_v1 (nk : Nat) (keys : Nat → ByteArray) (er : Int) (may : Bool) (size : Nat → Int) (z z1 : Int) (nz : Nat) (z2 : Nat → ByteArray) (z3 : List (Int × Int)) (a b : Int) (L : Nat) (m : Nat → Int) (hk : nk ≤ 20) :
    ∃ may', loopF R_l22_SpaceOf_6_v1 (T_l22_SpaceOf_6_v1 nk keys er may 0 size z z1 nz z2 z3 a b nk keys L m) = some (Y_l22_SpaceOf_6_v1_0 nk keys er may' size z z1 nz z2 z3 a b nk keys L m) ∧ (may' = true ↔ may = true ∧ kOk keys nk) := by
  obtain ⟨mk, h1, h2⟩ := loop_for (R := R_l22_SpaceOf_6_v1) (S := Bool) (fun k mk => T_l22_SpaceOf_6_v1 nk keys er mk (k : Int) size z z1 nz z2 z3 a b nk keys L m)
    (fun mk => Y_l22_SpaceOf_6_v1_0 nk keys er mk size z z1 nz z2 z3 a b nk keys L m) (fun k mk => (mk = true ↔ may = true ∧ kOk keys k)) nk
    (fun k hk2 mk hm => by
      have no : ∀ {p : Prop}, (kOk keys (k + 1) → p) → ¬ p → ¬ (may = true ∧ kOk keys (k + 1)) := fun h1 h2 h3 => h2 (h1 h3.2)
      cases mk with
      | false =>
        refine ⟨false, ?_, ?_⟩
        · simp (disch := omega) only [R_l22_SpaceOf_6_v1, T_l22_SpaceOf_6_v1, WW, CC]
        · constructor
          · intro h; cases h
          · rintro ⟨h3, h4⟩; exact hm.2 ⟨h3, fun i hi => h4 i (by omega)⟩
      | true =>
        obtain ⟨h3, h4⟩ := hm.1 rfl
        by_cases g1 : 1 ≤ (keys k).size
        · by_cases g2 : (keys k).size ≤ 8
          · by_cases g3 : k = 0
            · refine ⟨true, ?_, ⟨fun _ => ⟨h3, fun i hi => ?_⟩, fun _ => rfl⟩⟩
              · subst g3
                have e0 : (((0 : Nat) : Int) == 0) = true := rfl
                simp (disch := omega) only [R_l22_SpaceOf_6_v1, T_l22_SpaceOf_6_v1, WW, CC, e0]
              · obtain rfl : i = k := by omega
                exact ⟨⟨g1, g2⟩, .inl g3⟩
            · refine ⟨lessT (keys (k - 1)) (keys k), ?_, ⟨fun h => ⟨h3, fun i hi => ?_⟩, fun h => ?_⟩⟩
              · simp (disch := omega) only [R_l22_SpaceOf_6_v1, T_l22_SpaceOf_6_v1, WW, CC, less_toList]
              · by_cases e : i = k
                · subst e; exact ⟨⟨g1, g2⟩, .inr h⟩
                · exact h4 i (by omega)
              · rcases (h.2 k (by omega)).2 with h | h
                · exact absurd h g3
                · exact h
          · refine ⟨false, ?_, ⟨fun h => (by cases h), fun h => absurd (h.2 k (by omega)).1.2 g2⟩⟩
            simp (disch := omega) only [R_l22_SpaceOf_6_v1, T_l22_SpaceOf_6_v1, WW, CC]
        · refine ⟨false, ?_, ⟨fun h => (by cases h), fun h => absurd (h.2 k (by omega)).1.1 g1⟩⟩
          simp (disch := omega) only [R_l22_SpaceOf_6_v1, T_l22_SpaceOf_6_v1, WW, CC])
    (fun mk _ => by simp (disch := omega) only [R_l22_SpaceOf_6_v1, T_l22_SpaceOf_6_v1, WW, CC]) may ⟨fun h => ⟨h, fun j hj => absurd hj (Nat.not_lt_zero _)⟩, fun h => h.1⟩
  exact ⟨mk, h1, h2⟩
theorem so0 (nk : Nat) (keys : Nat → ByteArray) (nu : Nat) (used : Nat → Int) (size : Nat → Int) (hk : nk ≤ 20) :
    ∃ y, loopF R_l22_SpaceOf_0 (T_l22_SpaceOf_0 nk keys nu used 0 size) = some y ∧ (y = Y_l22_SpaceOf_0_0 true ∨ y = Y_l22_SpaceOf_0_1 nk keys nu used size) := by
  refine loop_seek (R := R_l22_SpaceOf_0) (S := Unit) (fun k _ => T_l22_SpaceOf_0 nk keys nu used (k : Int) size) (fun _ _ => True) _ nk
    (fun k hk2 _ _ => ?_) (fun _ _ => ⟨_, ?_, .inr rfl⟩) () trivial
  · by_cases h : (((ByteArray.size (keys k)) : Nat) : Int) > 40
    · refine .inr ⟨_, ?_, .inl rfl⟩
      simp (disch := omega) only [R_l22_SpaceOf_0, T_l22_SpaceOf_0, WW, CC, dec_t h, awake22]
    · refine .inl ⟨(), ?_, trivial⟩
      simp (disch := omega) only [R_l22_SpaceOf_0, T_l22_SpaceOf_0, WW, CC, dec_f h]
  · simp (disch := omega) only [R_l22_SpaceOf_0, T_l22_SpaceOf_0, WW, CC]
theorem so8 (size : Nat → Int) {n : Nat} {f : Nat → ByteArray} {u : List (Int × Int)} {m : Nat → Int}
    (H : Agree (size 0) (size 1) n f u (size 0, (size 1, ((n, f), (n, (fun j => m (0 + j))))))) (hn : n ≤ 20) :
    loopF R_l22_SpaceOf_8 (T_l22_SpaceOf_8 1 size (size 0) (size 1) n f u (size 0) (size 1) n f n (fun j => m (0 + j))) = some Y_l22_SpaceOf_8_1 := by
  have hz := H.sz
  obtain ⟨N, hN⟩ : ∃ N : Nat, size 0 + size 1 = (N : Int) := ⟨(size 0 + size 1).toNat, by omega⟩
  obtain ⟨s, h1, h2⟩ := loop_for (R := R_l22_SpaceOf_8) (S := Nat × (Nat → ByteArray) × List (Int × Int) × R22)
    (fun k s => T_l22_SpaceOf_8 ((k + 1 : Nat) : Int) size (size 0) (size 1) s.1 s.2.1 s.2.2.1 (size 0) (size 1) s.2.2.2.2.2.1.1 s.2.2.2.2.2.1.2 s.2.2.2.2.2.2.1 s.2.2.2.2.2.2.2)
    (fun _ => Y_l22_SpaceOf_8_1) (fun k s => Agree (size 0) (size 1) s.1 s.2.1 s.2.2.1 s.2.2.2 ∧ s.1 ≤ 20 + k) N
    (fun k hk s hs => by
      obtain ⟨n, f, u, a, b, ⟨m, g⟩, m1, g1⟩ := s
      obtain ⟨H, hle⟩ := hs
      simp only at H hle
      have e1 : a = size 0 := H.e1
      have e2 : b = size 1 := H.e2
      subst e1 e2
      generalize hx : bytesOf 1 (fun j => (upd (fun _ => 0) 0 (IntKind.u8.wrap ((97 + (k + 1) : Nat) : Int))) (0 + j)) = x
      obtain ⟨i, fr, er, n', f', u', s', o1, o2, H', hle'⟩ := open_both H (by omega) x ((k + 1 : Nat) : Int)
      obtain ⟨a', b', ⟨m', g'⟩, m1', g1'⟩ := s'
      have e1 : a' = size 0 := H'.e1
      have e2 : b' = size 1 := H'.e2
      have e3 : m' = n' := H'.len
      have e4 : m1' = n' := H'.len2
      subst e1 e2 e3 e4
      have hU := rUsed_spec (size 0, (size 1, ((m1', g'), (m1', g1')))) (by show m1' < 1000000; omega) ((k + 1 : Nat) : Int)
      have hus := H'.uses ((k + 1 : Nat) : Int)
      simp only at hU hus
      have hUm : space_Space_Used_m ((k + 1 : Nat) : Int) (size 0) (size 1) m1' f' u' = some ((((cnt (fun y => y == ((k + 1 : Nat) : Int)) g1' m1' : Nat) : Int), ()), ((size 0, (size 1, ((m1', f'), u'))), ())) := by
        rw [space_Space_Used_m_eq, space_Space_Used_m', ← hus]
      refine ⟨(m1', f', u', size 0, size 1, (m1', g'), m1', g1'), ?_, H', by simp only; omega⟩
      have hd : decide (((k + 1 : Nat) : Int) ≤ IntKind.i64.wrap (size 0 + size 1)) = true := by rw [wrap_i64 (by omega)]; exact dec_t (by omega)
      unfold R_l22_SpaceOf_8
      cases fr <;>
        simp (disch := omega) only [T_l22_SpaceOf_8, hd, wrap_i64n, CC, cond_t, cond_f, tt_b, ff_b, Bool.not_true, hx, o1, o2, hU, hUm, bne_self_eq_false])
    (fun s _ => by
      have hd : decide (((N + 1 : Nat) : Int) ≤ IntKind.i64.wrap (size 0 + size 1)) = false := by rw [wrap_i64 (by omega)]; exact dec_f (by omega)
      unfold R_l22_SpaceOf_8
      simp only [T_l22_SpaceOf_8, hd, cond_f])
    (n, f, u, size 0, size 1, (n, f), n, (fun j => m (0 + j))) ⟨H, by simp only; omega⟩
  exact h1
theorem l22_SpaceOf_spec (size : Nat → Int) (nk : Nat) (keys : Nat → ByteArray) (nu : Nat) (used : Nat → Int) : l22_SpaceOf' size nk keys nu used = some () := by
  have e11 : ((1 : Int) == 1) = true := rfl
  rw [l22_SpaceOf']
  by_cases hk : nk ≤ 20
  · by_cases hn : nu ≤ 12
    · rw [dec_f (by omega), dec_f (by omega)]
      simp only [cond_f]
      obtain ⟨y, s1, s2⟩ := so0 nk keys nu used size hk
      have s1' : loopF R_l22_SpaceOf_0 (((nk, keys), ((nu, used), ((), (0, ())))), (size, ())) = some y := s1
      rw [s1']
      rcases s2 with rfl | rfl
      · rfl
      · simp only [Y_l22_SpaceOf_0_1]
        rcases Of_m_spec (size 0) (size 1) nk keys nu used hk hn with ⟨hb, hO⟩ | ⟨hb, u, hO, hu⟩
        · rw [hO]
          simp only [Y_space_Of_m_0]
          have dead : ∃ L m, loopF R_l22_SpaceOf_2 (((nk, keys), ((nu, used), ((), ((), (1, (false, ((), (0, ())))))))), (size, (((size 0), ((size 1), ((nk, keys), (0, (fun _ => 0))))), ()))) = some (Y_l22_SpaceOf_2_0 nk keys 1 false size (size 0) (size 1) nk keys L m) ∧
              loopF R_l22_SpaceOf_6 (((nk, keys), ((), ((), (1, (false, ((), (0, ()))))))), (size, (((size 0), ((size 1), ((nk, keys), (L, m)))), ()))) = some (Y_l22_SpaceOf_6_0 nk keys 1 false size (size 0) (size 1) nk keys L m) := by
            obtain ⟨m', L, m, h1, h2, _⟩ := so2 nk keys nu used 1 false size (size 0) (size 1) hn hk (fun h => by cases h)
            cases m' with
            | true => have := (h2 rfl).1; cases this
            | false =>
              obtain ⟨m'', h3, h4⟩ := so6 nk keys 1 false size (size 0) (size 1) L m hk
              cases m'' with
              | true => have := (h4.1 rfl).1; cases this
              | false => exact ⟨L, m, h1, h3⟩
          by_cases g1 : size 0 ≥ 1
          · by_cases g2 : size 0 ≤ 7
            · by_cases g3 : size 1 ≥ 1
              · by_cases g4 : size 1 ≤ 4
                · obtain ⟨m', L, m, h1, h2, _⟩ := so2 nk keys nu used 1 ((nu : Int) == IntKind.i64.wrap (size 0 + size 1)) size (size 0) (size 1) hn hk (fun _ => ⟨by omega, g2, g3, g4⟩)
                  have h1' : loopF R_l22_SpaceOf_2 (((nk, keys), ((nu, used), ((), ((), (1, (((nu : Int) == IntKind.i64.wrap (size 0 + size 1)), ((), (0, ())))))))), (size, (((size 0), ((size 1), ((nk, keys), (0, (fun _ => 0))))), ()))) = some (Y_l22_SpaceOf_2_0 nk keys 1 m' size (size 0) (size 1) nk keys L m) := h1
                  obtain ⟨m'', h3, h4⟩ := so6 nk keys 1 m' size (size 0) (size 1) L m hk
                  have h3' : loopF R_l22_SpaceOf_6 (((nk, keys), ((), ((), (1, (m', ((), (0, ()))))))), (size, (((size 0), ((size 1), ((nk, keys), (L, m)))), ()))) = some (Y_l22_SpaceOf_6_0 nk keys 1 m'' size (size 0) (size 1) nk keys L m) := h3
                  cases m'' with
                  | false => simp only [dec_t g1, dec_t g2, dec_t g3, dec_t g4, cond_t, cond_f, h1', h3', Y_l22_SpaceOf_2_0, Y_l22_SpaceOf_6_0, e11, awake22]
                  | true =>
                    have hL : ((L : Int) == (nk : Int)) = false := by
                      refine beq_f fun h => hb ?_
                      obtain ⟨k1, k2⟩ := h4.1 rfl
                      obtain ⟨k3, k4, k5, _⟩ := h2 k1
                      rw [wrap_i64 (x := size 0 + size 1) (by omega)] at k3
                      have k6 : (nu : Int) = size 0 + size 1 := eq_of_beq k3
                      exact ⟨⟨by omega, g2, g3, g4⟩, k6, k4, k2, by omega⟩
                    simp only [dec_t g1, dec_t g2, dec_t g3, dec_t g4, cond_t, cond_f, h1', h3', Y_l22_SpaceOf_2_0, Y_l22_SpaceOf_6_0, e11, awake22, hL, Bool.not_false]
                · obtain ⟨L, m, h1, h3⟩ := dead
                  simp only [dec_t g1, dec_t g2, dec_t g3, dec_f g4, cond_t, cond_f, h1, h3, Y_l22_SpaceOf_2_0, Y_l22_SpaceOf_6_0, e11, awake22]
              · obtain ⟨L, m, h1, h3⟩ := dead
                simp only [dec_t g1, dec_t g2, dec_f g3, cond_t, cond_f, h1, h3, Y_l22_SpaceOf_2_0, Y_l22_SpaceOf_6_0, e11, awake22]
            · obtain ⟨L, m, h1, h3⟩ := dead
              simp only [dec_t g1, dec_f g2, cond_t, cond_f, h1, h3, Y_l22_SpaceOf_2_0, Y_l22_SpaceOf_6_0, e11, awake22]
          · obtain ⟨L, m, h1, h3⟩ := dead
            simp only [dec_f g1, cond_t, cond_f, h1, h3, Y_l22_SpaceOf_2_0, Y_l22_SpaceOf_6_0, e11, awake22]
        · obtain ⟨hz, b1, b2, b3, b4⟩ := hb
          rw [hO]
          simp only [Y_space_Of_m_1]
          have hmay : ((nu : Int) == IntKind.i64.wrap (size 0 + size 1)) = true := by rw [wrap_i64 (x := size 0 + size 1) (by omega)]; exact beq_t b1
          obtain ⟨m', L, m, h1, h2, h5⟩ := so2_v1 nk keys nu used 0 true size (size 0) (size 1) nk keys u (size 0) (size 1) hn hk (fun _ => hz)
          cases m' with
          | false => exact absurd b2 (h5 rfl rfl)
          | true =>
            have h1' : loopF R_l22_SpaceOf_2_v1 (((nk, keys), ((nu, used), ((), ((), (0, (true, ((), (0, ())))))))), (size, ((size 0, (size 1, ((nk, keys), u))), (((size 0), ((size 1), ((nk, keys), (0, (fun _ => 0))))), ())))) = some (Y_l22_SpaceOf_2_v1_0 nk keys 0 true size (size 0) (size 1) nk keys u (size 0) (size 1) nk keys L m) := h1
            obtain ⟨_, _, k1, k2⟩ := h2 rfl
            have hL : L = nk := by omega
            subst hL
            obtain ⟨m'', h3, h4⟩ := so6_v1 L keys 0 true size (size 0) (size 1) L keys u (size 0) (size 1) L m hk
            cases m'' with
            | false => have := h4.2 ⟨rfl, b3⟩; cases this
            | true =>
              have h3' : loopF R_l22_SpaceOf_6_v1 (((L, keys), ((), ((), (0, (true, ((), (0, ()))))))), (size, ((size 0, (size 1, ((L, keys), u))), (((size 0), ((size 1), ((L, keys), (L, m)))), ())))) = some (Y_l22_SpaceOf_6_v1_0 L keys 0 true size (size 0) (size 1) L keys u (size 0) (size 1) L keys L m) := h3
              have hK : space_Space_Keys_m (size 0) (size 1) L keys u = some (((L, (fun j => keys (0 + j))), ()), ((size 0, (size 1, ((L, keys), u))), ())) := by
                rw [space_Space_Keys_m_eq, space_Space_Keys_m', Nat.ble_eq_true_of_le (by omega)]; rfl
              have hS : r22_Same L (fun j => keys (0 + j)) L keys = some true := same_spec (by omega) fun i hi => by
                show keys (0 + i) = keys i
                rw [Nat.zero_add]
              have em : (fun j => m (0 + j)) = m := funext fun j => by rw [Nat.zero_add]
              have h8 := so8 size (n := L) (f := keys) (u := u) (m := m) ⟨rfl, rfl, hz, rfl, rfl, kOk_sorted b3, fun p => rfl, fun e => by
                rw [hu e, em]; exact (k2 (by omega) e).symm⟩ hk
              have h8' : loopF R_l22_SpaceOf_8 (((), ((), ((), (1, ())))), (size, ((size 0, (size 1, ((L, keys), u))), (((size 0), ((size 1), ((L, keys), (L, (fun j => m (0 + j)))))), ())))) = some Y_l22_SpaceOf_8_1 := h8
              have eL : ((L : Int) == (L : Int)) = true := beq_t rfl
              have e0 : ((0 : Int) != 0) = false := rfl
              simp only [dec_t (show size 0 ≥ 1 from hz.1), dec_t hz.2.1, dec_t (show size 1 ≥ 1 from hz.2.2.1), dec_t hz.2.2.2, cond_t, cond_f, hmay, h1', h3', Y_l22_SpaceOf_2_v1_0, Y_l22_SpaceOf_6_v1_0, Y_l22_SpaceOf_8_1, eL, e0, Bool.not_true, hK, hS, h8', awake22]
    · rw [dec_f (by omega), dec_t (by omega)]
      simp only [WW, awake22]
  · rw [dec_t (by omega)]
    simp only [WW, awake22]
theorem l22_SpaceOf_true {size : Nat → Int} {nk : Nat} {keys : Nat → ByteArray} {nu : Nat} {used : Nat → Int} (hs : Go.Den.Good (.arr 2 (.int .i64)) size) (hk : Go.Den.Good (.sl .str) (.fz nk keys)) (hu : Go.Den.Good (.sl (.int .i64)) (.fz nu used)) : l22_SpaceOf' size nk keys nu used = some () :=
  l22_SpaceOf_spec size nk keys nu used
end Go.Pl
