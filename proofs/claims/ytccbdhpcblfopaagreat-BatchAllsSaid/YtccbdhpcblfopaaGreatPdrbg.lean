/-
  The functions of a package, plainly.
-/
import Derived.Test.YtccbdhpcblfopaaGreatDenI
import Derived.Test.YtccbdhpcblfopaaGreatPhmac
set_option linter.unusedVariables false
set_option linter.unusedSimpArgs false
set_option maxRecDepth 100000
set_option maxHeartbeats 0
namespace Go.Pl
end Go.Pl
open Go Go.Den Go.Pl
namespace Go.Pl
open Go.IntKind (i64 u64 u32 u8)
noncomputable def drbg_seeds' (x : ByteArray) : Option (Bool) :=
 bif (decide ((((ByteArray.size x) : Nat) : Int) ≥ 16)) then (
 some (decide ((((ByteArray.size x) : Nat) : Int) ≤ 1024)))
 else (
 some false)
noncomputable def drbg_seeds := veil drbg_seeds'
theorem drbg_seeds_eq : drbg_seeds = drbg_seeds' := veil_eq _
noncomputable def drbg_text' (nl : Nat) (l : Nat → ByteArray) : Option (ByteArray) :=
 match (strJoin nl l (ByteArray.mk #[])) with
 | none => none
 | some r => (
 some r)
noncomputable def drbg_text := veil drbg_text'
theorem drbg_text_eq : drbg_text = drbg_text' := veil_eq _
abbrev Y_drbg_Source_stirs_m_0 (o : (ByteArray × (ByteArray × Int))) := ((), (o, ()))
noncomputable def drbg_Source_stirs_m' (x1 : ByteArray) (s : (ByteArray × (ByteArray × Int))) : Option ((Unit × ((ByteArray × (ByteArray × Int)) × Unit))) :=
 match (drbg_text 3 (fun j => (upd (upd (upd (fun _ => ByteArray.empty) 0 s.2.1) 1 (ByteArray.mk #[0])) 2 x1) (0 + j))) with
 | none => none
 | some r => (
 match (hmac_Sum s.1 r) with
 | none => none
 | some r1 => (
 match (hmac_Sum r1 s.2.1) with
 | none => none
 | some r2 => (
 bif (sEq x1 (ByteArray.mk #[])) then (
 some ((), ((r1, (r2, s.2.2)), ())))
 else (
 match (drbg_text 3 (fun j => (upd (upd (upd (fun _ => ByteArray.empty) 0 r2) 1 (ByteArray.mk #[1])) 2 x1) (0 + j))) with
 | none => none
 | some r3 => (
 match (hmac_Sum r1 r3) with
 | none => none
 | some r4 => (
 match (hmac_Sum r4 r2) with
 | none => none
 | some r5 => (
 some ((), ((r4, (r5, s.2.2)), ())))))))))
noncomputable def drbg_Source_stirs_m := veil drbg_Source_stirs_m'
theorem drbg_Source_stirs_m_eq : drbg_Source_stirs_m = drbg_Source_stirs_m' := veil_eq _
noncomputable def drbg_Source_stirs' (s : (Option (ByteArray × (ByteArray × Int)))) (x : ByteArray) : Option (Unit) :=
 match s with
 | none => (
 none)
 | some s0 => (
 match (drbg_text 3 (fun j => (upd (upd (upd (fun _ => ByteArray.empty) 0 s0.2.1) 1 (ByteArray.mk #[0])) 2 x) (0 + j))) with
 | none => none
 | some r => (
 match (hmac_Sum s0.1 r) with
 | none => none
 | some r1 => (
 none)))
noncomputable def drbg_Source_stirs := veil drbg_Source_stirs'
theorem drbg_Source_stirs_eq : drbg_Source_stirs = drbg_Source_stirs' := veil_eq _
abbrev Y_drbg_New_m_0 (seed : Int) : (((Unit × (Int × Unit)) × Unit) ⊕ ((Unit × (Int × Unit)) × ((ByteArray × (ByteArray × Int)) × Unit))) := (.inl (((), (seed, ())), ()))
abbrev Y_drbg_New_m_1 (seed : Int) (o : (ByteArray × (ByteArray × Int))) : (((Unit × (Int × Unit)) × Unit) ⊕ ((Unit × (Int × Unit)) × ((ByteArray × (ByteArray × Int)) × Unit))) := (.inr (((), (seed, ())), (o, ())))
noncomputable def drbg_New_m' (seed : ByteArray) : Option ((((Unit × (Int × Unit)) × Unit) ⊕ ((Unit × (Int × Unit)) × ((ByteArray × (ByteArray × Int)) × Unit)))) :=
 match (drbg_seeds seed) with
 | none => none
 | some r => (
 bif (!r) then (
 some (.inl (((), (1, ())), ())))
 else (
 match (strRepeat (ByteArray.mk #[0]) 32) with
 | none => none
 | some r1 => (
 match (strRepeat (ByteArray.mk #[1]) 32) with
 | none => none
 | some r2 => (
 match (drbg_Source_stirs_m seed (r1, (r2, 0))) with
 | none => none
 | some y => (
 let o := y.2.1
 some (.inr (((), (0, ())), (o, ()))))))))
noncomputable def drbg_New_m := veil drbg_New_m'
theorem drbg_New_m_eq : drbg_New_m = drbg_New_m' := veil_eq _
noncomputable def drbg_Source_given' (s : (Option (ByteArray × (ByteArray × Int)))) : Option (Bool) :=
 match s with
 | none => (
 some false)
 | some s0 => (
 some (!(sEq s0.1 (ByteArray.mk #[]))))
noncomputable def drbg_Source_given := veil drbg_Source_given'
theorem drbg_Source_given_eq : drbg_Source_given = drbg_Source_given' := veil_eq _
abbrev X_drbg_Source_Bytes_m_1 : Type := ((Unit × (Int × (ByteArray × (Unit × Unit)))) × ((ByteArray × (ByteArray × Int)) × ((Unit × (Nat × NI)) × Unit)))
noncomputable def R_drbg_Source_Bytes_m_1 : X_drbg_Source_Bytes_m_1 → Option (X_drbg_Source_Bytes_m_1 ⊕ ((Unit × (Int × (ByteArray × (Unit × Unit)))) × ((ByteArray × (ByteArray × Int)) × ((Unit × (Nat × NI)) × Unit)))) := fun x =>
 let n := x.1.2.1
 let more := x.1.2.2.1
 let s := x.2.1
 let b := x.2.2.1.1
 let nb := x.2.2.1.2.1
 let b1 := x.2.2.1.2.2
 bif (decide (((nb : Nat) : Int) < n)) then (
 match (hmac_Sum s.1 s.2.1) with
 | none => none
 | some r => (
 bif ((Nat.ble ((nb + (ByteArray.size r)) * 1) 140737488355328) && (Nat.ble (nb + (ByteArray.size r)) 9223372036854775807)) then (
 some (.inl (((), (n, (more, ((), ())))), ((s.1, (r, s.2.2)), ((b, ((nb + (ByteArray.size r)), (glue nb b1 (fun i => (((r).data.toList.getD i 0).toNat : Int))))), ())))))
 else (
 none)))
 else (
 some (.inr (((), (n, (more, ((), ())))), (s, ((b, (nb, b1)), ())))))
abbrev X_drbg_Source_Bytes_m_1_v1 : Type := ((Unit × (Int × (ByteArray × (Unit × Unit)))) × ((ByteArray × (ByteArray × Int)) × ((Unit × (Nat × NI)) × Unit)))
noncomputable def R_drbg_Source_Bytes_m_1_v1 : X_drbg_Source_Bytes_m_1_v1 → Option (X_drbg_Source_Bytes_m_1_v1 ⊕ ((Unit × (Int × (ByteArray × (Unit × Unit)))) × ((ByteArray × (ByteArray × Int)) × ((Unit × (Nat × NI)) × Unit)))) := fun x =>
 let n := x.1.2.1
 let more := x.1.2.2.1
 let s := x.2.1
 let b := x.2.2.1.1
 let nb := x.2.2.1.2.1
 let b1 := x.2.2.1.2.2
 bif (decide (((nb : Nat) : Int) < n)) then (
 match (hmac_Sum s.1 s.2.1) with
 | none => none
 | some r => (
 bif ((Nat.ble ((nb + (ByteArray.size r)) * 1) 140737488355328) && (Nat.ble (nb + (ByteArray.size r)) 9223372036854775807)) then (
 some (.inl (((), (n, (more, ((), ())))), ((s.1, (r, s.2.2)), ((b, ((nb + (ByteArray.size r)), (glue nb b1 (fun i => (((r).data.toList.getD i 0).toNat : Int))))), ())))))
 else (
 none)))
 else (
 some (.inr (((), (n, (more, ((), ())))), (s, ((b, (nb, b1)), ())))))
abbrev Y_drbg_Source_Bytes_m_0 (s : ByteArray) (n : Int) (s1 : (ByteArray × (ByteArray × Int))) := ((s, (n, ())), (s1, ()))
noncomputable def drbg_Source_Bytes_m' (n : Int) (more : ByteArray) (s : (ByteArray × (ByteArray × Int))) : Option (((ByteArray × (Int × Unit)) × ((ByteArray × (ByteArray × Int)) × Unit))) :=
 match (drbg_Source_given (some s)) with
 | none => none
 | some r => (
 bif (!r) then (
 some (((ByteArray.mk #[]), (1, ())), (s, ())))
 else (
 bif (decide (n < 0)) then (
 some (((ByteArray.mk #[]), (1, ())), (s, ())))
 else (
 bif (decide (n > 8192)) then (
 some (((ByteArray.mk #[]), (1, ())), (s, ())))
 else (
 bif (decide ((((ByteArray.size more) : Nat) : Int) > 1024)) then (
 some (((ByteArray.mk #[]), (1, ())), (s, ())))
 else (
 bif (decide (s.2.2 ≥ 1000)) then (
 some (((ByteArray.mk #[]), (5, ())), (s, ())))
 else (
 bif (!(sEq more (ByteArray.mk #[]))) then (
 match (drbg_Source_stirs_m more s) with
 | none => none
 | some y => (
 let o := y.2.1
 match (loopF R_drbg_Source_Bytes_m_1 (((), (n, (more, ((), ())))), (o, (((), (0, (fun _ => 0))), ())))) with
 | none => none
 | some y1 => (
 let n1 := y1.1.2.1
 let more1 := y1.1.2.2.1
 let s1 := y1.2.1
 let b := y1.2.2.1.1
 let nb := y1.2.2.1.2.1
 let b1 := y1.2.2.1.2.2
 match (drbg_Source_stirs_m more1 s1) with
 | none => none
 | some y2 => (
 let o1 := y2.2.1
 bif ((decide (((nb : Nat) : Int) = ((nb : Nat) : Int))) && (Nat.ble nb 9223372036854775807)) then (
 bif ((decide (0 ≤ n1)) && (decide (n1 ≤ (((ByteArray.size (bytesOf nb b1)) : Nat) : Int)))) then (
 some (((ByteArray.extract (bytesOf nb b1) 0 (Int.toNat n1)), (0, ())), ((o1.1, (o1.2.1, (i64.wrap (o1.2.2 + 1)))), ())))
 else (
 none))
 else (
 none)))))
 else (
 match (loopF R_drbg_Source_Bytes_m_1_v1 (((), (n, (more, ((), ())))), (s, (((), (0, (fun _ => 0))), ())))) with
 | none => none
 | some y3 => (
 let n2 := y3.1.2.1
 let more2 := y3.1.2.2.1
 let s2 := y3.2.1
 let b2 := y3.2.2.1.1
 let nb1 := y3.2.2.1.2.1
 let b3 := y3.2.2.1.2.2
 match (drbg_Source_stirs_m more2 s2) with
 | none => none
 | some y4 => (
 let o2 := y4.2.1
 bif ((decide (((nb1 : Nat) : Int) = ((nb1 : Nat) : Int))) && (Nat.ble nb1 9223372036854775807)) then (
 bif ((decide (0 ≤ n2)) && (decide (n2 ≤ (((ByteArray.size (bytesOf nb1 b3)) : Nat) : Int)))) then (
 some (((ByteArray.extract (bytesOf nb1 b3) 0 (Int.toNat n2)), (0, ())), ((o2.1, (o2.2.1, (i64.wrap (o2.2.2 + 1)))), ())))
 else (
 none))
 else (
 none))))))))))
noncomputable def drbg_Source_Bytes_m := veil drbg_Source_Bytes_m'
theorem drbg_Source_Bytes_m_eq : drbg_Source_Bytes_m = drbg_Source_Bytes_m' := veil_eq _
abbrev X_drbg_Source_Bytes_1 : Type := (((ByteArray × (ByteArray × Int)) × (Int × (ByteArray × (Unit × Unit)))) × ((Unit × (Nat × NI)) × Unit))
noncomputable def R_drbg_Source_Bytes_1 : X_drbg_Source_Bytes_1 → Option (X_drbg_Source_Bytes_1 ⊕ (((ByteArray × (ByteArray × Int)) × (Int × (ByteArray × (Unit × Unit)))) × ((Unit × (Nat × NI)) × Unit))) := fun x =>
 let s := x.1.1
 let n := x.1.2.1
 let more := x.1.2.2.1
 let b := x.2.1.1
 let nb := x.2.1.2.1
 let b1 := x.2.1.2.2
 bif (decide (((nb : Nat) : Int) < n)) then (
 match (hmac_Sum s.1 s.2.1) with
 | none => none
 | some r => (
 none))
 else (
 some (.inr ((s, (n, (more, ((), ())))), ((b, (nb, b1)), ()))))
noncomputable def drbg_Source_Bytes' (s : (Option (ByteArray × (ByteArray × Int)))) (n : Int) (more : ByteArray) : Option (ByteArray × Int) :=
 match s with
 | none => (
 match (drbg_Source_given none) with
 | none => none
 | some r4 => (
 bif (!r4) then (
 some ((ByteArray.mk #[]), 1))
 else (
 bif (decide (n < 0)) then (
 some ((ByteArray.mk #[]), 1))
 else (
 bif (decide (n > 8192)) then (
 some ((ByteArray.mk #[]), 1))
 else (
 bif (decide ((((ByteArray.size more) : Nat) : Int) > 1024)) then (
 some ((ByteArray.mk #[]), 1))
 else (
 none))))))
 | some s0 => (
 match (drbg_Source_given (some s0)) with
 | none => none
 | some r => (
 bif (!r) then (
 some ((ByteArray.mk #[]), 1))
 else (
 bif (decide (n < 0)) then (
 some ((ByteArray.mk #[]), 1))
 else (
 bif (decide (n > 8192)) then (
 some ((ByteArray.mk #[]), 1))
 else (
 bif (decide ((((ByteArray.size more) : Nat) : Int) > 1024)) then (
 some ((ByteArray.mk #[]), 1))
 else (
 bif (decide (s0.2.2 ≥ 1000)) then (
 some ((ByteArray.mk #[]), 5))
 else (
 bif (!(sEq more (ByteArray.mk #[]))) then (
 match (drbg_Source_stirs (some s0) more) with
 | none => none
 | some r1 => (
 match (loopF R_drbg_Source_Bytes_1 ((s0, (n, (more, ((), ())))), (((), (0, (fun _ => 0))), ()))) with
 | none => none
 | some y => (
 let s1 := y.1.1
 let n1 := y.1.2.1
 let more1 := y.1.2.2.1
 let b := y.2.1.1
 let nb := y.2.1.2.1
 let b1 := y.2.1.2.2
 match (drbg_Source_stirs (some s1) more1) with
 | none => none
 | some r2 => (
 none))))
 else (
 match (loopF R_drbg_Source_Bytes_1 ((s0, (n, (more, ((), ())))), (((), (0, (fun _ => 0))), ()))) with
 | none => none
 | some y1 => (
 let s2 := y1.1.1
 let n2 := y1.1.2.1
 let more2 := y1.1.2.2.1
 let b2 := y1.2.1.1
 let nb1 := y1.2.1.2.1
 let b3 := y1.2.1.2.2
 match (drbg_Source_stirs (some s2) more2) with
 | none => none
 | some r3 => (
 none))))))))))
noncomputable def drbg_Source_Bytes := veil drbg_Source_Bytes'
theorem drbg_Source_Bytes_eq : drbg_Source_Bytes = drbg_Source_Bytes' := veil_eq _
end Go.Pl
