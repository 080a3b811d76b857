/-
  The functions of a package, plainly.
-/
import Derived.Test.YtccbdhpcblfopaaGreatDenI
import Derived.Test.YtccbdhpcblfopaaGreatPcommit
import Derived.Test.YtccbdhpcblfopaaGreatPdrbg
import Derived.Test.YtccbdhpcblfopaaGreatPlA
set_option linter.unusedVariables false
set_option linter.unusedSimpArgs false
set_option maxRecDepth 100000
set_option maxHeartbeats 0
namespace Go.Pl
end Go.Pl
open Go Go.Den Go.Pl
namespace Go.Pl
open Go.IntKind (i64 u64 u32 u8)
abbrev X_batch_Weights_2 : Type := ((Unit × ((Nat × (Nat → NI)) × (Int × (Int × (Int × ((Nat × NI) × (Int × (Int × Unit)))))))) × Unit)
noncomputable def R_batch_Weights_2 : X_batch_Weights_2 → Option (X_batch_Weights_2 ⊕ ((Unit × ((Nat × (Nat → NI)) × (Int × (Int × (Int × Unit))))) × Unit)) := fun x =>
 let nout := x.1.2.1.1
 let out := x.1.2.1.2
 let w := x.1.2.2.1
 let t := x.1.2.2.2.1
 let t1 := x.1.2.2.2.2.1
 let nt := x.1.2.2.2.2.2.1.1
 let t2 := x.1.2.2.2.2.2.1.2
 let t3 := x.1.2.2.2.2.2.2.1
 let t4 := x.1.2.2.2.2.2.2.2.1
 bif (decide (t4 < t3)) then (
 bif (inb t4 nt) then (
 some (.inl (((), ((nout, out), ((bitsOp .or .u64 (shlI .u64 w 8) (u64.wrap (t2 (0 + (Int.toNat t4))))), (t, (t1, ((nt, t2), (t3, ((i64.wrap (t4 + 1)), ())))))))), ())))
 else (
 none))
 else (
 some (.inr (((), ((nout, out), (w, (t, (t1, ()))))), ())))
abbrev X_batch_Weights_0 : Type := ((Unit × ((Nat × (Nat → NI)) × (Int × (Int × Unit)))) × Unit)
noncomputable def R_batch_Weights_0 : X_batch_Weights_0 → Option (X_batch_Weights_0 ⊕ ((((Nat × (Nat → NI)) × (Int × Unit)) × Unit) ⊕ (((Nat × (Nat → NI)) × Unit) × Unit))) := fun x =>
 let nout := x.1.2.1.1
 let out := x.1.2.1.2
 let t := x.1.2.2.1
 let t1 := x.1.2.2.2.1
 bif (decide (t1 < t)) then (
 match (drbg_Source_Bytes none 8 (ByteArray.mk #[])) with
 | none => none
 | some r => (
 bif (r.2 != 0) then (
 some (.inr (.inl (((0, (fun _ => (fun _ => 0))), (r.2, ())), ()))))
 else (
 bif (Nat.ble (ByteArray.size r.1) 9223372036854775807) then (
 match (loopF R_batch_Weights_2 (((), ((nout, out), (0, (t, (t1, (((ByteArray.size r.1), (fun i => (((r.1).data.toList.getD i 0).toNat : Int))), ((((ByteArray.size r.1) : Nat) : Int), (0, ())))))))), ())) with
 | none => none
 | some y => (
 let nout1 := y.1.2.1.1
 let out1 := y.1.2.1.2
 let w := y.1.2.2.1
 let t2 := y.1.2.2.2.1
 let t3 := y.1.2.2.2.2.1
 bif ((Nat.ble ((nout1 + 1) * 32) 140737488355328) && (Nat.ble (nout1 + 1) 9223372036854775807)) then (
 some (.inl (((), (((nout1 + 1), (glue nout1 out1 (fun j => (upd (fun _ => (fun _ => 0)) 0 (upd (fun _ => 0) 0 (if 1 < w then w else 1))) (0 + j)))), (t2, ((i64.wrap (t3 + 1)), ())))), ())))
 else (
 none)))
 else (
 none))))
 else (
 some (.inr (.inr (((nout, out), ()), ()))))
abbrev T_batch_Weights_2_v1 (nout : Nat) (out : Nat → NI) (w : Int) (t : Int) (t1 : Int) (nt : Nat) (t2 : Nat → Int) (t3 : Int) (t4 : Int) (s : (ByteArray × (ByteArray × Int))) := (((), ((nout, out), (w, (t, (t1, ((nt, t2), (t3, (t4, ())))))))), (s, ()))
abbrev Y_batch_Weights_2_v1_0 (nout : Nat) (out : Nat → NI) (w : Int) (t : Int) (t1 : Int) (s : (ByteArray × (ByteArray × Int))) := (((), ((nout, out), (w, (t, (t1, ()))))), (s, ()))
abbrev X_batch_Weights_2_v1 : Type := ((Unit × ((Nat × (Nat → NI)) × (Int × (Int × (Int × ((Nat × NI) × (Int × (Int × Unit)))))))) × ((ByteArray × (ByteArray × Int)) × Unit))
noncomputable def R_batch_Weights_2_v1 : X_batch_Weights_2_v1 → Option (X_batch_Weights_2_v1 ⊕ ((Unit × ((Nat × (Nat → NI)) × (Int × (Int × (Int × Unit))))) × ((ByteArray × (ByteArray × Int)) × Unit))) := fun x =>
 let nout := x.1.2.1.1
 let out := x.1.2.1.2
 let w := x.1.2.2.1
 let t := x.1.2.2.2.1
 let t1 := x.1.2.2.2.2.1
 let nt := x.1.2.2.2.2.2.1.1
 let t2 := x.1.2.2.2.2.2.1.2
 let t3 := x.1.2.2.2.2.2.2.1
 let t4 := x.1.2.2.2.2.2.2.2.1
 let s := x.2.1
 bif (decide (t4 < t3)) then (
 bif (inb t4 nt) then (
 some (.inl (((), ((nout, out), ((bitsOp .or .u64 (shlI .u64 w 8) (u64.wrap (t2 (0 + (Int.toNat t4))))), (t, (t1, ((nt, t2), (t3, ((i64.wrap (t4 + 1)), ())))))))), (s, ()))))
 else (
 none))
 else (
 some (.inr (((), ((nout, out), (w, (t, (t1, ()))))), (s, ()))))
abbrev T_batch_Weights_0_v1 (nout : Nat) (out : Nat → NI) (t : Int) (t1 : Int) (s : (ByteArray × (ByteArray × Int))) := (((), ((nout, out), (t, (t1, ())))), (s, ()))
abbrev Y_batch_Weights_0_v1_1 (nout : Nat) (out : Nat → NI) : ((((Nat × (Nat → NI)) × (Int × Unit)) × Unit) ⊕ (((Nat × (Nat → NI)) × Unit) × Unit)) := (.inr (((nout, out), ()), ()))
abbrev X_batch_Weights_0_v1 : Type := ((Unit × ((Nat × (Nat → NI)) × (Int × (Int × Unit)))) × ((ByteArray × (ByteArray × Int)) × Unit))
noncomputable def R_batch_Weights_0_v1 : X_batch_Weights_0_v1 → Option (X_batch_Weights_0_v1 ⊕ ((((Nat × (Nat → NI)) × (Int × Unit)) × Unit) ⊕ (((Nat × (Nat → NI)) × Unit) × Unit))) := fun x =>
 let nout := x.1.2.1.1
 let out := x.1.2.1.2
 let t := x.1.2.2.1
 let t1 := x.1.2.2.2.1
 let s := x.2.1
 bif (decide (t1 < t)) then (
 match (drbg_Source_Bytes_m 8 (ByteArray.mk #[]) s) with
 | none => none
 | some y => (
 let r := y.1.1
 let r1 := y.1.2.1
 let o := y.2.1
 bif (r1 != 0) then (
 some (.inr (.inl (((0, (fun _ => (fun _ => 0))), (r1, ())), ()))))
 else (
 bif (Nat.ble (ByteArray.size r) 9223372036854775807) then (
 match (loopF R_batch_Weights_2_v1 (((), ((nout, out), (0, (t, (t1, (((ByteArray.size r), (fun i => (((r).data.toList.getD i 0).toNat : Int))), ((((ByteArray.size r) : Nat) : Int), (0, ())))))))), (o, ()))) with
 | none => none
 | some y1 => (
 let nout1 := y1.1.2.1.1
 let out1 := y1.1.2.1.2
 let w := y1.1.2.2.1
 let t2 := y1.1.2.2.2.1
 let t3 := y1.1.2.2.2.2.1
 let s1 := y1.2.1
 bif ((Nat.ble ((nout1 + 1) * 32) 140737488355328) && (Nat.ble (nout1 + 1) 9223372036854775807)) then (
 some (.inl (((), (((nout1 + 1), (glue nout1 out1 (fun j => (upd (fun _ => (fun _ => 0)) 0 (upd (fun _ => 0) 0 (if 1 < w then w else 1))) (0 + j)))), (t2, ((i64.wrap (t3 + 1)), ())))), (s1, ()))))
 else (
 none)))
 else (
 none))))
 else (
 some (.inr (.inr (((nout, out), ()), ()))))
noncomputable def batch_Weights' (seed : ByteArray) (n : Int) : Option ((Nat × (Nat → NI)) × Int) :=
 match (drbg_New_m seed) with
 | none => none
 | some y => (
 match y with
 | .inl y1 => (
 let r := y1.1.2.1
 bif (r != 0) then (
 some ((0, (fun _ => (fun _ => 0))), r))
 else (
 bif (decide (n < 0)) then (
 some ((0, (fun _ => (fun _ => 0))), 1))
 else (
 bif (decide (n > 64)) then (
 some ((0, (fun _ => (fun _ => 0))), 1))
 else (
 match (loopF R_batch_Weights_0 (((), ((0, (fun _ => (fun _ => 0))), (n, (0, ())))), ())) with
 | none => none
 | some y2 => (
 match y2 with
 | .inl y3 => (
 let nt := y3.1.1.1
 let t := y3.1.1.2
 let t1 := y3.1.2.1
 some ((nt, t), t1))
 | .inr y3 => (
 let nout := y3.1.1.1
 let out := y3.1.1.2
 some ((nout, (fun j => out (0 + j))), 0)))))))
 | .inr y1 => (
 let r1 := y1.1.2.1
 let o := y1.2.1
 bif (r1 != 0) then (
 some ((0, (fun _ => (fun _ => 0))), r1))
 else (
 bif (decide (n < 0)) then (
 some ((0, (fun _ => (fun _ => 0))), 1))
 else (
 bif (decide (n > 64)) then (
 some ((0, (fun _ => (fun _ => 0))), 1))
 else (
 match (loopF R_batch_Weights_0_v1 (((), ((0, (fun _ => (fun _ => 0))), (n, (0, ())))), (o, ()))) with
 | none => none
 | some y4 => (
 match y4 with
 | .inl y5 => (
 let nt1 := y5.1.1.1
 let t2 := y5.1.1.2
 let t3 := y5.1.2.1
 some ((nt1, t2), t3))
 | .inr y5 => (
 let nout1 := y5.1.1.1
 let out1 := y5.1.1.2
 some ((nout1, (fun j => out1 (0 + j))), 0))))))))
noncomputable def batch_Weights := veil batch_Weights'
theorem batch_Weights_eq : batch_Weights = batch_Weights' := veil_eq _
noncomputable def batch_fits' (g : (Option (((PtrV (NI × (Int × (NI × NI)))) × (PtrV (NI × (Int × (NI × NI))))) × NI))) (nl : Nat) (l : Nat → ((SlV NI) × (Int × NI))) (nweights : Nat) (weights : Nat → NI) : Option (Bool) :=
 match g with
 | none => (
 match (group_Group_Field none) with
 | none => none
 | some r1 => (
 match r1 with
 | none => (
 some false)
 | some p1 => (
 bif (decide (((nl : Nat) : Int) ≤ 64)) then (
 some (((nl : Nat) : Int) == ((nweights : Nat) : Int)))
 else (
 some false))))
 | some g0 => (
 match (group_Group_Field (some g0)) with
 | none => none
 | some r => (
 match r with
 | none => (
 some false)
 | some p => (
 bif (decide (((nl : Nat) : Int) ≤ 64)) then (
 some (((nl : Nat) : Int) == ((nweights : Nat) : Int)))
 else (
 some false))))
noncomputable def batch_fits := veil batch_fits'
theorem batch_fits_eq : batch_fits = batch_fits' := veil_eq _
noncomputable def batch_may' (g : (Option (((PtrV (NI × (Int × (NI × NI)))) × (PtrV (NI × (Int × (NI × NI))))) × NI))) (c : ((Nat × (Nat → NI)) × (Int × NI))) : Option (Bool) :=
 match g with
 | none => (
 bif (decide (c.2.1 ≥ 1)) then (
 bif (decide (c.2.1 ≤ 7)) then (
 match (field_In none c.2.2) with
 | none => none
 | some r2 => (
 bif r2 then (
 match (commit_May none c.1.1 c.1.2) with
 | none => none
 | some r3 => (
 some r3))
 else (
 some false)))
 else (
 some false))
 else (
 some false))
 | some g0 => (
 bif (decide (c.2.1 ≥ 1)) then (
 bif (decide (c.2.1 ≤ 7)) then (
 match (field_In (some g0) c.2.2) with
 | none => none
 | some r => (
 bif r then (
 match (commit_May (some g0) c.1.1 c.1.2) with
 | none => none
 | some r1 => (
 some r1))
 else (
 some false)))
 else (
 some false))
 else (
 some false))
noncomputable def batch_may := veil batch_may'
theorem batch_may_eq : batch_may = batch_may' := veil_eq _
abbrev T_batch_together_0 (g : (((PtrV (NI × (Int × (NI × NI)))) × (PtrV (NI × (Int × (NI × NI))))) × NI)) (nweights : Nat) (weights : Nat → NI) (nats : Nat) (ats : Nat → NI) (nt : Nat) (t : Nat → ((SlV NI) × (Int × NI))) (t1 : Int) (t2 : Int) (sum : NI) := ((g, ((nweights, weights), ((), ((nats, ats), ((nt, t), (t1, (t2, ()))))))), (sum, ()))
abbrev Y_batch_together_0_0 (t : Bool) : (((Bool × Unit) × Unit) ⊕ (((((PtrV (NI × (Int × (NI × NI)))) × (PtrV (NI × (Int × (NI × NI))))) × NI) × ((Nat × (Nat → NI)) × (Unit × ((Nat × (Nat → NI)) × Unit)))) × (NI × Unit))) := (.inl ((t, ()), ()))
abbrev Y_batch_together_0_1 (g : (((PtrV (NI × (Int × (NI × NI)))) × (PtrV (NI × (Int × (NI × NI))))) × NI)) (nweights : Nat) (weights : Nat → NI) (nats : Nat) (ats : Nat → NI) (sum : NI) : (((Bool × Unit) × Unit) ⊕ (((((PtrV (NI × (Int × (NI × NI)))) × (PtrV (NI × (Int × (NI × NI))))) × NI) × ((Nat × (Nat → NI)) × (Unit × ((Nat × (Nat → NI)) × Unit)))) × (NI × Unit))) := (.inr ((g, ((nweights, weights), ((), ((nats, ats), ())))), (sum, ())))
abbrev X_batch_together_0 : Type := (((((PtrV (NI × (Int × (NI × NI)))) × (PtrV (NI × (Int × (NI × NI))))) × NI) × ((Nat × (Nat → NI)) × (Unit × ((Nat × (Nat → NI)) × ((Nat × (Nat → ((SlV NI) × (Int × NI)))) × (Int × (Int × Unit))))))) × (NI × Unit))
noncomputable def R_batch_together_0 : X_batch_together_0 → Option (X_batch_together_0 ⊕ (((Bool × Unit) × Unit) ⊕ (((((PtrV (NI × (Int × (NI × NI)))) × (PtrV (NI × (Int × (NI × NI))))) × NI) × ((Nat × (Nat → NI)) × (Unit × ((Nat × (Nat → NI)) × Unit)))) × (NI × Unit)))) := fun x =>
 let g := x.1.1
 let nweights := x.1.2.1.1
 let weights := x.1.2.1.2
 let nats := x.1.2.2.2.1.1
 let ats := x.1.2.2.2.1.2
 let nt := x.1.2.2.2.2.1.1
 let t := x.1.2.2.2.2.1.2
 let t1 := x.1.2.2.2.2.2.1
 let t2 := x.1.2.2.2.2.2.2.1
 let sum := x.2.1
 bif (decide (t2 < t1)) then (
 bif (inb t2 nt) then (
 bif (SlV.isMs (t (Int.toNat t2)).1) then (
 none)
 else (
 match (batch_may (some g) (((SlV.len (t (Int.toNat t2)).1), (SlV.fn ((fun _ => 0) : NI) (t (Int.toNat t2)).1)), (t (Int.toNat t2)).2)) with
 | none => none
 | some r => (
 bif (!r) then (
 some (.inr (.inl ((false, ()), ()))))
 else (
 bif (inb t2 nweights) then (
 match (field_Mul (some g) (t (Int.toNat t2)).2.2 (weights (Int.toNat t2))) with
 | none => none
 | some r1 => (
 match (field_Add (some g) sum r1) with
 | none => none
 | some r2 => (
 match (commit_At (some g) (SlV.len (t (Int.toNat t2)).1) (SlV.fn ((fun _ => 0) : NI) (t (Int.toNat t2)).1) (t (Int.toNat t2)).2.1) with
 | none => none
 | some r3 => (
 bif ((Nat.ble ((nats + 1) * 32) 140737488355328) && (Nat.ble (nats + 1) 9223372036854775807)) then (
 some (.inl ((g, ((nweights, weights), ((), (((nats + 1), (glue nats ats (fun j => (upd (fun _ => (fun _ => 0)) 0 r3) (0 + j)))), ((nt, t), (t1, ((i64.wrap (t2 + 1)), ()))))))), (r2, ()))))
 else (
 none)))))
 else (
 none)))))
 else (
 none))
 else (
 some (.inr (.inr ((g, ((nweights, weights), ((), ((nats, ats), ())))), (sum, ())))))
noncomputable def batch_together' (g : (Option (((PtrV (NI × (Int × (NI × NI)))) × (PtrV (NI × (Int × (NI × NI))))) × NI))) (nl : Nat) (l : Nat → ((SlV NI) × (Int × NI))) (nweights : Nat) (weights : Nat → NI) : Option (Bool) :=
 match g with
 | none => (
 none)
 | some g0 => (
 match (loopF R_batch_together_0 ((g0, ((nweights, weights), ((), ((0, (fun _ => (fun _ => 0))), ((nl, l), (((nl : Nat) : Int), (0, ()))))))), ((fun _ => 0), ()))) with
 | none => none
 | some y => (
 match y with
 | .inl y1 => (
 let t := y1.1.1
 some t)
 | .inr y1 => (
 let g1 := y1.1.1
 let nweights1 := y1.1.2.1.1
 let weights1 := y1.1.2.1.2
 let nats := y1.1.2.2.2.1.1
 let ats := y1.1.2.2.2.1.2
 let sum := y1.2.1
 match (power_Multi (some g1) nats (fun j => ats (0 + j)) nweights1 weights1) with
 | none => none
 | some r => (
 bif (r.2 == 0) then (
 match (power_Of (some g1) sum) with
 | none => none
 | some r1 => (
 some (eqF (.arr 4 (.int .u64)) r.1 r1)))
 else (
 some false)))))
noncomputable def batch_together := veil batch_together'
theorem batch_together_eq : batch_together = batch_together' := veil_eq _
noncomputable def batch_All' (g : (Option (((PtrV (NI × (Int × (NI × NI)))) × (PtrV (NI × (Int × (NI × NI))))) × NI))) (nl : Nat) (l : Nat → ((SlV NI) × (Int × NI))) (nweights : Nat) (weights : Nat → NI) : Option (Bool) :=
 match g with
 | none => (
 match (batch_fits none nl l nweights weights) with
 | none => none
 | some r2 => (
 bif r2 then (
 match (batch_together none nl l nweights weights) with
 | none => none
 | some r3 => (
 some r3))
 else (
 some false)))
 | some g0 => (
 match (batch_fits (some g0) nl l nweights weights) with
 | none => none
 | some r => (
 bif r then (
 match (batch_together (some g0) nl l nweights weights) with
 | none => none
 | some r1 => (
 some r1))
 else (
 some false)))
noncomputable def batch_All := veil batch_All'
theorem batch_All_eq : batch_All = batch_All' := veil_eq _
abbrev Y_batch_Bad_1_m_0 (o : (((PtrV (NI × (Int × (NI × NI)))) × (PtrV (NI × (Int × (NI × NI))))) × NI)) (no : Nat) (o1 : Nat → ((SlV NI) × (Int × NI))) (no1 : Nat) (o2 : Nat → NI) (no2 : Nat) (o3 : Nat → Int) := ((), (o, ((no, o1), ((no1, o2), ((no2, o3), ((), ()))))))
noncomputable def batch_Bad_1_m' (rec_ : (Int) → (Int) → ((((PtrV (NI × (Int × (NI × NI)))) × (PtrV (NI × (Int × (NI × NI))))) × NI)) → (Nat) → (Nat → ((SlV NI) × (Int × NI))) → (Nat) → (Nat → NI) → (Nat) → NI → Option ((Unit × ((((PtrV (NI × (Int × (NI × NI)))) × (PtrV (NI × (Int × (NI × NI))))) × NI) × ((Nat × (Nat → ((SlV NI) × (Int × NI)))) × ((Nat × (Nat → NI)) × ((Nat × NI) × (Unit × Unit)))))))) (from_ : Int) (to_ : Int) (o : (((PtrV (NI × (Int × (NI × NI)))) × (PtrV (NI × (Int × (NI × NI))))) × NI)) (no : Nat) (o1 : Nat → ((SlV NI) × (Int × NI))) (no1 : Nat) (o2 : Nat → NI) (no2 : Nat) (o3 : Nat → Int) : Option ((Unit × ((((PtrV (NI × (Int × (NI × NI)))) × (PtrV (NI × (Int × (NI × NI))))) × NI) × ((Nat × (Nat → ((SlV NI) × (Int × NI)))) × ((Nat × (Nat → NI)) × ((Nat × NI) × (Unit × Unit))))))) :=
 bif (from_ == to_) then (
 some ((), (o, ((no, o1), ((no1, o2), ((no2, o3), ((), ())))))))
 else (
 bif ((decide (0 ≤ to_)) && (decide (to_ ≤ ((no : Nat) : Int)))) then (
 bif ((decide (0 ≤ from_)) && (decide (from_ ≤ (((Int.toNat to_) : Nat) : Int)))) then (
 bif ((decide (0 ≤ to_)) && (decide (to_ ≤ ((no1 : Nat) : Int)))) then (
 bif ((decide (0 ≤ from_)) && (decide (from_ ≤ (((Int.toNat to_) : Nat) : Int)))) then (
 match (batch_together (some o) ((Int.toNat to_) - (Int.toNat from_)) (fun j => o1 ((Int.toNat from_) + j)) ((Int.toNat to_) - (Int.toNat from_)) (fun j => o2 ((Int.toNat from_) + j))) with
 | none => none
 | some r => (
 bif r then (
 some ((), (o, ((no, o1), ((no1, o2), ((no2, o3), ((), ())))))))
 else (
 bif ((i64.wrap (to_ - from_)) == 1) then (
 bif ((Nat.ble ((no2 + 1) * 8) 140737488355328) && (Nat.ble (no2 + 1) 9223372036854775807)) then (
 some ((), (o, ((no, o1), ((no1, o2), (((no2 + 1), (glue no2 o3 (fun j => (upd (fun _ => 0) 0 from_) (0 + j)))), ((), ())))))))
 else (
 none))
 else (
 match (rec_ from_ (i64.wrap (from_ + (i64.wrap (Int.tdiv (i64.wrap (to_ - from_)) 2)))) o no o1 no1 o2 no2 o3) with
 | none => none
 | some y => (
 let o4 := y.2.1
 let no3 := y.2.2.1.1
 let o5 := y.2.2.1.2
 let no4 := y.2.2.2.1.1
 let o6 := y.2.2.2.1.2
 let no5 := y.2.2.2.2.1.1
 let o7 := y.2.2.2.2.1.2
 match (rec_ (i64.wrap (from_ + (i64.wrap (Int.tdiv (i64.wrap (to_ - from_)) 2)))) to_ o4 no3 o5 no4 o6 no5 o7) with
 | none => none
 | some y1 => (
 let o8 := y1.2.1
 let no6 := y1.2.2.1.1
 let o9 := y1.2.2.1.2
 let no7 := y1.2.2.2.1.1
 let o10 := y1.2.2.2.1.2
 let no8 := y1.2.2.2.2.1.1
 let o11 := y1.2.2.2.2.1.2
 some ((), (o8, ((no6, o9), ((no7, o10), ((no8, o11), ((), ()))))))))))))
 else (
 none))
 else (
 none))
 else (
 none))
 else (
 none))
noncomputable def batch_Bad_1_m : Nat → (Int) → (Int) → ((((PtrV (NI × (Int × (NI × NI)))) × (PtrV (NI × (Int × (NI × NI))))) × NI)) → (Nat) → (Nat → ((SlV NI) × (Int × NI))) → (Nat) → (Nat → NI) → (Nat) → NI → Option ((Unit × ((((PtrV (NI × (Int × (NI × NI)))) × (PtrV (NI × (Int × (NI × NI))))) × NI) × ((Nat × (Nat → ((SlV NI) × (Int × NI)))) × ((Nat × (Nat → NI)) × ((Nat × NI) × (Unit × Unit))))))) := veil fun n => Nat.rec (motive := fun _ => (Int) → (Int) → ((((PtrV (NI × (Int × (NI × NI)))) × (PtrV (NI × (Int × (NI × NI))))) × NI)) → (Nat) → (Nat → ((SlV NI) × (Int × NI))) → (Nat) → (Nat → NI) → (Nat) → NI → Option ((Unit × ((((PtrV (NI × (Int × (NI × NI)))) × (PtrV (NI × (Int × (NI × NI))))) × NI) × ((Nat × (Nat → ((SlV NI) × (Int × NI)))) × ((Nat × (Nat → NI)) × ((Nat × NI) × (Unit × Unit)))))))) (fun _ _ _ _ _ _ _ _ _ => none) (fun _ ih => batch_Bad_1_m' ih) n
theorem batch_Bad_1_m_zero : batch_Bad_1_m 0 = fun _ _ _ _ _ _ _ _ _ => none := by rw [batch_Bad_1_m, veil_eq]; rfl
theorem batch_Bad_1_m_succ (n : Nat) : batch_Bad_1_m (n + 1) = batch_Bad_1_m' (batch_Bad_1_m n) := by rw [batch_Bad_1_m, veil_eq]
abbrev Y_batch_Bad_0 (ng : Nat) (g : Nat → Int) (l : Int) := (((ng, g), (l, ())), ())
noncomputable def batch_Bad' (g : (Option (((PtrV (NI × (Int × (NI × NI)))) × (PtrV (NI × (Int × (NI × NI))))) × NI))) (nl : Nat) (l : Nat → ((SlV NI) × (Int × NI))) (nweights : Nat) (weights : Nat → NI) : Option ((((Nat × NI) × (Int × Unit)) × Unit)) :=
 match g with
 | none => (
 match (batch_fits none nl l nweights weights) with
 | none => none
 | some r1 => (
 bif (!r1) then (
 some (((0, (fun _ => 0)), (1, ())), ()))
 else (
 none)))
 | some g0 => (
 match (batch_fits (some g0) nl l nweights weights) with
 | none => none
 | some r => (
 bif (!r) then (
 some (((0, (fun _ => 0)), (1, ())), ()))
 else (
 match (batch_Bad_1_m 10 0 ((nl : Nat) : Int) g0 nl l nweights weights 0 (fun _ => 0)) with
 | none => none
 | some y => (
 let o := y.2.1
 let no := y.2.2.1.1
 let o1 := y.2.2.1.2
 let no1 := y.2.2.2.1.1
 let o2 := y.2.2.2.1.2
 let no2 := y.2.2.2.2.1.1
 let o3 := y.2.2.2.2.1.2
 some (((no2, o3), (0, ())), ())))))
noncomputable def batch_Bad := veil batch_Bad'
theorem batch_Bad_eq : batch_Bad = batch_Bad' := veil_eq _
end Go.Pl
