/-
  The functions of a package, plainly.
-/
import Derived.Test.YtccbdhpcblfopaaGreatDenI
import Derived.Test.YtccbdhpcblfopaaGreatPlA
import Derived.Test.YtccbdhpcblfopaaGreatPpoly
set_option linter.unusedVariables false
set_option linter.unusedSimpArgs false
set_option maxRecDepth 100000
set_option maxHeartbeats 0
namespace Go.Pl
end Go.Pl
open Go Go.Den Go.Pl
namespace Go.Pl
open Go.IntKind (i64 u64 u32 u8)
abbrev T_commit_To_0 (g : (((PtrV (NI × (Int × (NI × NI)))) × (PtrV (NI × (Int × (NI × NI))))) × NI)) (nf : Nat) (f : Nat → NI) (nout : Nat) (out : Nat → NI) (t : Int) (t1 : Int) := ((g, ((nf, f), ((nout, out), (t, (t1, ()))))), ())
abbrev Y_commit_To_0_0 (nout : Nat) (out : Nat → NI) := (((nout, out), ()), ())
abbrev X_commit_To_0 : Type := (((((PtrV (NI × (Int × (NI × NI)))) × (PtrV (NI × (Int × (NI × NI))))) × NI) × ((Nat × (Nat → NI)) × ((Nat × (Nat → NI)) × (Int × (Int × Unit))))) × Unit)
noncomputable def R_commit_To_0 : X_commit_To_0 → Option (X_commit_To_0 ⊕ (((Nat × (Nat → NI)) × Unit) × Unit)) := fun x =>
 let g := x.1.1
 let nf := x.1.2.1.1
 let f := x.1.2.1.2
 let nout := x.1.2.2.1.1
 let out := x.1.2.2.1.2
 let t := x.1.2.2.2.1
 let t1 := x.1.2.2.2.2.1
 bif (decide (t1 < t)) then (
 match (power_Of (some g) (fun _ => 0)) with
 | none => none
 | some r => (
 bif (inb t1 nout) then (
 bif (decide (t1 < ((nf : Nat) : Int))) then (
 bif (inb t1 nf) then (
 match (power_Of (some g) (f (Int.toNat t1))) with
 | none => none
 | some r1 => (
 bif (inb t1 nout) then (
 some (.inl ((g, ((nf, f), ((nout, (upd (upd out (0 + (Int.toNat t1)) r) (0 + (Int.toNat t1)) r1)), (t, ((i64.wrap (t1 + 1)), ()))))), ())))
 else (
 none)))
 else (
 none))
 else (
 some (.inl ((g, ((nf, f), ((nout, (upd out (0 + (Int.toNat t1)) r)), (t, ((i64.wrap (t1 + 1)), ()))))), ()))))
 else (
 none)))
 else (
 some (.inr (((nout, out), ()), ())))
noncomputable def commit_To' (g : (Option (((PtrV (NI × (Int × (NI × NI)))) × (PtrV (NI × (Int × (NI × NI))))) × NI))) (nf : Nat) (f : Nat → NI) (n : Int) : Option ((Nat × (Nat → NI)) × Int) :=
 match g with
 | none => (
 match (group_Group_Field none) with
 | none => none
 | some r2 => (
 match r2 with
 | none => (
 some ((0, (fun _ => (fun _ => 0))), 1))
 | some p1 => (
 bif (decide (n < 1)) then (
 some ((0, (fun _ => (fun _ => 0))), 1))
 else (
 bif (decide (n > 7)) then (
 some ((0, (fun _ => (fun _ => 0))), 1))
 else (
 match (poly_Trim none nf f) with
 | none => none
 | some y2 => (
 let nr1 := y2.1.1.1
 let r3 := y2.1.1.2
 bif (decide (((nr1 : Nat) : Int) > n)) then (
 some ((0, (fun _ => (fun _ => 0))), 1))
 else (
 bif ((((decide (0 ≤ n)) && (decide (n ≤ n))) && (decide ((((32 : Nat) : Int) * n) ≤ 281474976710656))) && (decide (n ≤ 9223372036854775807))) then (
 none)
 else (
 none))))))))
 | some g0 => (
 match (group_Group_Field (some g0)) with
 | none => none
 | some r => (
 match r with
 | none => (
 some ((0, (fun _ => (fun _ => 0))), 1))
 | some p => (
 bif (decide (n < 1)) then (
 some ((0, (fun _ => (fun _ => 0))), 1))
 else (
 bif (decide (n > 7)) then (
 some ((0, (fun _ => (fun _ => 0))), 1))
 else (
 match (poly_Trim (some g0) nf f) with
 | none => none
 | some y => (
 let nr := y.1.1.1
 let r1 := y.1.1.2
 bif (decide (((nr : Nat) : Int) > n)) then (
 some ((0, (fun _ => (fun _ => 0))), 1))
 else (
 bif ((((decide (0 ≤ n)) && (decide (n ≤ n))) && (decide ((((32 : Nat) : Int) * n) ≤ 281474976710656))) && (decide (n ≤ 9223372036854775807))) then (
 match (loopF R_commit_To_0 ((g0, ((nf, f), (((Int.toNat n), (fun _ => (fun _ => 0))), (n, (0, ()))))), ())) with
 | none => none
 | some y1 => (
 let nout := y1.1.1.1
 let out := y1.1.1.2
 some ((nout, (fun j => out (0 + j))), 0)))
 else (
 none))))))))
noncomputable def commit_To := veil commit_To'
theorem commit_To_eq : commit_To = commit_To' := veil_eq _
abbrev T_commit_May_90_0 (ns : Nat) (s : Nat → NI) (t : Int) (t1 : Int) (o : (((PtrV (NI × (Int × (NI × NI)))) × (PtrV (NI × (Int × (NI × NI))))) × NI)) := (((ns, s), ((), (t, (t1, ())))), (o, ()))
abbrev Y_commit_May_90_0_0 (t : Int) (o : (((PtrV (NI × (Int × (NI × NI)))) × (PtrV (NI × (Int × (NI × NI))))) × NI)) (o1 : NI) : (((Int × Unit) × ((((PtrV (NI × (Int × (NI × NI)))) × (PtrV (NI × (Int × (NI × NI))))) × NI) × (NI × Unit))) ⊕ (Unit × ((((PtrV (NI × (Int × (NI × NI)))) × (PtrV (NI × (Int × (NI × NI))))) × NI) × Unit))) := (.inl ((t, ()), (o, (o1, ()))))
abbrev Y_commit_May_90_0_1 (o : (((PtrV (NI × (Int × (NI × NI)))) × (PtrV (NI × (Int × (NI × NI))))) × NI)) : (((Int × Unit) × ((((PtrV (NI × (Int × (NI × NI)))) × (PtrV (NI × (Int × (NI × NI))))) × NI) × (NI × Unit))) ⊕ (Unit × ((((PtrV (NI × (Int × (NI × NI)))) × (PtrV (NI × (Int × (NI × NI))))) × NI) × Unit))) := (.inr ((), (o, ())))
abbrev X_commit_May_90_0 : Type := (((Nat × (Nat → NI)) × (Unit × (Int × (Int × Unit)))) × ((((PtrV (NI × (Int × (NI × NI)))) × (PtrV (NI × (Int × (NI × NI))))) × NI) × Unit))
noncomputable def R_commit_May_90_0 : X_commit_May_90_0 → Option (X_commit_May_90_0 ⊕ (((Int × Unit) × ((((PtrV (NI × (Int × (NI × NI)))) × (PtrV (NI × (Int × (NI × NI))))) × NI) × (NI × Unit))) ⊕ (Unit × ((((PtrV (NI × (Int × (NI × NI)))) × (PtrV (NI × (Int × (NI × NI))))) × NI) × Unit)))) := fun x =>
 let ns := x.1.1.1
 let s := x.1.1.2
 let t := x.1.2.2.1
 let t1 := x.1.2.2.2.1
 let o := x.2.1
 bif (decide (t1 < t)) then (
 bif (inb t1 ns) then (
 match (power_In (some o) (s (Int.toNat t1))) with
 | none => none
 | some r => (
 bif (!r) then (
 some (.inr (.inl ((t1, ()), (o, ((s (Int.toNat t1)), ()))))))
 else (
 some (.inl (((ns, s), ((), (t, ((i64.wrap (t1 + 1)), ())))), (o, ()))))))
 else (
 none))
 else (
 some (.inr (.inr ((), (o, ())))))
noncomputable def commit_May' (g : (Option (((PtrV (NI × (Int × (NI × NI)))) × (PtrV (NI × (Int × (NI × NI))))) × NI))) (nc : Nat) (c : Nat → NI) : Option (Bool) :=
 match g with
 | none => (
 bif (decide (((nc : Nat) : Int) ≥ 1)) then (
 bif (decide (((nc : Nat) : Int) ≤ 7)) then (
 none)
 else (
 some false))
 else (
 some false))
 | some g0 => (
 bif (decide (((nc : Nat) : Int) ≥ 1)) then (
 bif (decide (((nc : Nat) : Int) ≤ 7)) then (
 match (loopF R_commit_May_90_0 (((nc, c), ((), (((nc : Nat) : Int), (0, ())))), (g0, ()))) with
 | none => none
 | some y => (
 match y with
 | .inl y1 => (
 let t := y1.1.1
 let o := y1.2.1
 let o1 := y1.2.2.1
 some (!(decide (t ≥ 0))))
 | .inr y1 => (
 let o2 := y1.2.1
 some true)))
 else (
 some false))
 else (
 some false))
noncomputable def commit_May := veil commit_May'
theorem commit_May_eq : commit_May = commit_May' := veil_eq _
abbrev T_commit_At_0 (g : (((PtrV (NI × (Int × (NI × NI)))) × (PtrV (NI × (Int × (NI × NI))))) × NI)) (nc : Nat) (c : Nat → NI) (i : Int) (nexps : Nat) (exps : Nat → NI) (p : Int) (t : Int) (t1 : Int) (t2 : NI) := ((g, ((nc, c), (i, ((), ((nexps, exps), (p, (t, (t1, ())))))))), (t2, ()))
abbrev Y_commit_At_0_0 (g : (((PtrV (NI × (Int × (NI × NI)))) × (PtrV (NI × (Int × (NI × NI))))) × NI)) (nc : Nat) (c : Nat → NI) (nexps : Nat) (exps : Nat → NI) (t : NI) := ((g, ((nc, c), ((), ((nexps, exps), ())))), (t, ()))
abbrev X_commit_At_0 : Type := (((((PtrV (NI × (Int × (NI × NI)))) × (PtrV (NI × (Int × (NI × NI))))) × NI) × ((Nat × (Nat → NI)) × (Int × (Unit × ((Nat × (Nat → NI)) × (Int × (Int × (Int × Unit)))))))) × (NI × Unit))
noncomputable def R_commit_At_0 : X_commit_At_0 → Option (X_commit_At_0 ⊕ (((((PtrV (NI × (Int × (NI × NI)))) × (PtrV (NI × (Int × (NI × NI))))) × NI) × ((Nat × (Nat → NI)) × (Unit × ((Nat × (Nat → NI)) × Unit)))) × (NI × Unit))) := fun x =>
 let g := x.1.1
 let nc := x.1.2.1.1
 let c := x.1.2.1.2
 let i := x.1.2.2.1
 let nexps := x.1.2.2.2.2.1.1
 let exps := x.1.2.2.2.2.1.2
 let p := x.1.2.2.2.2.2.1
 let t := x.1.2.2.2.2.2.2.1
 let t1 := x.1.2.2.2.2.2.2.2.1
 let t2 := x.2.1
 bif (decide (t1 < t)) then (
 match (nat_Of p) with
 | none => none
 | some r => (
 bif ((Nat.ble ((nexps + 1) * 32) 140737488355328) && (Nat.ble (nexps + 1) 9223372036854775807)) then (
 some (.inl ((g, ((nc, c), (i, ((), (((nexps + 1), (glue nexps exps (fun j => (upd (fun _ => (fun _ => 0)) 0 r) (0 + j)))), ((i64.wrap (p * i)), (t, ((i64.wrap (t1 + 1)), ())))))))), (t2, ()))))
 else (
 none)))
 else (
 some (.inr ((g, ((nc, c), ((), ((nexps, exps), ())))), (t2, ()))))
noncomputable def commit_At' (g : (Option (((PtrV (NI × (Int × (NI × NI)))) × (PtrV (NI × (Int × (NI × NI))))) × NI))) (nc : Nat) (c : Nat → NI) (i : Int) : Option (NI) :=
 match g with
 | none => (
 bif (decide (i < 0)) then (
 some (fun _ => 0))
 else (
 bif (decide (i > 7)) then (
 some (fun _ => 0))
 else (
 bif (decide (((nc : Nat) : Int) > 7)) then (
 some (fun _ => 0))
 else (
 none))))
 | some g0 => (
 bif (decide (i < 0)) then (
 some (fun _ => 0))
 else (
 bif (decide (i > 7)) then (
 some (fun _ => 0))
 else (
 bif (decide (((nc : Nat) : Int) > 7)) then (
 some (fun _ => 0))
 else (
 match (loopF R_commit_At_0 ((g0, ((nc, c), (i, ((), ((0, (fun _ => (fun _ => 0))), (1, (((nc : Nat) : Int), (0, ())))))))), ((fun _ => 0), ()))) with
 | none => none
 | some y => (
 let g1 := y.1.1
 let nc1 := y.1.2.1.1
 let c1 := y.1.2.1.2
 let nexps := y.1.2.2.2.1.1
 let exps := y.1.2.2.2.1.2
 let t := y.2.1
 match (power_Multi (some g1) nc1 c1 nexps (fun j => exps (0 + j))) with
 | none => none
 | some r => (
 some r.1))))))
noncomputable def commit_At := veil commit_At'
theorem commit_At_eq : commit_At = commit_At' := veil_eq _
end Go.Pl
