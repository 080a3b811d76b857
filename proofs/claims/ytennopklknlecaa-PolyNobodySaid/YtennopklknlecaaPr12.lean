/-
  The functions of a package, plainly.
-/
import Derived.Test.YtennopklknlecaaDenD
import Derived.Test.YtennopklknlecaaPlA
set_option linter.unusedVariables false
set_option linter.unusedSimpArgs false
set_option maxRecDepth 100000
set_option maxHeartbeats 0
namespace Go.Pl
end Go.Pl
open Go Go.Den Go.Pl
namespace Go.Pl
abbrev T_r12_Trim_0 (nf : Nat) (f : Nat → Int) (n : Int) : (((Nat × (Nat → Int)) × (Int × Unit)) × Unit) := (((nf, f), (n, ())), ())
abbrev Y_r12_Trim_0_0 (nf : Nat) (f : Nat → Int) (n : Int) : (((Nat × (Nat → Int)) × (Int × Unit)) × Unit) := (((nf, f), (n, ())), ())
noncomputable def R_r12_Trim_0 : (((Nat × (Nat → Int)) × (Int × Unit)) × Unit) → Option ((((Nat × (Nat → Int)) × (Int × Unit)) × Unit) ⊕ (((Nat × (Nat → Int)) × (Int × Unit)) × Unit)) := fun x =>
 let nf := x.1.1.1
 let f := x.1.1.2
 let n := x.1.2.1
 bif (decide (n > 0)) then (
 bif (inb (IntKind.i64.wrap (n - 1)) nf) then (
 bif ((f (Int.toNat (IntKind.i64.wrap (n - 1)))) == 0) then (
 some (.inl (((nf, f), ((IntKind.i64.wrap (n - 1)), ())), ())))
 else (
 some (.inr (((nf, f), (n, ())), ()))))
 else (
 none))
 else (
 some (.inr (((nf, f), (n, ())), ())))
noncomputable def r12_Trim' (nf : Nat) (f : Nat → Int) : Option ((Nat × (Nat → Int))) :=
 match (loopF R_r12_Trim_0 (((nf, f), (((nf : Nat) : Int), ())), ())) with
 | none => none
 | some y => (
 let nf1 := y.1.1.1
 let f1 := y.1.1.2
 let n := y.1.2.1
 bif ((decide (0 ≤ n)) && (decide (n ≤ ((nf1 : Nat) : Int)))) then (
 some (((Int.toNat n) - 0), (fun j => f1 (0 + j))))
 else (
 none))
noncomputable def r12_Trim : (Nat) → (Nat → Int) → Option ((Nat × (Nat → Int))) := veil r12_Trim'
theorem r12_Trim_eq : r12_Trim = r12_Trim' := veil_eq _
abbrev T_r12_Eval_0 (nf : Nat) (f : Nat → Int) (x1 : Int) (q : Int) (out : Int) (p : Int) (i : Int) : (((Nat × (Nat → Int)) × (Int × (Int × (Int × (Int × (Int × Unit)))))) × Unit) := (((nf, f), (x1, (q, (out, (p, (i, ())))))), ())
abbrev Y_r12_Eval_0_0 (out : Int) : ((Int × Unit) × Unit) := ((out, ()), ())
noncomputable def R_r12_Eval_0 : (((Nat × (Nat → Int)) × (Int × (Int × (Int × (Int × (Int × Unit)))))) × Unit) → Option ((((Nat × (Nat → Int)) × (Int × (Int × (Int × (Int × (Int × Unit)))))) × Unit) ⊕ ((Int × Unit) × Unit)) := fun x =>
 let nf := x.1.1.1
 let f := x.1.1.2
 let x1 := x.1.2.1
 let q := x.1.2.2.1
 let out := x.1.2.2.2.1
 let p := x.1.2.2.2.2.1
 let i := x.1.2.2.2.2.2.1
 bif (decide (i < ((nf : Nat) : Int))) then (
 bif (inb i nf) then (
 match (r08_Mul (f (Int.toNat i)) p q) with
 | none => none
 | some r => (
 match (r08_Add out r q) with
 | none => none
 | some r1 => (
 match (r08_Mul p x1 q) with
 | none => none
 | some r2 => (
 some (.inl (((nf, f), (x1, (q, (r1, (r2, ((IntKind.i64.wrap (i + 1)), ())))))), ()))))))
 else (
 none))
 else (
 some (.inr ((out, ()), ())))
noncomputable def r12_Eval' (nf : Nat) (f : Nat → Int) (x : Int) (q : Int) : Option (Int) :=
 match (loopF R_r12_Eval_0 (((nf, f), (x, (q, (0, (1, (0, ())))))), ())) with
 | none => none
 | some y => (
 let out := y.1.1
 some out)
noncomputable def r12_Eval : (Nat) → (Nat → Int) → (Int) → (Int) → Option (Int) := veil r12_Eval'
theorem r12_Eval_eq : r12_Eval = r12_Eval' := veil_eq _
noncomputable def r12_at' (nf : Nat) (f : Nat → Int) (k : Int) : Option (Int) :=
 bif (decide (k < ((nf : Nat) : Int))) then (
 bif (inb k nf) then (
 some (f (Int.toNat k)))
 else (
 none))
 else (
 some 0)
noncomputable def r12_at : (Nat) → (Nat → Int) → (Int) → Option (Int) := veil r12_at'
theorem r12_at_eq : r12_at = r12_at' := veil_eq _
abbrev T_r12_Add_0 (na : Nat) (a : Nat → Int) (nb : Nat) (b : Nat → Int) (q : Int) (nout : Nat) (out : Nat → Int) (i : Int) : (((Nat × (Nat → Int)) × ((Nat × (Nat → Int)) × (Int × ((Nat × (Nat → Int)) × (Int × Unit))))) × Unit) := (((na, a), ((nb, b), (q, ((nout, out), (i, ()))))), ())
abbrev Y_r12_Add_0_0 (nout : Nat) (out : Nat → Int) : (((Nat × (Nat → Int)) × Unit) × Unit) := (((nout, out), ()), ())
noncomputable def R_r12_Add_0 : (((Nat × (Nat → Int)) × ((Nat × (Nat → Int)) × (Int × ((Nat × (Nat → Int)) × (Int × Unit))))) × Unit) → Option ((((Nat × (Nat → Int)) × ((Nat × (Nat → Int)) × (Int × ((Nat × (Nat → Int)) × (Int × Unit))))) × Unit) ⊕ (((Nat × (Nat → Int)) × Unit) × Unit)) := fun x =>
 let na := x.1.1.1
 let a := x.1.1.2
 let nb := x.1.2.1.1
 let b := x.1.2.1.2
 let q := x.1.2.2.1
 let nout := x.1.2.2.2.1.1
 let out := x.1.2.2.2.1.2
 let i := x.1.2.2.2.2.1
 bif (decide (i < (if ((na : Nat) : Int) < ((nb : Nat) : Int) then ((nb : Nat) : Int) else ((na : Nat) : Int)))) then (
 match (r12_at na a i) with
 | none => none
 | some r => (
 match (r12_at nb b i) with
 | none => none
 | some r1 => (
 match (r08_Add r r1 q) with
 | none => none
 | some r2 => (
 bif ((Nat.ble ((nout + 1) * 8) 140737488355328) && (Nat.ble (nout + 1) 9223372036854775807)) then (
 some (.inl (((na, a), ((nb, b), (q, (((nout + 1), (glue nout out (fun j => (upd (fun _ => 0) 0 r2) (0 + j)))), ((IntKind.i64.wrap (i + 1)), ()))))), ())))
 else (
 none)))))
 else (
 some (.inr (((nout, out), ()), ())))
abbrev T_r12_Add_52_0 (nf : Nat) (f : Nat → Int) (n : Int) : (((Nat × (Nat → Int)) × (Int × Unit)) × Unit) := (((nf, f), (n, ())), ())
abbrev Y_r12_Add_52_0_0 (nf : Nat) (f : Nat → Int) (n : Int) : (((Nat × (Nat → Int)) × (Int × Unit)) × Unit) := (((nf, f), (n, ())), ())
noncomputable def R_r12_Add_52_0 : (((Nat × (Nat → Int)) × (Int × Unit)) × Unit) → Option ((((Nat × (Nat → Int)) × (Int × Unit)) × Unit) ⊕ (((Nat × (Nat → Int)) × (Int × Unit)) × Unit)) := fun x =>
 let nf := x.1.1.1
 let f := x.1.1.2
 let n := x.1.2.1
 bif (decide (n > 0)) then (
 bif (inb (IntKind.i64.wrap (n - 1)) nf) then (
 bif ((f (0 + (Int.toNat (IntKind.i64.wrap (n - 1))))) == 0) then (
 some (.inl (((nf, f), ((IntKind.i64.wrap (n - 1)), ())), ())))
 else (
 some (.inr (((nf, f), (n, ())), ()))))
 else (
 none))
 else (
 some (.inr (((nf, f), (n, ())), ())))
noncomputable def r12_Add' (na : Nat) (a : Nat → Int) (nb : Nat) (b : Nat → Int) (q : Int) : Option ((((Nat × (Nat → Int)) × Unit) × Unit)) :=
 match (loopF R_r12_Add_0 (((na, a), ((nb, b), (q, ((0, (fun _ => 0)), (0, ()))))), ())) with
 | none => none
 | some y => (
 let nout := y.1.1.1
 let out := y.1.1.2
 match (loopF R_r12_Add_52_0 (((nout, out), (((nout : Nat) : Int), ())), ())) with
 | none => none
 | some y1 => (
 let nf := y1.1.1.1
 let f := y1.1.1.2
 let n := y1.1.2.1
 bif ((decide (0 ≤ n)) && (decide (n ≤ ((nf : Nat) : Int)))) then (
 some (((((Int.toNat n) - 0), f), ()), ()))
 else (
 none)))
noncomputable def r12_Add : (Nat) → (Nat → Int) → (Nat) → (Nat → Int) → (Int) → Option ((((Nat × (Nat → Int)) × Unit) × Unit)) := veil r12_Add'
theorem r12_Add_eq : r12_Add = r12_Add' := veil_eq _
abbrev T_r12_Mul_2 (na : Nat) (a : Nat → Int) (nb : Nat) (b : Nat → Int) (q : Int) (nout : Nat) (out : Nat → Int) (i : Int) (k : Int) : (((Nat × (Nat → Int)) × ((Nat × (Nat → Int)) × (Int × ((Nat × (Nat → Int)) × (Int × (Int × Unit)))))) × Unit) := (((na, a), ((nb, b), (q, ((nout, out), (i, (k, ())))))), ())
abbrev Y_r12_Mul_2_0 (na : Nat) (a : Nat → Int) (nb : Nat) (b : Nat → Int) (q : Int) (nout : Nat) (out : Nat → Int) (i : Int) : (((Nat × (Nat → Int)) × ((Nat × (Nat → Int)) × (Int × ((Nat × (Nat → Int)) × (Int × Unit))))) × Unit) := (((na, a), ((nb, b), (q, ((nout, out), (i, ()))))), ())
noncomputable def R_r12_Mul_2 : (((Nat × (Nat → Int)) × ((Nat × (Nat → Int)) × (Int × ((Nat × (Nat → Int)) × (Int × (Int × Unit)))))) × Unit) → Option ((((Nat × (Nat → Int)) × ((Nat × (Nat → Int)) × (Int × ((Nat × (Nat → Int)) × (Int × (Int × Unit)))))) × Unit) ⊕ (((Nat × (Nat → Int)) × ((Nat × (Nat → Int)) × (Int × ((Nat × (Nat → Int)) × (Int × Unit))))) × Unit)) := fun x =>
 let na := x.1.1.1
 let a := x.1.1.2
 let nb := x.1.2.1.1
 let b := x.1.2.1.2
 let q := x.1.2.2.1
 let nout := x.1.2.2.2.1.1
 let out := x.1.2.2.2.1.2
 let i := x.1.2.2.2.2.1
 let k := x.1.2.2.2.2.2.1
 bif (decide (k < ((nb : Nat) : Int))) then (
 bif (inb (IntKind.i64.wrap (i + k)) nout) then (
 bif (inb i na) then (
 bif (inb k nb) then (
 match (r08_Mul (a (Int.toNat i)) (b (Int.toNat k)) q) with
 | none => none
 | some r => (
 match (r08_Add (out (0 + (Int.toNat (IntKind.i64.wrap (i + k))))) r q) with
 | none => none
 | some r1 => (
 bif (inb (IntKind.i64.wrap (i + k)) nout) then (
 some (.inl (((na, a), ((nb, b), (q, ((nout, (upd out (0 + (Int.toNat (IntKind.i64.wrap (i + k)))) r1)), (i, ((IntKind.i64.wrap (k + 1)), ())))))), ())))
 else (
 none))))
 else (
 none))
 else (
 none))
 else (
 none))
 else (
 some (.inr (((na, a), ((nb, b), (q, ((nout, out), (i, ()))))), ())))
abbrev T_r12_Mul_0 (na : Nat) (a : Nat → Int) (nb : Nat) (b : Nat → Int) (q : Int) (nout : Nat) (out : Nat → Int) (i : Int) : (((Nat × (Nat → Int)) × ((Nat × (Nat → Int)) × (Int × ((Nat × (Nat → Int)) × (Int × Unit))))) × Unit) := (((na, a), ((nb, b), (q, ((nout, out), (i, ()))))), ())
abbrev Y_r12_Mul_0_0 (nout : Nat) (out : Nat → Int) : (((Nat × (Nat → Int)) × Unit) × Unit) := (((nout, out), ()), ())
noncomputable def R_r12_Mul_0 : (((Nat × (Nat → Int)) × ((Nat × (Nat → Int)) × (Int × ((Nat × (Nat → Int)) × (Int × Unit))))) × Unit) → Option ((((Nat × (Nat → Int)) × ((Nat × (Nat → Int)) × (Int × ((Nat × (Nat → Int)) × (Int × Unit))))) × Unit) ⊕ (((Nat × (Nat → Int)) × Unit) × Unit)) := fun x =>
 let na := x.1.1.1
 let a := x.1.1.2
 let nb := x.1.2.1.1
 let b := x.1.2.1.2
 let q := x.1.2.2.1
 let nout := x.1.2.2.2.1.1
 let out := x.1.2.2.2.1.2
 let i := x.1.2.2.2.2.1
 bif (decide (i < ((na : Nat) : Int))) then (
 match (loopF R_r12_Mul_2 (((na, a), ((nb, b), (q, ((nout, out), (i, (0, ())))))), ())) with
 | none => none
 | some y => (
 let na1 := y.1.1.1
 let a1 := y.1.1.2
 let nb1 := y.1.2.1.1
 let b1 := y.1.2.1.2
 let q1 := y.1.2.2.1
 let nout1 := y.1.2.2.2.1.1
 let out1 := y.1.2.2.2.1.2
 let i1 := y.1.2.2.2.2.1
 some (.inl (((na1, a1), ((nb1, b1), (q1, ((nout1, out1), ((IntKind.i64.wrap (i1 + 1)), ()))))), ()))))
 else (
 some (.inr (((nout, out), ()), ())))
abbrev T_r12_Mul_52_0 (nf : Nat) (f : Nat → Int) (n : Int) : (((Nat × (Nat → Int)) × (Int × Unit)) × Unit) := (((nf, f), (n, ())), ())
abbrev Y_r12_Mul_52_0_0 (nf : Nat) (f : Nat → Int) (n : Int) : (((Nat × (Nat → Int)) × (Int × Unit)) × Unit) := (((nf, f), (n, ())), ())
noncomputable def R_r12_Mul_52_0 : (((Nat × (Nat → Int)) × (Int × Unit)) × Unit) → Option ((((Nat × (Nat → Int)) × (Int × Unit)) × Unit) ⊕ (((Nat × (Nat → Int)) × (Int × Unit)) × Unit)) := fun x =>
 let nf := x.1.1.1
 let f := x.1.1.2
 let n := x.1.2.1
 bif (decide (n > 0)) then (
 bif (inb (IntKind.i64.wrap (n - 1)) nf) then (
 bif ((f (0 + (Int.toNat (IntKind.i64.wrap (n - 1))))) == 0) then (
 some (.inl (((nf, f), ((IntKind.i64.wrap (n - 1)), ())), ())))
 else (
 some (.inr (((nf, f), (n, ())), ()))))
 else (
 none))
 else (
 some (.inr (((nf, f), (n, ())), ())))
noncomputable def r12_Mul' (na : Nat) (a : Nat → Int) (nb : Nat) (b : Nat → Int) (q : Int) : Option ((((Nat × (Nat → Int)) × Unit) × Unit)) :=
 bif (((na : Nat) : Int) == 0) then (
 some (((0, (fun _ => 0)), ()), ()))
 else (
 bif (((nb : Nat) : Int) == 0) then (
 some (((0, (fun _ => 0)), ()), ()))
 else (
 bif ((((decide (0 ≤ (IntKind.i64.wrap ((IntKind.i64.wrap (((na : Nat) : Int) + ((nb : Nat) : Int))) - 1)))) && (decide ((IntKind.i64.wrap ((IntKind.i64.wrap (((na : Nat) : Int) + ((nb : Nat) : Int))) - 1)) ≤ (IntKind.i64.wrap ((IntKind.i64.wrap (((na : Nat) : Int) + ((nb : Nat) : Int))) - 1))))) && (decide ((((8 : Nat) : Int) * (IntKind.i64.wrap ((IntKind.i64.wrap (((na : Nat) : Int) + ((nb : Nat) : Int))) - 1))) ≤ 281474976710656))) && (decide ((IntKind.i64.wrap ((IntKind.i64.wrap (((na : Nat) : Int) + ((nb : Nat) : Int))) - 1)) ≤ 9223372036854775807))) then (
 match (loopF R_r12_Mul_0 (((na, a), ((nb, b), (q, (((Int.toNat (IntKind.i64.wrap ((IntKind.i64.wrap (((na : Nat) : Int) + ((nb : Nat) : Int))) - 1))), (fun _ => 0)), (0, ()))))), ())) with
 | none => none
 | some y => (
 let nout := y.1.1.1
 let out := y.1.1.2
 match (loopF R_r12_Mul_52_0 (((nout, out), (((nout : Nat) : Int), ())), ())) with
 | none => none
 | some y1 => (
 let nf := y1.1.1.1
 let f := y1.1.1.2
 let n := y1.1.2.1
 bif ((decide (0 ≤ n)) && (decide (n ≤ ((nf : Nat) : Int)))) then (
 some (((((Int.toNat n) - 0), f), ()), ()))
 else (
 none))))
 else (
 none)))
noncomputable def r12_Mul : (Nat) → (Nat → Int) → (Nat) → (Nat → Int) → (Int) → Option ((((Nat × (Nat → Int)) × Unit) × Unit)) := veil r12_Mul'
theorem r12_Mul_eq : r12_Mul = r12_Mul' := veil_eq _
abbrev T_r12_Same_0 (na : Nat) (a : Nat → Int) (nb : Nat) (b : Nat → Int) (i : Int) : (((Nat × (Nat → Int)) × ((Nat × (Nat → Int)) × (Int × Unit))) × Unit) := (((na, a), ((nb, b), (i, ()))), ())
abbrev Y_r12_Same_0_1  : (((Bool × Unit) × Unit) ⊕ (Unit × Unit)) := (.inr ((), ()))
noncomputable def R_r12_Same_0 : (((Nat × (Nat → Int)) × ((Nat × (Nat → Int)) × (Int × Unit))) × Unit) → Option ((((Nat × (Nat → Int)) × ((Nat × (Nat → Int)) × (Int × Unit))) × Unit) ⊕ (((Bool × Unit) × Unit) ⊕ (Unit × Unit))) := fun x =>
 let na := x.1.1.1
 let a := x.1.1.2
 let nb := x.1.2.1.1
 let b := x.1.2.1.2
 let i := x.1.2.2.1
 bif (decide (i < ((na : Nat) : Int))) then (
 bif (inb i na) then (
 bif (inb i nb) then (
 bif ((a (Int.toNat i)) != (b (Int.toNat i))) then (
 some (.inr (.inl ((false, ()), ()))))
 else (
 some (.inl (((na, a), ((nb, b), ((IntKind.i64.wrap (i + 1)), ()))), ()))))
 else (
 none))
 else (
 none))
 else (
 some (.inr (.inr ((), ()))))
noncomputable def r12_Same' (na : Nat) (a : Nat → Int) (nb : Nat) (b : Nat → Int) : Option (Bool) :=
 bif (((na : Nat) : Int) != ((nb : Nat) : Int)) then (
 some false)
 else (
 match (loopF R_r12_Same_0 (((na, a), ((nb, b), (0, ()))), ())) with
 | none => none
 | some y => (
 match y with
 | .inl y1 => (
 let t := y1.1.1
 some t)
 | .inr y1 => (
 some true)))
noncomputable def r12_Same : (Nat) → (Nat → Int) → (Nat) → (Nat → Int) → Option (Bool) := veil r12_Same'
theorem r12_Same_eq : r12_Same = r12_Same' := veil_eq _
end Go.Pl
