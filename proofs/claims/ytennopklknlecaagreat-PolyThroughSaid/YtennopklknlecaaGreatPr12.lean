/-
  The functions of a package, plainly.
-/
import Derived.Test.YtennopklknlecaaGreatDenD
import Derived.Test.YtennopklknlecaaGreatPlA
set_option linter.unusedVariables false
set_option linter.unusedSimpArgs false
set_option maxRecDepth 100000
set_option maxHeartbeats 0
namespace Go.Pl
end Go.Pl
open Go Go.Den Go.Pl
namespace Go.Pl
noncomputable def r12_at' (nf : Nat) (f : Nat → Int) (k : Int) : Option (Int) :=
 bif (decide (k < ((nf : Nat) : Int))) then (
 bif (inb k nf) then (
 some (f (Int.toNat k)))
 else (
 none))
 else (
 some 0)
noncomputable def r12_at : (Nat) → (Nat → Int) → (Int) → Option (Int) := veil r12_at'
theorem r12_at_eq : r12_at = r12_at' := veil_eq _
abbrev T_r12_Add_0 (na : Nat) (a : Nat → Int) (nb : Nat) (b : Nat → Int) (q : Int) (nout : Nat) (out : Nat → Int) (i : Int) : (((Nat × (Nat → Int)) × ((Nat × (Nat → Int)) × (Int × ((Nat × (Nat → Int)) × (Int × Unit))))) × Unit) := (((na, a), ((nb, b), (q, ((nout, out), (i, ()))))), ())
abbrev Y_r12_Add_0_0 (nout : Nat) (out : Nat → Int) : (((Nat × (Nat → Int)) × Unit) × Unit) := (((nout, out), ()), ())
noncomputable def R_r12_Add_0 : (((Nat × (Nat → Int)) × ((Nat × (Nat → Int)) × (Int × ((Nat × (Nat → Int)) × (Int × Unit))))) × Unit) → Option ((((Nat × (Nat → Int)) × ((Nat × (Nat → Int)) × (Int × ((Nat × (Nat → Int)) × (Int × Unit))))) × Unit) ⊕ (((Nat × (Nat → Int)) × Unit) × Unit)) := fun x =>
 let na := x.1.1.1
 let a := x.1.1.2
 let nb := x.1.2.1.1
 let b := x.1.2.1.2
 let q := x.1.2.2.1
 let nout := x.1.2.2.2.1.1
 let out := x.1.2.2.2.1.2
 let i := x.1.2.2.2.2.1
 bif (decide (i < (if ((na : Nat) : Int) < ((nb : Nat) : Int) then ((nb : Nat) : Int) else ((na : Nat) : Int)))) then (
 match (r12_at na a i) with
 | none => none
 | some r => (
 match (r12_at nb b i) with
 | none => none
 | some r1 => (
 match (r08_Add r r1 q) with
 | none => none
 | some r2 => (
 bif ((Nat.ble ((nout + 1) * 8) 140737488355328) && (Nat.ble (nout + 1) 9223372036854775807)) then (
 some (.inl (((na, a), ((nb, b), (q, (((nout + 1), (glue nout out (fun j => (upd (fun _ => 0) 0 r2) (0 + j)))), ((IntKind.i64.wrap (i + 1)), ()))))), ())))
 else (
 none)))))
 else (
 some (.inr (((nout, out), ()), ())))
abbrev T_r12_Add_52_0 (nf : Nat) (f : Nat → Int) (n : Int) : (((Nat × (Nat → Int)) × (Int × Unit)) × Unit) := (((nf, f), (n, ())), ())
abbrev Y_r12_Add_52_0_0 (nf : Nat) (f : Nat → Int) (n : Int) : (((Nat × (Nat → Int)) × (Int × Unit)) × Unit) := (((nf, f), (n, ())), ())
noncomputable def R_r12_Add_52_0 : (((Nat × (Nat → Int)) × (Int × Unit)) × Unit) → Option ((((Nat × (Nat → Int)) × (Int × Unit)) × Unit) ⊕ (((Nat × (Nat → Int)) × (Int × Unit)) × Unit)) := fun x =>
 let nf := x.1.1.1
 let f := x.1.1.2
 let n := x.1.2.1
 bif (decide (n > 0)) then (
 bif (inb (IntKind.i64.wrap (n - 1)) nf) then (
 bif ((f (0 + (Int.toNat (IntKind.i64.wrap (n - 1))))) == 0) then (
 some (.inl (((nf, f), ((IntKind.i64.wrap (n - 1)), ())), ())))
 else (
 some (.inr (((nf, f), (n, ())), ()))))
 else (
 none))
 else (
 some (.inr (((nf, f), (n, ())), ())))
noncomputable def r12_Add' (na : Nat) (a : Nat → Int) (nb : Nat) (b : Nat → Int) (q : Int) : Option ((((Nat × (Nat → Int)) × Unit) × Unit)) :=
 match (loopF R_r12_Add_0 (((na, a), ((nb, b), (q, ((0, (fun _ => 0)), (0, ()))))), ())) with
 | none => none
 | some y => (
 let nout := y.1.1.1
 let out := y.1.1.2
 match (loopF R_r12_Add_52_0 (((nout, out), (((nout : Nat) : Int), ())), ())) with
 | none => none
 | some y1 => (
 let nf := y1.1.1.1
 let f := y1.1.1.2
 let n := y1.1.2.1
 bif ((decide (0 ≤ n)) && (decide (n ≤ ((nf : Nat) : Int)))) then (
 some (((((Int.toNat n) - 0), f), ()), ()))
 else (
 none)))
noncomputable def r12_Add : (Nat) → (Nat → Int) → (Nat) → (Nat → Int) → (Int) → Option ((((Nat × (Nat → Int)) × Unit) × Unit)) := veil r12_Add'
theorem r12_Add_eq : r12_Add = r12_Add' := veil_eq _
abbrev T_r12_Mul_2 (na : Nat) (a : Nat → Int) (nb : Nat) (b : Nat → Int) (q : Int) (nout : Nat) (out : Nat → Int) (i : Int) (k : Int) : (((Nat × (Nat → Int)) × ((Nat × (Nat → Int)) × (Int × ((Nat × (Nat → Int)) × (Int × (Int × Unit)))))) × Unit) := (((na, a), ((nb, b), (q, ((nout, out), (i, (k, ())))))), ())
abbrev Y_r12_Mul_2_0 (na : Nat) (a : Nat → Int) (nb : Nat) (b : Nat → Int) (q : Int) (nout : Nat) (out : Nat → Int) (i : Int) : (((Nat × (Nat → Int)) × ((Nat × (Nat → Int)) × (Int × ((Nat × (Nat → Int)) × (Int × Unit))))) × Unit) := (((na, a), ((nb, b), (q, ((nout, out), (i, ()))))), ())
noncomputable def R_r12_Mul_2 : (((Nat × (Nat → Int)) × ((Nat × (Nat → Int)) × (Int × ((Nat × (Nat → Int)) × (Int × (Int × Unit)))))) × Unit) → Option ((((Nat × (Nat → Int)) × ((Nat × (Nat → Int)) × (Int × ((Nat × (Nat → Int)) × (Int × (Int × Unit)))))) × Unit) ⊕ (((Nat × (Nat → Int)) × ((Nat × (Nat → Int)) × (Int × ((Nat × (Nat → Int)) × (Int × Unit))))) × Unit)) := fun x =>
 let na := x.1.1.1
 let a := x.1.1.2
 let nb := x.1.2.1.1
 let b := x.1.2.1.2
 let q := x.1.2.2.1
 let nout := x.1.2.2.2.1.1
 let out := x.1.2.2.2.1.2
 let i := x.1.2.2.2.2.1
 let k := x.1.2.2.2.2.2.1
 bif (decide (k < ((nb : Nat) : Int))) then (
 bif (inb (IntKind.i64.wrap (i + k)) nout) then (
 bif (inb i na) then (
 bif (inb k nb) then (
 match (r08_Mul (a (Int.toNat i)) (b (Int.toNat k)) q) with
 | none => none
 | some r => (
 match (r08_Add (out (0 + (Int.toNat (IntKind.i64.wrap (i + k))))) r q) with
 | none => none
 | some r1 => (
 bif (inb (IntKind.i64.wrap (i + k)) nout) then (
 some (.inl (((na, a), ((nb, b), (q, ((nout, (upd out (0 + (Int.toNat (IntKind.i64.wrap (i + k)))) r1)), (i, ((IntKind.i64.wrap (k + 1)), ())))))), ())))
 else (
 none))))
 else (
 none))
 else (
 none))
 else (
 none))
 else (
 some (.inr (((na, a), ((nb, b), (q, ((nout, out), (i, ()))))), ())))
abbrev T_r12_Mul_0 (na : Nat) (a : Nat → Int) (nb : Nat) (b : Nat → Int) (q : Int) (nout : Nat) (out : Nat → Int) (i : Int) : (((Nat × (Nat → Int)) × ((Nat × (Nat → Int)) × (Int × ((Nat × (Nat → Int)) × (Int × Unit))))) × Unit) := (((na, a), ((nb, b), (q, ((nout, out), (i, ()))))), ())
abbrev Y_r12_Mul_0_0 (nout : Nat) (out : Nat → Int) : (((Nat × (Nat → Int)) × Unit) × Unit) := (((nout, out), ()), ())
noncomputable def R_r12_Mul_0 : (((Nat × (Nat → Int)) × ((Nat × (Nat → Int)) × (Int × ((Nat × (Nat → Int)) × (Int × Unit))))) × Unit) → Option ((((Nat × (Nat → Int)) × ((Nat × (Nat → Int)) × (Int × ((Nat × (Nat → Int)) × (Int × Unit))))) × Unit) ⊕ (((Nat × (Nat → Int)) × Unit) × Unit)) := fun x =>
 let na := x.1.1.1
 let a := x.1.1.2
 let nb := x.1.2.1.1
 let b := x.1.2.1.2
 let q := x.1.2.2.1
 let nout := x.1.2.2.2.1.1
 let out := x.1.2.2.2.1.2
 let i := x.1.2.2.2.2.1
 bif (decide (i < ((na : Nat) : Int))) then (
 match (loopF R_r12_Mul_2 (((na, a), ((nb, b), (q, ((nout, out), (i, (0, ())))))), ())) with
 | none => none
 | some y => (
 let na1 := y.1.1.1
 let a1 := y.1.1.2
 let nb1 := y.1.2.1.1
 let b1 := y.1.2.1.2
 let q1 := y.1.2.2.1
 let nout1 := y.1.2.2.2.1.1
 let out1 := y.1.2.2.2.1.2
 let i1 := y.1.2.2.2.2.1
 some (.inl (((na1, a1), ((nb1, b1), (q1, ((nout1, out1), ((IntKind.i64.wrap (i1 + 1)), ()))))), ()))))
 else (
 some (.inr (((nout, out), ()), ())))
abbrev T_r12_Mul_52_0 (nf : Nat) (f : Nat → Int) (n : Int) : (((Nat × (Nat → Int)) × (Int × Unit)) × Unit) := (((nf, f), (n, ())), ())
abbrev Y_r12_Mul_52_0_0 (nf : Nat) (f : Nat → Int) (n : Int) : (((Nat × (Nat → Int)) × (Int × Unit)) × Unit) := (((nf, f), (n, ())), ())
noncomputable def R_r12_Mul_52_0 : (((Nat × (Nat → Int)) × (Int × Unit)) × Unit) → Option ((((Nat × (Nat → Int)) × (Int × Unit)) × Unit) ⊕ (((Nat × (Nat → Int)) × (Int × Unit)) × Unit)) := fun x =>
 let nf := x.1.1.1
 let f := x.1.1.2
 let n := x.1.2.1
 bif (decide (n > 0)) then (
 bif (inb (IntKind.i64.wrap (n - 1)) nf) then (
 bif ((f (0 + (Int.toNat (IntKind.i64.wrap (n - 1))))) == 0) then (
 some (.inl (((nf, f), ((IntKind.i64.wrap (n - 1)), ())), ())))
 else (
 some (.inr (((nf, f), (n, ())), ()))))
 else (
 none))
 else (
 some (.inr (((nf, f), (n, ())), ())))
noncomputable def r12_Mul' (na : Nat) (a : Nat → Int) (nb : Nat) (b : Nat → Int) (q : Int) : Option ((((Nat × (Nat → Int)) × Unit) × Unit)) :=
 bif (((na : Nat) : Int) == 0) then (
 some (((0, (fun _ => 0)), ()), ()))
 else (
 bif (((nb : Nat) : Int) == 0) then (
 some (((0, (fun _ => 0)), ()), ()))
 else (
 bif ((((decide (0 ≤ (IntKind.i64.wrap ((IntKind.i64.wrap (((na : Nat) : Int) + ((nb : Nat) : Int))) - 1)))) && (decide ((IntKind.i64.wrap ((IntKind.i64.wrap (((na : Nat) : Int) + ((nb : Nat) : Int))) - 1)) ≤ (IntKind.i64.wrap ((IntKind.i64.wrap (((na : Nat) : Int) + ((nb : Nat) : Int))) - 1))))) && (decide ((((8 : Nat) : Int) * (IntKind.i64.wrap ((IntKind.i64.wrap (((na : Nat) : Int) + ((nb : Nat) : Int))) - 1))) ≤ 281474976710656))) && (decide ((IntKind.i64.wrap ((IntKind.i64.wrap (((na : Nat) : Int) + ((nb : Nat) : Int))) - 1)) ≤ 9223372036854775807))) then (
 match (loopF R_r12_Mul_0 (((na, a), ((nb, b), (q, (((Int.toNat (IntKind.i64.wrap ((IntKind.i64.wrap (((na : Nat) : Int) + ((nb : Nat) : Int))) - 1))), (fun _ => 0)), (0, ()))))), ())) with
 | none => none
 | some y => (
 let nout := y.1.1.1
 let out := y.1.1.2
 match (loopF R_r12_Mul_52_0 (((nout, out), (((nout : Nat) : Int), ())), ())) with
 | none => none
 | some y1 => (
 let nf := y1.1.1.1
 let f := y1.1.1.2
 let n := y1.1.2.1
 bif ((decide (0 ≤ n)) && (decide (n ≤ ((nf : Nat) : Int)))) then (
 some (((((Int.toNat n) - 0), f), ()), ()))
 else (
 none))))
 else (
 none)))
noncomputable def r12_Mul : (Nat) → (Nat → Int) → (Nat) → (Nat → Int) → (Int) → Option ((((Nat × (Nat → Int)) × Unit) × Unit)) := veil r12_Mul'
theorem r12_Mul_eq : r12_Mul = r12_Mul' := veil_eq _
abbrev T_r12_Through_2 (nxs : Nat) (xs : Nat → Int) (nys : Nat) (ys : Nat → Int) (q : Int) (nout : Nat) (out : Nat → Int) (i : Int) (none_ : Nat) (one : Nat → Int) (k : Int) : (((Nat × (Nat → Int)) × ((Nat × (Nat → Int)) × (Int × ((Nat × (Nat → Int)) × (Int × ((Nat × (Nat → Int)) × (Int × Unit))))))) × Unit) := (((nxs, xs), ((nys, ys), (q, ((nout, out), (i, ((none_, one), (k, ()))))))), ())
abbrev Y_r12_Through_2_0 (nxs : Nat) (xs : Nat → Int) (nys : Nat) (ys : Nat → Int) (q : Int) (nout : Nat) (out : Nat → Int) (i : Int) (none_ : Nat) (one : Nat → Int) : (((Nat × (Nat → Int)) × ((Nat × (Nat → Int)) × (Int × ((Nat × (Nat → Int)) × (Int × ((Nat × (Nat → Int)) × Unit)))))) × Unit) := (((nxs, xs), ((nys, ys), (q, ((nout, out), (i, ((none_, one), ())))))), ())
noncomputable def R_r12_Through_2 : (((Nat × (Nat → Int)) × ((Nat × (Nat → Int)) × (Int × ((Nat × (Nat → Int)) × (Int × ((Nat × (Nat → Int)) × (Int × Unit))))))) × Unit) → Option ((((Nat × (Nat → Int)) × ((Nat × (Nat → Int)) × (Int × ((Nat × (Nat → Int)) × (Int × ((Nat × (Nat → Int)) × (Int × Unit))))))) × Unit) ⊕ (((Nat × (Nat → Int)) × ((Nat × (Nat → Int)) × (Int × ((Nat × (Nat → Int)) × (Int × ((Nat × (Nat → Int)) × Unit)))))) × Unit)) := fun x =>
 let nxs := x.1.1.1
 let xs := x.1.1.2
 let nys := x.1.2.1.1
 let ys := x.1.2.1.2
 let q := x.1.2.2.1
 let nout := x.1.2.2.2.1.1
 let out := x.1.2.2.2.1.2
 let i := x.1.2.2.2.2.1
 let none_ := x.1.2.2.2.2.2.1.1
 let one := x.1.2.2.2.2.2.1.2
 let k := x.1.2.2.2.2.2.2.1
 bif (decide (k < ((nxs : Nat) : Int))) then (
 bif (k != i) then (
 bif (inb i nxs) then (
 bif (inb k nxs) then (
 match (r08_Sub (xs (Int.toNat i)) (xs (Int.toNat k)) q) with
 | none => none
 | some r => (
 match (r08_Inv r q) with
 | none => none
 | some r1 => (
 bif (inb k nxs) then (
 match (r08_Sub 0 (xs (Int.toNat k)) q) with
 | none => none
 | some r2 => (
 match (r08_Mul r2 r1 q) with
 | none => none
 | some r3 => (
 match (r12_Mul none_ (fun j => one (0 + j)) 2 (fun j => (upd (upd (fun _ => 0) 0 r3) 1 r1) (0 + j)) q) with
 | none => none
 | some y => (
 let nr := y.1.1.1
 let r4 := y.1.1.2
 some (.inl (((nxs, xs), ((nys, ys), (q, ((nout, out), (i, ((nr, r4), ((IntKind.i64.wrap (k + 1)), ()))))))), ()))))))
 else (
 none))))
 else (
 none))
 else (
 none))
 else (
 some (.inl (((nxs, xs), ((nys, ys), (q, ((nout, out), (i, ((none_, one), ((IntKind.i64.wrap (k + 1)), ()))))))), ()))))
 else (
 some (.inr (((nxs, xs), ((nys, ys), (q, ((nout, out), (i, ((none_, one), ())))))), ())))
abbrev T_r12_Through_0 (nxs : Nat) (xs : Nat → Int) (nys : Nat) (ys : Nat → Int) (q : Int) (nout : Nat) (out : Nat → Int) (i : Int) : (((Nat × (Nat → Int)) × ((Nat × (Nat → Int)) × (Int × ((Nat × (Nat → Int)) × (Int × Unit))))) × Unit) := (((nxs, xs), ((nys, ys), (q, ((nout, out), (i, ()))))), ())
abbrev Y_r12_Through_0_0 (nout : Nat) (out : Nat → Int) : (((Nat × (Nat → Int)) × Unit) × Unit) := (((nout, out), ()), ())
noncomputable def R_r12_Through_0 : (((Nat × (Nat → Int)) × ((Nat × (Nat → Int)) × (Int × ((Nat × (Nat → Int)) × (Int × Unit))))) × Unit) → Option ((((Nat × (Nat → Int)) × ((Nat × (Nat → Int)) × (Int × ((Nat × (Nat → Int)) × (Int × Unit))))) × Unit) ⊕ (((Nat × (Nat → Int)) × Unit) × Unit)) := fun x =>
 let nxs := x.1.1.1
 let xs := x.1.1.2
 let nys := x.1.2.1.1
 let ys := x.1.2.1.2
 let q := x.1.2.2.1
 let nout := x.1.2.2.2.1.1
 let out := x.1.2.2.2.1.2
 let i := x.1.2.2.2.2.1
 bif (decide (i < ((nxs : Nat) : Int))) then (
 bif (decide (i < ((nys : Nat) : Int))) then (
 bif (inb i nys) then (
 match (loopF R_r12_Through_2 (((nxs, xs), ((nys, ys), (q, ((nout, out), (i, ((1, (upd (fun _ => 0) 0 (ys (Int.toNat i)))), (0, ()))))))), ())) with
 | none => none
 | some y => (
 let nxs1 := y.1.1.1
 let xs1 := y.1.1.2
 let nys1 := y.1.2.1.1
 let ys1 := y.1.2.1.2
 let q1 := y.1.2.2.1
 let nout1 := y.1.2.2.2.1.1
 let out1 := y.1.2.2.2.1.2
 let i1 := y.1.2.2.2.2.1
 let none_ := y.1.2.2.2.2.2.1.1
 let one := y.1.2.2.2.2.2.1.2
 match (r12_Add nout1 (fun j => out1 (0 + j)) none_ (fun j => one (0 + j)) q1) with
 | none => none
 | some y1 => (
 let nr := y1.1.1.1
 let r := y1.1.1.2
 some (.inl (((nxs1, xs1), ((nys1, ys1), (q1, ((nr, r), ((IntKind.i64.wrap (i1 + 1)), ()))))), ())))))
 else (
 none))
 else (
 some (.inr (((nout, out), ()), ()))))
 else (
 some (.inr (((nout, out), ()), ())))
noncomputable def r12_Through' (nxs : Nat) (xs : Nat → Int) (nys : Nat) (ys : Nat → Int) (q : Int) : Option ((((Nat × (Nat → Int)) × Unit) × Unit)) :=
 match (loopF R_r12_Through_0 (((nxs, xs), ((nys, ys), (q, ((0, (fun _ => 0)), (0, ()))))), ())) with
 | none => none
 | some y => (
 let nout := y.1.1.1
 let out := y.1.1.2
 some (((nout, out), ()), ()))
noncomputable def r12_Through : (Nat) → (Nat → Int) → (Nat) → (Nat → Int) → (Int) → Option ((((Nat × (Nat → Int)) × Unit) × Unit)) := veil r12_Through'
theorem r12_Through_eq : r12_Through = r12_Through' := veil_eq _
end Go.Pl
