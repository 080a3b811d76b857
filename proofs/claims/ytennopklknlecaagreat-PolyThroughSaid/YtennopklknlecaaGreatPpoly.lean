/-
  The functions of a package, plainly.
-/
import Derived.Test.YtennopklknlecaaGreatDenD
import Derived.Test.YtennopklknlecaaGreatPlA
import Derived.Test.YtennopklknlecaaGreatPpolyEval
set_option linter.unusedVariables false
set_option linter.unusedSimpArgs false
set_option maxRecDepth 100000
set_option maxHeartbeats 0
namespace Go.Pl
end Go.Pl
open Go Go.Den Go.Pl
namespace Go.Pl
noncomputable def poly_zero' (a : (Nat → Int)) : Option (Bool) :=
 some (eqF (.arr 4 (.int .u64)) a (fun _ => 0))
noncomputable def poly_zero : ((Nat → Int)) → Option (Bool) := veil poly_zero'
theorem poly_zero_eq : poly_zero = poly_zero' := veil_eq _
noncomputable def poly_at' (nf : Nat) (f : Nat → (Nat → Int)) (k : Int) : Option ((Nat → Int)) :=
 bif (decide (k < 0)) then (
 some (fun _ => 0))
 else (
 bif (decide (k ≥ ((nf : Nat) : Int))) then (
 some (fun _ => 0))
 else (
 bif (inb k nf) then (
 some (f (Int.toNat k)))
 else (
 none)))
noncomputable def poly_at : (Nat) → (Nat → (Nat → Int)) → (Int) → Option ((Nat → Int)) := veil poly_at'
theorem poly_at_eq : poly_at = poly_at' := veil_eq _
noncomputable def poly_scaled_1' (k : Int) (a : (Option (PtrV (((PtrV ((Nat → Int) × (Int × ((Nat → Int) × (Nat → Int))))) × (PtrV ((Nat → Int) × (Int × ((Nat → Int) × (Nat → Int)))))) × (Nat → Int))))) (a1 : (Option (SlV (Nat → Int)))) (a2 : (Option Int)) (a3 : (Option (Nat → Int))) : Option ((Nat → Int)) :=
 match a with
 | none => (
 match a1 with
 | none => (
 match a2 with
 | none => (
 match a3 with
 | none => (
 none)
 | some a307 => (
 none))
 | some a203 => (
 match a3 with
 | none => (
 none)
 | some a306 => (
 none)))
 | some a101 => (
 match a2 with
 | none => (
 match a3 with
 | none => (
 none)
 | some a305 => (
 none))
 | some a202 => (
 match a3 with
 | none => (
 none)
 | some a304 => (
 none))))
 | some a0 => (
 match a1 with
 | none => (
 match a2 with
 | none => (
 match a3 with
 | none => (
 bif (PtrV.isRf a0) then (
 none)
 else (
 bif (PtrV.isNil a0) then (
 none)
 else (
 none)))
 | some a303 => (
 bif (PtrV.isRf a0) then (
 none)
 else (
 bif (PtrV.isNil a0) then (
 none)
 else (
 none))))
 | some a201 => (
 match a3 with
 | none => (
 bif (PtrV.isRf a0) then (
 none)
 else (
 bif (PtrV.isNil a0) then (
 none)
 else (
 none)))
 | some a302 => (
 bif (PtrV.isRf a0) then (
 none)
 else (
 bif (PtrV.isNil a0) then (
 none)
 else (
 none)))))
 | some a10 => (
 match a2 with
 | none => (
 match a3 with
 | none => (
 bif (PtrV.isRf a0) then (
 none)
 else (
 bif (PtrV.isNil a0) then (
 bif (SlV.isMs a10) then (
 none)
 else (
 none))
 else (
 bif (SlV.isMs a10) then (
 none)
 else (
 none))))
 | some a301 => (
 bif (PtrV.isRf a0) then (
 none)
 else (
 bif (PtrV.isNil a0) then (
 bif (SlV.isMs a10) then (
 none)
 else (
 none))
 else (
 bif (SlV.isMs a10) then (
 none)
 else (
 none)))))
 | some a20 => (
 match a3 with
 | none => (
 bif (PtrV.isRf a0) then (
 none)
 else (
 bif (PtrV.isNil a0) then (
 bif (SlV.isMs a10) then (
 none)
 else (
 match (poly_at (SlV.len a10) (SlV.fn ((fun _ => 0) : (Nat → Int)) a10) (IntKind.i64.wrap (k - a20))) with
 | none => none
 | some r4 => (
 none)))
 else (
 bif (SlV.isMs a10) then (
 none)
 else (
 match (poly_at (SlV.len a10) (SlV.fn ((fun _ => 0) : (Nat → Int)) a10) (IntKind.i64.wrap (k - a20))) with
 | none => none
 | some r5 => (
 none)))))
 | some a30 => (
 bif (PtrV.isRf a0) then (
 none)
 else (
 bif (PtrV.isNil a0) then (
 bif (SlV.isMs a10) then (
 none)
 else (
 match (poly_at (SlV.len a10) (SlV.fn ((fun _ => 0) : (Nat → Int)) a10) (IntKind.i64.wrap (k - a20))) with
 | none => none
 | some r => (
 match (field_Mul none r a30) with
 | none => none
 | some r1 => (
 some r1))))
 else (
 bif (SlV.isMs a10) then (
 none)
 else (
 match (poly_at (SlV.len a10) (SlV.fn ((fun _ => 0) : (Nat → Int)) a10) (IntKind.i64.wrap (k - a20))) with
 | none => none
 | some r2 => (
 match (field_Mul (some (PtrV.val (((.nil, .nil), (fun _ => 0)) : (((PtrV ((Nat → Int) × (Int × ((Nat → Int) × (Nat → Int))))) × (PtrV ((Nat → Int) × (Int × ((Nat → Int) × (Nat → Int)))))) × (Nat → Int))) a0)) r2 a30) with
 | none => none
 | some r3 => (
 some r3)))))))))
noncomputable def poly_scaled_1 : (Int) → ((Option (PtrV (((PtrV ((Nat → Int) × (Int × ((Nat → Int) × (Nat → Int))))) × (PtrV ((Nat → Int) × (Int × ((Nat → Int) × (Nat → Int)))))) × (Nat → Int))))) → ((Option (SlV (Nat → Int)))) → ((Option Int)) → ((Option (Nat → Int))) → Option ((Nat → Int)) := veil poly_scaled_1'
theorem poly_scaled_1_eq : poly_scaled_1 = poly_scaled_1' := veil_eq _
abbrev T_poly_Trim_0 (g : (((PtrV ((Nat → Int) × (Int × ((Nat → Int) × (Nat → Int))))) × (PtrV ((Nat → Int) × (Int × ((Nat → Int) × (Nat → Int)))))) × (Nat → Int))) (nout : Nat) (out : Nat → (Nat → Int)) (nt : Nat) (t : Nat → (Nat → Int)) (t1 : Int) (t2 : Int) : (((((PtrV ((Nat → Int) × (Int × ((Nat → Int) × (Nat → Int))))) × (PtrV ((Nat → Int) × (Int × ((Nat → Int) × (Nat → Int)))))) × (Nat → Int)) × ((Nat × (Nat → (Nat → Int))) × ((Nat × (Nat → (Nat → Int))) × (Int × (Int × Unit))))) × Unit) := ((g, ((nout, out), ((nt, t), (t1, (t2, ()))))), ())
abbrev Y_poly_Trim_0_0 (nout : Nat) (out : Nat → (Nat → Int)) : (((Nat × (Nat → (Nat → Int))) × Unit) × Unit) := (((nout, out), ()), ())
noncomputable def R_poly_Trim_0 : (((((PtrV ((Nat → Int) × (Int × ((Nat → Int) × (Nat → Int))))) × (PtrV ((Nat → Int) × (Int × ((Nat → Int) × (Nat → Int)))))) × (Nat → Int)) × ((Nat × (Nat → (Nat → Int))) × ((Nat × (Nat → (Nat → Int))) × (Int × (Int × Unit))))) × Unit) → Option ((((((PtrV ((Nat → Int) × (Int × ((Nat → Int) × (Nat → Int))))) × (PtrV ((Nat → Int) × (Int × ((Nat → Int) × (Nat → Int)))))) × (Nat → Int)) × ((Nat × (Nat → (Nat → Int))) × ((Nat × (Nat → (Nat → Int))) × (Int × (Int × Unit))))) × Unit) ⊕ (((Nat × (Nat → (Nat → Int))) × Unit) × Unit)) := fun x =>
 let g := x.1.1
 let nout := x.1.2.1.1
 let out := x.1.2.1.2
 let nt := x.1.2.2.1.1
 let t := x.1.2.2.1.2
 let t1 := x.1.2.2.2.1
 let t2 := x.1.2.2.2.2.1
 bif (decide (t2 < t1)) then (
 bif (inb t2 nt) then (
 match (field_Add (some g) (t (Int.toNat t2)) (fun _ => 0)) with
 | none => none
 | some r => (
 bif ((Nat.ble ((nout + 1) * 32) 140737488355328) && (Nat.ble (nout + 1) 9223372036854775807)) then (
 some (.inl ((g, (((nout + 1), (glue nout out (fun j => (upd (fun _ => (fun _ => 0)) 0 r) (0 + j)))), ((nt, t), (t1, ((IntKind.i64.wrap (t2 + 1)), ()))))), ())))
 else (
 none)))
 else (
 none))
 else (
 some (.inr (((nout, out), ()), ())))
abbrev T_poly_Trim_2 (nout : Nat) (out : Nat → (Nat → Int)) : (((Nat × (Nat → (Nat → Int))) × Unit) × Unit) := (((nout, out), ()), ())
abbrev Y_poly_Trim_2_0 (nout : Nat) (out : Nat → (Nat → Int)) : (((Nat × (Nat → (Nat → Int))) × Unit) × Unit) := (((nout, out), ()), ())
noncomputable def R_poly_Trim_2 : (((Nat × (Nat → (Nat → Int))) × Unit) × Unit) → Option ((((Nat × (Nat → (Nat → Int))) × Unit) × Unit) ⊕ (((Nat × (Nat → (Nat → Int))) × Unit) × Unit)) := fun x =>
 let nout := x.1.1.1
 let out := x.1.1.2
 bif (decide (((nout : Nat) : Int) > 0)) then (
 bif (inb (IntKind.i64.wrap (((nout : Nat) : Int) - 1)) nout) then (
 match (poly_zero (out (0 + (Int.toNat (IntKind.i64.wrap (((nout : Nat) : Int) - 1)))))) with
 | none => none
 | some r => (
 bif r then (
 bif ((decide (0 ≤ (IntKind.i64.wrap (((nout : Nat) : Int) - 1)))) && (decide ((IntKind.i64.wrap (((nout : Nat) : Int) - 1)) ≤ ((nout : Nat) : Int)))) then (
 some (.inl (((((Int.toNat (IntKind.i64.wrap (((nout : Nat) : Int) - 1))) - 0), out), ()), ())))
 else (
 none))
 else (
 some (.inr (((nout, out), ()), ())))))
 else (
 none))
 else (
 some (.inr (((nout, out), ()), ())))
noncomputable def poly_Trim' (g : (Option (((PtrV ((Nat → Int) × (Int × ((Nat → Int) × (Nat → Int))))) × (PtrV ((Nat → Int) × (Int × ((Nat → Int) × (Nat → Int)))))) × (Nat → Int)))) (nf : Nat) (f : Nat → (Nat → Int)) : Option ((((Nat × (Nat → (Nat → Int))) × Unit) × Unit)) :=
 match g with
 | none => (
 match (group_Group_Field none) with
 | none => none
 | some r1 => (
 match r1 with
 | none => (
 some (((0, (fun _ => (fun _ => 0))), ()), ()))
 | some p1 => (
 none)))
 | some g0 => (
 match (group_Group_Field (some g0)) with
 | none => none
 | some r => (
 match r with
 | none => (
 some (((0, (fun _ => (fun _ => 0))), ()), ()))
 | some p => (
 match (loopF R_poly_Trim_0 ((g0, ((0, (fun _ => (fun _ => 0))), ((nf, f), (((nf : Nat) : Int), (0, ()))))), ())) with
 | none => none
 | some y => (
 let nout := y.1.1.1
 let out := y.1.1.2
 match (loopF R_poly_Trim_2 (((nout, out), ()), ())) with
 | none => none
 | some y1 => (
 let nout1 := y1.1.1.1
 let out1 := y1.1.1.2
 some (((nout1, out1), ()), ()))))))
noncomputable def poly_Trim : ((Option (((PtrV ((Nat → Int) × (Int × ((Nat → Int) × (Nat → Int))))) × (PtrV ((Nat → Int) × (Int × ((Nat → Int) × (Nat → Int)))))) × (Nat → Int)))) → (Nat) → (Nat → (Nat → Int)) → Option ((((Nat × (Nat → (Nat → Int))) × Unit) × Unit)) := veil poly_Trim'
theorem poly_Trim_eq : poly_Trim = poly_Trim' := veil_eq _
abbrev T_poly_scaled_93_0 (g : (((PtrV ((Nat → Int) × (Int × ((Nat → Int) × (Nat → Int))))) × (PtrV ((Nat → Int) × (Int × ((Nat → Int) × (Nat → Int)))))) × (Nat → Int))) (nout : Nat) (out : Nat → (Nat → Int)) (t : Int) (t1 : Int) (o : (((PtrV ((Nat → Int) × (Int × ((Nat → Int) × (Nat → Int))))) × (PtrV ((Nat → Int) × (Int × ((Nat → Int) × (Nat → Int)))))) × (Nat → Int))) (no : Nat) (o1 : Nat → (Nat → Int)) (o2 : (Nat → Int)) (o3 : Int) : (((((PtrV ((Nat → Int) × (Int × ((Nat → Int) × (Nat → Int))))) × (PtrV ((Nat → Int) × (Int × ((Nat → Int) × (Nat → Int)))))) × (Nat → Int)) × (Unit × ((Nat × (Nat → (Nat → Int))) × (Int × (Int × Unit))))) × ((((PtrV ((Nat → Int) × (Int × ((Nat → Int) × (Nat → Int))))) × (PtrV ((Nat → Int) × (Int × ((Nat → Int) × (Nat → Int)))))) × (Nat → Int)) × ((Nat × (Nat → (Nat → Int))) × ((Nat → Int) × (Int × Unit))))) := ((g, ((), ((nout, out), (t, (t1, ()))))), (o, ((no, o1), (o2, (o3, ())))))
abbrev Y_poly_scaled_93_0_0 (g : (((PtrV ((Nat → Int) × (Int × ((Nat → Int) × (Nat → Int))))) × (PtrV ((Nat → Int) × (Int × ((Nat → Int) × (Nat → Int)))))) × (Nat → Int))) (nout : Nat) (out : Nat → (Nat → Int)) (o : (((PtrV ((Nat → Int) × (Int × ((Nat → Int) × (Nat → Int))))) × (PtrV ((Nat → Int) × (Int × ((Nat → Int) × (Nat → Int)))))) × (Nat → Int))) (no : Nat) (o1 : Nat → (Nat → Int)) (o2 : (Nat → Int)) (o3 : Int) : (((((PtrV ((Nat → Int) × (Int × ((Nat → Int) × (Nat → Int))))) × (PtrV ((Nat → Int) × (Int × ((Nat → Int) × (Nat → Int)))))) × (Nat → Int)) × ((Nat × (Nat → (Nat → Int))) × Unit)) × ((((PtrV ((Nat → Int) × (Int × ((Nat → Int) × (Nat → Int))))) × (PtrV ((Nat → Int) × (Int × ((Nat → Int) × (Nat → Int)))))) × (Nat → Int)) × ((Nat × (Nat → (Nat → Int))) × ((Nat → Int) × (Int × Unit))))) := ((g, ((nout, out), ())), (o, ((no, o1), (o2, (o3, ())))))
noncomputable def R_poly_scaled_93_0 : (((((PtrV ((Nat → Int) × (Int × ((Nat → Int) × (Nat → Int))))) × (PtrV ((Nat → Int) × (Int × ((Nat → Int) × (Nat → Int)))))) × (Nat → Int)) × (Unit × ((Nat × (Nat → (Nat → Int))) × (Int × (Int × Unit))))) × ((((PtrV ((Nat → Int) × (Int × ((Nat → Int) × (Nat → Int))))) × (PtrV ((Nat → Int) × (Int × ((Nat → Int) × (Nat → Int)))))) × (Nat → Int)) × ((Nat × (Nat → (Nat → Int))) × ((Nat → Int) × (Int × Unit))))) → Option ((((((PtrV ((Nat → Int) × (Int × ((Nat → Int) × (Nat → Int))))) × (PtrV ((Nat → Int) × (Int × ((Nat → Int) × (Nat → Int)))))) × (Nat → Int)) × (Unit × ((Nat × (Nat → (Nat → Int))) × (Int × (Int × Unit))))) × ((((PtrV ((Nat → Int) × (Int × ((Nat → Int) × (Nat → Int))))) × (PtrV ((Nat → Int) × (Int × ((Nat → Int) × (Nat → Int)))))) × (Nat → Int)) × ((Nat × (Nat → (Nat → Int))) × ((Nat → Int) × (Int × Unit))))) ⊕ (((((PtrV ((Nat → Int) × (Int × ((Nat → Int) × (Nat → Int))))) × (PtrV ((Nat → Int) × (Int × ((Nat → Int) × (Nat → Int)))))) × (Nat → Int)) × ((Nat × (Nat → (Nat → Int))) × Unit)) × ((((PtrV ((Nat → Int) × (Int × ((Nat → Int) × (Nat → Int))))) × (PtrV ((Nat → Int) × (Int × ((Nat → Int) × (Nat → Int)))))) × (Nat → Int)) × ((Nat × (Nat → (Nat → Int))) × ((Nat → Int) × (Int × Unit)))))) := fun x =>
 let g := x.1.1
 let nout := x.1.2.2.1.1
 let out := x.1.2.2.1.2
 let t := x.1.2.2.2.1
 let t1 := x.1.2.2.2.2.1
 let o := x.2.1
 let no := x.2.2.1.1
 let o1 := x.2.2.1.2
 let o2 := x.2.2.2.1
 let o3 := x.2.2.2.2.1
 bif (decide (t1 < t)) then (
 match (poly_scaled_1 t1 (some (.fz o)) (some (.fz no o1)) (some o3) (some o2)) with
 | none => none
 | some r => (
 bif ((Nat.ble ((nout + 1) * 32) 140737488355328) && (Nat.ble (nout + 1) 9223372036854775807)) then (
 some (.inl ((g, ((), (((nout + 1), (glue nout out (fun j => (upd (fun _ => (fun _ => 0)) 0 r) (0 + j)))), (t, ((IntKind.i64.wrap (t1 + 1)), ()))))), (o, ((no, o1), (o2, (o3, ())))))))
 else (
 none)))
 else (
 some (.inr ((g, ((nout, out), ())), (o, ((no, o1), (o2, (o3, ())))))))
noncomputable def R_poly_scaled_93_0_v1 : ((Unit × (Unit × ((Nat × (Nat → (Nat → Int))) × (Int × (Int × Unit))))) × (Unit × ((Nat × (Nat → (Nat → Int))) × ((Nat → Int) × (Int × Unit))))) → Option (((Unit × (Unit × ((Nat × (Nat → (Nat → Int))) × (Int × (Int × Unit))))) × (Unit × ((Nat × (Nat → (Nat → Int))) × ((Nat → Int) × (Int × Unit))))) ⊕ ((Unit × ((Nat × (Nat → (Nat → Int))) × Unit)) × (Unit × ((Nat × (Nat → (Nat → Int))) × ((Nat → Int) × (Int × Unit)))))) := fun x =>
 let nout := x.1.2.2.1.1
 let out := x.1.2.2.1.2
 let t := x.1.2.2.2.1
 let t1 := x.1.2.2.2.2.1
 let no := x.2.2.1.1
 let o := x.2.2.1.2
 let o1 := x.2.2.2.1
 let o2 := x.2.2.2.2.1
 bif (decide (t1 < t)) then (
 match (poly_scaled_1 t1 (some .nil) (some (.fz no o)) (some o2) (some o1)) with
 | none => none
 | some r => (
 bif ((Nat.ble ((nout + 1) * 32) 140737488355328) && (Nat.ble (nout + 1) 9223372036854775807)) then (
 some (.inl (((), ((), (((nout + 1), (glue nout out (fun j => (upd (fun _ => (fun _ => 0)) 0 r) (0 + j)))), (t, ((IntKind.i64.wrap (t1 + 1)), ()))))), ((), ((no, o), (o1, (o2, ())))))))
 else (
 none)))
 else (
 some (.inr (((), ((nout, out), ())), ((), ((no, o), (o1, (o2, ())))))))
noncomputable def poly_scaled' (g : (Option (((PtrV ((Nat → Int) × (Int × ((Nat → Int) × (Nat → Int))))) × (PtrV ((Nat → Int) × (Int × ((Nat → Int) × (Nat → Int)))))) × (Nat → Int)))) (nf : Nat) (f : Nat → (Nat → Int)) (by_ : (Nat → Int)) (up : Int) : Option ((((Nat × (Nat → (Nat → Int))) × Unit) × Unit)) :=
 match g with
 | none => (
 match (loopF R_poly_scaled_93_0_v1 (((), ((), ((0, (fun _ => (fun _ => 0))), ((IntKind.i64.wrap (((nf : Nat) : Int) + up)), (0, ()))))), ((), ((nf, f), (by_, (up, ())))))) with
 | none => none
 | some y2 => (
 let nout1 := y2.1.2.1.1
 let out1 := y2.1.2.1.2
 let no1 := y2.2.2.1.1
 let o4 := y2.2.2.1.2
 let o5 := y2.2.2.2.1
 let o6 := y2.2.2.2.2.1
 match (poly_Trim none nout1 (fun j => out1 (0 + j))) with
 | none => none
 | some y3 => (
 let nr1 := y3.1.1.1
 let r1 := y3.1.1.2
 some (((nr1, r1), ()), ()))))
 | some g0 => (
 match (loopF R_poly_scaled_93_0 ((g0, ((), ((0, (fun _ => (fun _ => 0))), ((IntKind.i64.wrap (((nf : Nat) : Int) + up)), (0, ()))))), (g0, ((nf, f), (by_, (up, ())))))) with
 | none => none
 | some y => (
 let g1 := y.1.1
 let nout := y.1.2.1.1
 let out := y.1.2.1.2
 let o := y.2.1
 let no := y.2.2.1.1
 let o1 := y.2.2.1.2
 let o2 := y.2.2.2.1
 let o3 := y.2.2.2.2.1
 match (poly_Trim (some g1) nout (fun j => out (0 + j))) with
 | none => none
 | some y1 => (
 let nr := y1.1.1.1
 let r := y1.1.1.2
 some (((nr, r), ()), ()))))
noncomputable def poly_scaled : ((Option (((PtrV ((Nat → Int) × (Int × ((Nat → Int) × (Nat → Int))))) × (PtrV ((Nat → Int) × (Int × ((Nat → Int) × (Nat → Int)))))) × (Nat → Int)))) → (Nat) → (Nat → (Nat → Int)) → ((Nat → Int)) → (Int) → Option ((((Nat × (Nat → (Nat → Int))) × Unit) × Unit)) := veil poly_scaled'
theorem poly_scaled_eq : poly_scaled = poly_scaled' := veil_eq _
noncomputable def poly_Add_1' (k : Int) (a : (Option (PtrV (((PtrV ((Nat → Int) × (Int × ((Nat → Int) × (Nat → Int))))) × (PtrV ((Nat → Int) × (Int × ((Nat → Int) × (Nat → Int)))))) × (Nat → Int))))) (a1 : (Option (SlV (Nat → Int)))) (a2 : (Option (SlV (Nat → Int)))) : Option ((Nat → Int)) :=
 match a with
 | none => (
 match a1 with
 | none => (
 match a2 with
 | none => (
 none)
 | some a203 => (
 none))
 | some a101 => (
 match a2 with
 | none => (
 none)
 | some a202 => (
 none)))
 | some a0 => (
 match a1 with
 | none => (
 match a2 with
 | none => (
 bif (PtrV.isRf a0) then (
 none)
 else (
 bif (PtrV.isNil a0) then (
 none)
 else (
 none)))
 | some a201 => (
 bif (PtrV.isRf a0) then (
 none)
 else (
 bif (PtrV.isNil a0) then (
 none)
 else (
 none))))
 | some a10 => (
 match a2 with
 | none => (
 bif (PtrV.isRf a0) then (
 none)
 else (
 bif (PtrV.isNil a0) then (
 bif (SlV.isMs a10) then (
 none)
 else (
 match (poly_at (SlV.len a10) (SlV.fn ((fun _ => 0) : (Nat → Int)) a10) k) with
 | none => none
 | some r6 => (
 none)))
 else (
 bif (SlV.isMs a10) then (
 none)
 else (
 match (poly_at (SlV.len a10) (SlV.fn ((fun _ => 0) : (Nat → Int)) a10) k) with
 | none => none
 | some r7 => (
 none)))))
 | some a20 => (
 bif (PtrV.isRf a0) then (
 none)
 else (
 bif (PtrV.isNil a0) then (
 bif (SlV.isMs a10) then (
 none)
 else (
 match (poly_at (SlV.len a10) (SlV.fn ((fun _ => 0) : (Nat → Int)) a10) k) with
 | none => none
 | some r => (
 bif (SlV.isMs a20) then (
 none)
 else (
 match (poly_at (SlV.len a20) (SlV.fn ((fun _ => 0) : (Nat → Int)) a20) k) with
 | none => none
 | some r1 => (
 match (field_Add none r r1) with
 | none => none
 | some r2 => (
 some r2))))))
 else (
 bif (SlV.isMs a10) then (
 none)
 else (
 match (poly_at (SlV.len a10) (SlV.fn ((fun _ => 0) : (Nat → Int)) a10) k) with
 | none => none
 | some r3 => (
 bif (SlV.isMs a20) then (
 none)
 else (
 match (poly_at (SlV.len a20) (SlV.fn ((fun _ => 0) : (Nat → Int)) a20) k) with
 | none => none
 | some r4 => (
 match (field_Add (some (PtrV.val (((.nil, .nil), (fun _ => 0)) : (((PtrV ((Nat → Int) × (Int × ((Nat → Int) × (Nat → Int))))) × (PtrV ((Nat → Int) × (Int × ((Nat → Int) × (Nat → Int)))))) × (Nat → Int))) a0)) r3 r4) with
 | none => none
 | some r5 => (
 some r5))))))))))
noncomputable def poly_Add_1 : (Int) → ((Option (PtrV (((PtrV ((Nat → Int) × (Int × ((Nat → Int) × (Nat → Int))))) × (PtrV ((Nat → Int) × (Int × ((Nat → Int) × (Nat → Int)))))) × (Nat → Int))))) → ((Option (SlV (Nat → Int)))) → ((Option (SlV (Nat → Int)))) → Option ((Nat → Int)) := veil poly_Add_1'
theorem poly_Add_1_eq : poly_Add_1 = poly_Add_1' := veil_eq _
abbrev T_poly_Add_93_0 (g : (((PtrV ((Nat → Int) × (Int × ((Nat → Int) × (Nat → Int))))) × (PtrV ((Nat → Int) × (Int × ((Nat → Int) × (Nat → Int)))))) × (Nat → Int))) (nout : Nat) (out : Nat → (Nat → Int)) (t : Int) (t1 : Int) (o : (((PtrV ((Nat → Int) × (Int × ((Nat → Int) × (Nat → Int))))) × (PtrV ((Nat → Int) × (Int × ((Nat → Int) × (Nat → Int)))))) × (Nat → Int))) (no : Nat) (o1 : Nat → (Nat → Int)) (no1 : Nat) (o2 : Nat → (Nat → Int)) : (((((PtrV ((Nat → Int) × (Int × ((Nat → Int) × (Nat → Int))))) × (PtrV ((Nat → Int) × (Int × ((Nat → Int) × (Nat → Int)))))) × (Nat → Int)) × (Unit × ((Nat × (Nat → (Nat → Int))) × (Int × (Int × Unit))))) × ((((PtrV ((Nat → Int) × (Int × ((Nat → Int) × (Nat → Int))))) × (PtrV ((Nat → Int) × (Int × ((Nat → Int) × (Nat → Int)))))) × (Nat → Int)) × ((Nat × (Nat → (Nat → Int))) × ((Nat × (Nat → (Nat → Int))) × Unit)))) := ((g, ((), ((nout, out), (t, (t1, ()))))), (o, ((no, o1), ((no1, o2), ()))))
abbrev Y_poly_Add_93_0_0 (g : (((PtrV ((Nat → Int) × (Int × ((Nat → Int) × (Nat → Int))))) × (PtrV ((Nat → Int) × (Int × ((Nat → Int) × (Nat → Int)))))) × (Nat → Int))) (nout : Nat) (out : Nat → (Nat → Int)) (o : (((PtrV ((Nat → Int) × (Int × ((Nat → Int) × (Nat → Int))))) × (PtrV ((Nat → Int) × (Int × ((Nat → Int) × (Nat → Int)))))) × (Nat → Int))) (no : Nat) (o1 : Nat → (Nat → Int)) (no1 : Nat) (o2 : Nat → (Nat → Int)) : (((((PtrV ((Nat → Int) × (Int × ((Nat → Int) × (Nat → Int))))) × (PtrV ((Nat → Int) × (Int × ((Nat → Int) × (Nat → Int)))))) × (Nat → Int)) × ((Nat × (Nat → (Nat → Int))) × Unit)) × ((((PtrV ((Nat → Int) × (Int × ((Nat → Int) × (Nat → Int))))) × (PtrV ((Nat → Int) × (Int × ((Nat → Int) × (Nat → Int)))))) × (Nat → Int)) × ((Nat × (Nat → (Nat → Int))) × ((Nat × (Nat → (Nat → Int))) × Unit)))) := ((g, ((nout, out), ())), (o, ((no, o1), ((no1, o2), ()))))
noncomputable def R_poly_Add_93_0 : (((((PtrV ((Nat → Int) × (Int × ((Nat → Int) × (Nat → Int))))) × (PtrV ((Nat → Int) × (Int × ((Nat → Int) × (Nat → Int)))))) × (Nat → Int)) × (Unit × ((Nat × (Nat → (Nat → Int))) × (Int × (Int × Unit))))) × ((((PtrV ((Nat → Int) × (Int × ((Nat → Int) × (Nat → Int))))) × (PtrV ((Nat → Int) × (Int × ((Nat → Int) × (Nat → Int)))))) × (Nat → Int)) × ((Nat × (Nat → (Nat → Int))) × ((Nat × (Nat → (Nat → Int))) × Unit)))) → Option ((((((PtrV ((Nat → Int) × (Int × ((Nat → Int) × (Nat → Int))))) × (PtrV ((Nat → Int) × (Int × ((Nat → Int) × (Nat → Int)))))) × (Nat → Int)) × (Unit × ((Nat × (Nat → (Nat → Int))) × (Int × (Int × Unit))))) × ((((PtrV ((Nat → Int) × (Int × ((Nat → Int) × (Nat → Int))))) × (PtrV ((Nat → Int) × (Int × ((Nat → Int) × (Nat → Int)))))) × (Nat → Int)) × ((Nat × (Nat → (Nat → Int))) × ((Nat × (Nat → (Nat → Int))) × Unit)))) ⊕ (((((PtrV ((Nat → Int) × (Int × ((Nat → Int) × (Nat → Int))))) × (PtrV ((Nat → Int) × (Int × ((Nat → Int) × (Nat → Int)))))) × (Nat → Int)) × ((Nat × (Nat → (Nat → Int))) × Unit)) × ((((PtrV ((Nat → Int) × (Int × ((Nat → Int) × (Nat → Int))))) × (PtrV ((Nat → Int) × (Int × ((Nat → Int) × (Nat → Int)))))) × (Nat → Int)) × ((Nat × (Nat → (Nat → Int))) × ((Nat × (Nat → (Nat → Int))) × Unit))))) := fun x =>
 let g := x.1.1
 let nout := x.1.2.2.1.1
 let out := x.1.2.2.1.2
 let t := x.1.2.2.2.1
 let t1 := x.1.2.2.2.2.1
 let o := x.2.1
 let no := x.2.2.1.1
 let o1 := x.2.2.1.2
 let no1 := x.2.2.2.1.1
 let o2 := x.2.2.2.1.2
 bif (decide (t1 < t)) then (
 match (poly_Add_1 t1 (some (.fz o)) (some (.fz no o1)) (some (.fz no1 o2))) with
 | none => none
 | some r => (
 bif ((Nat.ble ((nout + 1) * 32) 140737488355328) && (Nat.ble (nout + 1) 9223372036854775807)) then (
 some (.inl ((g, ((), (((nout + 1), (glue nout out (fun j => (upd (fun _ => (fun _ => 0)) 0 r) (0 + j)))), (t, ((IntKind.i64.wrap (t1 + 1)), ()))))), (o, ((no, o1), ((no1, o2), ()))))))
 else (
 none)))
 else (
 some (.inr ((g, ((nout, out), ())), (o, ((no, o1), ((no1, o2), ()))))))
noncomputable def R_poly_Add_93_0_v1 : ((Unit × (Unit × ((Nat × (Nat → (Nat → Int))) × (Int × (Int × Unit))))) × (Unit × ((Nat × (Nat → (Nat → Int))) × ((Nat × (Nat → (Nat → Int))) × Unit)))) → Option (((Unit × (Unit × ((Nat × (Nat → (Nat → Int))) × (Int × (Int × Unit))))) × (Unit × ((Nat × (Nat → (Nat → Int))) × ((Nat × (Nat → (Nat → Int))) × Unit)))) ⊕ ((Unit × ((Nat × (Nat → (Nat → Int))) × Unit)) × (Unit × ((Nat × (Nat → (Nat → Int))) × ((Nat × (Nat → (Nat → Int))) × Unit))))) := fun x =>
 let nout := x.1.2.2.1.1
 let out := x.1.2.2.1.2
 let t := x.1.2.2.2.1
 let t1 := x.1.2.2.2.2.1
 let no := x.2.2.1.1
 let o := x.2.2.1.2
 let no1 := x.2.2.2.1.1
 let o1 := x.2.2.2.1.2
 bif (decide (t1 < t)) then (
 match (poly_Add_1 t1 (some .nil) (some (.fz no o)) (some (.fz no1 o1))) with
 | none => none
 | some r => (
 bif ((Nat.ble ((nout + 1) * 32) 140737488355328) && (Nat.ble (nout + 1) 9223372036854775807)) then (
 some (.inl (((), ((), (((nout + 1), (glue nout out (fun j => (upd (fun _ => (fun _ => 0)) 0 r) (0 + j)))), (t, ((IntKind.i64.wrap (t1 + 1)), ()))))), ((), ((no, o), ((no1, o1), ()))))))
 else (
 none)))
 else (
 some (.inr (((), ((nout, out), ())), ((), ((no, o), ((no1, o1), ()))))))
noncomputable def poly_Add' (g : (Option (((PtrV ((Nat → Int) × (Int × ((Nat → Int) × (Nat → Int))))) × (PtrV ((Nat → Int) × (Int × ((Nat → Int) × (Nat → Int)))))) × (Nat → Int)))) (na : Nat) (a : Nat → (Nat → Int)) (nb : Nat) (b : Nat → (Nat → Int)) : Option ((((Nat × (Nat → (Nat → Int))) × Unit) × Unit)) :=
 match g with
 | none => (
 match (loopF R_poly_Add_93_0_v1 (((), ((), ((0, (fun _ => (fun _ => 0))), ((if ((na : Nat) : Int) < ((nb : Nat) : Int) then ((nb : Nat) : Int) else ((na : Nat) : Int)), (0, ()))))), ((), ((na, a), ((nb, b), ()))))) with
 | none => none
 | some y2 => (
 let nout1 := y2.1.2.1.1
 let out1 := y2.1.2.1.2
 let no2 := y2.2.2.1.1
 let o3 := y2.2.2.1.2
 let no3 := y2.2.2.2.1.1
 let o4 := y2.2.2.2.1.2
 match (poly_Trim none nout1 (fun j => out1 (0 + j))) with
 | none => none
 | some y3 => (
 let nr1 := y3.1.1.1
 let r1 := y3.1.1.2
 some (((nr1, r1), ()), ()))))
 | some g0 => (
 match (loopF R_poly_Add_93_0 ((g0, ((), ((0, (fun _ => (fun _ => 0))), ((if ((na : Nat) : Int) < ((nb : Nat) : Int) then ((nb : Nat) : Int) else ((na : Nat) : Int)), (0, ()))))), (g0, ((na, a), ((nb, b), ()))))) with
 | none => none
 | some y => (
 let g1 := y.1.1
 let nout := y.1.2.1.1
 let out := y.1.2.1.2
 let o := y.2.1
 let no := y.2.2.1.1
 let o1 := y.2.2.1.2
 let no1 := y.2.2.2.1.1
 let o2 := y.2.2.2.1.2
 match (poly_Trim (some g1) nout (fun j => out (0 + j))) with
 | none => none
 | some y1 => (
 let nr := y1.1.1.1
 let r := y1.1.1.2
 some (((nr, r), ()), ()))))
noncomputable def poly_Add : ((Option (((PtrV ((Nat → Int) × (Int × ((Nat → Int) × (Nat → Int))))) × (PtrV ((Nat → Int) × (Int × ((Nat → Int) × (Nat → Int)))))) × (Nat → Int)))) → (Nat) → (Nat → (Nat → Int)) → (Nat) → (Nat → (Nat → Int)) → Option ((((Nat × (Nat → (Nat → Int))) × Unit) × Unit)) := veil poly_Add'
theorem poly_Add_eq : poly_Add = poly_Add' := veil_eq _
abbrev T_poly_Mul_1_0 (k : Int) (t : (SlV (Nat → Int))) (t1 : (PtrV (((PtrV ((Nat → Int) × (Int × ((Nat → Int) × (Nat → Int))))) × (PtrV ((Nat → Int) × (Int × ((Nat → Int) × (Nat → Int)))))) × (Nat → Int)))) (t2 : (SlV (Nat → Int))) (t3 : Int) (t4 : Int) (t5 : (Nat → Int)) (out : (Nat → Int)) : ((Int × ((SlV (Nat → Int)) × ((PtrV (((PtrV ((Nat → Int) × (Int × ((Nat → Int) × (Nat → Int))))) × (PtrV ((Nat → Int) × (Int × ((Nat → Int) × (Nat → Int)))))) × (Nat → Int))) × ((SlV (Nat → Int)) × (Unit × (Unit × (Int × (Int × Unit)))))))) × ((Nat → Int) × ((Nat → Int) × Unit))) := ((k, (t, (t1, (t2, ((), ((), (t3, (t4, ())))))))), (t5, (out, ())))
abbrev Y_poly_Mul_1_0_0 (t : (Nat → Int)) (out : (Nat → Int)) : ((Unit × (Unit × Unit)) × ((Nat → Int) × ((Nat → Int) × Unit))) := (((), ((), ())), (t, (out, ())))
noncomputable def R_poly_Mul_1_0 : ((Int × ((SlV (Nat → Int)) × ((PtrV (((PtrV ((Nat → Int) × (Int × ((Nat → Int) × (Nat → Int))))) × (PtrV ((Nat → Int) × (Int × ((Nat → Int) × (Nat → Int)))))) × (Nat → Int))) × ((SlV (Nat → Int)) × (Unit × (Unit × (Int × (Int × Unit)))))))) × ((Nat → Int) × ((Nat → Int) × Unit))) → Option (((Int × ((SlV (Nat → Int)) × ((PtrV (((PtrV ((Nat → Int) × (Int × ((Nat → Int) × (Nat → Int))))) × (PtrV ((Nat → Int) × (Int × ((Nat → Int) × (Nat → Int)))))) × (Nat → Int))) × ((SlV (Nat → Int)) × (Unit × (Unit × (Int × (Int × Unit)))))))) × ((Nat → Int) × ((Nat → Int) × Unit))) ⊕ ((Unit × (Unit × Unit)) × ((Nat → Int) × ((Nat → Int) × Unit)))) := fun x =>
 let k := x.1.1
 let t := x.1.2.1
 let t1 := x.1.2.2.1
 let t2 := x.1.2.2.2.1
 let t3 := x.1.2.2.2.2.2.2.1
 let t4 := x.1.2.2.2.2.2.2.2.1
 let t5 := x.2.1
 let out := x.2.2.1
 bif (decide (t4 < t3)) then (
 bif (PtrV.isRf t1) then (
 none)
 else (
 bif (PtrV.isNil t1) then (
 bif (PtrV.isRf t1) then (
 none)
 else (
 bif (PtrV.isNil t1) then (
 bif (SlV.isMs t) then (
 none)
 else (
 bif (inb t4 (SlV.len t)) then (
 bif (SlV.isMs t2) then (
 none)
 else (
 match (poly_at (SlV.len t2) (SlV.fn ((fun _ => 0) : (Nat → Int)) t2) (IntKind.i64.wrap (k - t4))) with
 | none => none
 | some r => (
 match (field_Mul none ((SlV.fn ((fun _ => 0) : (Nat → Int)) t) (Int.toNat t4)) r) with
 | none => none
 | some r1 => (
 match (field_Add none out r1) with
 | none => none
 | some r2 => (
 some (.inl ((k, (t, (t1, (t2, ((), ((), (t3, ((IntKind.i64.wrap (t4 + 1)), ())))))))), (t5, (r2, ())))))))))
 else (
 none)))
 else (
 bif (SlV.isMs t) then (
 none)
 else (
 bif (inb t4 (SlV.len t)) then (
 bif (SlV.isMs t2) then (
 none)
 else (
 match (poly_at (SlV.len t2) (SlV.fn ((fun _ => 0) : (Nat → Int)) t2) (IntKind.i64.wrap (k - t4))) with
 | none => none
 | some r3 => (
 match (field_Mul (some (PtrV.val (((.nil, .nil), (fun _ => 0)) : (((PtrV ((Nat → Int) × (Int × ((Nat → Int) × (Nat → Int))))) × (PtrV ((Nat → Int) × (Int × ((Nat → Int) × (Nat → Int)))))) × (Nat → Int))) t1)) ((SlV.fn ((fun _ => 0) : (Nat → Int)) t) (Int.toNat t4)) r3) with
 | none => none
 | some r4 => (
 match (field_Add none out r4) with
 | none => none
 | some r5 => (
 some (.inl ((k, (t, (t1, (t2, ((), ((), (t3, ((IntKind.i64.wrap (t4 + 1)), ())))))))), (t5, (r5, ())))))))))
 else (
 none)))))
 else (
 bif (PtrV.isRf t1) then (
 none)
 else (
 bif (PtrV.isNil t1) then (
 bif (SlV.isMs t) then (
 none)
 else (
 bif (inb t4 (SlV.len t)) then (
 bif (SlV.isMs t2) then (
 none)
 else (
 match (poly_at (SlV.len t2) (SlV.fn ((fun _ => 0) : (Nat → Int)) t2) (IntKind.i64.wrap (k - t4))) with
 | none => none
 | some r6 => (
 match (field_Mul none ((SlV.fn ((fun _ => 0) : (Nat → Int)) t) (Int.toNat t4)) r6) with
 | none => none
 | some r7 => (
 match (field_Add (some (PtrV.val (((.nil, .nil), (fun _ => 0)) : (((PtrV ((Nat → Int) × (Int × ((Nat → Int) × (Nat → Int))))) × (PtrV ((Nat → Int) × (Int × ((Nat → Int) × (Nat → Int)))))) × (Nat → Int))) t1)) out r7) with
 | none => none
 | some r8 => (
 some (.inl ((k, (t, (t1, (t2, ((), ((), (t3, ((IntKind.i64.wrap (t4 + 1)), ())))))))), (t5, (r8, ())))))))))
 else (
 none)))
 else (
 bif (SlV.isMs t) then (
 none)
 else (
 bif (inb t4 (SlV.len t)) then (
 bif (SlV.isMs t2) then (
 none)
 else (
 match (poly_at (SlV.len t2) (SlV.fn ((fun _ => 0) : (Nat → Int)) t2) (IntKind.i64.wrap (k - t4))) with
 | none => none
 | some r9 => (
 match (field_Mul (some (PtrV.val (((.nil, .nil), (fun _ => 0)) : (((PtrV ((Nat → Int) × (Int × ((Nat → Int) × (Nat → Int))))) × (PtrV ((Nat → Int) × (Int × ((Nat → Int) × (Nat → Int)))))) × (Nat → Int))) t1)) ((SlV.fn ((fun _ => 0) : (Nat → Int)) t) (Int.toNat t4)) r9) with
 | none => none
 | some r10 => (
 match (field_Add (some (PtrV.val (((.nil, .nil), (fun _ => 0)) : (((PtrV ((Nat → Int) × (Int × ((Nat → Int) × (Nat → Int))))) × (PtrV ((Nat → Int) × (Int × ((Nat → Int) × (Nat → Int)))))) × (Nat → Int))) t1)) out r10) with
 | none => none
 | some r11 => (
 some (.inl ((k, (t, (t1, (t2, ((), ((), (t3, ((IntKind.i64.wrap (t4 + 1)), ())))))))), (t5, (r11, ())))))))))
 else (
 none)))))))
 else (
 some (.inr (((), ((), ())), (t5, (out, ())))))
noncomputable def poly_Mul_1' (k : Int) (a : (Option (SlV (Nat → Int)))) (a1 : (Option (PtrV (((PtrV ((Nat → Int) × (Int × ((Nat → Int) × (Nat → Int))))) × (PtrV ((Nat → Int) × (Int × ((Nat → Int) × (Nat → Int)))))) × (Nat → Int))))) (a2 : (Option (SlV (Nat → Int)))) : Option ((Nat → Int)) :=
 match a with
 | none => (
 match a1 with
 | none => (
 match a2 with
 | none => (
 none)
 | some a203 => (
 none))
 | some a101 => (
 match a2 with
 | none => (
 none)
 | some a202 => (
 none)))
 | some a0 => (
 match a1 with
 | none => (
 match a2 with
 | none => (
 bif (SlV.isMs a0) then (
 none)
 else (
 none))
 | some a201 => (
 bif (SlV.isMs a0) then (
 none)
 else (
 none)))
 | some a10 => (
 match a2 with
 | none => (
 bif (SlV.isMs a0) then (
 none)
 else (
 none))
 | some a20 => (
 bif (SlV.isMs a0) then (
 none)
 else (
 match (loopF R_poly_Mul_1_0 ((k, (a0, (a10, (a20, ((), ((), ((((SlV.len a0) : Nat) : Int), (0, ())))))))), ((fun _ => 0), ((fun _ => 0), ())))) with
 | none => none
 | some y => (
 let t := y.2.1
 let out := y.2.2.1
 some out)))))
noncomputable def poly_Mul_1 : (Int) → ((Option (SlV (Nat → Int)))) → ((Option (PtrV (((PtrV ((Nat → Int) × (Int × ((Nat → Int) × (Nat → Int))))) × (PtrV ((Nat → Int) × (Int × ((Nat → Int) × (Nat → Int)))))) × (Nat → Int))))) → ((Option (SlV (Nat → Int)))) → Option ((Nat → Int)) := veil poly_Mul_1'
theorem poly_Mul_1_eq : poly_Mul_1 = poly_Mul_1' := veil_eq _
abbrev T_poly_Mul_93_0 (g : (((PtrV ((Nat → Int) × (Int × ((Nat → Int) × (Nat → Int))))) × (PtrV ((Nat → Int) × (Int × ((Nat → Int) × (Nat → Int)))))) × (Nat → Int))) (nout : Nat) (out : Nat → (Nat → Int)) (t : Int) (t1 : Int) (o : (((PtrV ((Nat → Int) × (Int × ((Nat → Int) × (Nat → Int))))) × (PtrV ((Nat → Int) × (Int × ((Nat → Int) × (Nat → Int)))))) × (Nat → Int))) (no : Nat) (o1 : Nat → (Nat → Int)) (no1 : Nat) (o2 : Nat → (Nat → Int)) : (((((PtrV ((Nat → Int) × (Int × ((Nat → Int) × (Nat → Int))))) × (PtrV ((Nat → Int) × (Int × ((Nat → Int) × (Nat → Int)))))) × (Nat → Int)) × (Unit × ((Nat × (Nat → (Nat → Int))) × (Int × (Int × Unit))))) × ((((PtrV ((Nat → Int) × (Int × ((Nat → Int) × (Nat → Int))))) × (PtrV ((Nat → Int) × (Int × ((Nat → Int) × (Nat → Int)))))) × (Nat → Int)) × ((Nat × (Nat → (Nat → Int))) × ((Nat × (Nat → (Nat → Int))) × Unit)))) := ((g, ((), ((nout, out), (t, (t1, ()))))), (o, ((no, o1), ((no1, o2), ()))))
abbrev Y_poly_Mul_93_0_0 (g : (((PtrV ((Nat → Int) × (Int × ((Nat → Int) × (Nat → Int))))) × (PtrV ((Nat → Int) × (Int × ((Nat → Int) × (Nat → Int)))))) × (Nat → Int))) (nout : Nat) (out : Nat → (Nat → Int)) (o : (((PtrV ((Nat → Int) × (Int × ((Nat → Int) × (Nat → Int))))) × (PtrV ((Nat → Int) × (Int × ((Nat → Int) × (Nat → Int)))))) × (Nat → Int))) (no : Nat) (o1 : Nat → (Nat → Int)) (no1 : Nat) (o2 : Nat → (Nat → Int)) : (((((PtrV ((Nat → Int) × (Int × ((Nat → Int) × (Nat → Int))))) × (PtrV ((Nat → Int) × (Int × ((Nat → Int) × (Nat → Int)))))) × (Nat → Int)) × ((Nat × (Nat → (Nat → Int))) × Unit)) × ((((PtrV ((Nat → Int) × (Int × ((Nat → Int) × (Nat → Int))))) × (PtrV ((Nat → Int) × (Int × ((Nat → Int) × (Nat → Int)))))) × (Nat → Int)) × ((Nat × (Nat → (Nat → Int))) × ((Nat × (Nat → (Nat → Int))) × Unit)))) := ((g, ((nout, out), ())), (o, ((no, o1), ((no1, o2), ()))))
noncomputable def R_poly_Mul_93_0 : (((((PtrV ((Nat → Int) × (Int × ((Nat → Int) × (Nat → Int))))) × (PtrV ((Nat → Int) × (Int × ((Nat → Int) × (Nat → Int)))))) × (Nat → Int)) × (Unit × ((Nat × (Nat → (Nat → Int))) × (Int × (Int × Unit))))) × ((((PtrV ((Nat → Int) × (Int × ((Nat → Int) × (Nat → Int))))) × (PtrV ((Nat → Int) × (Int × ((Nat → Int) × (Nat → Int)))))) × (Nat → Int)) × ((Nat × (Nat → (Nat → Int))) × ((Nat × (Nat → (Nat → Int))) × Unit)))) → Option ((((((PtrV ((Nat → Int) × (Int × ((Nat → Int) × (Nat → Int))))) × (PtrV ((Nat → Int) × (Int × ((Nat → Int) × (Nat → Int)))))) × (Nat → Int)) × (Unit × ((Nat × (Nat → (Nat → Int))) × (Int × (Int × Unit))))) × ((((PtrV ((Nat → Int) × (Int × ((Nat → Int) × (Nat → Int))))) × (PtrV ((Nat → Int) × (Int × ((Nat → Int) × (Nat → Int)))))) × (Nat → Int)) × ((Nat × (Nat → (Nat → Int))) × ((Nat × (Nat → (Nat → Int))) × Unit)))) ⊕ (((((PtrV ((Nat → Int) × (Int × ((Nat → Int) × (Nat → Int))))) × (PtrV ((Nat → Int) × (Int × ((Nat → Int) × (Nat → Int)))))) × (Nat → Int)) × ((Nat × (Nat → (Nat → Int))) × Unit)) × ((((PtrV ((Nat → Int) × (Int × ((Nat → Int) × (Nat → Int))))) × (PtrV ((Nat → Int) × (Int × ((Nat → Int) × (Nat → Int)))))) × (Nat → Int)) × ((Nat × (Nat → (Nat → Int))) × ((Nat × (Nat → (Nat → Int))) × Unit))))) := fun x =>
 let g := x.1.1
 let nout := x.1.2.2.1.1
 let out := x.1.2.2.1.2
 let t := x.1.2.2.2.1
 let t1 := x.1.2.2.2.2.1
 let o := x.2.1
 let no := x.2.2.1.1
 let o1 := x.2.2.1.2
 let no1 := x.2.2.2.1.1
 let o2 := x.2.2.2.1.2
 bif (decide (t1 < t)) then (
 match (poly_Mul_1 t1 (some (.fz no o1)) (some (.fz o)) (some (.fz no1 o2))) with
 | none => none
 | some r => (
 bif ((Nat.ble ((nout + 1) * 32) 140737488355328) && (Nat.ble (nout + 1) 9223372036854775807)) then (
 some (.inl ((g, ((), (((nout + 1), (glue nout out (fun j => (upd (fun _ => (fun _ => 0)) 0 r) (0 + j)))), (t, ((IntKind.i64.wrap (t1 + 1)), ()))))), (o, ((no, o1), ((no1, o2), ()))))))
 else (
 none)))
 else (
 some (.inr ((g, ((nout, out), ())), (o, ((no, o1), ((no1, o2), ()))))))
noncomputable def R_poly_Mul_93_0_v1 : ((Unit × (Unit × ((Nat × (Nat → (Nat → Int))) × (Int × (Int × Unit))))) × (Unit × ((Nat × (Nat → (Nat → Int))) × ((Nat × (Nat → (Nat → Int))) × Unit)))) → Option (((Unit × (Unit × ((Nat × (Nat → (Nat → Int))) × (Int × (Int × Unit))))) × (Unit × ((Nat × (Nat → (Nat → Int))) × ((Nat × (Nat → (Nat → Int))) × Unit)))) ⊕ ((Unit × ((Nat × (Nat → (Nat → Int))) × Unit)) × (Unit × ((Nat × (Nat → (Nat → Int))) × ((Nat × (Nat → (Nat → Int))) × Unit))))) := fun x =>
 let nout := x.1.2.2.1.1
 let out := x.1.2.2.1.2
 let t := x.1.2.2.2.1
 let t1 := x.1.2.2.2.2.1
 let no := x.2.2.1.1
 let o := x.2.2.1.2
 let no1 := x.2.2.2.1.1
 let o1 := x.2.2.2.1.2
 bif (decide (t1 < t)) then (
 match (poly_Mul_1 t1 (some (.fz no o)) (some .nil) (some (.fz no1 o1))) with
 | none => none
 | some r => (
 bif ((Nat.ble ((nout + 1) * 32) 140737488355328) && (Nat.ble (nout + 1) 9223372036854775807)) then (
 some (.inl (((), ((), (((nout + 1), (glue nout out (fun j => (upd (fun _ => (fun _ => 0)) 0 r) (0 + j)))), (t, ((IntKind.i64.wrap (t1 + 1)), ()))))), ((), ((no, o), ((no1, o1), ()))))))
 else (
 none)))
 else (
 some (.inr (((), ((nout, out), ())), ((), ((no, o), ((no1, o1), ()))))))
noncomputable def poly_Mul' (g : (Option (((PtrV ((Nat → Int) × (Int × ((Nat → Int) × (Nat → Int))))) × (PtrV ((Nat → Int) × (Int × ((Nat → Int) × (Nat → Int)))))) × (Nat → Int)))) (na : Nat) (a : Nat → (Nat → Int)) (nb : Nat) (b : Nat → (Nat → Int)) : Option ((((Nat × (Nat → (Nat → Int))) × Unit) × Unit)) :=
 match g with
 | none => (
 match (loopF R_poly_Mul_93_0_v1 (((), ((), ((0, (fun _ => (fun _ => 0))), ((IntKind.i64.wrap (((na : Nat) : Int) + ((nb : Nat) : Int))), (0, ()))))), ((), ((na, a), ((nb, b), ()))))) with
 | none => none
 | some y2 => (
 let nout1 := y2.1.2.1.1
 let out1 := y2.1.2.1.2
 let no2 := y2.2.2.1.1
 let o3 := y2.2.2.1.2
 let no3 := y2.2.2.2.1.1
 let o4 := y2.2.2.2.1.2
 match (poly_Trim none nout1 (fun j => out1 (0 + j))) with
 | none => none
 | some y3 => (
 let nr1 := y3.1.1.1
 let r1 := y3.1.1.2
 some (((nr1, r1), ()), ()))))
 | some g0 => (
 match (loopF R_poly_Mul_93_0 ((g0, ((), ((0, (fun _ => (fun _ => 0))), ((IntKind.i64.wrap (((na : Nat) : Int) + ((nb : Nat) : Int))), (0, ()))))), (g0, ((na, a), ((nb, b), ()))))) with
 | none => none
 | some y => (
 let g1 := y.1.1
 let nout := y.1.2.1.1
 let out := y.1.2.1.2
 let o := y.2.1
 let no := y.2.2.1.1
 let o1 := y.2.2.1.2
 let no1 := y.2.2.2.1.1
 let o2 := y.2.2.2.1.2
 match (poly_Trim (some g1) nout (fun j => out (0 + j))) with
 | none => none
 | some y1 => (
 let nr := y1.1.1.1
 let r := y1.1.1.2
 some (((nr, r), ()), ()))))
noncomputable def poly_Mul : ((Option (((PtrV ((Nat → Int) × (Int × ((Nat → Int) × (Nat → Int))))) × (PtrV ((Nat → Int) × (Int × ((Nat → Int) × (Nat → Int)))))) × (Nat → Int)))) → (Nat) → (Nat → (Nat → Int)) → (Nat) → (Nat → (Nat → Int)) → Option ((((Nat × (Nat → (Nat → Int))) × Unit) × Unit)) := veil poly_Mul'
theorem poly_Mul_eq : poly_Mul = poly_Mul' := veil_eq _
abbrev T_poly_Through_0 (g : (((PtrV ((Nat → Int) × (Int × ((Nat → Int) × (Nat → Int))))) × (PtrV ((Nat → Int) × (Int × ((Nat → Int) × (Nat → Int)))))) × (Nat → Int))) (nys : Nat) (ys : Nat → (Nat → Int)) (nout : Nat) (out : Nat → (Nat → Int)) (nnone : Nat) (none_ : Nat → (Nat → Int)) (nt : Nat) (t : Nat → (Nat → Int)) (t1 : Int) (t2 : Int) : (((((PtrV ((Nat → Int) × (Int × ((Nat → Int) × (Nat → Int))))) × (PtrV ((Nat → Int) × (Int × ((Nat → Int) × (Nat → Int)))))) × (Nat → Int)) × ((Nat × (Nat → (Nat → Int))) × ((Nat × (Nat → (Nat → Int))) × ((Nat × (Nat → (Nat → Int))) × ((Nat × (Nat → (Nat → Int))) × (Int × (Int × Unit))))))) × Unit) := ((g, ((nys, ys), ((nout, out), ((nnone, none_), ((nt, t), (t1, (t2, ()))))))), ())
abbrev Y_poly_Through_0_0 (nt : Nat) (t : Nat → (Nat → Int)) (t1 : Int) : ((((Nat × (Nat → (Nat → Int))) × (Int × Unit)) × Unit) ⊕ (((Nat × (Nat → (Nat → Int))) × Unit) × Unit)) := (.inl (((nt, t), (t1, ())), ()))
abbrev Y_poly_Through_0_1 (nout : Nat) (out : Nat → (Nat → Int)) : ((((Nat × (Nat → (Nat → Int))) × (Int × Unit)) × Unit) ⊕ (((Nat × (Nat → (Nat → Int))) × Unit) × Unit)) := (.inr (((nout, out), ()), ()))
noncomputable def R_poly_Through_0 : (((((PtrV ((Nat → Int) × (Int × ((Nat → Int) × (Nat → Int))))) × (PtrV ((Nat → Int) × (Int × ((Nat → Int) × (Nat → Int)))))) × (Nat → Int)) × ((Nat × (Nat → (Nat → Int))) × ((Nat × (Nat → (Nat → Int))) × ((Nat × (Nat → (Nat → Int))) × ((Nat × (Nat → (Nat → Int))) × (Int × (Int × Unit))))))) × Unit) → Option ((((((PtrV ((Nat → Int) × (Int × ((Nat → Int) × (Nat → Int))))) × (PtrV ((Nat → Int) × (Int × ((Nat → Int) × (Nat → Int)))))) × (Nat → Int)) × ((Nat × (Nat → (Nat → Int))) × ((Nat × (Nat → (Nat → Int))) × ((Nat × (Nat → (Nat → Int))) × ((Nat × (Nat → (Nat → Int))) × (Int × (Int × Unit))))))) × Unit) ⊕ ((((Nat × (Nat → (Nat → Int))) × (Int × Unit)) × Unit) ⊕ (((Nat × (Nat → (Nat → Int))) × Unit) × Unit))) := fun x =>
 let g := x.1.1
 let nys := x.1.2.1.1
 let ys := x.1.2.1.2
 let nout := x.1.2.2.1.1
 let out := x.1.2.2.1.2
 let nnone := x.1.2.2.2.1.1
 let none_ := x.1.2.2.2.1.2
 let nt := x.1.2.2.2.2.1.1
 let t := x.1.2.2.2.2.1.2
 let t1 := x.1.2.2.2.2.2.1
 let t2 := x.1.2.2.2.2.2.2.1
 bif (decide (t2 < t1)) then (
 bif (inb t2 nt) then (
 match (poly_Eval (some g) nnone (fun j => none_ (0 + j)) (t (Int.toNat t2))) with
 | none => none
 | some r => (
 match (poly_zero r) with
 | none => none
 | some r1 => (
 bif r1 then (
 some (.inr (.inl (((0, (fun _ => (fun _ => 0))), (1, ())), ()))))
 else (
 bif (inb t2 nys) then (
 match (poly_Eval (some g) nout (fun j => out (0 + j)) (t (Int.toNat t2))) with
 | none => none
 | some r2 => (
 match (field_Sub (some g) (ys (Int.toNat t2)) r2) with
 | none => none
 | some r3 => (
 match (field_Inv (some g) r) with
 | none => none
 | some r4 => (
 match (field_Mul (some g) r3 r4) with
 | none => none
 | some r5 => (
 match (poly_scaled (some g) nnone (fun j => none_ (0 + j)) r5 0) with
 | none => none
 | some y => (
 let nr := y.1.1.1
 let r6 := y.1.1.2
 match (poly_Add (some g) nout (fun j => out (0 + j)) nr (fun j => r6 (0 + j))) with
 | none => none
 | some y1 => (
 let nr1 := y1.1.1.1
 let r7 := y1.1.1.2
 match (field_Sub (some g) (fun _ => 0) (t (Int.toNat t2))) with
 | none => none
 | some r8 => (
 match (poly_Mul (some g) nnone (fun j => none_ (0 + j)) 2 (fun j => (upd (upd (fun _ => (fun _ => 0)) 0 r8) 1 (upd (fun _ => 0) 0 1)) (0 + j))) with
 | none => none
 | some y2 => (
 let nr2 := y2.1.1.1
 let r9 := y2.1.1.2
 some (.inl ((g, ((nys, ys), ((nr1, r7), ((nr2, r9), ((nt, t), (t1, ((IntKind.i64.wrap (t2 + 1)), ()))))))), ())))))))))))
 else (
 none)))))
 else (
 none))
 else (
 some (.inr (.inr (((nout, out), ()), ()))))
noncomputable def poly_Through' (g : (Option (((PtrV ((Nat → Int) × (Int × ((Nat → Int) × (Nat → Int))))) × (PtrV ((Nat → Int) × (Int × ((Nat → Int) × (Nat → Int)))))) × (Nat → Int)))) (nxs : Nat) (xs : Nat → (Nat → Int)) (nys : Nat) (ys : Nat → (Nat → Int)) : Option ((((Nat × (Nat → (Nat → Int))) × (Int × Unit)) × Unit)) :=
 match g with
 | none => (
 match (group_Group_Field none) with
 | none => none
 | some r1 => (
 match r1 with
 | none => (
 some (((0, (fun _ => (fun _ => 0))), (1, ())), ()))
 | some p1 => (
 bif (((nxs : Nat) : Int) != ((nys : Nat) : Int)) then (
 some (((0, (fun _ => (fun _ => 0))), (1, ())), ()))
 else (
 bif (decide (((nxs : Nat) : Int) > 32)) then (
 some (((0, (fun _ => (fun _ => 0))), (1, ())), ()))
 else (
 none)))))
 | some g0 => (
 match (group_Group_Field (some g0)) with
 | none => none
 | some r => (
 match r with
 | none => (
 some (((0, (fun _ => (fun _ => 0))), (1, ())), ()))
 | some p => (
 bif (((nxs : Nat) : Int) != ((nys : Nat) : Int)) then (
 some (((0, (fun _ => (fun _ => 0))), (1, ())), ()))
 else (
 bif (decide (((nxs : Nat) : Int) > 32)) then (
 some (((0, (fun _ => (fun _ => 0))), (1, ())), ()))
 else (
 match (loopF R_poly_Through_0 ((g0, ((nys, ys), ((0, (fun _ => (fun _ => 0))), ((1, (upd (fun _ => (fun _ => 0)) 0 (upd (fun _ => 0) 0 1))), ((nxs, xs), (((nxs : Nat) : Int), (0, ()))))))), ())) with
 | none => none
 | some y => (
 match y with
 | .inl y1 => (
 let nt := y1.1.1.1
 let t := y1.1.1.2
 let t1 := y1.1.2.1
 some (((nt, t), (t1, ())), ()))
 | .inr y1 => (
 let nout := y1.1.1.1
 let out := y1.1.1.2
 some (((nout, out), (0, ())), ()))))))))
noncomputable def poly_Through : ((Option (((PtrV ((Nat → Int) × (Int × ((Nat → Int) × (Nat → Int))))) × (PtrV ((Nat → Int) × (Int × ((Nat → Int) × (Nat → Int)))))) × (Nat → Int)))) → (Nat) → (Nat → (Nat → Int)) → (Nat) → (Nat → (Nat → Int)) → Option ((((Nat × (Nat → (Nat → Int))) × (Int × Unit)) × Unit)) := veil poly_Through'
theorem poly_Through_eq : poly_Through = poly_Through' := veil_eq _
abbrev T_poly_Div_0 (g : (((PtrV ((Nat → Int) × (Int × ((Nat → Int) × (Nat → Int))))) × (PtrV ((Nat → Int) × (Int × ((Nat → Int) × (Nat → Int)))))) × (Nat → Int))) (nr : Nat) (r : Nat → (Nat → Int)) (nd : Nat) (d : Nat → (Nat → Int)) (nq : Nat) (q : Nat → (Nat → Int)) (lead : (Nat → Int)) : (((((PtrV ((Nat → Int) × (Int × ((Nat → Int) × (Nat → Int))))) × (PtrV ((Nat → Int) × (Int × ((Nat → Int) × (Nat → Int)))))) × (Nat → Int)) × ((Nat × (Nat → (Nat → Int))) × ((Nat × (Nat → (Nat → Int))) × ((Nat × (Nat → (Nat → Int))) × (Unit × Unit))))) × ((Nat → Int) × Unit)) := ((g, ((nr, r), ((nd, d), ((nq, q), ((), ()))))), (lead, ()))
abbrev Y_poly_Div_0_0 (nr : Nat) (r : Nat → (Nat → Int)) (nq : Nat) (q : Nat → (Nat → Int)) : (((Nat × (Nat → (Nat → Int))) × ((Nat × (Nat → (Nat → Int))) × Unit)) × Unit) := (((nr, r), ((nq, q), ())), ())
noncomputable def R_poly_Div_0 : (((((PtrV ((Nat → Int) × (Int × ((Nat → Int) × (Nat → Int))))) × (PtrV ((Nat → Int) × (Int × ((Nat → Int) × (Nat → Int)))))) × (Nat → Int)) × ((Nat × (Nat → (Nat → Int))) × ((Nat × (Nat → (Nat → Int))) × ((Nat × (Nat → (Nat → Int))) × (Unit × Unit))))) × ((Nat → Int) × Unit)) → Option ((((((PtrV ((Nat → Int) × (Int × ((Nat → Int) × (Nat → Int))))) × (PtrV ((Nat → Int) × (Int × ((Nat → Int) × (Nat → Int)))))) × (Nat → Int)) × ((Nat × (Nat → (Nat → Int))) × ((Nat × (Nat → (Nat → Int))) × ((Nat × (Nat → (Nat → Int))) × (Unit × Unit))))) × ((Nat → Int) × Unit)) ⊕ (((Nat × (Nat → (Nat → Int))) × ((Nat × (Nat → (Nat → Int))) × Unit)) × Unit)) := fun x =>
 let g := x.1.1
 let nr := x.1.2.1.1
 let r := x.1.2.1.2
 let nd := x.1.2.2.1.1
 let d := x.1.2.2.1.2
 let nq := x.1.2.2.2.1.1
 let q := x.1.2.2.2.1.2
 let lead := x.2.1
 bif (decide (((nr : Nat) : Int) ≥ ((nd : Nat) : Int))) then (
 bif (inb (IntKind.i64.wrap (((nr : Nat) : Int) - 1)) nr) then (
 match (field_Mul (some g) (r (0 + (Int.toNat (IntKind.i64.wrap (((nr : Nat) : Int) - 1))))) lead) with
 | none => none
 | some r1 => (
 match (poly_scaled (some g) 1 (fun j => (upd (fun _ => (fun _ => 0)) 0 r1) (0 + j)) (upd (fun _ => 0) 0 1) (IntKind.i64.wrap (((nr : Nat) : Int) - ((nd : Nat) : Int)))) with
 | none => none
 | some y => (
 let nr1 := y.1.1.1
 let r2 := y.1.1.2
 match (poly_Add (some g) nq (fun j => q (0 + j)) nr1 (fun j => r2 (0 + j))) with
 | none => none
 | some y1 => (
 let nr2 := y1.1.1.1
 let r3 := y1.1.1.2
 match (field_Sub (some g) (fun _ => 0) r1) with
 | none => none
 | some r4 => (
 match (poly_scaled (some g) nd (fun j => d (0 + j)) r4 (IntKind.i64.wrap (((nr : Nat) : Int) - ((nd : Nat) : Int)))) with
 | none => none
 | some y2 => (
 let nr3 := y2.1.1.1
 let r5 := y2.1.1.2
 match (poly_Add (some g) nr (fun j => r (0 + j)) nr3 (fun j => r5 (0 + j))) with
 | none => none
 | some y3 => (
 let nr4 := y3.1.1.1
 let r6 := y3.1.1.2
 some (.inl ((g, ((nr4, r6), ((nd, d), ((nr2, r3), ((), ()))))), (lead, ()))))))))))
 else (
 none))
 else (
 some (.inr (((nr, r), ((nq, q), ())), ())))
noncomputable def poly_Div' (g : (Option (((PtrV ((Nat → Int) × (Int × ((Nat → Int) × (Nat → Int))))) × (PtrV ((Nat → Int) × (Int × ((Nat → Int) × (Nat → Int)))))) × (Nat → Int)))) (na : Nat) (a : Nat → (Nat → Int)) (nb : Nat) (b : Nat → (Nat → Int)) : Option ((((Nat × (Nat → (Nat → Int))) × ((Nat × (Nat → (Nat → Int))) × (Int × Unit))) × Unit)) :=
 match g with
 | none => (
 match (poly_Trim none na a) with
 | none => none
 | some y3 => (
 let nr3 := y3.1.1.1
 let r4 := y3.1.1.2
 match (poly_Trim none nb b) with
 | none => none
 | some y4 => (
 let nr4 := y4.1.1.1
 let r5 := y4.1.1.2
 bif (((nr4 : Nat) : Int) == 0) then (
 some (((0, (fun _ => (fun _ => 0))), ((0, (fun _ => (fun _ => 0))), (1, ()))), ()))
 else (
 bif (inb (IntKind.i64.wrap (((nr4 : Nat) : Int) - 1)) nr4) then (
 match (field_Inv none (r5 (0 + (Int.toNat (IntKind.i64.wrap (((nr4 : Nat) : Int) - 1)))))) with
 | none => none
 | some r6 => (
 none))
 else (
 none)))))
 | some g0 => (
 match (poly_Trim (some g0) na a) with
 | none => none
 | some y => (
 let nr := y.1.1.1
 let r := y.1.1.2
 match (poly_Trim (some g0) nb b) with
 | none => none
 | some y1 => (
 let nr1 := y1.1.1.1
 let r1 := y1.1.1.2
 bif (((nr1 : Nat) : Int) == 0) then (
 some (((0, (fun _ => (fun _ => 0))), ((0, (fun _ => (fun _ => 0))), (1, ()))), ()))
 else (
 bif (inb (IntKind.i64.wrap (((nr1 : Nat) : Int) - 1)) nr1) then (
 match (field_Inv (some g0) (r1 (0 + (Int.toNat (IntKind.i64.wrap (((nr1 : Nat) : Int) - 1)))))) with
 | none => none
 | some r2 => (
 match (loopF R_poly_Div_0 ((g0, ((nr, r), ((nr1, r1), ((0, (fun _ => (fun _ => 0))), ((), ()))))), (r2, ()))) with
 | none => none
 | some y2 => (
 let nr2 := y2.1.1.1
 let r3 := y2.1.1.2
 let nq := y2.1.2.1.1
 let q := y2.1.2.1.2
 some (((nq, q), ((nr2, r3), (0, ()))), ()))))
 else (
 none)))))
noncomputable def poly_Div : ((Option (((PtrV ((Nat → Int) × (Int × ((Nat → Int) × (Nat → Int))))) × (PtrV ((Nat → Int) × (Int × ((Nat → Int) × (Nat → Int)))))) × (Nat → Int)))) → (Nat) → (Nat → (Nat → Int)) → (Nat) → (Nat → (Nat → Int)) → Option ((((Nat × (Nat → (Nat → Int))) × ((Nat × (Nat → (Nat → Int))) × (Int × Unit))) × Unit)) := veil poly_Div'
theorem poly_Div_eq : poly_Div = poly_Div' := veil_eq _
end Go.Pl
