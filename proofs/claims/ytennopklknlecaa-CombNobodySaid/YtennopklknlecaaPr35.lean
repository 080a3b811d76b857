/-
  The functions of a package, plainly.
-/
import Derived.Test.YtennopklknlecaaDenD
import Derived.Test.YtennopklknlecaaPlA
set_option linter.unusedVariables false
set_option linter.unusedSimpArgs false
set_option maxRecDepth 100000
set_option maxHeartbeats 0
namespace Go.Pl
end Go.Pl
open Go Go.Den Go.Pl
namespace Go.Pl
noncomputable def r35_Exp' (s : (Int × (Int × Int))) (base : (Nat → Int)) (bits : Int) (e : (Nat → Int)) : Option ((Nat → Int) × Int) :=
 match (r01_Len e) with
 | none => none
 | some r => (
  bif (decide (r > bits)) then (
   some ((fun _ => 0), 2))
  else (
   match (r08_By base s.1) with
   | none => none
   | some r1 => (
    match (r09_Exp s r1 e) with
    | none => none
    | some r2 => (
     match (r01_Int r2) with
     | none => none
     | some r3 => (
      some (r3, 0))))))
noncomputable def r35_Exp : ((Int × (Int × Int))) → ((Nat → Int)) → (Int) → ((Nat → Int)) → Option ((Nat → Int) × Int) := veil r35_Exp'
theorem r35_Exp_eq : r35_Exp = r35_Exp' := veil_eq _
abbrev T_r35_Multi_0 (nbases : Nat) (bases : Nat → (Nat → Int)) (nbits : Nat) (bits : Nat → Int) (nexps : Nat) (exps : Nat → (Nat → Int)) (i : Int) (s : (Int × (Int × Int))) (t : (Nat → Int)) : (((Nat × (Nat → (Nat → Int))) × ((Nat × (Nat → Int)) × ((Nat × (Nat → (Nat → Int))) × (Unit × (Unit × (Int × Unit)))))) × ((Int × (Int × Int)) × ((Nat → Int) × Unit))) := (((nbases, bases), ((nbits, bits), ((nexps, exps), ((), ((), (i, ())))))), (s, (t, ())))
abbrev Y_r35_Multi_0_0 (t : Int) (t1 : (Nat → Int)) : (((Unit × (Int × Unit)) × ((Nat → Int) × Unit)) ⊕ (((Nat × (Nat → (Nat → Int))) × ((Nat × (Nat → (Nat → Int))) × (Unit × (Unit × Unit)))) × ((Int × (Int × Int)) × ((Nat → Int) × Unit)))) := (.inl (((), (t, ())), (t1, ())))
abbrev Y_r35_Multi_0_1 (nbases : Nat) (bases : Nat → (Nat → Int)) (nexps : Nat) (exps : Nat → (Nat → Int)) (s : (Int × (Int × Int))) (t : (Nat → Int)) : (((Unit × (Int × Unit)) × ((Nat → Int) × Unit)) ⊕ (((Nat × (Nat → (Nat → Int))) × ((Nat × (Nat → (Nat → Int))) × (Unit × (Unit × Unit)))) × ((Int × (Int × Int)) × ((Nat → Int) × Unit)))) := (.inr (((nbases, bases), ((nexps, exps), ((), ((), ())))), (s, (t, ()))))
noncomputable def R_r35_Multi_0 : (((Nat × (Nat → (Nat → Int))) × ((Nat × (Nat → Int)) × ((Nat × (Nat → (Nat → Int))) × (Unit × (Unit × (Int × Unit)))))) × ((Int × (Int × Int)) × ((Nat → Int) × Unit))) → Option ((((Nat × (Nat → (Nat → Int))) × ((Nat × (Nat → Int)) × ((Nat × (Nat → (Nat → Int))) × (Unit × (Unit × (Int × Unit)))))) × ((Int × (Int × Int)) × ((Nat → Int) × Unit))) ⊕ (((Unit × (Int × Unit)) × ((Nat → Int) × Unit)) ⊕ (((Nat × (Nat → (Nat → Int))) × ((Nat × (Nat → (Nat → Int))) × (Unit × (Unit × Unit)))) × ((Int × (Int × Int)) × ((Nat → Int) × Unit))))) := fun x =>
 let nbases := x.1.1.1
 let bases := x.1.1.2
 let nbits := x.1.2.1.1
 let bits := x.1.2.1.2
 let nexps := x.1.2.2.1.1
 let exps := x.1.2.2.1.2
 let i := x.1.2.2.2.2.2.1
 let s := x.2.1
 let t := x.2.2.1
 bif (decide (i < ((nexps : Nat) : Int))) then (
  bif (decide (i < ((nbits : Nat) : Int))) then (
   bif (inb i nexps) then (
    match (r01_Len (exps (Int.toNat i))) with
    | none => none
    | some r => (
     bif (inb i nbits) then (
      bif (decide (r > (bits (Int.toNat i)))) then (
       some (.inr (.inl (((), (2, ())), ((fun _ => 0), ())))))
      else (
       some (.inl (((nbases, bases), ((nbits, bits), ((nexps, exps), ((), ((), ((IntKind.i64.wrap (i + 1)), ())))))), (s, (t, ()))))))
     else (
      none)))
   else (
    none))
  else (
   some (.inr (.inr (((nbases, bases), ((nexps, exps), ((), ((), ())))), (s, (t, ())))))))
 else (
  some (.inr (.inr (((nbases, bases), ((nexps, exps), ((), ((), ())))), (s, (t, ()))))))
noncomputable def r35_Multi' (s : (Int × (Int × Int))) (nbases : Nat) (bases : Nat → (Nat → Int)) (nbits : Nat) (bits : Nat → Int) (nexps : Nat) (exps : Nat → (Nat → Int)) : Option ((Nat → Int) × Int) :=
 bif (((nbases : Nat) : Int) != ((nexps : Nat) : Int)) then (
  some ((fun _ => 0), 1))
 else (
  match (loopF R_r35_Multi_0 (((nbases, bases), ((nbits, bits), ((nexps, exps), ((), ((), (0, ())))))), (s, ((fun _ => 0), ())))) with
  | none => none
  | some y => (
   match y with
   | .inl y1 => (
    let t := y1.1.2.1
    let t1 := y1.2.1
    some (t1, t))
   | .inr y1 => (
    let nbases1 := y1.1.1.1
    let bases1 := y1.1.1.2
    let nexps1 := y1.1.2.1.1
    let exps1 := y1.1.2.1.2
    let s1 := y1.2.1
    let t2 := y1.2.2.1
    match (r09_Multi s1 nbases1 bases1 nexps1 exps1) with
    | none => none
    | some r => (
     match (r01_Int r) with
     | none => none
     | some r1 => (
      some (r1, 0))))))
noncomputable def r35_Multi : ((Int × (Int × Int))) → (Nat) → (Nat → (Nat → Int)) → (Nat) → (Nat → Int) → (Nat) → (Nat → (Nat → Int)) → Option ((Nat → Int) × Int) := veil r35_Multi'
theorem r35_Multi_eq : r35_Multi = r35_Multi' := veil_eq _
end Go.Pl
