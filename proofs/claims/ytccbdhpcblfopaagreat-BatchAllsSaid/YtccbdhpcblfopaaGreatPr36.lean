/-
  The functions of a package, plainly.
-/
import Derived.Test.YtccbdhpcblfopaaGreatDenI
import Derived.Test.YtccbdhpcblfopaaGreatPlA
import Derived.Test.YtccbdhpcblfopaaGreatPr14
import Derived.Test.YtccbdhpcblfopaaGreatPr34
set_option linter.unusedVariables false
set_option linter.unusedSimpArgs false
set_option maxRecDepth 100000
set_option maxHeartbeats 0
namespace Go.Pl
end Go.Pl
open Go Go.Den Go.Pl
namespace Go.Pl
open Go.IntKind (i64 u64 u32 u8)
noncomputable def r36_may' (s : (Int × (Int × Int))) (c : ((Nat × (Nat → NI)) × (Int × NI))) : Option (Bool) :=
 match (r14_May s c.1.1 c.1.2) with
 | none => none
 | some r => (
 bif r then (
 bif (decide (c.2.1 ≥ 1)) then (
 bif (decide (c.2.1 ≤ 7)) then (
 match (r01_Int s.2.1) with
 | none => none
 | some r1 => (
 match (r01_Cmp c.2.2 r1) with
 | none => none
 | some r2 => (
 some (decide (r2 < 0)))))
 else (
 some false))
 else (
 some false))
 else (
 some false))
noncomputable def r36_may := veil r36_may'
theorem r36_may_eq : r36_may = r36_may' := veil_eq _
abbrev T_r36_Together_0 (nl : Nat) (l : Nat → ((SlV NI) × (Int × NI))) (nweights : Nat) (weights : Nat → NI) (sum : Int) (out : Int) (i : Int) (s : (Int × (Int × Int))) := (((nl, l), ((nweights, weights), ((), (sum, (out, (i, ())))))), (s, ()))
abbrev Y_r36_Together_0_0 (t : Bool) : (((Bool × Unit) × Unit) ⊕ ((Unit × (Int × (Int × Unit))) × ((Int × (Int × Int)) × Unit))) := (.inl ((t, ()), ()))
abbrev Y_r36_Together_0_1 (sum : Int) (out : Int) (s : (Int × (Int × Int))) : (((Bool × Unit) × Unit) ⊕ ((Unit × (Int × (Int × Unit))) × ((Int × (Int × Int)) × Unit))) := (.inr (((), (sum, (out, ()))), (s, ())))
abbrev X_r36_Together_0 : Type := (((Nat × (Nat → ((SlV NI) × (Int × NI)))) × ((Nat × (Nat → NI)) × (Unit × (Int × (Int × (Int × Unit)))))) × ((Int × (Int × Int)) × Unit))
noncomputable def R_r36_Together_0 : X_r36_Together_0 → Option (X_r36_Together_0 ⊕ (((Bool × Unit) × Unit) ⊕ ((Unit × (Int × (Int × Unit))) × ((Int × (Int × Int)) × Unit)))) := fun x =>
 let nl := x.1.1.1
 let l := x.1.1.2
 let nweights := x.1.2.1.1
 let weights := x.1.2.1.2
 let sum := x.1.2.2.2.1
 let out := x.1.2.2.2.2.1
 let i := x.1.2.2.2.2.2.1
 let s := x.2.1
 bif (decide (i < ((nl : Nat) : Int))) then (
 bif (decide (i < ((nweights : Nat) : Int))) then (
 bif (inb i nl) then (
 bif (SlV.isMs (l (Int.toNat i)).1) then (
 none)
 else (
 match (r36_may s (((SlV.len (l (Int.toNat i)).1), (SlV.fn ((fun _ => 0) : NI) (l (Int.toNat i)).1)), (l (Int.toNat i)).2)) with
 | none => none
 | some r => (
 bif (!r) then (
 some (.inr (.inl ((false, ()), ()))))
 else (
 bif (inb i nweights) then (
 match (r08_By (weights (Int.toNat i)) s.2.1) with
 | none => none
 | some r1 => (
 bif (inb i nl) then (
 match (r08_By (l (Int.toNat i)).2.2 s.2.1) with
 | none => none
 | some r2 => (
 match (r08_Mul r2 r1 s.2.1) with
 | none => none
 | some r3 => (
 match (r08_Add sum r3 s.2.1) with
 | none => none
 | some r4 => (
 bif (inb i nl) then (
 bif (SlV.isMs (l (Int.toNat i)).1) then (
 none)
 else (
 bif (inb i nl) then (
 match (r14_At s (SlV.len (l (Int.toNat i)).1) (SlV.fn ((fun _ => 0) : NI) (l (Int.toNat i)).1) (l (Int.toNat i)).2.1) with
 | none => none
 | some r5 => (
 match (r01_Int r1) with
 | none => none
 | some r6 => (
 match (r09_Exp s r5 r6) with
 | none => none
 | some r7 => (
 match (r09_Mul s out r7) with
 | none => none
 | some r8 => (
 some (.inl (((nl, l), ((nweights, weights), ((), (r4, (r8, ((i64.wrap (i + 1)), ())))))), (s, ()))))))))
 else (
 none)))
 else (
 none)))))
 else (
 none)))
 else (
 none)))))
 else (
 none))
 else (
 some (.inr (.inr (((), (sum, (out, ()))), (s, ()))))))
 else (
 some (.inr (.inr (((), (sum, (out, ()))), (s, ())))))
noncomputable def r36_Together' (s : (Int × (Int × Int))) (nl : Nat) (l : Nat → ((SlV NI) × (Int × NI))) (nweights : Nat) (weights : Nat → NI) : Option (Bool) :=
 match (loopF R_r36_Together_0 (((nl, l), ((nweights, weights), ((), (0, (1, (0, ())))))), (s, ()))) with
 | none => none
 | some y => (
 match y with
 | .inl y1 => (
 let t := y1.1.1
 some t)
 | .inr y1 => (
 let sum := y1.1.2.1
 let out := y1.1.2.2.1
 let s1 := y1.2.1
 match (r01_Int sum) with
 | none => none
 | some r => (
 match (r09_Exp s1 s1.2.2 r) with
 | none => none
 | some r1 => (
 some (r1 == out)))))
noncomputable def r36_Together := veil r36_Together'
theorem r36_Together_eq : r36_Together = r36_Together' := veil_eq _
abbrev Y_r36_looks_0 (ns : Nat) (s : Nat → Int) := (((ns, s), ()), ())
noncomputable def r36_looks' (rec_ : ((Int × (Int × Int))) → (Nat) → (Nat → ((SlV NI) × (Int × NI))) → (Nat) → (Nat → NI) → (Int) → (Int) → Option ((((Nat × NI) × Unit) × Unit))) (s : (Int × (Int × Int))) (nl : Nat) (l : Nat → ((SlV NI) × (Int × NI))) (nweights : Nat) (weights : Nat → NI) (from_ : Int) (to_ : Int) : Option ((((Nat × NI) × Unit) × Unit)) :=
 bif (decide (from_ ≥ to_)) then (
 some (((0, (fun _ => 0)), ()), ()))
 else (
 bif ((decide (0 ≤ to_)) && (decide (to_ ≤ ((nl : Nat) : Int)))) then (
 bif ((decide (0 ≤ from_)) && (decide (from_ ≤ (((Int.toNat to_) : Nat) : Int)))) then (
 bif ((decide (0 ≤ to_)) && (decide (to_ ≤ ((nweights : Nat) : Int)))) then (
 bif ((decide (0 ≤ from_)) && (decide (from_ ≤ (((Int.toNat to_) : Nat) : Int)))) then (
 match (r36_Together s ((Int.toNat to_) - (Int.toNat from_)) (fun j => l ((Int.toNat from_) + j)) ((Int.toNat to_) - (Int.toNat from_)) (fun j => weights ((Int.toNat from_) + j))) with
 | none => none
 | some r => (
 bif r then (
 some (((0, (fun _ => 0)), ()), ()))
 else (
 bif ((i64.wrap (to_ - from_)) == 1) then (
 some (((1, (upd (fun _ => 0) 0 from_)), ()), ()))
 else (
 match (rec_ s nl l nweights weights from_ (i64.wrap (from_ + (i64.wrap (Int.tdiv (i64.wrap (to_ - from_)) 2))))) with
 | none => none
 | some y => (
 let nr := y.1.1.1
 let r1 := y.1.1.2
 match (rec_ s nl l nweights weights (i64.wrap (from_ + (i64.wrap (Int.tdiv (i64.wrap (to_ - from_)) 2)))) to_) with
 | none => none
 | some y1 => (
 let nr1 := y1.1.1.1
 let r2 := y1.1.1.2
 bif ((Nat.ble ((nr + nr1) * 8) 140737488355328) && (Nat.ble (nr + nr1) 9223372036854775807)) then (
 some ((((nr + nr1), (glue nr r1 (fun j => r2 (0 + j)))), ()), ()))
 else (
 none)))))))
 else (
 none))
 else (
 none))
 else (
 none))
 else (
 none))
noncomputable def r36_looks : Nat → ((Int × (Int × Int))) → (Nat) → (Nat → ((SlV NI) × (Int × NI))) → (Nat) → (Nat → NI) → (Int) → (Int) → Option ((((Nat × NI) × Unit) × Unit)) := veil fun n => Nat.rec (motive := fun _ => ((Int × (Int × Int))) → (Nat) → (Nat → ((SlV NI) × (Int × NI))) → (Nat) → (Nat → NI) → (Int) → (Int) → Option ((((Nat × NI) × Unit) × Unit))) (fun _ _ _ _ _ _ _ => none) (fun _ ih => r36_looks' ih) n
theorem r36_looks_zero : r36_looks 0 = fun _ _ _ _ _ _ _ => none := by rw [r36_looks, veil_eq]; rfl
theorem r36_looks_succ (n : Nat) : r36_looks (n + 1) = r36_looks' (r36_looks n) := by rw [r36_looks, veil_eq]
noncomputable def r36_Bad' (s : (Int × (Int × Int))) (nl : Nat) (l : Nat → ((SlV NI) × (Int × NI))) (nweights : Nat) (weights : Nat → NI) : Option ((Nat × NI) × Int) :=
 bif (decide (((nl : Nat) : Int) > 64)) then (
 some ((0, (fun _ => 0)), 1))
 else (
 bif (((nl : Nat) : Int) != ((nweights : Nat) : Int)) then (
 some ((0, (fun _ => 0)), 1))
 else (
 match (r36_looks 10 s nl l nweights weights 0 ((nl : Nat) : Int)) with
 | none => none
 | some y => (
 let nr := y.1.1.1
 let r := y.1.1.2
 some ((nr, (fun j => r (0 + j))), 0))))
noncomputable def r36_Bad := veil r36_Bad'
theorem r36_Bad_eq : r36_Bad = r36_Bad' := veil_eq _
noncomputable def r36_All' (s : (Int × (Int × Int))) (nl : Nat) (l : Nat → ((SlV NI) × (Int × NI))) (nweights : Nat) (weights : Nat → NI) : Option (Bool) :=
 bif (decide (((nl : Nat) : Int) ≤ 64)) then (
 bif (((nl : Nat) : Int) == ((nweights : Nat) : Int)) then (
 match (r36_Together s nl l nweights weights) with
 | none => none
 | some r => (
 some r))
 else (
 some false))
 else (
 some false)
noncomputable def r36_All := veil r36_All'
theorem r36_All_eq : r36_All = r36_All' := veil_eq _
end Go.Pl
