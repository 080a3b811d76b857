/-
  The functions of a package, plainly.
-/
import Derived.Test.YtennopklknlecaaGreatDenD
import Derived.Test.YtennopklknlecaaGreatPlA
set_option linter.unusedVariables false
set_option linter.unusedSimpArgs false
set_option maxRecDepth 100000
set_option maxHeartbeats 0
namespace Go.Pl
end Go.Pl
open Go Go.Den Go.Pl
namespace Go.Pl
/-- a round -/
noncomputable def poly_EvalR (g : (Option (((PtrV ((Nat → Int) × (Int × ((Nat → Int) × (Nat → Int))))) × (PtrV ((Nat → Int) × (Int × ((Nat → Int) × (Nat → Int)))))) × (Nat → Int)))) (x o a : Nat → Int) : Option (Nat → Int) :=
 match field_Mul g o x with
 | none => none
 | some r => match field_Add g r a with
 | none => none
 | some r1 => some r1
noncomputable def poly_EvalGo (g : (Option (((PtrV ((Nat → Int) × (Int × ((Nat → Int) × (Nat → Int))))) × (PtrV ((Nat → Int) × (Int × ((Nat → Int) × (Nat → Int)))))) × (Nat → Int)))) (f : Nat → (Nat → Int)) (x : Nat → Int) : Nat → (Nat → Int) → Option (Nat → Int)
 | 0, o => some o
 | k + 1, o => match poly_EvalR g x o (f k) with
 | none => none
 | some o' => poly_EvalGo g f x k o'
/-- each round gives something, in whatever order the coefficients come -/
def poly_EvalAt (g : (Option (((PtrV ((Nat → Int) × (Int × ((Nat → Int) × (Nat → Int))))) × (PtrV ((Nat → Int) × (Int × ((Nat → Int) × (Nat → Int)))))) × (Nat → Int)))) (nf : Nat) (f : Nat → (Nat → Int)) (x : Nat → Int) : Prop :=
 nf ≤ 9223372036854775807 ∧ ∃ I : (Nat → Int) → Prop, I (fun _ => 0) ∧ ∀ o k, I o → k < nf → ∃ o', poly_EvalR g x o (f k) = some o' ∧ I o'
open Classical in
noncomputable def poly_Eval' (g : (Option (((PtrV ((Nat → Int) × (Int × ((Nat → Int) × (Nat → Int))))) × (PtrV ((Nat → Int) × (Int × ((Nat → Int) × (Nat → Int)))))) × (Nat → Int)))) (nf : Nat) (f : Nat → (Nat → Int)) (x : Nat → Int) : Option (Nat → Int) :=
 if poly_EvalAt g nf f x then poly_EvalGo g f x nf (fun _ => 0) else none
noncomputable def poly_Eval : ((Option (((PtrV ((Nat → Int) × (Int × ((Nat → Int) × (Nat → Int))))) × (PtrV ((Nat → Int) × (Int × ((Nat → Int) × (Nat → Int)))))) × (Nat → Int)))) → (Nat) → (Nat → (Nat → Int)) → (Nat → Int) → Option (Nat → Int) := veil poly_Eval'
theorem poly_Eval_eq : poly_Eval = poly_Eval' := veil_eq _

end Go.Pl
