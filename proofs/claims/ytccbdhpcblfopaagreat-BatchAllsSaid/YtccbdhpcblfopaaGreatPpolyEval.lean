/-
  The functions of a package, plainly.
-/
import Derived.Test.YtccbdhpcblfopaaGreatDenI
import Derived.Test.YtccbdhpcblfopaaGreatPlA
set_option linter.unusedVariables false
set_option linter.unusedSimpArgs false
set_option maxRecDepth 100000
set_option maxHeartbeats 0
namespace Go.Pl
end Go.Pl
open Go Go.Den Go.Pl
namespace Go.Pl
open Go.IntKind (i64 u64 u32 u8)
noncomputable def poly_EvalR (g : (Option (((PtrV (NI × (Int × (NI × NI)))) × (PtrV (NI × (Int × (NI × NI))))) × NI))) (x o a : Nat → Int) : Option NI :=
 match field_Mul g o x with
 | none => none
 | some r => match field_Add g r a with
 | none => none
 | some r1 => some r1
noncomputable def poly_EvalGo (g : (Option (((PtrV (NI × (Int × (NI × NI)))) × (PtrV (NI × (Int × (NI × NI))))) × NI))) (f : Nat → NI) (x : Nat → Int) : Nat → NI → Option NI
 | 0, o => some o
 | k + 1, o => match poly_EvalR g x o (f k) with
 | none => none
 | some o' => poly_EvalGo g f x k o'
def poly_EvalAt (g : (Option (((PtrV (NI × (Int × (NI × NI)))) × (PtrV (NI × (Int × (NI × NI))))) × NI))) (nf : Nat) (f : Nat → NI) (x : Nat → Int) : Prop :=
 nf ≤ 9223372036854775807 ∧ ∃ I : NI → Prop, I (fun _ => 0) ∧ ∀ o k, I o → k < nf → ∃ o', poly_EvalR g x o (f k) = some o' ∧ I o'
open Classical in
noncomputable def poly_Eval' (g : (Option (((PtrV (NI × (Int × (NI × NI)))) × (PtrV (NI × (Int × (NI × NI))))) × NI))) (nf : Nat) (f : Nat → NI) (x : Nat → Int) : Option NI :=
 if poly_EvalAt g nf f x then poly_EvalGo g f x nf (fun _ => 0) else none
noncomputable def poly_Eval := veil poly_Eval'
theorem poly_Eval_eq : poly_Eval = poly_Eval' := veil_eq _
end Go.Pl
