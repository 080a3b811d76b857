/-
  No cell of these rows narrows 'for every input' (looked for: loops, veiled, ifaces, maps, wideKeys, modest, calm, conditions, laid).
  DERIVED. THE GIVEN ROWS OF THIS SEAT. 12 by the template 'for every input the law returns true; each argument reads behind the call as it read before'; 0 by the template 'total and deterministic' (their statements: YtoofellokbgmaaaTotals.lean).
  GIVEN WITH THE SEED: the statements are not yours to turn. If you find one false, say at which input.
  Laid BY PROGRAM, IN A SANDBOX (cutbox-rows.mjs): the forced cells as the released guide's own fill.sh prints them over the translation e283c3e388afafb5… (all of the seat's roots in one cut). By AI agents, Wed Nov 11 2026. No macro, syntax, notation, axiom, sorry.
-/
import Derived.Test.YtoofellokbgmaaaChecked
import GoSem.Claim
import GoSem.ClaimJoined
import GoSem.ClaimMapViews
import Derived.JoinedTies
import Derived.KernelRfl
namespace Go.Proofs.Ytoofellokbgmaaa
/- THE CELL 'sum', in the pinned program and in every row, IS THE sha256 OF THE DUMP (.gsa) THAT YtoofellokbgmaaaProg.lean LOADS. Nothing in Lean hashes anything: it is a label: what it is worth is what the hold of that sum in a sandbox is worth. -/
noncomputable def Try.pinned : Pinned := { name := "ytoofellokbgmaaa", sum := "e283c3e388afafb545a56d7a64217b48289a3b70f55011b6328d5106e3f5414a", checked := Try.checked }
namespace Rows
def none {H : Type} : Left H := { results := [], args := [] }

/-- 'sacristylaw09.PowerMultis': WHATEVER THE INPUT: true; the input reads as it did. -/
def powerMultisSpec : ChangeSpec := { name := "powerMultis", fn := fun _ => fun
  | [d1, d2, d3] => { results := [.lit (.bool true)], args := [d1, d2, d3] }
  | _ => none }
def powerMultisRow : OpenClaim := { program := "ytoofellokbgmaaa", sum := "e283c3e388afafb545a56d7a64217b48289a3b70f55011b6328d5106e3f5414a", func := "sacristy/sacristylaw09.PowerMultis", spec := "powerMultis", inPlace := ["math/bits.Sub64", "math/bits.Add64"], unfollowed := true, recurses := true, named := ["math/bits.divideError", "math/bits.overflowError"], apart := false }
def PowerMultisSaid : Prop := powerMultisRow.holds Try.pinned (OpenSpec.ofChange powerMultisSpec)

/-- ITS FALSE NEIGHBOUR: 'it returns false'. Refute it at one input. -/
def powerMultisWrong : ChangeSpec := { name := "powerMultis", fn := fun _ => fun
  | [d1, d2, d3] => { results := [.lit (.bool false)], args := [d1, d2, d3] }
  | _ => none }
def PowerMultisWrongFalsely : Prop := powerMultisRow.holds Try.pinned (OpenSpec.ofChange powerMultisWrong)

/-- 'sacristylaw07.GroupChecks': WHATEVER THE INPUT: true; the input reads as it did. -/
def groupChecksSpec : ChangeSpec := { name := "groupChecks", fn := fun _ => fun
  | [d] => { results := [.lit (.bool true)], args := [d] }
  | _ => none }
def groupChecksRow : OpenClaim := { program := "ytoofellokbgmaaa", sum := "e283c3e388afafb545a56d7a64217b48289a3b70f55011b6328d5106e3f5414a", func := "sacristy/sacristylaw07.GroupChecks", spec := "groupChecks", inPlace := ["math/bits.Sub64", "math/bits.Add64"], unfollowed := true, recurses := true, named := ["math/bits.divideError", "math/bits.overflowError"], apart := false }
def GroupChecksSaid : Prop := groupChecksRow.holds Try.pinned (OpenSpec.ofChange groupChecksSpec)

/-- ITS FALSE NEIGHBOUR: 'it returns false'. Refute it at one input. -/
def groupChecksWrong : ChangeSpec := { name := "groupChecks", fn := fun _ => fun
  | [d] => { results := [.lit (.bool false)], args := [d] }
  | _ => none }
def GroupChecksWrongFalsely : Prop := groupChecksRow.holds Try.pinned (OpenSpec.ofChange groupChecksWrong)

/-- 'sacristylaw07.GroupNobody': WHATEVER THE INPUT: true; the input reads as it did. -/
def groupNobodySpec : ChangeSpec := { name := "groupNobody", fn := fun _ => fun
  | [d] => { results := [.lit (.bool true)], args := [d] }
  | _ => none }
def groupNobodyRow : OpenClaim := { program := "ytoofellokbgmaaa", sum := "e283c3e388afafb545a56d7a64217b48289a3b70f55011b6328d5106e3f5414a", func := "sacristy/sacristylaw07.GroupNobody", spec := "groupNobody", inPlace := ["math/bits.Sub64", "math/bits.Add64"], unfollowed := true, recurses := true, named := ["math/bits.divideError", "math/bits.overflowError"], apart := false }
def GroupNobodySaid : Prop := groupNobodyRow.holds Try.pinned (OpenSpec.ofChange groupNobodySpec)

/-- ITS FALSE NEIGHBOUR: 'it returns false'. Refute it at one input. -/
def groupNobodyWrong : ChangeSpec := { name := "groupNobody", fn := fun _ => fun
  | [d] => { results := [.lit (.bool false)], args := [d] }
  | _ => none }
def GroupNobodyWrongFalsely : Prop := groupNobodyRow.holds Try.pinned (OpenSpec.ofChange groupNobodyWrong)

/-- 'sacristylaw07.GroupGiven': WHATEVER THE INPUT: true; the input reads as it did. -/
def groupGivenSpec : ChangeSpec := { name := "groupGiven", fn := fun _ => fun
  | [d] => { results := [.lit (.bool true)], args := [d] }
  | _ => none }
def groupGivenRow : OpenClaim := { program := "ytoofellokbgmaaa", sum := "e283c3e388afafb545a56d7a64217b48289a3b70f55011b6328d5106e3f5414a", func := "sacristy/sacristylaw07.GroupGiven", spec := "groupGiven", inPlace := ["math/bits.Sub64", "math/bits.Add64"], unfollowed := true, recurses := true, named := ["math/bits.divideError", "math/bits.overflowError"], apart := false }
def GroupGivenSaid : Prop := groupGivenRow.holds Try.pinned (OpenSpec.ofChange groupGivenSpec)

/-- ITS FALSE NEIGHBOUR: 'it returns false'. Refute it at one input. -/
def groupGivenWrong : ChangeSpec := { name := "groupGiven", fn := fun _ => fun
  | [d] => { results := [.lit (.bool false)], args := [d] }
  | _ => none }
def GroupGivenWrongFalsely : Prop := groupGivenRow.holds Try.pinned (OpenSpec.ofChange groupGivenWrong)

/-- 'sacristylaw07.GroupOrder': WHATEVER THE INPUT: true; the input reads as it did. -/
def groupOrderSpec : ChangeSpec := { name := "groupOrder", fn := fun _ => fun
  | [d1, d2, d3] => { results := [.lit (.bool true)], args := [d1, d2, d3] }
  | _ => none }
def groupOrderRow : OpenClaim := { program := "ytoofellokbgmaaa", sum := "e283c3e388afafb545a56d7a64217b48289a3b70f55011b6328d5106e3f5414a", func := "sacristy/sacristylaw07.GroupOrder", spec := "groupOrder", inPlace := ["math/bits.Sub64", "math/bits.Add64"], unfollowed := true, recurses := true, named := ["math/bits.divideError", "math/bits.overflowError"], apart := false }
def GroupOrderSaid : Prop := groupOrderRow.holds Try.pinned (OpenSpec.ofChange groupOrderSpec)

/-- ITS FALSE NEIGHBOUR: 'it returns false'. Refute it at one input. -/
def groupOrderWrong : ChangeSpec := { name := "groupOrder", fn := fun _ => fun
  | [d1, d2, d3] => { results := [.lit (.bool false)], args := [d1, d2, d3] }
  | _ => none }
def GroupOrderWrongFalsely : Prop := groupOrderRow.holds Try.pinned (OpenSpec.ofChange groupOrderWrong)

/-- 'sacristylaw09.PowerDoes': WHATEVER THE INPUT: true; the input reads as it did. -/
def powerDoesSpec : ChangeSpec := { name := "powerDoes", fn := fun _ => fun
  | [d1, d2, d3] => { results := [.lit (.bool true)], args := [d1, d2, d3] }
  | _ => none }
def powerDoesRow : OpenClaim := { program := "ytoofellokbgmaaa", sum := "e283c3e388afafb545a56d7a64217b48289a3b70f55011b6328d5106e3f5414a", func := "sacristy/sacristylaw09.PowerDoes", spec := "powerDoes", inPlace := ["math/bits.Sub64", "math/bits.Add64"], unfollowed := true, recurses := true, named := ["math/bits.divideError", "math/bits.overflowError"], apart := false }
def PowerDoesSaid : Prop := powerDoesRow.holds Try.pinned (OpenSpec.ofChange powerDoesSpec)

/-- ITS FALSE NEIGHBOUR: 'it returns false'. Refute it at one input. -/
def powerDoesWrong : ChangeSpec := { name := "powerDoes", fn := fun _ => fun
  | [d1, d2, d3] => { results := [.lit (.bool false)], args := [d1, d2, d3] }
  | _ => none }
def PowerDoesWrongFalsely : Prop := powerDoesRow.holds Try.pinned (OpenSpec.ofChange powerDoesWrong)

/-- 'sacristylaw09.PowerNobody': WHATEVER THE INPUT: true; the input reads as it did. -/
def powerNobodySpec : ChangeSpec := { name := "powerNobody", fn := fun _ => fun
  | [d1, d2] => { results := [.lit (.bool true)], args := [d1, d2] }
  | _ => none }
def powerNobodyRow : OpenClaim := { program := "ytoofellokbgmaaa", sum := "e283c3e388afafb545a56d7a64217b48289a3b70f55011b6328d5106e3f5414a", func := "sacristy/sacristylaw09.PowerNobody", spec := "powerNobody", inPlace := ["math/bits.Sub64", "math/bits.Add64"], unfollowed := true, recurses := true, named := ["math/bits.divideError", "math/bits.overflowError"], apart := false }
def PowerNobodySaid : Prop := powerNobodyRow.holds Try.pinned (OpenSpec.ofChange powerNobodySpec)

/-- ITS FALSE NEIGHBOUR: 'it returns false'. Refute it at one input. -/
def powerNobodyWrong : ChangeSpec := { name := "powerNobody", fn := fun _ => fun
  | [d1, d2] => { results := [.lit (.bool false)], args := [d1, d2] }
  | _ => none }
def PowerNobodyWrongFalsely : Prop := powerNobodyRow.holds Try.pinned (OpenSpec.ofChange powerNobodyWrong)

/-- 'sacristylaw09.PowerLeads': WHATEVER THE INPUT: true; the input reads as it did. -/
def powerLeadsSpec : ChangeSpec := { name := "powerLeads", fn := fun _ => fun
  | [d1, d2, d3] => { results := [.lit (.bool true)], args := [d1, d2, d3] }
  | _ => none }
def powerLeadsRow : OpenClaim := { program := "ytoofellokbgmaaa", sum := "e283c3e388afafb545a56d7a64217b48289a3b70f55011b6328d5106e3f5414a", func := "sacristy/sacristylaw09.PowerLeads", spec := "powerLeads", inPlace := ["math/bits.Sub64", "math/bits.Add64"], unfollowed := true, recurses := true, named := ["math/bits.divideError", "math/bits.overflowError"], apart := false }
def PowerLeadsSaid : Prop := powerLeadsRow.holds Try.pinned (OpenSpec.ofChange powerLeadsSpec)

/-- ITS FALSE NEIGHBOUR: 'it returns false'. Refute it at one input. -/
def powerLeadsWrong : ChangeSpec := { name := "powerLeads", fn := fun _ => fun
  | [d1, d2, d3] => { results := [.lit (.bool false)], args := [d1, d2, d3] }
  | _ => none }
def PowerLeadsWrongFalsely : Prop := powerLeadsRow.holds Try.pinned (OpenSpec.ofChange powerLeadsWrong)

/-- 'sacristylaw08.FieldDoes': WHATEVER THE INPUT: true; the input reads as it did. -/
def fieldDoesSpec : ChangeSpec := { name := "fieldDoes", fn := fun _ => fun
  | [d1, d2, d3] => { results := [.lit (.bool true)], args := [d1, d2, d3] }
  | _ => none }
def fieldDoesRow : OpenClaim := { program := "ytoofellokbgmaaa", sum := "e283c3e388afafb545a56d7a64217b48289a3b70f55011b6328d5106e3f5414a", func := "sacristy/sacristylaw08.FieldDoes", spec := "fieldDoes", inPlace := ["math/bits.Sub64", "math/bits.Add64"], unfollowed := true, recurses := true, named := ["math/bits.divideError", "math/bits.overflowError"], apart := false }
def FieldDoesSaid : Prop := fieldDoesRow.holds Try.pinned (OpenSpec.ofChange fieldDoesSpec)

/-- ITS FALSE NEIGHBOUR: 'it returns false'. Refute it at one input. -/
def fieldDoesWrong : ChangeSpec := { name := "fieldDoes", fn := fun _ => fun
  | [d1, d2, d3] => { results := [.lit (.bool false)], args := [d1, d2, d3] }
  | _ => none }
def FieldDoesWrongFalsely : Prop := fieldDoesRow.holds Try.pinned (OpenSpec.ofChange fieldDoesWrong)

/-- 'sacristylaw08.FieldDots': WHATEVER THE INPUT: true; the input reads as it did. -/
def fieldDotsSpec : ChangeSpec := { name := "fieldDots", fn := fun _ => fun
  | [d1, d2, d3] => { results := [.lit (.bool true)], args := [d1, d2, d3] }
  | _ => none }
def fieldDotsRow : OpenClaim := { program := "ytoofellokbgmaaa", sum := "e283c3e388afafb545a56d7a64217b48289a3b70f55011b6328d5106e3f5414a", func := "sacristy/sacristylaw08.FieldDots", spec := "fieldDots", inPlace := ["math/bits.Sub64", "math/bits.Add64"], unfollowed := true, recurses := true, named := ["math/bits.divideError", "math/bits.overflowError"], apart := false }
def FieldDotsSaid : Prop := fieldDotsRow.holds Try.pinned (OpenSpec.ofChange fieldDotsSpec)

/-- ITS FALSE NEIGHBOUR: 'it returns false'. Refute it at one input. -/
def fieldDotsWrong : ChangeSpec := { name := "fieldDots", fn := fun _ => fun
  | [d1, d2, d3] => { results := [.lit (.bool false)], args := [d1, d2, d3] }
  | _ => none }
def FieldDotsWrongFalsely : Prop := fieldDotsRow.holds Try.pinned (OpenSpec.ofChange fieldDotsWrong)

/-- 'sacristylaw08.FieldIs': WHATEVER THE INPUT: true; the input reads as it did. -/
def fieldIsSpec : ChangeSpec := { name := "fieldIs", fn := fun _ => fun
  | [d1, d2, d3] => { results := [.lit (.bool true)], args := [d1, d2, d3] }
  | _ => none }
def fieldIsRow : OpenClaim := { program := "ytoofellokbgmaaa", sum := "e283c3e388afafb545a56d7a64217b48289a3b70f55011b6328d5106e3f5414a", func := "sacristy/sacristylaw08.FieldIs", spec := "fieldIs", inPlace := ["math/bits.Sub64", "math/bits.Add64"], unfollowed := true, recurses := true, named := ["math/bits.divideError", "math/bits.overflowError"], apart := false }
def FieldIsSaid : Prop := fieldIsRow.holds Try.pinned (OpenSpec.ofChange fieldIsSpec)

/-- ITS FALSE NEIGHBOUR: 'it returns false'. Refute it at one input. -/
def fieldIsWrong : ChangeSpec := { name := "fieldIs", fn := fun _ => fun
  | [d1, d2, d3] => { results := [.lit (.bool false)], args := [d1, d2, d3] }
  | _ => none }
def FieldIsWrongFalsely : Prop := fieldIsRow.holds Try.pinned (OpenSpec.ofChange fieldIsWrong)

/-- 'sacristylaw08.FieldNobody': WHATEVER THE INPUT: true; the input reads as it did. -/
def fieldNobodySpec : ChangeSpec := { name := "fieldNobody", fn := fun _ => fun
  | [d1, d2] => { results := [.lit (.bool true)], args := [d1, d2] }
  | _ => none }
def fieldNobodyRow : OpenClaim := { program := "ytoofellokbgmaaa", sum := "e283c3e388afafb545a56d7a64217b48289a3b70f55011b6328d5106e3f5414a", func := "sacristy/sacristylaw08.FieldNobody", spec := "fieldNobody", inPlace := ["math/bits.Sub64", "math/bits.Add64"], unfollowed := true, recurses := true, named := ["math/bits.divideError", "math/bits.overflowError"], apart := false }
def FieldNobodySaid : Prop := fieldNobodyRow.holds Try.pinned (OpenSpec.ofChange fieldNobodySpec)

/-- ITS FALSE NEIGHBOUR: 'it returns false'. Refute it at one input. -/
def fieldNobodyWrong : ChangeSpec := { name := "fieldNobody", fn := fun _ => fun
  | [d1, d2] => { results := [.lit (.bool false)], args := [d1, d2] }
  | _ => none }
def FieldNobodyWrongFalsely : Prop := fieldNobodyRow.holds Try.pinned (OpenSpec.ofChange fieldNobodyWrong)

/- THE SECOND FORM. 'bulk': how many values and letters a reading holds, each counted each time it is reached (what is shared counts as often as it is met; a slice's spare places count too). A statement '..UptoSaid' is the law's where the arguments, and the package variables that the reading takes, are together of bulk at most 1048576: NARROWER than '..Said'. Prove '..Said' where nothing that the law and all that it calls make is longer than what came in: it says more and counts as full. Else prove '..UptoSaid'. A law counts once. -/
mutual
def uptoBulk {H : Type} : DataW H → Nat
  | .lit (.string bytes) => bytes.length + 1
  | .lit _ => 1
  | .nil => 1
  | .ptr d => uptoBulk d + 1
  | .slice elems spare => uptoBulkAll elems + uptoBulkAll spare + 1
  | .agg parts => uptoBulkAll parts + 1
  | .iface _ d => uptoBulk d + 1
  | .map entries => uptoBulkEntries entries + 1
  | .held _ => 1
def uptoBulkAll {H : Type} : List (DataW H) → Nat
  | [] => 0
  | d :: r => uptoBulk d + uptoBulkAll r
def uptoBulkEntries {H : Type} : List (Lit × DataW H) → Nat
  | [] => 0
  | x :: r => uptoBulkEntry x + uptoBulkEntries r
def uptoBulkEntry {H : Type} : Lit × DataW H → Nat
  | (.string bytes, d) => bytes.length + uptoBulk d + 1
  | (_, d) => uptoBulk d + 1
 end
def uptoSmall : (H : Type) → List (DataW H) → Bool := fun _ ds => decide (uptoBulkAll ds ≤ 1048576)
def OpenSpec.upto (s : _root_.Go.ChangeSpec) : _root_.Go.OpenSpec := { _root_.Go.OpenSpec.ofChange s with cond := some uptoSmall }

/-- 'sacristylaw09.PowerMultis', WHERE WHAT IT READS IS OF BULK AT MOST 1048576: true; the input reads as it did. -/
def powerMultisUptoRow : OpenClaim := { program := "ytoofellokbgmaaa", sum := "e283c3e388afafb545a56d7a64217b48289a3b70f55011b6328d5106e3f5414a", func := "sacristy/sacristylaw09.PowerMultis", spec := "powerMultis", inPlace := ["math/bits.Sub64", "math/bits.Add64"], unfollowed := true, recurses := true, named := ["math/bits.divideError", "math/bits.overflowError"], apart := false, narrowed := true }
def PowerMultisUptoSaid : Prop := powerMultisUptoRow.holds Try.pinned (OpenSpec.upto powerMultisSpec)

/-- 'sacristylaw07.GroupChecks', WHERE WHAT IT READS IS OF BULK AT MOST 1048576: true; the input reads as it did. -/
def groupChecksUptoRow : OpenClaim := { program := "ytoofellokbgmaaa", sum := "e283c3e388afafb545a56d7a64217b48289a3b70f55011b6328d5106e3f5414a", func := "sacristy/sacristylaw07.GroupChecks", spec := "groupChecks", inPlace := ["math/bits.Sub64", "math/bits.Add64"], unfollowed := true, recurses := true, named := ["math/bits.divideError", "math/bits.overflowError"], apart := false, narrowed := true }
def GroupChecksUptoSaid : Prop := groupChecksUptoRow.holds Try.pinned (OpenSpec.upto groupChecksSpec)

/-- 'sacristylaw07.GroupNobody', WHERE WHAT IT READS IS OF BULK AT MOST 1048576: true; the input reads as it did. -/
def groupNobodyUptoRow : OpenClaim := { program := "ytoofellokbgmaaa", sum := "e283c3e388afafb545a56d7a64217b48289a3b70f55011b6328d5106e3f5414a", func := "sacristy/sacristylaw07.GroupNobody", spec := "groupNobody", inPlace := ["math/bits.Sub64", "math/bits.Add64"], unfollowed := true, recurses := true, named := ["math/bits.divideError", "math/bits.overflowError"], apart := false, narrowed := true }
def GroupNobodyUptoSaid : Prop := groupNobodyUptoRow.holds Try.pinned (OpenSpec.upto groupNobodySpec)

/-- 'sacristylaw07.GroupGiven', WHERE WHAT IT READS IS OF BULK AT MOST 1048576: true; the input reads as it did. -/
def groupGivenUptoRow : OpenClaim := { program := "ytoofellokbgmaaa", sum := "e283c3e388afafb545a56d7a64217b48289a3b70f55011b6328d5106e3f5414a", func := "sacristy/sacristylaw07.GroupGiven", spec := "groupGiven", inPlace := ["math/bits.Sub64", "math/bits.Add64"], unfollowed := true, recurses := true, named := ["math/bits.divideError", "math/bits.overflowError"], apart := false, narrowed := true }
def GroupGivenUptoSaid : Prop := groupGivenUptoRow.holds Try.pinned (OpenSpec.upto groupGivenSpec)

/-- 'sacristylaw07.GroupOrder', WHERE WHAT IT READS IS OF BULK AT MOST 1048576: true; the input reads as it did. -/
def groupOrderUptoRow : OpenClaim := { program := "ytoofellokbgmaaa", sum := "e283c3e388afafb545a56d7a64217b48289a3b70f55011b6328d5106e3f5414a", func := "sacristy/sacristylaw07.GroupOrder", spec := "groupOrder", inPlace := ["math/bits.Sub64", "math/bits.Add64"], unfollowed := true, recurses := true, named := ["math/bits.divideError", "math/bits.overflowError"], apart := false, narrowed := true }
def GroupOrderUptoSaid : Prop := groupOrderUptoRow.holds Try.pinned (OpenSpec.upto groupOrderSpec)

/-- 'sacristylaw09.PowerDoes', WHERE WHAT IT READS IS OF BULK AT MOST 1048576: true; the input reads as it did. -/
def powerDoesUptoRow : OpenClaim := { program := "ytoofellokbgmaaa", sum := "e283c3e388afafb545a56d7a64217b48289a3b70f55011b6328d5106e3f5414a", func := "sacristy/sacristylaw09.PowerDoes", spec := "powerDoes", inPlace := ["math/bits.Sub64", "math/bits.Add64"], unfollowed := true, recurses := true, named := ["math/bits.divideError", "math/bits.overflowError"], apart := false, narrowed := true }
def PowerDoesUptoSaid : Prop := powerDoesUptoRow.holds Try.pinned (OpenSpec.upto powerDoesSpec)

/-- 'sacristylaw09.PowerNobody', WHERE WHAT IT READS IS OF BULK AT MOST 1048576: true; the input reads as it did. -/
def powerNobodyUptoRow : OpenClaim := { program := "ytoofellokbgmaaa", sum := "e283c3e388afafb545a56d7a64217b48289a3b70f55011b6328d5106e3f5414a", func := "sacristy/sacristylaw09.PowerNobody", spec := "powerNobody", inPlace := ["math/bits.Sub64", "math/bits.Add64"], unfollowed := true, recurses := true, named := ["math/bits.divideError", "math/bits.overflowError"], apart := false, narrowed := true }
def PowerNobodyUptoSaid : Prop := powerNobodyUptoRow.holds Try.pinned (OpenSpec.upto powerNobodySpec)

/-- 'sacristylaw09.PowerLeads', WHERE WHAT IT READS IS OF BULK AT MOST 1048576: true; the input reads as it did. -/
def powerLeadsUptoRow : OpenClaim := { program := "ytoofellokbgmaaa", sum := "e283c3e388afafb545a56d7a64217b48289a3b70f55011b6328d5106e3f5414a", func := "sacristy/sacristylaw09.PowerLeads", spec := "powerLeads", inPlace := ["math/bits.Sub64", "math/bits.Add64"], unfollowed := true, recurses := true, named := ["math/bits.divideError", "math/bits.overflowError"], apart := false, narrowed := true }
def PowerLeadsUptoSaid : Prop := powerLeadsUptoRow.holds Try.pinned (OpenSpec.upto powerLeadsSpec)

/-- 'sacristylaw08.FieldDoes', WHERE WHAT IT READS IS OF BULK AT MOST 1048576: true; the input reads as it did. -/
def fieldDoesUptoRow : OpenClaim := { program := "ytoofellokbgmaaa", sum := "e283c3e388afafb545a56d7a64217b48289a3b70f55011b6328d5106e3f5414a", func := "sacristy/sacristylaw08.FieldDoes", spec := "fieldDoes", inPlace := ["math/bits.Sub64", "math/bits.Add64"], unfollowed := true, recurses := true, named := ["math/bits.divideError", "math/bits.overflowError"], apart := false, narrowed := true }
def FieldDoesUptoSaid : Prop := fieldDoesUptoRow.holds Try.pinned (OpenSpec.upto fieldDoesSpec)

/-- 'sacristylaw08.FieldDots', WHERE WHAT IT READS IS OF BULK AT MOST 1048576: true; the input reads as it did. -/
def fieldDotsUptoRow : OpenClaim := { program := "ytoofellokbgmaaa", sum := "e283c3e388afafb545a56d7a64217b48289a3b70f55011b6328d5106e3f5414a", func := "sacristy/sacristylaw08.FieldDots", spec := "fieldDots", inPlace := ["math/bits.Sub64", "math/bits.Add64"], unfollowed := true, recurses := true, named := ["math/bits.divideError", "math/bits.overflowError"], apart := false, narrowed := true }
def FieldDotsUptoSaid : Prop := fieldDotsUptoRow.holds Try.pinned (OpenSpec.upto fieldDotsSpec)

/-- 'sacristylaw08.FieldIs', WHERE WHAT IT READS IS OF BULK AT MOST 1048576: true; the input reads as it did. -/
def fieldIsUptoRow : OpenClaim := { program := "ytoofellokbgmaaa", sum := "e283c3e388afafb545a56d7a64217b48289a3b70f55011b6328d5106e3f5414a", func := "sacristy/sacristylaw08.FieldIs", spec := "fieldIs", inPlace := ["math/bits.Sub64", "math/bits.Add64"], unfollowed := true, recurses := true, named := ["math/bits.divideError", "math/bits.overflowError"], apart := false, narrowed := true }
def FieldIsUptoSaid : Prop := fieldIsUptoRow.holds Try.pinned (OpenSpec.upto fieldIsSpec)

/-- 'sacristylaw08.FieldNobody', WHERE WHAT IT READS IS OF BULK AT MOST 1048576: true; the input reads as it did. -/
def fieldNobodyUptoRow : OpenClaim := { program := "ytoofellokbgmaaa", sum := "e283c3e388afafb545a56d7a64217b48289a3b70f55011b6328d5106e3f5414a", func := "sacristy/sacristylaw08.FieldNobody", spec := "fieldNobody", inPlace := ["math/bits.Sub64", "math/bits.Add64"], unfollowed := true, recurses := true, named := ["math/bits.divideError", "math/bits.overflowError"], apart := false, narrowed := true }
def FieldNobodyUptoSaid : Prop := fieldNobodyUptoRow.holds Try.pinned (OpenSpec.upto fieldNobodySpec)

end Rows
end Go.Proofs.Ytoofellokbgmaaa
