/-
  No cell of these rows narrows 'for every input' (looked for: loops, veiled, ifaces, maps, wideKeys, modest, calm, conditions, laid).
  DERIVED. THE GIVEN ROWS OF THIS SEAT. 4 by the template 'for every input the law returns true; each argument reads behind the call as it read before'; 0 by the template 'total and deterministic' (their statements: YtccbdhpcblfopaaGreatTotals.lean).
  GIVEN WITH THE SEED: the statements are not yours to turn. If you find one false, say at which input.
  Laid BY PROGRAM, IN A SANDBOX (cutbox-rows.mjs): the forced cells as the released guide's own fill.sh prints them over the translation d46cf8852174d4c2… (all of the seat's roots in one cut). By AI agents, Wed Nov 11 2026. No macro, syntax, notation, axiom, sorry.
-/
import Derived.Test.YtccbdhpcblfopaaGreatChecked
import GoSem.Claim
import GoSem.ClaimJoined
import GoSem.ClaimMapViews
import Derived.JoinedTies
import Derived.KernelRfl
namespace Go.Proofs.YtccbdhpcblfopaaGreat
/- THE CELL 'sum', in the pinned program and in every row, IS THE sha256 OF THE DUMP (.gsa) THAT YtccbdhpcblfopaaGreatProg.lean LOADS. Nothing in Lean hashes anything: it is a label: what it is worth is what the hold of that sum in a sandbox is worth. -/
noncomputable def Tryz.pinned : Pinned := { name := "ytccbdhpcblfopaagreat", sum := "d46cf8852174d4c213738ea568cf3253ed62a4e72748c8bfd579f3f270e346b6", checked := Tryz.checked }
namespace Rows
def none {H : Type} : Left H := { results := [], args := [] }

/-- 'sacristylaw36.BatchAlls': WHATEVER THE INPUT: true; the input reads as it did. -/
def batchAllsSpec : ChangeSpec := { name := "batchAlls", fn := fun _ => fun
  | [d1, d2, d3] => { results := [.lit (.bool true)], args := [d1, d2, d3] }
  | _ => none }
def batchAllsRow : OpenClaim := { program := "ytccbdhpcblfopaagreat", sum := "d46cf8852174d4c213738ea568cf3253ed62a4e72748c8bfd579f3f270e346b6", func := "sacristy/sacristylaw36.BatchAlls", spec := "batchAlls", inPlace := ["math/bits.Sub64", "math/bits.Add64", "internal/abi.NoEscape", "internal/bytealg.MakeNoZero"], unfollowed := true, recurses := true, named := ["math/bits.divideError", "math/bits.overflowError"], apart := false }
def BatchAllsSaid : Prop := batchAllsRow.holds Tryz.pinned (OpenSpec.ofChange batchAllsSpec)

/-- ITS FALSE NEIGHBOUR: 'it returns false'. Refute it at one input. -/
def batchAllsWrong : ChangeSpec := { name := "batchAlls", fn := fun _ => fun
  | [d1, d2, d3] => { results := [.lit (.bool false)], args := [d1, d2, d3] }
  | _ => none }
def BatchAllsWrongFalsely : Prop := batchAllsRow.holds Tryz.pinned (OpenSpec.ofChange batchAllsWrong)

/-- 'sacristylaw36.BatchWeights': WHATEVER THE INPUT: true; the input reads as it did. -/
def batchWeightsSpec : ChangeSpec := { name := "batchWeights", fn := fun _ => fun
  | [d1, d2] => { results := [.lit (.bool true)], args := [d1, d2] }
  | _ => none }
def batchWeightsRow : OpenClaim := { program := "ytccbdhpcblfopaagreat", sum := "d46cf8852174d4c213738ea568cf3253ed62a4e72748c8bfd579f3f270e346b6", func := "sacristy/sacristylaw36.BatchWeights", spec := "batchWeights", inPlace := ["math/bits.Sub64", "math/bits.Add64", "internal/abi.NoEscape", "internal/bytealg.MakeNoZero"], unfollowed := true, recurses := true, named := ["math/bits.divideError", "math/bits.overflowError"], apart := false }
def BatchWeightsSaid : Prop := batchWeightsRow.holds Tryz.pinned (OpenSpec.ofChange batchWeightsSpec)

/-- ITS FALSE NEIGHBOUR: 'it returns false'. Refute it at one input. -/
def batchWeightsWrong : ChangeSpec := { name := "batchWeights", fn := fun _ => fun
  | [d1, d2] => { results := [.lit (.bool false)], args := [d1, d2] }
  | _ => none }
def BatchWeightsWrongFalsely : Prop := batchWeightsRow.holds Tryz.pinned (OpenSpec.ofChange batchWeightsWrong)

/-- 'sacristylaw36.BatchNobody': WHATEVER THE INPUT: true; the input reads as it did. -/
def batchNobodySpec : ChangeSpec := { name := "batchNobody", fn := fun _ => fun
  | [d1, d2] => { results := [.lit (.bool true)], args := [d1, d2] }
  | _ => none }
def batchNobodyRow : OpenClaim := { program := "ytccbdhpcblfopaagreat", sum := "d46cf8852174d4c213738ea568cf3253ed62a4e72748c8bfd579f3f270e346b6", func := "sacristy/sacristylaw36.BatchNobody", spec := "batchNobody", inPlace := ["math/bits.Sub64", "math/bits.Add64", "internal/abi.NoEscape", "internal/bytealg.MakeNoZero"], unfollowed := true, recurses := true, named := ["math/bits.divideError", "math/bits.overflowError"], apart := false }
def BatchNobodySaid : Prop := batchNobodyRow.holds Tryz.pinned (OpenSpec.ofChange batchNobodySpec)

/-- ITS FALSE NEIGHBOUR: 'it returns false'. Refute it at one input. -/
def batchNobodyWrong : ChangeSpec := { name := "batchNobody", fn := fun _ => fun
  | [d1, d2] => { results := [.lit (.bool false)], args := [d1, d2] }
  | _ => none }
def BatchNobodyWrongFalsely : Prop := batchNobodyRow.holds Tryz.pinned (OpenSpec.ofChange batchNobodyWrong)

/-- 'sacristylaw36.BatchSound': WHATEVER THE INPUT: true; the input reads as it did. -/
def batchSoundSpec : ChangeSpec := { name := "batchSound", fn := fun _ => fun
  | [d1, d2, d3] => { results := [.lit (.bool true)], args := [d1, d2, d3] }
  | _ => none }
def batchSoundRow : OpenClaim := { program := "ytccbdhpcblfopaagreat", sum := "d46cf8852174d4c213738ea568cf3253ed62a4e72748c8bfd579f3f270e346b6", func := "sacristy/sacristylaw36.BatchSound", spec := "batchSound", inPlace := ["math/bits.Sub64", "math/bits.Add64", "internal/abi.NoEscape", "internal/bytealg.MakeNoZero"], unfollowed := true, recurses := true, named := ["math/bits.divideError", "math/bits.overflowError"], apart := false }
def BatchSoundSaid : Prop := batchSoundRow.holds Tryz.pinned (OpenSpec.ofChange batchSoundSpec)

/-- ITS FALSE NEIGHBOUR: 'it returns false'. Refute it at one input. -/
def batchSoundWrong : ChangeSpec := { name := "batchSound", fn := fun _ => fun
  | [d1, d2, d3] => { results := [.lit (.bool false)], args := [d1, d2, d3] }
  | _ => none }
def BatchSoundWrongFalsely : Prop := batchSoundRow.holds Tryz.pinned (OpenSpec.ofChange batchSoundWrong)

/- THE SECOND FORM. 'bulk': how many values and letters a reading holds, each counted each time it is reached (what is shared counts as often as it is met; a slice's spare places count too). A statement '..UptoSaid' is the law's where the arguments, and the package variables that the reading takes, are together of bulk at most 1048576: NARROWER than '..Said'. Prove '..Said' where nothing that the law and all that it calls make is longer than what came in: it says more and counts as full. Else prove '..UptoSaid'. A law counts once. -/
mutual
def uptoBulk {H : Type} : DataW H → Nat
  | .lit (.string bytes) => bytes.length + 1
  | .lit _ => 1
  | .nil => 1
  | .ptr d => uptoBulk d + 1
  | .slice elems spare => uptoBulkAll elems + uptoBulkAll spare + 1
  | .agg parts => uptoBulkAll parts + 1
  | .iface _ d => uptoBulk d + 1
  | .map entries => uptoBulkEntries entries + 1
  | .held _ => 1
def uptoBulkAll {H : Type} : List (DataW H) → Nat
  | [] => 0
  | d :: r => uptoBulk d + uptoBulkAll r
def uptoBulkEntries {H : Type} : List (Lit × DataW H) → Nat
  | [] => 0
  | x :: r => uptoBulkEntry x + uptoBulkEntries r
def uptoBulkEntry {H : Type} : Lit × DataW H → Nat
  | (.string bytes, d) => bytes.length + uptoBulk d + 1
  | (_, d) => uptoBulk d + 1
 end
def uptoSmall : (H : Type) → List (DataW H) → Bool := fun _ ds => decide (uptoBulkAll ds ≤ 1048576)
def OpenSpec.upto (s : _root_.Go.ChangeSpec) : _root_.Go.OpenSpec := { _root_.Go.OpenSpec.ofChange s with cond := some uptoSmall }

/-- 'sacristylaw36.BatchAlls', WHERE WHAT IT READS IS OF BULK AT MOST 1048576: true; the input reads as it did. -/
def batchAllsUptoRow : OpenClaim := { program := "ytccbdhpcblfopaagreat", sum := "d46cf8852174d4c213738ea568cf3253ed62a4e72748c8bfd579f3f270e346b6", func := "sacristy/sacristylaw36.BatchAlls", spec := "batchAlls", inPlace := ["math/bits.Sub64", "math/bits.Add64", "internal/abi.NoEscape", "internal/bytealg.MakeNoZero"], unfollowed := true, recurses := true, named := ["math/bits.divideError", "math/bits.overflowError"], apart := false, narrowed := true }
def BatchAllsUptoSaid : Prop := batchAllsUptoRow.holds Tryz.pinned (OpenSpec.upto batchAllsSpec)

/-- 'sacristylaw36.BatchWeights', WHERE WHAT IT READS IS OF BULK AT MOST 1048576: true; the input reads as it did. -/
def batchWeightsUptoRow : OpenClaim := { program := "ytccbdhpcblfopaagreat", sum := "d46cf8852174d4c213738ea568cf3253ed62a4e72748c8bfd579f3f270e346b6", func := "sacristy/sacristylaw36.BatchWeights", spec := "batchWeights", inPlace := ["math/bits.Sub64", "math/bits.Add64", "internal/abi.NoEscape", "internal/bytealg.MakeNoZero"], unfollowed := true, recurses := true, named := ["math/bits.divideError", "math/bits.overflowError"], apart := false, narrowed := true }
def BatchWeightsUptoSaid : Prop := batchWeightsUptoRow.holds Tryz.pinned (OpenSpec.upto batchWeightsSpec)

/-- 'sacristylaw36.BatchNobody', WHERE WHAT IT READS IS OF BULK AT MOST 1048576: true; the input reads as it did. -/
def batchNobodyUptoRow : OpenClaim := { program := "ytccbdhpcblfopaagreat", sum := "d46cf8852174d4c213738ea568cf3253ed62a4e72748c8bfd579f3f270e346b6", func := "sacristy/sacristylaw36.BatchNobody", spec := "batchNobody", inPlace := ["math/bits.Sub64", "math/bits.Add64", "internal/abi.NoEscape", "internal/bytealg.MakeNoZero"], unfollowed := true, recurses := true, named := ["math/bits.divideError", "math/bits.overflowError"], apart := false, narrowed := true }
def BatchNobodyUptoSaid : Prop := batchNobodyUptoRow.holds Tryz.pinned (OpenSpec.upto batchNobodySpec)

/-- 'sacristylaw36.BatchSound', WHERE WHAT IT READS IS OF BULK AT MOST 1048576: true; the input reads as it did. -/
def batchSoundUptoRow : OpenClaim := { program := "ytccbdhpcblfopaagreat", sum := "d46cf8852174d4c213738ea568cf3253ed62a4e72748c8bfd579f3f270e346b6", func := "sacristy/sacristylaw36.BatchSound", spec := "batchSound", inPlace := ["math/bits.Sub64", "math/bits.Add64", "internal/abi.NoEscape", "internal/bytealg.MakeNoZero"], unfollowed := true, recurses := true, named := ["math/bits.divideError", "math/bits.overflowError"], apart := false, narrowed := true }
def BatchSoundUptoSaid : Prop := batchSoundUptoRow.holds Tryz.pinned (OpenSpec.upto batchSoundSpec)

end Rows
end Go.Proofs.YtccbdhpcblfopaaGreat
