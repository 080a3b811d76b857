/-
  No cell of these rows narrows 'for every input' (looked for: loops, veiled, ifaces, maps, wideKeys, modest, calm, conditions, laid).
  DERIVED. THE GIVEN ROWS OF THIS SEAT. 7 by the template 'for every input the law returns true; each argument reads behind the call as it read before'; 0 by the template 'total and deterministic' (their statements: YtejjdkhjdcjbbaaTotals.lean).
  GIVEN WITH THE SEED: the statements are not yours to turn. If you find one false, say at which input.
  Laid BY PROGRAM, IN A SANDBOX (cutbox-rows.mjs): the forced cells as the released guide's own fill.sh prints them over the translation 9a13b142371393c8… (all of the seat's roots in one cut). By AI agents, Wed Nov 11 2026. No macro, syntax, notation, axiom, sorry.
-/
import Derived.Test.YtejjdkhjdcjbbaaChecked
import GoSem.Claim
import GoSem.ClaimJoined
import GoSem.ClaimMapViews
import Derived.JoinedTies
import Derived.KernelRfl
namespace Go.Proofs.Ytejjdkhjdcjbbaa
/- THE CELL 'sum', in the pinned program and in every row, IS THE sha256 OF THE DUMP (.gsa) THAT YtejjdkhjdcjbbaaProg.lean LOADS. Nothing in Lean hashes anything: it is a label: what it is worth is what the hold of that sum in a sandbox is worth. -/
noncomputable def Try.pinned : Pinned := { name := "ytejjdkhjdcjbbaa", sum := "9a13b142371393c82217a621f3021b5c09d8ffb28c7bd82bb9dd518761a24c73", checked := Try.checked }
namespace Rows
def none {H : Type} : Left H := { results := [], args := [] }

/-- 'sacristylaw21.VotesPlay': WHATEVER THE INPUT: true; the input reads as it did. -/
def votesPlaySpec : ChangeSpec := { name := "votesPlay", fn := fun _ => fun
  | [d1, d2] => { results := [.lit (.bool true)], args := [d1, d2] }
  | _ => none }
def votesPlayRow : OpenClaim := { program := "ytejjdkhjdcjbbaa", sum := "9a13b142371393c82217a621f3021b5c09d8ffb28c7bd82bb9dd518761a24c73", func := "sacristy/sacristylaw21.VotesPlay", spec := "votesPlay", apart := false }
def VotesPlaySaid : Prop := votesPlayRow.holds Try.pinned (OpenSpec.ofChange votesPlaySpec)

/-- ITS FALSE NEIGHBOUR: 'it returns false'. Refute it at one input. -/
def votesPlayWrong : ChangeSpec := { name := "votesPlay", fn := fun _ => fun
  | [d1, d2] => { results := [.lit (.bool false)], args := [d1, d2] }
  | _ => none }
def VotesPlayWrongFalsely : Prop := votesPlayRow.holds Try.pinned (OpenSpec.ofChange votesPlayWrong)

/-- 'sacristylaw21.VotesOnce': WHATEVER THE INPUT: true; the input reads as it did. -/
def votesOnceSpec : ChangeSpec := { name := "votesOnce", fn := fun _ => fun
  | [d1, d2, d3] => { results := [.lit (.bool true)], args := [d1, d2, d3] }
  | _ => none }
def votesOnceRow : OpenClaim := { program := "ytejjdkhjdcjbbaa", sum := "9a13b142371393c82217a621f3021b5c09d8ffb28c7bd82bb9dd518761a24c73", func := "sacristy/sacristylaw21.VotesOnce", spec := "votesOnce", apart := false }
def VotesOnceSaid : Prop := votesOnceRow.holds Try.pinned (OpenSpec.ofChange votesOnceSpec)

/-- ITS FALSE NEIGHBOUR: 'it returns false'. Refute it at one input. -/
def votesOnceWrong : ChangeSpec := { name := "votesOnce", fn := fun _ => fun
  | [d1, d2, d3] => { results := [.lit (.bool false)], args := [d1, d2, d3] }
  | _ => none }
def VotesOnceWrongFalsely : Prop := votesOnceRow.holds Try.pinned (OpenSpec.ofChange votesOnceWrong)

/-- 'sacristylaw21.VotesCopied': WHATEVER THE INPUT: true; the input reads as it did. -/
def votesCopiedSpec : ChangeSpec := { name := "votesCopied", fn := fun _ => fun
  | [d1, d2] => { results := [.lit (.bool true)], args := [d1, d2] }
  | _ => none }
def votesCopiedRow : OpenClaim := { program := "ytejjdkhjdcjbbaa", sum := "9a13b142371393c82217a621f3021b5c09d8ffb28c7bd82bb9dd518761a24c73", func := "sacristy/sacristylaw21.VotesCopied", spec := "votesCopied", apart := false }
def VotesCopiedSaid : Prop := votesCopiedRow.holds Try.pinned (OpenSpec.ofChange votesCopiedSpec)

/-- ITS FALSE NEIGHBOUR: 'it returns false'. Refute it at one input. -/
def votesCopiedWrong : ChangeSpec := { name := "votesCopied", fn := fun _ => fun
  | [d1, d2] => { results := [.lit (.bool false)], args := [d1, d2] }
  | _ => none }
def VotesCopiedWrongFalsely : Prop := votesCopiedRow.holds Try.pinned (OpenSpec.ofChange votesCopiedWrong)

/-- 'sacristylaw22.SpacePlays': WHATEVER THE INPUT: true; the input reads as it did. -/
def spacePlaysSpec : ChangeSpec := { name := "spacePlays", fn := fun _ => fun
  | [d1, d2] => { results := [.lit (.bool true)], args := [d1, d2] }
  | _ => none }
def spacePlaysRow : OpenClaim := { program := "ytejjdkhjdcjbbaa", sum := "9a13b142371393c82217a621f3021b5c09d8ffb28c7bd82bb9dd518761a24c73", func := "sacristy/sacristylaw22.SpacePlays", spec := "spacePlays", inPlace := ["internal/bytealg.abigen_runtime_cmpstring", "slices.overlaps[string]"], unfollowed := true, recurses := true, apart := false }
def SpacePlaysSaid : Prop := spacePlaysRow.holds Try.pinned (OpenSpec.ofChange spacePlaysSpec)

/-- ITS FALSE NEIGHBOUR: 'it returns false'. Refute it at one input. -/
def spacePlaysWrong : ChangeSpec := { name := "spacePlays", fn := fun _ => fun
  | [d1, d2] => { results := [.lit (.bool false)], args := [d1, d2] }
  | _ => none }
def SpacePlaysWrongFalsely : Prop := spacePlaysRow.holds Try.pinned (OpenSpec.ofChange spacePlaysWrong)

/-- 'sacristylaw22.SpaceFair': WHATEVER THE INPUT: true; the input reads as it did. -/
def spaceFairSpec : ChangeSpec := { name := "spaceFair", fn := fun _ => fun
  | [d1, d2, d3] => { results := [.lit (.bool true)], args := [d1, d2, d3] }
  | _ => none }
def spaceFairRow : OpenClaim := { program := "ytejjdkhjdcjbbaa", sum := "9a13b142371393c82217a621f3021b5c09d8ffb28c7bd82bb9dd518761a24c73", func := "sacristy/sacristylaw22.SpaceFair", spec := "spaceFair", inPlace := ["internal/bytealg.abigen_runtime_cmpstring", "slices.overlaps[string]"], unfollowed := true, recurses := true, apart := false }
def SpaceFairSaid : Prop := spaceFairRow.holds Try.pinned (OpenSpec.ofChange spaceFairSpec)

/-- ITS FALSE NEIGHBOUR: 'it returns false'. Refute it at one input. -/
def spaceFairWrong : ChangeSpec := { name := "spaceFair", fn := fun _ => fun
  | [d1, d2, d3] => { results := [.lit (.bool false)], args := [d1, d2, d3] }
  | _ => none }
def SpaceFairWrongFalsely : Prop := spaceFairRow.holds Try.pinned (OpenSpec.ofChange spaceFairWrong)

/-- 'sacristylaw22.SpaceFull': WHATEVER THE INPUT: true; the input reads as it did. -/
def spaceFullSpec : ChangeSpec := { name := "spaceFull", fn := fun _ => fun
  | [d1, d2] => { results := [.lit (.bool true)], args := [d1, d2] }
  | _ => none }
def spaceFullRow : OpenClaim := { program := "ytejjdkhjdcjbbaa", sum := "9a13b142371393c82217a621f3021b5c09d8ffb28c7bd82bb9dd518761a24c73", func := "sacristy/sacristylaw22.SpaceFull", spec := "spaceFull", inPlace := ["internal/bytealg.abigen_runtime_cmpstring", "slices.overlaps[string]"], unfollowed := true, recurses := true, apart := false }
def SpaceFullSaid : Prop := spaceFullRow.holds Try.pinned (OpenSpec.ofChange spaceFullSpec)

/-- ITS FALSE NEIGHBOUR: 'it returns false'. Refute it at one input. -/
def spaceFullWrong : ChangeSpec := { name := "spaceFull", fn := fun _ => fun
  | [d1, d2] => { results := [.lit (.bool false)], args := [d1, d2] }
  | _ => none }
def SpaceFullWrongFalsely : Prop := spaceFullRow.holds Try.pinned (OpenSpec.ofChange spaceFullWrong)

/-- 'sacristylaw22.SpaceOf': WHATEVER THE INPUT: true; the input reads as it did. -/
def spaceOfSpec : ChangeSpec := { name := "spaceOf", fn := fun _ => fun
  | [d1, d2, d3] => { results := [.lit (.bool true)], args := [d1, d2, d3] }
  | _ => none }
def spaceOfRow : OpenClaim := { program := "ytejjdkhjdcjbbaa", sum := "9a13b142371393c82217a621f3021b5c09d8ffb28c7bd82bb9dd518761a24c73", func := "sacristy/sacristylaw22.SpaceOf", spec := "spaceOf", inPlace := ["internal/bytealg.abigen_runtime_cmpstring", "slices.overlaps[string]"], unfollowed := true, recurses := true, apart := false }
def SpaceOfSaid : Prop := spaceOfRow.holds Try.pinned (OpenSpec.ofChange spaceOfSpec)

/-- ITS FALSE NEIGHBOUR: 'it returns false'. Refute it at one input. -/
def spaceOfWrong : ChangeSpec := { name := "spaceOf", fn := fun _ => fun
  | [d1, d2, d3] => { results := [.lit (.bool false)], args := [d1, d2, d3] }
  | _ => none }
def SpaceOfWrongFalsely : Prop := spaceOfRow.holds Try.pinned (OpenSpec.ofChange spaceOfWrong)

/- THE SECOND FORM. 'bulk': how many values and letters a reading holds, each counted each time it is reached (what is shared counts as often as it is met; a slice's spare places count too). A statement '..UptoSaid' is the law's where the arguments, and the package variables that the reading takes, are together of bulk at most 1048576: NARROWER than '..Said'. Prove '..Said' where nothing that the law and all that it calls make is longer than what came in: it says more and counts as full. Else prove '..UptoSaid'. A law counts once. -/
mutual
def uptoBulk {H : Type} : DataW H → Nat
  | .lit (.string bytes) => bytes.length + 1
  | .lit _ => 1
  | .nil => 1
  | .ptr d => uptoBulk d + 1
  | .slice elems spare => uptoBulkAll elems + uptoBulkAll spare + 1
  | .agg parts => uptoBulkAll parts + 1
  | .iface _ d => uptoBulk d + 1
  | .map entries => uptoBulkEntries entries + 1
  | .held _ => 1
def uptoBulkAll {H : Type} : List (DataW H) → Nat
  | [] => 0
  | d :: r => uptoBulk d + uptoBulkAll r
def uptoBulkEntries {H : Type} : List (Lit × DataW H) → Nat
  | [] => 0
  | x :: r => uptoBulkEntry x + uptoBulkEntries r
def uptoBulkEntry {H : Type} : Lit × DataW H → Nat
  | (.string bytes, d) => bytes.length + uptoBulk d + 1
  | (_, d) => uptoBulk d + 1
 end
def uptoSmall : (H : Type) → List (DataW H) → Bool := fun _ ds => decide (uptoBulkAll ds ≤ 1048576)
def OpenSpec.upto (s : _root_.Go.ChangeSpec) : _root_.Go.OpenSpec := { _root_.Go.OpenSpec.ofChange s with cond := some uptoSmall }

/-- 'sacristylaw21.VotesPlay', WHERE WHAT IT READS IS OF BULK AT MOST 1048576: true; the input reads as it did. -/
def votesPlayUptoRow : OpenClaim := { program := "ytejjdkhjdcjbbaa", sum := "9a13b142371393c82217a621f3021b5c09d8ffb28c7bd82bb9dd518761a24c73", func := "sacristy/sacristylaw21.VotesPlay", spec := "votesPlay", apart := false, narrowed := true }
def VotesPlayUptoSaid : Prop := votesPlayUptoRow.holds Try.pinned (OpenSpec.upto votesPlaySpec)

/-- 'sacristylaw21.VotesOnce', WHERE WHAT IT READS IS OF BULK AT MOST 1048576: true; the input reads as it did. -/
def votesOnceUptoRow : OpenClaim := { program := "ytejjdkhjdcjbbaa", sum := "9a13b142371393c82217a621f3021b5c09d8ffb28c7bd82bb9dd518761a24c73", func := "sacristy/sacristylaw21.VotesOnce", spec := "votesOnce", apart := false, narrowed := true }
def VotesOnceUptoSaid : Prop := votesOnceUptoRow.holds Try.pinned (OpenSpec.upto votesOnceSpec)

/-- 'sacristylaw21.VotesCopied', WHERE WHAT IT READS IS OF BULK AT MOST 1048576: true; the input reads as it did. -/
def votesCopiedUptoRow : OpenClaim := { program := "ytejjdkhjdcjbbaa", sum := "9a13b142371393c82217a621f3021b5c09d8ffb28c7bd82bb9dd518761a24c73", func := "sacristy/sacristylaw21.VotesCopied", spec := "votesCopied", apart := false, narrowed := true }
def VotesCopiedUptoSaid : Prop := votesCopiedUptoRow.holds Try.pinned (OpenSpec.upto votesCopiedSpec)

/-- 'sacristylaw22.SpacePlays', WHERE WHAT IT READS IS OF BULK AT MOST 1048576: true; the input reads as it did. -/
def spacePlaysUptoRow : OpenClaim := { program := "ytejjdkhjdcjbbaa", sum := "9a13b142371393c82217a621f3021b5c09d8ffb28c7bd82bb9dd518761a24c73", func := "sacristy/sacristylaw22.SpacePlays", spec := "spacePlays", inPlace := ["internal/bytealg.abigen_runtime_cmpstring", "slices.overlaps[string]"], unfollowed := true, recurses := true, apart := false, narrowed := true }
def SpacePlaysUptoSaid : Prop := spacePlaysUptoRow.holds Try.pinned (OpenSpec.upto spacePlaysSpec)

/-- 'sacristylaw22.SpaceFair', WHERE WHAT IT READS IS OF BULK AT MOST 1048576: true; the input reads as it did. -/
def spaceFairUptoRow : OpenClaim := { program := "ytejjdkhjdcjbbaa", sum := "9a13b142371393c82217a621f3021b5c09d8ffb28c7bd82bb9dd518761a24c73", func := "sacristy/sacristylaw22.SpaceFair", spec := "spaceFair", inPlace := ["internal/bytealg.abigen_runtime_cmpstring", "slices.overlaps[string]"], unfollowed := true, recurses := true, apart := false, narrowed := true }
def SpaceFairUptoSaid : Prop := spaceFairUptoRow.holds Try.pinned (OpenSpec.upto spaceFairSpec)

/-- 'sacristylaw22.SpaceFull', WHERE WHAT IT READS IS OF BULK AT MOST 1048576: true; the input reads as it did. -/
def spaceFullUptoRow : OpenClaim := { program := "ytejjdkhjdcjbbaa", sum := "9a13b142371393c82217a621f3021b5c09d8ffb28c7bd82bb9dd518761a24c73", func := "sacristy/sacristylaw22.SpaceFull", spec := "spaceFull", inPlace := ["internal/bytealg.abigen_runtime_cmpstring", "slices.overlaps[string]"], unfollowed := true, recurses := true, apart := false, narrowed := true }
def SpaceFullUptoSaid : Prop := spaceFullUptoRow.holds Try.pinned (OpenSpec.upto spaceFullSpec)

/-- 'sacristylaw22.SpaceOf', WHERE WHAT IT READS IS OF BULK AT MOST 1048576: true; the input reads as it did. -/
def spaceOfUptoRow : OpenClaim := { program := "ytejjdkhjdcjbbaa", sum := "9a13b142371393c82217a621f3021b5c09d8ffb28c7bd82bb9dd518761a24c73", func := "sacristy/sacristylaw22.SpaceOf", spec := "spaceOf", inPlace := ["internal/bytealg.abigen_runtime_cmpstring", "slices.overlaps[string]"], unfollowed := true, recurses := true, apart := false, narrowed := true }
def SpaceOfUptoSaid : Prop := spaceOfUptoRow.holds Try.pinned (OpenSpec.upto spaceOfSpec)

end Rows
end Go.Proofs.Ytejjdkhjdcjbbaa
