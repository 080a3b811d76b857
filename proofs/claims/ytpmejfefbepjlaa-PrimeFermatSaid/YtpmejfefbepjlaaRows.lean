/-
  No cell of these rows narrows 'for every input' (looked for: loops, veiled, ifaces, maps, wideKeys, modest, calm, conditions, laid).
  DERIVED. THE GIVEN ROWS OF THIS SEAT. 15 by the template 'for every input the law returns true; each argument reads behind the call as it read before'; 0 by the template 'total and deterministic' (their statements: YtpmejfefbepjlaaTotals.lean).
  GIVEN WITH THE SEED: the statements are not yours to turn. If you find one false, say at which input.
  Laid BY PROGRAM, IN A SANDBOX (cutbox-rows.mjs): the forced cells as the released guide's own fill.sh prints them over the translation d068bac95b286acb… (all of the seat's roots in one cut). By AI agents, Wed Nov 11 2026. No macro, syntax, notation, axiom, sorry.
-/
import Derived.Test.YtpmejfefbepjlaaChecked
import GoSem.Claim
import GoSem.ClaimJoined
import GoSem.ClaimMapViews
import Derived.JoinedTies
import Derived.KernelRfl
namespace Go.Proofs.Ytpmejfefbepjlaa
/- THE CELL 'sum', in the pinned program and in every row, IS THE sha256 OF THE DUMP (.gsa) THAT YtpmejfefbepjlaaProg.lean LOADS. Nothing in Lean hashes anything: it is a label: what it is worth is what the hold of that sum in a sandbox is worth. -/
noncomputable def Try.pinned : Pinned := { name := "ytpmejfefbepjlaa", sum := "d068bac95b286acbfb8637f0d18049c403a6cd15136b8e35960c0b66497ad9bb", checked := Try.checked }
namespace Rows
def none {H : Type} : Left H := { results := [], args := [] }

/-- 'sacristylaw02.WideMuls': WHATEVER THE INPUT: true; the input reads as it did. -/
def wideMulsSpec : ChangeSpec := { name := "wideMuls", fn := fun _ => fun
  | [d1, d2, d3] => { results := [.lit (.bool true)], args := [d1, d2, d3] }
  | _ => none }
def wideMulsRow : OpenClaim := { program := "ytpmejfefbepjlaa", sum := "d068bac95b286acbfb8637f0d18049c403a6cd15136b8e35960c0b66497ad9bb", func := "sacristy/sacristylaw02.WideMuls", spec := "wideMuls", inPlace := ["math/bits.Add64", "math/bits.Sub64"], unfollowed := true, recurses := true, named := ["math/bits.divideError", "math/bits.overflowError"], apart := false }
def WideMulsSaid : Prop := wideMulsRow.holds Try.pinned (OpenSpec.ofChange wideMulsSpec)

/-- ITS FALSE NEIGHBOUR: 'it returns false'. Refute it at one input. -/
def wideMulsWrong : ChangeSpec := { name := "wideMuls", fn := fun _ => fun
  | [d1, d2, d3] => { results := [.lit (.bool false)], args := [d1, d2, d3] }
  | _ => none }
def WideMulsWrongFalsely : Prop := wideMulsRow.holds Try.pinned (OpenSpec.ofChange wideMulsWrong)

/-- 'sacristylaw02.WideDivs': WHATEVER THE INPUT: true; the input reads as it did. -/
def wideDivsSpec : ChangeSpec := { name := "wideDivs", fn := fun _ => fun
  | [d1, d2] => { results := [.lit (.bool true)], args := [d1, d2] }
  | _ => none }
def wideDivsRow : OpenClaim := { program := "ytpmejfefbepjlaa", sum := "d068bac95b286acbfb8637f0d18049c403a6cd15136b8e35960c0b66497ad9bb", func := "sacristy/sacristylaw02.WideDivs", spec := "wideDivs", inPlace := ["math/bits.Sub64", "math/bits.Add64"], unfollowed := true, recurses := true, named := ["math/bits.divideError", "math/bits.overflowError"], apart := false }
def WideDivsSaid : Prop := wideDivsRow.holds Try.pinned (OpenSpec.ofChange wideDivsSpec)

/-- ITS FALSE NEIGHBOUR: 'it returns false'. Refute it at one input. -/
def wideDivsWrong : ChangeSpec := { name := "wideDivs", fn := fun _ => fun
  | [d1, d2] => { results := [.lit (.bool false)], args := [d1, d2] }
  | _ => none }
def WideDivsWrongFalsely : Prop := wideDivsRow.holds Try.pinned (OpenSpec.ofChange wideDivsWrong)

/-- 'sacristylaw02.WideInverses': WHATEVER THE INPUT: true; the input reads as it did. -/
def wideInversesSpec : ChangeSpec := { name := "wideInverses", fn := fun _ => fun
  | [d1, d2] => { results := [.lit (.bool true)], args := [d1, d2] }
  | _ => none }
def wideInversesRow : OpenClaim := { program := "ytpmejfefbepjlaa", sum := "d068bac95b286acbfb8637f0d18049c403a6cd15136b8e35960c0b66497ad9bb", func := "sacristy/sacristylaw02.WideInverses", spec := "wideInverses", inPlace := ["math/bits.Sub64", "math/bits.Add64"], unfollowed := true, recurses := true, named := ["math/bits.divideError", "math/bits.overflowError"], apart := false }
def WideInversesSaid : Prop := wideInversesRow.holds Try.pinned (OpenSpec.ofChange wideInversesSpec)

/-- ITS FALSE NEIGHBOUR: 'it returns false'. Refute it at one input. -/
def wideInversesWrong : ChangeSpec := { name := "wideInverses", fn := fun _ => fun
  | [d1, d2] => { results := [.lit (.bool false)], args := [d1, d2] }
  | _ => none }
def WideInversesWrongFalsely : Prop := wideInversesRow.holds Try.pinned (OpenSpec.ofChange wideInversesWrong)

/-- 'sacristylaw02.WideMods': WHATEVER THE INPUT: true; the input reads as it did. -/
def wideModsSpec : ChangeSpec := { name := "wideMods", fn := fun _ => fun
  | [d1, d2, d3] => { results := [.lit (.bool true)], args := [d1, d2, d3] }
  | _ => none }
def wideModsRow : OpenClaim := { program := "ytpmejfefbepjlaa", sum := "d068bac95b286acbfb8637f0d18049c403a6cd15136b8e35960c0b66497ad9bb", func := "sacristy/sacristylaw02.WideMods", spec := "wideMods", inPlace := ["math/bits.Add64", "math/bits.Sub64"], unfollowed := true, recurses := true, named := ["math/bits.divideError", "math/bits.overflowError"], apart := false }
def WideModsSaid : Prop := wideModsRow.holds Try.pinned (OpenSpec.ofChange wideModsSpec)

/-- ITS FALSE NEIGHBOUR: 'it returns false'. Refute it at one input. -/
def wideModsWrong : ChangeSpec := { name := "wideMods", fn := fun _ => fun
  | [d1, d2, d3] => { results := [.lit (.bool false)], args := [d1, d2, d3] }
  | _ => none }
def WideModsWrongFalsely : Prop := wideModsRow.holds Try.pinned (OpenSpec.ofChange wideModsWrong)

/-- 'sacristylaw02.WideGoes': WHATEVER THE INPUT: true; the input reads as it did. -/
def wideGoesSpec : ChangeSpec := { name := "wideGoes", fn := fun _ => fun
  | [d1, d2, d3] => { results := [.lit (.bool true)], args := [d1, d2, d3] }
  | _ => none }
def wideGoesRow : OpenClaim := { program := "ytpmejfefbepjlaa", sum := "d068bac95b286acbfb8637f0d18049c403a6cd15136b8e35960c0b66497ad9bb", func := "sacristy/sacristylaw02.WideGoes", spec := "wideGoes", inPlace := ["math/bits.Sub64", "math/bits.Add64"], unfollowed := true, recurses := true, named := ["math/bits.divideError", "math/bits.overflowError"], apart := false }
def WideGoesSaid : Prop := wideGoesRow.holds Try.pinned (OpenSpec.ofChange wideGoesSpec)

/-- ITS FALSE NEIGHBOUR: 'it returns false'. Refute it at one input. -/
def wideGoesWrong : ChangeSpec := { name := "wideGoes", fn := fun _ => fun
  | [d1, d2, d3] => { results := [.lit (.bool false)], args := [d1, d2, d3] }
  | _ => none }
def WideGoesWrongFalsely : Prop := wideGoesRow.holds Try.pinned (OpenSpec.ofChange wideGoesWrong)

/-- 'sacristylaw03.MontExps': WHATEVER THE INPUT: true; the input reads as it did. -/
def montExpsSpec : ChangeSpec := { name := "montExps", fn := fun _ => fun
  | [d1, d2, d3] => { results := [.lit (.bool true)], args := [d1, d2, d3] }
  | _ => none }
def montExpsRow : OpenClaim := { program := "ytpmejfefbepjlaa", sum := "d068bac95b286acbfb8637f0d18049c403a6cd15136b8e35960c0b66497ad9bb", func := "sacristy/sacristylaw03.MontExps", spec := "montExps", inPlace := ["math/bits.Sub64", "math/bits.Add64"], unfollowed := true, recurses := true, named := ["math/bits.divideError", "math/bits.overflowError"], apart := false }
def MontExpsSaid : Prop := montExpsRow.holds Try.pinned (OpenSpec.ofChange montExpsSpec)

/-- ITS FALSE NEIGHBOUR: 'it returns false'. Refute it at one input. -/
def montExpsWrong : ChangeSpec := { name := "montExps", fn := fun _ => fun
  | [d1, d2, d3] => { results := [.lit (.bool false)], args := [d1, d2, d3] }
  | _ => none }
def MontExpsWrongFalsely : Prop := montExpsRow.holds Try.pinned (OpenSpec.ofChange montExpsWrong)

/-- 'sacristylaw03.MontAdds': WHATEVER THE INPUT: true; the input reads as it did. -/
def montAddsSpec : ChangeSpec := { name := "montAdds", fn := fun _ => fun
  | [d1, d2, d3] => { results := [.lit (.bool true)], args := [d1, d2, d3] }
  | _ => none }
def montAddsRow : OpenClaim := { program := "ytpmejfefbepjlaa", sum := "d068bac95b286acbfb8637f0d18049c403a6cd15136b8e35960c0b66497ad9bb", func := "sacristy/sacristylaw03.MontAdds", spec := "montAdds", inPlace := ["math/bits.Sub64", "math/bits.Add64"], unfollowed := true, recurses := true, named := ["math/bits.divideError", "math/bits.overflowError"], apart := false }
def MontAddsSaid : Prop := montAddsRow.holds Try.pinned (OpenSpec.ofChange montAddsSpec)

/-- ITS FALSE NEIGHBOUR: 'it returns false'. Refute it at one input. -/
def montAddsWrong : ChangeSpec := { name := "montAdds", fn := fun _ => fun
  | [d1, d2, d3] => { results := [.lit (.bool false)], args := [d1, d2, d3] }
  | _ => none }
def MontAddsWrongFalsely : Prop := montAddsRow.holds Try.pinned (OpenSpec.ofChange montAddsWrong)

/-- 'sacristylaw03.MontProds': WHATEVER THE INPUT: true; the input reads as it did. -/
def montProdsSpec : ChangeSpec := { name := "montProds", fn := fun _ => fun
  | [d1, d2, d3] => { results := [.lit (.bool true)], args := [d1, d2, d3] }
  | _ => none }
def montProdsRow : OpenClaim := { program := "ytpmejfefbepjlaa", sum := "d068bac95b286acbfb8637f0d18049c403a6cd15136b8e35960c0b66497ad9bb", func := "sacristy/sacristylaw03.MontProds", spec := "montProds", inPlace := ["math/bits.Sub64", "math/bits.Add64"], unfollowed := true, recurses := true, named := ["math/bits.divideError", "math/bits.overflowError"], apart := false }
def MontProdsSaid : Prop := montProdsRow.holds Try.pinned (OpenSpec.ofChange montProdsSpec)

/-- ITS FALSE NEIGHBOUR: 'it returns false'. Refute it at one input. -/
def montProdsWrong : ChangeSpec := { name := "montProds", fn := fun _ => fun
  | [d1, d2, d3] => { results := [.lit (.bool false)], args := [d1, d2, d3] }
  | _ => none }
def MontProdsWrongFalsely : Prop := montProdsRow.holds Try.pinned (OpenSpec.ofChange montProdsWrong)

/-- 'sacristylaw03.MontMuls': WHATEVER THE INPUT: true; the input reads as it did. -/
def montMulsSpec : ChangeSpec := { name := "montMuls", fn := fun _ => fun
  | [d1, d2, d3] => { results := [.lit (.bool true)], args := [d1, d2, d3] }
  | _ => none }
def montMulsRow : OpenClaim := { program := "ytpmejfefbepjlaa", sum := "d068bac95b286acbfb8637f0d18049c403a6cd15136b8e35960c0b66497ad9bb", func := "sacristy/sacristylaw03.MontMuls", spec := "montMuls", inPlace := ["math/bits.Sub64", "math/bits.Add64"], unfollowed := true, recurses := true, named := ["math/bits.divideError", "math/bits.overflowError"], apart := false }
def MontMulsSaid : Prop := montMulsRow.holds Try.pinned (OpenSpec.ofChange montMulsSpec)

/-- ITS FALSE NEIGHBOUR: 'it returns false'. Refute it at one input. -/
def montMulsWrong : ChangeSpec := { name := "montMuls", fn := fun _ => fun
  | [d1, d2, d3] => { results := [.lit (.bool false)], args := [d1, d2, d3] }
  | _ => none }
def MontMulsWrongFalsely : Prop := montMulsRow.holds Try.pinned (OpenSpec.ofChange montMulsWrong)

/-- 'sacristylaw03.MontNobody': WHATEVER THE INPUT: true; the input reads as it did. -/
def montNobodySpec : ChangeSpec := { name := "montNobody", fn := fun _ => fun
  | [d1, d2] => { results := [.lit (.bool true)], args := [d1, d2] }
  | _ => none }
def montNobodyRow : OpenClaim := { program := "ytpmejfefbepjlaa", sum := "d068bac95b286acbfb8637f0d18049c403a6cd15136b8e35960c0b66497ad9bb", func := "sacristy/sacristylaw03.MontNobody", spec := "montNobody", inPlace := ["math/bits.Sub64", "math/bits.Add64"], unfollowed := true, recurses := true, named := ["math/bits.divideError", "math/bits.overflowError"], apart := false }
def MontNobodySaid : Prop := montNobodyRow.holds Try.pinned (OpenSpec.ofChange montNobodySpec)

/-- ITS FALSE NEIGHBOUR: 'it returns false'. Refute it at one input. -/
def montNobodyWrong : ChangeSpec := { name := "montNobody", fn := fun _ => fun
  | [d1, d2] => { results := [.lit (.bool false)], args := [d1, d2] }
  | _ => none }
def MontNobodyWrongFalsely : Prop := montNobodyRow.holds Try.pinned (OpenSpec.ofChange montNobodyWrong)

/-- 'sacristylaw04.PrimeSmall': WHATEVER THE INPUT: true; the input reads as it did. -/
def primeSmallSpec : ChangeSpec := { name := "primeSmall", fn := fun _ => fun
  | [d] => { results := [.lit (.bool true)], args := [d] }
  | _ => none }
def primeSmallRow : OpenClaim := { program := "ytpmejfefbepjlaa", sum := "d068bac95b286acbfb8637f0d18049c403a6cd15136b8e35960c0b66497ad9bb", func := "sacristy/sacristylaw04.PrimeSmall", spec := "primeSmall", inPlace := ["math/bits.Sub64", "math/bits.Add64"], unfollowed := true, recurses := true, named := ["math/bits.divideError", "math/bits.overflowError"], apart := false }
def PrimeSmallSaid : Prop := primeSmallRow.holds Try.pinned (OpenSpec.ofChange primeSmallSpec)

/-- ITS FALSE NEIGHBOUR: 'it returns false'. Refute it at one input. -/
def primeSmallWrong : ChangeSpec := { name := "primeSmall", fn := fun _ => fun
  | [d] => { results := [.lit (.bool false)], args := [d] }
  | _ => none }
def PrimeSmallWrongFalsely : Prop := primeSmallRow.holds Try.pinned (OpenSpec.ofChange primeSmallWrong)

/-- 'sacristylaw04.PrimeSteps': WHATEVER THE INPUT: true; the input reads as it did. -/
def primeStepsSpec : ChangeSpec := { name := "primeSteps", fn := fun _ => fun
  | [d1, d2, d3] => { results := [.lit (.bool true)], args := [d1, d2, d3] }
  | _ => none }
def primeStepsRow : OpenClaim := { program := "ytpmejfefbepjlaa", sum := "d068bac95b286acbfb8637f0d18049c403a6cd15136b8e35960c0b66497ad9bb", func := "sacristy/sacristylaw04.PrimeSteps", spec := "primeSteps", inPlace := ["math/bits.Sub64", "math/bits.Add64"], unfollowed := true, recurses := true, named := ["math/bits.divideError", "math/bits.overflowError"], apart := false }
def PrimeStepsSaid : Prop := primeStepsRow.holds Try.pinned (OpenSpec.ofChange primeStepsSpec)

/-- ITS FALSE NEIGHBOUR: 'it returns false'. Refute it at one input. -/
def primeStepsWrong : ChangeSpec := { name := "primeSteps", fn := fun _ => fun
  | [d1, d2, d3] => { results := [.lit (.bool false)], args := [d1, d2, d3] }
  | _ => none }
def PrimeStepsWrongFalsely : Prop := primeStepsRow.holds Try.pinned (OpenSpec.ofChange primeStepsWrong)

/-- 'sacristylaw04.PrimeChecks': WHATEVER THE INPUT: true; the input reads as it did. -/
def primeChecksSpec : ChangeSpec := { name := "primeChecks", fn := fun _ => fun
  | [d] => { results := [.lit (.bool true)], args := [d] }
  | _ => none }
def primeChecksRow : OpenClaim := { program := "ytpmejfefbepjlaa", sum := "d068bac95b286acbfb8637f0d18049c403a6cd15136b8e35960c0b66497ad9bb", func := "sacristy/sacristylaw04.PrimeChecks", spec := "primeChecks", inPlace := ["math/bits.Sub64", "math/bits.Add64"], unfollowed := true, recurses := true, named := ["math/bits.divideError", "math/bits.overflowError"], apart := false }
def PrimeChecksSaid : Prop := primeChecksRow.holds Try.pinned (OpenSpec.ofChange primeChecksSpec)

/-- ITS FALSE NEIGHBOUR: 'it returns false'. Refute it at one input. -/
def primeChecksWrong : ChangeSpec := { name := "primeChecks", fn := fun _ => fun
  | [d] => { results := [.lit (.bool false)], args := [d] }
  | _ => none }
def PrimeChecksWrongFalsely : Prop := primeChecksRow.holds Try.pinned (OpenSpec.ofChange primeChecksWrong)

/-- 'sacristylaw04.PrimeSound': WHATEVER THE INPUT: true; the input reads as it did. -/
def primeSoundSpec : ChangeSpec := { name := "primeSound", fn := fun _ => fun
  | [d] => { results := [.lit (.bool true)], args := [d] }
  | _ => none }
def primeSoundRow : OpenClaim := { program := "ytpmejfefbepjlaa", sum := "d068bac95b286acbfb8637f0d18049c403a6cd15136b8e35960c0b66497ad9bb", func := "sacristy/sacristylaw04.PrimeSound", spec := "primeSound", inPlace := ["math/bits.Sub64", "math/bits.Add64"], unfollowed := true, recurses := true, named := ["math/bits.divideError", "math/bits.overflowError"], apart := false }
def PrimeSoundSaid : Prop := primeSoundRow.holds Try.pinned (OpenSpec.ofChange primeSoundSpec)

/-- ITS FALSE NEIGHBOUR: 'it returns false'. Refute it at one input. -/
def primeSoundWrong : ChangeSpec := { name := "primeSound", fn := fun _ => fun
  | [d] => { results := [.lit (.bool false)], args := [d] }
  | _ => none }
def PrimeSoundWrongFalsely : Prop := primeSoundRow.holds Try.pinned (OpenSpec.ofChange primeSoundWrong)

/-- 'sacristylaw04.PrimeFermat': WHATEVER THE INPUT: true; the input reads as it did. -/
def primeFermatSpec : ChangeSpec := { name := "primeFermat", fn := fun _ => fun
  | [d1, d2] => { results := [.lit (.bool true)], args := [d1, d2] }
  | _ => none }
def primeFermatRow : OpenClaim := { program := "ytpmejfefbepjlaa", sum := "d068bac95b286acbfb8637f0d18049c403a6cd15136b8e35960c0b66497ad9bb", func := "sacristy/sacristylaw04.PrimeFermat", spec := "primeFermat", inPlace := ["math/bits.Sub64", "math/bits.Add64"], unfollowed := true, recurses := true, named := ["math/bits.divideError", "math/bits.overflowError"], apart := false }
def PrimeFermatSaid : Prop := primeFermatRow.holds Try.pinned (OpenSpec.ofChange primeFermatSpec)

/-- ITS FALSE NEIGHBOUR: 'it returns false'. Refute it at one input. -/
def primeFermatWrong : ChangeSpec := { name := "primeFermat", fn := fun _ => fun
  | [d1, d2] => { results := [.lit (.bool false)], args := [d1, d2] }
  | _ => none }
def PrimeFermatWrongFalsely : Prop := primeFermatRow.holds Try.pinned (OpenSpec.ofChange primeFermatWrong)

/- THE SECOND FORM. 'bulk': how many values and letters a reading holds, each counted each time it is reached (what is shared counts as often as it is met; a slice's spare places count too). A statement '..UptoSaid' is the law's where the arguments, and the package variables that the reading takes, are together of bulk at most 1048576: NARROWER than '..Said'. Prove '..Said' where nothing that the law and all that it calls make is longer than what came in: it says more and counts as full. Else prove '..UptoSaid'. A law counts once. -/
mutual
def uptoBulk {H : Type} : DataW H → Nat
  | .lit (.string bytes) => bytes.length + 1
  | .lit _ => 1
  | .nil => 1
  | .ptr d => uptoBulk d + 1
  | .slice elems spare => uptoBulkAll elems + uptoBulkAll spare + 1
  | .agg parts => uptoBulkAll parts + 1
  | .iface _ d => uptoBulk d + 1
  | .map entries => uptoBulkEntries entries + 1
  | .held _ => 1
def uptoBulkAll {H : Type} : List (DataW H) → Nat
  | [] => 0
  | d :: r => uptoBulk d + uptoBulkAll r
def uptoBulkEntries {H : Type} : List (Lit × DataW H) → Nat
  | [] => 0
  | x :: r => uptoBulkEntry x + uptoBulkEntries r
def uptoBulkEntry {H : Type} : Lit × DataW H → Nat
  | (.string bytes, d) => bytes.length + uptoBulk d + 1
  | (_, d) => uptoBulk d + 1
 end
def uptoSmall : (H : Type) → List (DataW H) → Bool := fun _ ds => decide (uptoBulkAll ds ≤ 1048576)
def OpenSpec.upto (s : _root_.Go.ChangeSpec) : _root_.Go.OpenSpec := { _root_.Go.OpenSpec.ofChange s with cond := some uptoSmall }

/-- 'sacristylaw02.WideMuls', WHERE WHAT IT READS IS OF BULK AT MOST 1048576: true; the input reads as it did. -/
def wideMulsUptoRow : OpenClaim := { program := "ytpmejfefbepjlaa", sum := "d068bac95b286acbfb8637f0d18049c403a6cd15136b8e35960c0b66497ad9bb", func := "sacristy/sacristylaw02.WideMuls", spec := "wideMuls", inPlace := ["math/bits.Add64", "math/bits.Sub64"], unfollowed := true, recurses := true, named := ["math/bits.divideError", "math/bits.overflowError"], apart := false, narrowed := true }
def WideMulsUptoSaid : Prop := wideMulsUptoRow.holds Try.pinned (OpenSpec.upto wideMulsSpec)

/-- 'sacristylaw02.WideDivs', WHERE WHAT IT READS IS OF BULK AT MOST 1048576: true; the input reads as it did. -/
def wideDivsUptoRow : OpenClaim := { program := "ytpmejfefbepjlaa", sum := "d068bac95b286acbfb8637f0d18049c403a6cd15136b8e35960c0b66497ad9bb", func := "sacristy/sacristylaw02.WideDivs", spec := "wideDivs", inPlace := ["math/bits.Sub64", "math/bits.Add64"], unfollowed := true, recurses := true, named := ["math/bits.divideError", "math/bits.overflowError"], apart := false, narrowed := true }
def WideDivsUptoSaid : Prop := wideDivsUptoRow.holds Try.pinned (OpenSpec.upto wideDivsSpec)

/-- 'sacristylaw02.WideInverses', WHERE WHAT IT READS IS OF BULK AT MOST 1048576: true; the input reads as it did. -/
def wideInversesUptoRow : OpenClaim := { program := "ytpmejfefbepjlaa", sum := "d068bac95b286acbfb8637f0d18049c403a6cd15136b8e35960c0b66497ad9bb", func := "sacristy/sacristylaw02.WideInverses", spec := "wideInverses", inPlace := ["math/bits.Sub64", "math/bits.Add64"], unfollowed := true, recurses := true, named := ["math/bits.divideError", "math/bits.overflowError"], apart := false, narrowed := true }
def WideInversesUptoSaid : Prop := wideInversesUptoRow.holds Try.pinned (OpenSpec.upto wideInversesSpec)

/-- 'sacristylaw02.WideMods', WHERE WHAT IT READS IS OF BULK AT MOST 1048576: true; the input reads as it did. -/
def wideModsUptoRow : OpenClaim := { program := "ytpmejfefbepjlaa", sum := "d068bac95b286acbfb8637f0d18049c403a6cd15136b8e35960c0b66497ad9bb", func := "sacristy/sacristylaw02.WideMods", spec := "wideMods", inPlace := ["math/bits.Add64", "math/bits.Sub64"], unfollowed := true, recurses := true, named := ["math/bits.divideError", "math/bits.overflowError"], apart := false, narrowed := true }
def WideModsUptoSaid : Prop := wideModsUptoRow.holds Try.pinned (OpenSpec.upto wideModsSpec)

/-- 'sacristylaw02.WideGoes', WHERE WHAT IT READS IS OF BULK AT MOST 1048576: true; the input reads as it did. -/
def wideGoesUptoRow : OpenClaim := { program := "ytpmejfefbepjlaa", sum := "d068bac95b286acbfb8637f0d18049c403a6cd15136b8e35960c0b66497ad9bb", func := "sacristy/sacristylaw02.WideGoes", spec := "wideGoes", inPlace := ["math/bits.Sub64", "math/bits.Add64"], unfollowed := true, recurses := true, named := ["math/bits.divideError", "math/bits.overflowError"], apart := false, narrowed := true }
def WideGoesUptoSaid : Prop := wideGoesUptoRow.holds Try.pinned (OpenSpec.upto wideGoesSpec)

/-- 'sacristylaw03.MontExps', WHERE WHAT IT READS IS OF BULK AT MOST 1048576: true; the input reads as it did. -/
def montExpsUptoRow : OpenClaim := { program := "ytpmejfefbepjlaa", sum := "d068bac95b286acbfb8637f0d18049c403a6cd15136b8e35960c0b66497ad9bb", func := "sacristy/sacristylaw03.MontExps", spec := "montExps", inPlace := ["math/bits.Sub64", "math/bits.Add64"], unfollowed := true, recurses := true, named := ["math/bits.divideError", "math/bits.overflowError"], apart := false, narrowed := true }
def MontExpsUptoSaid : Prop := montExpsUptoRow.holds Try.pinned (OpenSpec.upto montExpsSpec)

/-- 'sacristylaw03.MontAdds', WHERE WHAT IT READS IS OF BULK AT MOST 1048576: true; the input reads as it did. -/
def montAddsUptoRow : OpenClaim := { program := "ytpmejfefbepjlaa", sum := "d068bac95b286acbfb8637f0d18049c403a6cd15136b8e35960c0b66497ad9bb", func := "sacristy/sacristylaw03.MontAdds", spec := "montAdds", inPlace := ["math/bits.Sub64", "math/bits.Add64"], unfollowed := true, recurses := true, named := ["math/bits.divideError", "math/bits.overflowError"], apart := false, narrowed := true }
def MontAddsUptoSaid : Prop := montAddsUptoRow.holds Try.pinned (OpenSpec.upto montAddsSpec)

/-- 'sacristylaw03.MontProds', WHERE WHAT IT READS IS OF BULK AT MOST 1048576: true; the input reads as it did. -/
def montProdsUptoRow : OpenClaim := { program := "ytpmejfefbepjlaa", sum := "d068bac95b286acbfb8637f0d18049c403a6cd15136b8e35960c0b66497ad9bb", func := "sacristy/sacristylaw03.MontProds", spec := "montProds", inPlace := ["math/bits.Sub64", "math/bits.Add64"], unfollowed := true, recurses := true, named := ["math/bits.divideError", "math/bits.overflowError"], apart := false, narrowed := true }
def MontProdsUptoSaid : Prop := montProdsUptoRow.holds Try.pinned (OpenSpec.upto montProdsSpec)

/-- 'sacristylaw03.MontMuls', WHERE WHAT IT READS IS OF BULK AT MOST 1048576: true; the input reads as it did. -/
def montMulsUptoRow : OpenClaim := { program := "ytpmejfefbepjlaa", sum := "d068bac95b286acbfb8637f0d18049c403a6cd15136b8e35960c0b66497ad9bb", func := "sacristy/sacristylaw03.MontMuls", spec := "montMuls", inPlace := ["math/bits.Sub64", "math/bits.Add64"], unfollowed := true, recurses := true, named := ["math/bits.divideError", "math/bits.overflowError"], apart := false, narrowed := true }
def MontMulsUptoSaid : Prop := montMulsUptoRow.holds Try.pinned (OpenSpec.upto montMulsSpec)

/-- 'sacristylaw03.MontNobody', WHERE WHAT IT READS IS OF BULK AT MOST 1048576: true; the input reads as it did. -/
def montNobodyUptoRow : OpenClaim := { program := "ytpmejfefbepjlaa", sum := "d068bac95b286acbfb8637f0d18049c403a6cd15136b8e35960c0b66497ad9bb", func := "sacristy/sacristylaw03.MontNobody", spec := "montNobody", inPlace := ["math/bits.Sub64", "math/bits.Add64"], unfollowed := true, recurses := true, named := ["math/bits.divideError", "math/bits.overflowError"], apart := false, narrowed := true }
def MontNobodyUptoSaid : Prop := montNobodyUptoRow.holds Try.pinned (OpenSpec.upto montNobodySpec)

/-- 'sacristylaw04.PrimeSmall', WHERE WHAT IT READS IS OF BULK AT MOST 1048576: true; the input reads as it did. -/
def primeSmallUptoRow : OpenClaim := { program := "ytpmejfefbepjlaa", sum := "d068bac95b286acbfb8637f0d18049c403a6cd15136b8e35960c0b66497ad9bb", func := "sacristy/sacristylaw04.PrimeSmall", spec := "primeSmall", inPlace := ["math/bits.Sub64", "math/bits.Add64"], unfollowed := true, recurses := true, named := ["math/bits.divideError", "math/bits.overflowError"], apart := false, narrowed := true }
def PrimeSmallUptoSaid : Prop := primeSmallUptoRow.holds Try.pinned (OpenSpec.upto primeSmallSpec)

/-- 'sacristylaw04.PrimeSteps', WHERE WHAT IT READS IS OF BULK AT MOST 1048576: true; the input reads as it did. -/
def primeStepsUptoRow : OpenClaim := { program := "ytpmejfefbepjlaa", sum := "d068bac95b286acbfb8637f0d18049c403a6cd15136b8e35960c0b66497ad9bb", func := "sacristy/sacristylaw04.PrimeSteps", spec := "primeSteps", inPlace := ["math/bits.Sub64", "math/bits.Add64"], unfollowed := true, recurses := true, named := ["math/bits.divideError", "math/bits.overflowError"], apart := false, narrowed := true }
def PrimeStepsUptoSaid : Prop := primeStepsUptoRow.holds Try.pinned (OpenSpec.upto primeStepsSpec)

/-- 'sacristylaw04.PrimeChecks', WHERE WHAT IT READS IS OF BULK AT MOST 1048576: true; the input reads as it did. -/
def primeChecksUptoRow : OpenClaim := { program := "ytpmejfefbepjlaa", sum := "d068bac95b286acbfb8637f0d18049c403a6cd15136b8e35960c0b66497ad9bb", func := "sacristy/sacristylaw04.PrimeChecks", spec := "primeChecks", inPlace := ["math/bits.Sub64", "math/bits.Add64"], unfollowed := true, recurses := true, named := ["math/bits.divideError", "math/bits.overflowError"], apart := false, narrowed := true }
def PrimeChecksUptoSaid : Prop := primeChecksUptoRow.holds Try.pinned (OpenSpec.upto primeChecksSpec)

/-- 'sacristylaw04.PrimeSound', WHERE WHAT IT READS IS OF BULK AT MOST 1048576: true; the input reads as it did. -/
def primeSoundUptoRow : OpenClaim := { program := "ytpmejfefbepjlaa", sum := "d068bac95b286acbfb8637f0d18049c403a6cd15136b8e35960c0b66497ad9bb", func := "sacristy/sacristylaw04.PrimeSound", spec := "primeSound", inPlace := ["math/bits.Sub64", "math/bits.Add64"], unfollowed := true, recurses := true, named := ["math/bits.divideError", "math/bits.overflowError"], apart := false, narrowed := true }
def PrimeSoundUptoSaid : Prop := primeSoundUptoRow.holds Try.pinned (OpenSpec.upto primeSoundSpec)

/-- 'sacristylaw04.PrimeFermat', WHERE WHAT IT READS IS OF BULK AT MOST 1048576: true; the input reads as it did. -/
def primeFermatUptoRow : OpenClaim := { program := "ytpmejfefbepjlaa", sum := "d068bac95b286acbfb8637f0d18049c403a6cd15136b8e35960c0b66497ad9bb", func := "sacristy/sacristylaw04.PrimeFermat", spec := "primeFermat", inPlace := ["math/bits.Sub64", "math/bits.Add64"], unfollowed := true, recurses := true, named := ["math/bits.divideError", "math/bits.overflowError"], apart := false, narrowed := true }
def PrimeFermatUptoSaid : Prop := primeFermatUptoRow.holds Try.pinned (OpenSpec.upto primeFermatSpec)

end Rows
end Go.Proofs.Ytpmejfefbepjlaa
