/-
  No cell of these rows narrows 'for every input' (looked for: loops, veiled, ifaces, maps, wideKeys, modest, calm, conditions, laid).
  DERIVED. THE GIVEN ROWS OF THIS SEAT. 12 by the template 'for every input the law returns true; each argument reads behind the call as it read before'; 0 by the template 'total and deterministic' (their statements: YtennopklknlecaaTotals.lean).
  GIVEN WITH THE SEED: the statements are not yours to turn. If you find one false, say at which input.
  Laid BY PROGRAM, IN A SANDBOX (cutbox-rows.mjs): the forced cells as the released guide's own fill.sh prints them over the translation 8060fa19ec5334d0… (all of the seat's roots in one cut). By AI agents, Wed Nov 11 2026. No macro, syntax, notation, axiom, sorry.
-/
import Derived.Test.YtennopklknlecaaChecked
import GoSem.Claim
import GoSem.ClaimJoined
import GoSem.ClaimMapViews
import Derived.JoinedTies
import Derived.KernelRfl
namespace Go.Proofs.Ytennopklknlecaa
/- THE CELL 'sum', in the pinned program and in every row, IS THE sha256 OF THE DUMP (.gsa) THAT YtennopklknlecaaProg.lean LOADS. Nothing in Lean hashes anything: it is a label: what it is worth is what the hold of that sum in a sandbox is worth. -/
noncomputable def Try.pinned : Pinned := { name := "ytennopklknlecaa", sum := "8060fa19ec5334d0ba40327c068980e90aa594d0e35055bda0f484468acaee6d", checked := Try.checked }
namespace Rows
def none {H : Type} : Left H := { results := [], args := [] }

/-- 'sacristylaw10.TapeBytes': WHATEVER THE INPUT: true; the input reads as it did. -/
def tapeBytesSpec : ChangeSpec := { name := "tapeBytes", fn := fun _ => fun
  | [d1, d2] => { results := [.lit (.bool true)], args := [d1, d2] }
  | _ => none }
def tapeBytesRow : OpenClaim := { program := "ytennopklknlecaa", sum := "8060fa19ec5334d0ba40327c068980e90aa594d0e35055bda0f484468acaee6d", func := "sacristy/sacristylaw10.TapeBytes", spec := "tapeBytes", inPlace := ["math/bits.Sub64", "math/bits.Add64"], unfollowed := true, recurses := true, named := ["math/bits.divideError", "math/bits.overflowError"], apart := false }
def TapeBytesSaid : Prop := tapeBytesRow.holds Try.pinned (OpenSpec.ofChange tapeBytesSpec)

/-- ITS FALSE NEIGHBOUR: 'it returns false'. Refute it at one input. -/
def tapeBytesWrong : ChangeSpec := { name := "tapeBytes", fn := fun _ => fun
  | [d1, d2] => { results := [.lit (.bool false)], args := [d1, d2] }
  | _ => none }
def TapeBytesWrongFalsely : Prop := tapeBytesRow.holds Try.pinned (OpenSpec.ofChange tapeBytesWrong)

/-- 'sacristylaw10.TapeDraws': WHATEVER THE INPUT: true; the input reads as it did. -/
def tapeDrawsSpec : ChangeSpec := { name := "tapeDraws", fn := fun _ => fun
  | [d1, d2, d3] => { results := [.lit (.bool true)], args := [d1, d2, d3] }
  | _ => none }
def tapeDrawsRow : OpenClaim := { program := "ytennopklknlecaa", sum := "8060fa19ec5334d0ba40327c068980e90aa594d0e35055bda0f484468acaee6d", func := "sacristy/sacristylaw10.TapeDraws", spec := "tapeDraws", inPlace := ["math/bits.Sub64", "math/bits.Add64"], unfollowed := true, recurses := true, named := ["math/bits.divideError", "math/bits.overflowError"], apart := false }
def TapeDrawsSaid : Prop := tapeDrawsRow.holds Try.pinned (OpenSpec.ofChange tapeDrawsSpec)

/-- ITS FALSE NEIGHBOUR: 'it returns false'. Refute it at one input. -/
def tapeDrawsWrong : ChangeSpec := { name := "tapeDraws", fn := fun _ => fun
  | [d1, d2, d3] => { results := [.lit (.bool false)], args := [d1, d2, d3] }
  | _ => none }
def TapeDrawsWrongFalsely : Prop := tapeDrawsRow.holds Try.pinned (OpenSpec.ofChange tapeDrawsWrong)

/-- 'sacristylaw10.TapeEven': WHATEVER THE INPUT: true; the input reads as it did. -/
def tapeEvenSpec : ChangeSpec := { name := "tapeEven", fn := fun _ => fun
  | [d1, d2] => { results := [.lit (.bool true)], args := [d1, d2] }
  | _ => none }
def tapeEvenRow : OpenClaim := { program := "ytennopklknlecaa", sum := "8060fa19ec5334d0ba40327c068980e90aa594d0e35055bda0f484468acaee6d", func := "sacristy/sacristylaw10.TapeEven", spec := "tapeEven", inPlace := ["math/bits.Sub64", "math/bits.Add64"], unfollowed := true, recurses := true, named := ["math/bits.divideError", "math/bits.overflowError"], apart := false }
def TapeEvenSaid : Prop := tapeEvenRow.holds Try.pinned (OpenSpec.ofChange tapeEvenSpec)

/-- ITS FALSE NEIGHBOUR: 'it returns false'. Refute it at one input. -/
def tapeEvenWrong : ChangeSpec := { name := "tapeEven", fn := fun _ => fun
  | [d1, d2] => { results := [.lit (.bool false)], args := [d1, d2] }
  | _ => none }
def TapeEvenWrongFalsely : Prop := tapeEvenRow.holds Try.pinned (OpenSpec.ofChange tapeEvenWrong)

/-- 'sacristylaw10.TapeNobody': WHATEVER THE INPUT: true; the input reads as it did. -/
def tapeNobodySpec : ChangeSpec := { name := "tapeNobody", fn := fun _ => fun
  | [d1, d2] => { results := [.lit (.bool true)], args := [d1, d2] }
  | _ => none }
def tapeNobodyRow : OpenClaim := { program := "ytennopklknlecaa", sum := "8060fa19ec5334d0ba40327c068980e90aa594d0e35055bda0f484468acaee6d", func := "sacristy/sacristylaw10.TapeNobody", spec := "tapeNobody", inPlace := ["math/bits.Sub64", "math/bits.Add64"], unfollowed := true, recurses := true, named := ["math/bits.divideError", "math/bits.overflowError"], apart := false }
def TapeNobodySaid : Prop := tapeNobodyRow.holds Try.pinned (OpenSpec.ofChange tapeNobodySpec)

/-- ITS FALSE NEIGHBOUR: 'it returns false'. Refute it at one input. -/
def tapeNobodyWrong : ChangeSpec := { name := "tapeNobody", fn := fun _ => fun
  | [d1, d2] => { results := [.lit (.bool false)], args := [d1, d2] }
  | _ => none }
def TapeNobodyWrongFalsely : Prop := tapeNobodyRow.holds Try.pinned (OpenSpec.ofChange tapeNobodyWrong)

/-- 'sacristylaw35.CombExps': WHATEVER THE INPUT: true; the input reads as it did. -/
def combExpsSpec : ChangeSpec := { name := "combExps", fn := fun _ => fun
  | [d1, d2, d3] => { results := [.lit (.bool true)], args := [d1, d2, d3] }
  | _ => none }
def combExpsRow : OpenClaim := { program := "ytennopklknlecaa", sum := "8060fa19ec5334d0ba40327c068980e90aa594d0e35055bda0f484468acaee6d", func := "sacristy/sacristylaw35.CombExps", spec := "combExps", inPlace := ["math/bits.Sub64", "math/bits.Add64"], unfollowed := true, recurses := true, named := ["math/bits.divideError", "math/bits.overflowError"], apart := false }
def CombExpsSaid : Prop := combExpsRow.holds Try.pinned (OpenSpec.ofChange combExpsSpec)

/-- ITS FALSE NEIGHBOUR: 'it returns false'. Refute it at one input. -/
def combExpsWrong : ChangeSpec := { name := "combExps", fn := fun _ => fun
  | [d1, d2, d3] => { results := [.lit (.bool false)], args := [d1, d2, d3] }
  | _ => none }
def CombExpsWrongFalsely : Prop := combExpsRow.holds Try.pinned (OpenSpec.ofChange combExpsWrong)

/-- 'sacristylaw35.CombMultis': WHATEVER THE INPUT: true; the input reads as it did. -/
def combMultisSpec : ChangeSpec := { name := "combMultis", fn := fun _ => fun
  | [d1, d2, d3] => { results := [.lit (.bool true)], args := [d1, d2, d3] }
  | _ => none }
def combMultisRow : OpenClaim := { program := "ytennopklknlecaa", sum := "8060fa19ec5334d0ba40327c068980e90aa594d0e35055bda0f484468acaee6d", func := "sacristy/sacristylaw35.CombMultis", spec := "combMultis", inPlace := ["math/bits.Sub64", "math/bits.Add64"], unfollowed := true, recurses := true, named := ["math/bits.divideError", "math/bits.overflowError"], apart := false }
def CombMultisSaid : Prop := combMultisRow.holds Try.pinned (OpenSpec.ofChange combMultisSpec)

/-- ITS FALSE NEIGHBOUR: 'it returns false'. Refute it at one input. -/
def combMultisWrong : ChangeSpec := { name := "combMultis", fn := fun _ => fun
  | [d1, d2, d3] => { results := [.lit (.bool false)], args := [d1, d2, d3] }
  | _ => none }
def CombMultisWrongFalsely : Prop := combMultisRow.holds Try.pinned (OpenSpec.ofChange combMultisWrong)

/-- 'sacristylaw35.CombNobody': WHATEVER THE INPUT: true; the input reads as it did. -/
def combNobodySpec : ChangeSpec := { name := "combNobody", fn := fun _ => fun
  | [d] => { results := [.lit (.bool true)], args := [d] }
  | _ => none }
def combNobodyRow : OpenClaim := { program := "ytennopklknlecaa", sum := "8060fa19ec5334d0ba40327c068980e90aa594d0e35055bda0f484468acaee6d", func := "sacristy/sacristylaw35.CombNobody", spec := "combNobody", inPlace := ["math/bits.Sub64", "math/bits.Add64"], unfollowed := true, recurses := true, named := ["math/bits.divideError", "math/bits.overflowError"], apart := false }
def CombNobodySaid : Prop := combNobodyRow.holds Try.pinned (OpenSpec.ofChange combNobodySpec)

/-- ITS FALSE NEIGHBOUR: 'it returns false'. Refute it at one input. -/
def combNobodyWrong : ChangeSpec := { name := "combNobody", fn := fun _ => fun
  | [d] => { results := [.lit (.bool false)], args := [d] }
  | _ => none }
def CombNobodyWrongFalsely : Prop := combNobodyRow.holds Try.pinned (OpenSpec.ofChange combNobodyWrong)

/-- 'sacristylaw35.CombSame': WHATEVER THE INPUT: true; the input reads as it did. -/
def combSameSpec : ChangeSpec := { name := "combSame", fn := fun _ => fun
  | [d1, d2, d3] => { results := [.lit (.bool true)], args := [d1, d2, d3] }
  | _ => none }
def combSameRow : OpenClaim := { program := "ytennopklknlecaa", sum := "8060fa19ec5334d0ba40327c068980e90aa594d0e35055bda0f484468acaee6d", func := "sacristy/sacristylaw35.CombSame", spec := "combSame", inPlace := ["math/bits.Sub64", "math/bits.Add64"], unfollowed := true, recurses := true, named := ["math/bits.divideError", "math/bits.overflowError"], apart := false }
def CombSameSaid : Prop := combSameRow.holds Try.pinned (OpenSpec.ofChange combSameSpec)

/-- ITS FALSE NEIGHBOUR: 'it returns false'. Refute it at one input. -/
def combSameWrong : ChangeSpec := { name := "combSame", fn := fun _ => fun
  | [d1, d2, d3] => { results := [.lit (.bool false)], args := [d1, d2, d3] }
  | _ => none }
def CombSameWrongFalsely : Prop := combSameRow.holds Try.pinned (OpenSpec.ofChange combSameWrong)

/-- 'sacristylaw12.PolyDoes': WHATEVER THE INPUT: true; the input reads as it did. -/
def polyDoesSpec : ChangeSpec := { name := "polyDoes", fn := fun _ => fun
  | [d1, d2, d3] => { results := [.lit (.bool true)], args := [d1, d2, d3] }
  | _ => none }
def polyDoesRow : OpenClaim := { program := "ytennopklknlecaa", sum := "8060fa19ec5334d0ba40327c068980e90aa594d0e35055bda0f484468acaee6d", func := "sacristy/sacristylaw12.PolyDoes", spec := "polyDoes", inPlace := ["math/bits.Sub64", "math/bits.Add64"], unfollowed := true, recurses := true, named := ["math/bits.divideError", "math/bits.overflowError"], apart := false }
def PolyDoesSaid : Prop := polyDoesRow.holds Try.pinned (OpenSpec.ofChange polyDoesSpec)

/-- ITS FALSE NEIGHBOUR: 'it returns false'. Refute it at one input. -/
def polyDoesWrong : ChangeSpec := { name := "polyDoes", fn := fun _ => fun
  | [d1, d2, d3] => { results := [.lit (.bool false)], args := [d1, d2, d3] }
  | _ => none }
def PolyDoesWrongFalsely : Prop := polyDoesRow.holds Try.pinned (OpenSpec.ofChange polyDoesWrong)

/-- 'sacristylaw12.PolyDivs': WHATEVER THE INPUT: true; the input reads as it did. -/
def polyDivsSpec : ChangeSpec := { name := "polyDivs", fn := fun _ => fun
  | [d1, d2, d3] => { results := [.lit (.bool true)], args := [d1, d2, d3] }
  | _ => none }
def polyDivsRow : OpenClaim := { program := "ytennopklknlecaa", sum := "8060fa19ec5334d0ba40327c068980e90aa594d0e35055bda0f484468acaee6d", func := "sacristy/sacristylaw12.PolyDivs", spec := "polyDivs", inPlace := ["math/bits.Sub64", "math/bits.Add64"], unfollowed := true, recurses := true, named := ["math/bits.divideError", "math/bits.overflowError"], apart := false }
def PolyDivsSaid : Prop := polyDivsRow.holds Try.pinned (OpenSpec.ofChange polyDivsSpec)

/-- ITS FALSE NEIGHBOUR: 'it returns false'. Refute it at one input. -/
def polyDivsWrong : ChangeSpec := { name := "polyDivs", fn := fun _ => fun
  | [d1, d2, d3] => { results := [.lit (.bool false)], args := [d1, d2, d3] }
  | _ => none }
def PolyDivsWrongFalsely : Prop := polyDivsRow.holds Try.pinned (OpenSpec.ofChange polyDivsWrong)

/-- 'sacristylaw12.PolyBack': WHATEVER THE INPUT: true; the input reads as it did. -/
def polyBackSpec : ChangeSpec := { name := "polyBack", fn := fun _ => fun
  | [d1, d2, d3] => { results := [.lit (.bool true)], args := [d1, d2, d3] }
  | _ => none }
def polyBackRow : OpenClaim := { program := "ytennopklknlecaa", sum := "8060fa19ec5334d0ba40327c068980e90aa594d0e35055bda0f484468acaee6d", func := "sacristy/sacristylaw12.PolyBack", spec := "polyBack", inPlace := ["math/bits.Sub64", "math/bits.Add64"], unfollowed := true, recurses := true, named := ["math/bits.divideError", "math/bits.overflowError"], apart := false }
def PolyBackSaid : Prop := polyBackRow.holds Try.pinned (OpenSpec.ofChange polyBackSpec)

/-- ITS FALSE NEIGHBOUR: 'it returns false'. Refute it at one input. -/
def polyBackWrong : ChangeSpec := { name := "polyBack", fn := fun _ => fun
  | [d1, d2, d3] => { results := [.lit (.bool false)], args := [d1, d2, d3] }
  | _ => none }
def PolyBackWrongFalsely : Prop := polyBackRow.holds Try.pinned (OpenSpec.ofChange polyBackWrong)

/-- 'sacristylaw12.PolyNobody': WHATEVER THE INPUT: true; the input reads as it did. -/
def polyNobodySpec : ChangeSpec := { name := "polyNobody", fn := fun _ => fun
  | [d1, d2] => { results := [.lit (.bool true)], args := [d1, d2] }
  | _ => none }
def polyNobodyRow : OpenClaim := { program := "ytennopklknlecaa", sum := "8060fa19ec5334d0ba40327c068980e90aa594d0e35055bda0f484468acaee6d", func := "sacristy/sacristylaw12.PolyNobody", spec := "polyNobody", inPlace := ["math/bits.Sub64", "math/bits.Add64"], unfollowed := true, recurses := true, named := ["math/bits.divideError", "math/bits.overflowError"], apart := false }
def PolyNobodySaid : Prop := polyNobodyRow.holds Try.pinned (OpenSpec.ofChange polyNobodySpec)

/-- ITS FALSE NEIGHBOUR: 'it returns false'. Refute it at one input. -/
def polyNobodyWrong : ChangeSpec := { name := "polyNobody", fn := fun _ => fun
  | [d1, d2] => { results := [.lit (.bool false)], args := [d1, d2] }
  | _ => none }
def PolyNobodyWrongFalsely : Prop := polyNobodyRow.holds Try.pinned (OpenSpec.ofChange polyNobodyWrong)

/- THE SECOND FORM. 'bulk': how many values and letters a reading holds, each counted each time it is reached (what is shared counts as often as it is met; a slice's spare places count too). A statement '..UptoSaid' is the law's where the arguments, and the package variables that the reading takes, are together of bulk at most 1048576: NARROWER than '..Said'. Prove '..Said' where nothing that the law and all that it calls make is longer than what came in: it says more and counts as full. Else prove '..UptoSaid'. A law counts once. -/
mutual
def uptoBulk {H : Type} : DataW H → Nat
  | .lit (.string bytes) => bytes.length + 1
  | .lit _ => 1
  | .nil => 1
  | .ptr d => uptoBulk d + 1
  | .slice elems spare => uptoBulkAll elems + uptoBulkAll spare + 1
  | .agg parts => uptoBulkAll parts + 1
  | .iface _ d => uptoBulk d + 1
  | .map entries => uptoBulkEntries entries + 1
  | .held _ => 1
def uptoBulkAll {H : Type} : List (DataW H) → Nat
  | [] => 0
  | d :: r => uptoBulk d + uptoBulkAll r
def uptoBulkEntries {H : Type} : List (Lit × DataW H) → Nat
  | [] => 0
  | x :: r => uptoBulkEntry x + uptoBulkEntries r
def uptoBulkEntry {H : Type} : Lit × DataW H → Nat
  | (.string bytes, d) => bytes.length + uptoBulk d + 1
  | (_, d) => uptoBulk d + 1
 end
def uptoSmall : (H : Type) → List (DataW H) → Bool := fun _ ds => decide (uptoBulkAll ds ≤ 1048576)
def OpenSpec.upto (s : _root_.Go.ChangeSpec) : _root_.Go.OpenSpec := { _root_.Go.OpenSpec.ofChange s with cond := some uptoSmall }

/-- 'sacristylaw10.TapeBytes', WHERE WHAT IT READS IS OF BULK AT MOST 1048576: true; the input reads as it did. -/
def tapeBytesUptoRow : OpenClaim := { program := "ytennopklknlecaa", sum := "8060fa19ec5334d0ba40327c068980e90aa594d0e35055bda0f484468acaee6d", func := "sacristy/sacristylaw10.TapeBytes", spec := "tapeBytes", inPlace := ["math/bits.Sub64", "math/bits.Add64"], unfollowed := true, recurses := true, named := ["math/bits.divideError", "math/bits.overflowError"], apart := false, narrowed := true }
def TapeBytesUptoSaid : Prop := tapeBytesUptoRow.holds Try.pinned (OpenSpec.upto tapeBytesSpec)

/-- 'sacristylaw10.TapeDraws', WHERE WHAT IT READS IS OF BULK AT MOST 1048576: true; the input reads as it did. -/
def tapeDrawsUptoRow : OpenClaim := { program := "ytennopklknlecaa", sum := "8060fa19ec5334d0ba40327c068980e90aa594d0e35055bda0f484468acaee6d", func := "sacristy/sacristylaw10.TapeDraws", spec := "tapeDraws", inPlace := ["math/bits.Sub64", "math/bits.Add64"], unfollowed := true, recurses := true, named := ["math/bits.divideError", "math/bits.overflowError"], apart := false, narrowed := true }
def TapeDrawsUptoSaid : Prop := tapeDrawsUptoRow.holds Try.pinned (OpenSpec.upto tapeDrawsSpec)

/-- 'sacristylaw10.TapeEven', WHERE WHAT IT READS IS OF BULK AT MOST 1048576: true; the input reads as it did. -/
def tapeEvenUptoRow : OpenClaim := { program := "ytennopklknlecaa", sum := "8060fa19ec5334d0ba40327c068980e90aa594d0e35055bda0f484468acaee6d", func := "sacristy/sacristylaw10.TapeEven", spec := "tapeEven", inPlace := ["math/bits.Sub64", "math/bits.Add64"], unfollowed := true, recurses := true, named := ["math/bits.divideError", "math/bits.overflowError"], apart := false, narrowed := true }
def TapeEvenUptoSaid : Prop := tapeEvenUptoRow.holds Try.pinned (OpenSpec.upto tapeEvenSpec)

/-- 'sacristylaw10.TapeNobody', WHERE WHAT IT READS IS OF BULK AT MOST 1048576: true; the input reads as it did. -/
def tapeNobodyUptoRow : OpenClaim := { program := "ytennopklknlecaa", sum := "8060fa19ec5334d0ba40327c068980e90aa594d0e35055bda0f484468acaee6d", func := "sacristy/sacristylaw10.TapeNobody", spec := "tapeNobody", inPlace := ["math/bits.Sub64", "math/bits.Add64"], unfollowed := true, recurses := true, named := ["math/bits.divideError", "math/bits.overflowError"], apart := false, narrowed := true }
def TapeNobodyUptoSaid : Prop := tapeNobodyUptoRow.holds Try.pinned (OpenSpec.upto tapeNobodySpec)

/-- 'sacristylaw35.CombExps', WHERE WHAT IT READS IS OF BULK AT MOST 1048576: true; the input reads as it did. -/
def combExpsUptoRow : OpenClaim := { program := "ytennopklknlecaa", sum := "8060fa19ec5334d0ba40327c068980e90aa594d0e35055bda0f484468acaee6d", func := "sacristy/sacristylaw35.CombExps", spec := "combExps", inPlace := ["math/bits.Sub64", "math/bits.Add64"], unfollowed := true, recurses := true, named := ["math/bits.divideError", "math/bits.overflowError"], apart := false, narrowed := true }
def CombExpsUptoSaid : Prop := combExpsUptoRow.holds Try.pinned (OpenSpec.upto combExpsSpec)

/-- 'sacristylaw35.CombMultis', WHERE WHAT IT READS IS OF BULK AT MOST 1048576: true; the input reads as it did. -/
def combMultisUptoRow : OpenClaim := { program := "ytennopklknlecaa", sum := "8060fa19ec5334d0ba40327c068980e90aa594d0e35055bda0f484468acaee6d", func := "sacristy/sacristylaw35.CombMultis", spec := "combMultis", inPlace := ["math/bits.Sub64", "math/bits.Add64"], unfollowed := true, recurses := true, named := ["math/bits.divideError", "math/bits.overflowError"], apart := false, narrowed := true }
def CombMultisUptoSaid : Prop := combMultisUptoRow.holds Try.pinned (OpenSpec.upto combMultisSpec)

/-- 'sacristylaw35.CombNobody', WHERE WHAT IT READS IS OF BULK AT MOST 1048576: true; the input reads as it did. -/
def combNobodyUptoRow : OpenClaim := { program := "ytennopklknlecaa", sum := "8060fa19ec5334d0ba40327c068980e90aa594d0e35055bda0f484468acaee6d", func := "sacristy/sacristylaw35.CombNobody", spec := "combNobody", inPlace := ["math/bits.Sub64", "math/bits.Add64"], unfollowed := true, recurses := true, named := ["math/bits.divideError", "math/bits.overflowError"], apart := false, narrowed := true }
def CombNobodyUptoSaid : Prop := combNobodyUptoRow.holds Try.pinned (OpenSpec.upto combNobodySpec)

/-- 'sacristylaw35.CombSame', WHERE WHAT IT READS IS OF BULK AT MOST 1048576: true; the input reads as it did. -/
def combSameUptoRow : OpenClaim := { program := "ytennopklknlecaa", sum := "8060fa19ec5334d0ba40327c068980e90aa594d0e35055bda0f484468acaee6d", func := "sacristy/sacristylaw35.CombSame", spec := "combSame", inPlace := ["math/bits.Sub64", "math/bits.Add64"], unfollowed := true, recurses := true, named := ["math/bits.divideError", "math/bits.overflowError"], apart := false, narrowed := true }
def CombSameUptoSaid : Prop := combSameUptoRow.holds Try.pinned (OpenSpec.upto combSameSpec)

/-- 'sacristylaw12.PolyDoes', WHERE WHAT IT READS IS OF BULK AT MOST 1048576: true; the input reads as it did. -/
def polyDoesUptoRow : OpenClaim := { program := "ytennopklknlecaa", sum := "8060fa19ec5334d0ba40327c068980e90aa594d0e35055bda0f484468acaee6d", func := "sacristy/sacristylaw12.PolyDoes", spec := "polyDoes", inPlace := ["math/bits.Sub64", "math/bits.Add64"], unfollowed := true, recurses := true, named := ["math/bits.divideError", "math/bits.overflowError"], apart := false, narrowed := true }
def PolyDoesUptoSaid : Prop := polyDoesUptoRow.holds Try.pinned (OpenSpec.upto polyDoesSpec)

/-- 'sacristylaw12.PolyDivs', WHERE WHAT IT READS IS OF BULK AT MOST 1048576: true; the input reads as it did. -/
def polyDivsUptoRow : OpenClaim := { program := "ytennopklknlecaa", sum := "8060fa19ec5334d0ba40327c068980e90aa594d0e35055bda0f484468acaee6d", func := "sacristy/sacristylaw12.PolyDivs", spec := "polyDivs", inPlace := ["math/bits.Sub64", "math/bits.Add64"], unfollowed := true, recurses := true, named := ["math/bits.divideError", "math/bits.overflowError"], apart := false, narrowed := true }
def PolyDivsUptoSaid : Prop := polyDivsUptoRow.holds Try.pinned (OpenSpec.upto polyDivsSpec)

/-- 'sacristylaw12.PolyBack', WHERE WHAT IT READS IS OF BULK AT MOST 1048576: true; the input reads as it did. -/
def polyBackUptoRow : OpenClaim := { program := "ytennopklknlecaa", sum := "8060fa19ec5334d0ba40327c068980e90aa594d0e35055bda0f484468acaee6d", func := "sacristy/sacristylaw12.PolyBack", spec := "polyBack", inPlace := ["math/bits.Sub64", "math/bits.Add64"], unfollowed := true, recurses := true, named := ["math/bits.divideError", "math/bits.overflowError"], apart := false, narrowed := true }
def PolyBackUptoSaid : Prop := polyBackUptoRow.holds Try.pinned (OpenSpec.upto polyBackSpec)

/-- 'sacristylaw12.PolyNobody', WHERE WHAT IT READS IS OF BULK AT MOST 1048576: true; the input reads as it did. -/
def polyNobodyUptoRow : OpenClaim := { program := "ytennopklknlecaa", sum := "8060fa19ec5334d0ba40327c068980e90aa594d0e35055bda0f484468acaee6d", func := "sacristy/sacristylaw12.PolyNobody", spec := "polyNobody", inPlace := ["math/bits.Sub64", "math/bits.Add64"], unfollowed := true, recurses := true, named := ["math/bits.divideError", "math/bits.overflowError"], apart := false, narrowed := true }
def PolyNobodyUptoSaid : Prop := polyNobodyUptoRow.holds Try.pinned (OpenSpec.upto polyNobodySpec)

end Rows
end Go.Proofs.Ytennopklknlecaa
