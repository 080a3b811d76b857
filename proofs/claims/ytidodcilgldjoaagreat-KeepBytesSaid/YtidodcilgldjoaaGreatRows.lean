/-
  No cell of these rows narrows 'for every input' (looked for: loops, veiled, ifaces, maps, wideKeys, modest, calm, conditions, laid).
  DERIVED. THE GIVEN ROWS OF THIS SEAT. 3 by the template 'for every input the law returns true; each argument reads behind the call as it read before'; 0 by the template 'total and deterministic' (their statements: YtidodcilgldjoaaGreatTotals.lean).
  GIVEN WITH THE SEED: the statements are not yours to turn. If you find one false, say at which input.
  Laid BY PROGRAM, IN A SANDBOX (cutbox-rows.mjs): the forced cells as the released guide's own fill.sh prints them over the translation 2f83ac43916ca483… (all of the seat's roots in one cut). By AI agents, Wed Nov 11 2026. No macro, syntax, notation, axiom, sorry.
-/
import Derived.Test.YtidodcilgldjoaaGreatChecked
import GoSem.Claim
import GoSem.ClaimJoined
import GoSem.ClaimMapViews
import Derived.JoinedTies
import Derived.KernelRfl
namespace Go.Proofs.YtidodcilgldjoaaGreat
/- THE CELL 'sum', in the pinned program and in every row, IS THE sha256 OF THE DUMP (.gsa) THAT YtidodcilgldjoaaGreatProg.lean LOADS. Nothing in Lean hashes anything: it is a label: what it is worth is what the hold of that sum in a sandbox is worth. -/
noncomputable def Tryz.pinned : Pinned := { name := "ytidodcilgldjoaagreat", sum := "2f83ac43916ca483b3990222122c7adfa5e8efdb2d62256d76f6ffd161e7d387", checked := Tryz.checked }
namespace Rows
def none {H : Type} : Left H := { results := [], args := [] }

/-- 'sacristylaw38.KeepBytes': WHATEVER THE INPUT: true; the input reads as it did. -/
def keepBytesSpec : ChangeSpec := { name := "keepBytes", fn := fun _ => fun
  | [d1, d2] => { results := [.lit (.bool true)], args := [d1, d2] }
  | _ => none }
def keepBytesRow : OpenClaim := { program := "ytidodcilgldjoaagreat", sum := "2f83ac43916ca483b3990222122c7adfa5e8efdb2d62256d76f6ffd161e7d387", func := "sacristy/sacristylaw38.KeepBytes", spec := "keepBytes", inPlace := ["internal/abi.NoEscape", "math/bits.Sub64", "math/bits.Add64"], unfollowed := true, recurses := true, named := ["math/bits.divideError", "math/bits.overflowError"], apart := false }
def KeepBytesSaid : Prop := keepBytesRow.holds Tryz.pinned (OpenSpec.ofChange keepBytesSpec)

/-- ITS FALSE NEIGHBOUR: 'it returns false'. Refute it at one input. -/
def keepBytesWrong : ChangeSpec := { name := "keepBytes", fn := fun _ => fun
  | [d1, d2] => { results := [.lit (.bool false)], args := [d1, d2] }
  | _ => none }
def KeepBytesWrongFalsely : Prop := keepBytesRow.holds Tryz.pinned (OpenSpec.ofChange keepBytesWrong)

/-- 'sacristylaw38.KeepMay': WHATEVER THE INPUT: true; the input reads as it did. -/
def keepMaySpec : ChangeSpec := { name := "keepMay", fn := fun _ => fun
  | [d1, d2] => { results := [.lit (.bool true)], args := [d1, d2] }
  | _ => none }
def keepMayRow : OpenClaim := { program := "ytidodcilgldjoaagreat", sum := "2f83ac43916ca483b3990222122c7adfa5e8efdb2d62256d76f6ffd161e7d387", func := "sacristy/sacristylaw38.KeepMay", spec := "keepMay", inPlace := ["internal/abi.NoEscape", "math/bits.Sub64", "math/bits.Add64"], unfollowed := true, recurses := true, named := ["math/bits.divideError", "math/bits.overflowError"], apart := false }
def KeepMaySaid : Prop := keepMayRow.holds Tryz.pinned (OpenSpec.ofChange keepMaySpec)

/-- ITS FALSE NEIGHBOUR: 'it returns false'. Refute it at one input. -/
def keepMayWrong : ChangeSpec := { name := "keepMay", fn := fun _ => fun
  | [d1, d2] => { results := [.lit (.bool false)], args := [d1, d2] }
  | _ => none }
def KeepMayWrongFalsely : Prop := keepMayRow.holds Tryz.pinned (OpenSpec.ofChange keepMayWrong)

/-- 'sacristylaw38.KeepNobody': WHATEVER THE INPUT: true; the input reads as it did. -/
def keepNobodySpec : ChangeSpec := { name := "keepNobody", fn := fun _ => fun
  | [d] => { results := [.lit (.bool true)], args := [d] }
  | _ => none }
def keepNobodyRow : OpenClaim := { program := "ytidodcilgldjoaagreat", sum := "2f83ac43916ca483b3990222122c7adfa5e8efdb2d62256d76f6ffd161e7d387", func := "sacristy/sacristylaw38.KeepNobody", spec := "keepNobody", inPlace := ["internal/abi.NoEscape", "math/bits.Sub64", "math/bits.Add64"], unfollowed := true, recurses := true, named := ["math/bits.divideError", "math/bits.overflowError"], apart := false }
def KeepNobodySaid : Prop := keepNobodyRow.holds Tryz.pinned (OpenSpec.ofChange keepNobodySpec)

/-- ITS FALSE NEIGHBOUR: 'it returns false'. Refute it at one input. -/
def keepNobodyWrong : ChangeSpec := { name := "keepNobody", fn := fun _ => fun
  | [d] => { results := [.lit (.bool false)], args := [d] }
  | _ => none }
def KeepNobodyWrongFalsely : Prop := keepNobodyRow.holds Tryz.pinned (OpenSpec.ofChange keepNobodyWrong)

/- THE SECOND FORM. 'bulk': how many values and letters a reading holds, each counted each time it is reached (what is shared counts as often as it is met; a slice's spare places count too). A statement '..UptoSaid' is the law's where the arguments, and the package variables that the reading takes, are together of bulk at most 1048576: NARROWER than '..Said'. Prove '..Said' where nothing that the law and all that it calls make is longer than what came in: it says more and counts as full. Else prove '..UptoSaid'. A law counts once. -/
mutual
def uptoBulk {H : Type} : DataW H → Nat
  | .lit (.string bytes) => bytes.length + 1
  | .lit _ => 1
  | .nil => 1
  | .ptr d => uptoBulk d + 1
  | .slice elems spare => uptoBulkAll elems + uptoBulkAll spare + 1
  | .agg parts => uptoBulkAll parts + 1
  | .iface _ d => uptoBulk d + 1
  | .map entries => uptoBulkEntries entries + 1
  | .held _ => 1
def uptoBulkAll {H : Type} : List (DataW H) → Nat
  | [] => 0
  | d :: r => uptoBulk d + uptoBulkAll r
def uptoBulkEntries {H : Type} : List (Lit × DataW H) → Nat
  | [] => 0
  | x :: r => uptoBulkEntry x + uptoBulkEntries r
def uptoBulkEntry {H : Type} : Lit × DataW H → Nat
  | (.string bytes, d) => bytes.length + uptoBulk d + 1
  | (_, d) => uptoBulk d + 1
 end
def uptoSmall : (H : Type) → List (DataW H) → Bool := fun _ ds => decide (uptoBulkAll ds ≤ 1048576)
def OpenSpec.upto (s : _root_.Go.ChangeSpec) : _root_.Go.OpenSpec := { _root_.Go.OpenSpec.ofChange s with cond := some uptoSmall }

/-- 'sacristylaw38.KeepBytes', WHERE WHAT IT READS IS OF BULK AT MOST 1048576: true; the input reads as it did. -/
def keepBytesUptoRow : OpenClaim := { program := "ytidodcilgldjoaagreat", sum := "2f83ac43916ca483b3990222122c7adfa5e8efdb2d62256d76f6ffd161e7d387", func := "sacristy/sacristylaw38.KeepBytes", spec := "keepBytes", inPlace := ["internal/abi.NoEscape", "math/bits.Sub64", "math/bits.Add64"], unfollowed := true, recurses := true, named := ["math/bits.divideError", "math/bits.overflowError"], apart := false, narrowed := true }
def KeepBytesUptoSaid : Prop := keepBytesUptoRow.holds Tryz.pinned (OpenSpec.upto keepBytesSpec)

/-- 'sacristylaw38.KeepMay', WHERE WHAT IT READS IS OF BULK AT MOST 1048576: true; the input reads as it did. -/
def keepMayUptoRow : OpenClaim := { program := "ytidodcilgldjoaagreat", sum := "2f83ac43916ca483b3990222122c7adfa5e8efdb2d62256d76f6ffd161e7d387", func := "sacristy/sacristylaw38.KeepMay", spec := "keepMay", inPlace := ["internal/abi.NoEscape", "math/bits.Sub64", "math/bits.Add64"], unfollowed := true, recurses := true, named := ["math/bits.divideError", "math/bits.overflowError"], apart := false, narrowed := true }
def KeepMayUptoSaid : Prop := keepMayUptoRow.holds Tryz.pinned (OpenSpec.upto keepMaySpec)

/-- 'sacristylaw38.KeepNobody', WHERE WHAT IT READS IS OF BULK AT MOST 1048576: true; the input reads as it did. -/
def keepNobodyUptoRow : OpenClaim := { program := "ytidodcilgldjoaagreat", sum := "2f83ac43916ca483b3990222122c7adfa5e8efdb2d62256d76f6ffd161e7d387", func := "sacristy/sacristylaw38.KeepNobody", spec := "keepNobody", inPlace := ["internal/abi.NoEscape", "math/bits.Sub64", "math/bits.Add64"], unfollowed := true, recurses := true, named := ["math/bits.divideError", "math/bits.overflowError"], apart := false, narrowed := true }
def KeepNobodyUptoSaid : Prop := keepNobodyUptoRow.holds Tryz.pinned (OpenSpec.upto keepNobodySpec)

end Rows
end Go.Proofs.YtidodcilgldjoaaGreat
