/-
  The functions of a package, plainly.
-/
import Derived.Test.YtejjdkhjdcjbbaaDenI
set_option linter.unusedVariables false
set_option linter.unusedSimpArgs false
set_option maxRecDepth 100000
set_option maxHeartbeats 0
namespace Go.Pl
end Go.Pl
open Go Go.Den Go.Pl
namespace Go.Pl
open Go.IntKind (i64 u64 u32 u8)
noncomputable def wire_Key' (s : ByteArray) : Option (Bool) :=
 bif (decide ((((ByteArray.size s) : Nat) : Int) ≥ 1)) then (
 some (decide ((((ByteArray.size s) : Nat) : Int) ≤ 8)))
 else (
 some false)
noncomputable def wire_Key := veil wire_Key'
theorem wire_Key_eq : wire_Key = wire_Key' := veil_eq _
end Go.Pl
