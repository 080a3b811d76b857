/-
 The plain reading of code: texts joined and repeated, builders.
-/
import Derived.Test.YtlohbhpbkieoeaaGreatDenG
import Derived.Lib.Join
import Derived.Lib.Repeat
import Derived.Lib.Builder
set_option linter.unusedVariables false
set_option linter.unusedSimpArgs false
namespace Go.Den
open Go.RowKit
abbrev a6Q(TB:TypeId):Ty:=.pair (.sp TB) (.sl (.int .u8))
end Go.Den
