/-
 The plain reading of code: what only reads.
-/
import Derived.Test.YtccbdhpcblfopaaGreatDenK
set_option linter.unusedVariables false
set_option linter.unusedSimpArgs false
namespace Go.Den
abbrev two (rest : Ty) : Ty := .pair (.int .i64) (.pair (.int .i64) rest)
end Go.Den
