/-
 The plain reading of code: functions that give rows of their own.
-/
import Derived.Test.YtlohbhpbkieoeaaGreatDenF
set_option linter.unusedVariables false
set_option linter.unusedSimpArgs false
namespace Go.Den
end Go.Den
