/-
 The plain reading of code: rows that are cloned, and grow within.
-/
import Derived.Test.YtccbdhpcblfopaaGreatDenI
import Derived.Below
import Derived.Laws.IdiomCopy
import Derived.Laws.Tables
import Derived.Laws.AppendOwn
set_option linter.unusedVariables false
set_option linter.unusedSimpArgs false
namespace Go.Den
end Go.Den
