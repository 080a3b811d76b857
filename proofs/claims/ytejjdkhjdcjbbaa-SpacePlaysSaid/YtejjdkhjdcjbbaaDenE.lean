/-
 The plain reading of code: loops in two shapes, results that are nil.
-/
import Derived.Test.YtejjdkhjdcjbbaaDenD
set_option linter.unusedVariables false
set_option linter.unusedSimpArgs false
namespace Go.Den
end Go.Den
