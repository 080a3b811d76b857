/-
 The plain reading of code: texts compared.
-/
import Derived.Test.YtlohbhpbkieoeaaGreatDenJ
import Derived.Shelf.Spec.SlicesInsertGrow
import Derived.Shelf.Small.Strs
set_option linter.unusedVariables false
set_option linter.unusedSimpArgs false
namespace Go.Den
open Go.Proofs Go.Shelf
end Go.Den
