/-
  More of groups.
-/
import Derived.Test.YtennopklknlecaaMD
import Derived.Test.YtennopklknlecaaMA
set_option linter.unusedVariables false
set_option linter.unusedSimpArgs false
namespace Go.Pl
open Go Go.Den Go.Num

end Go.Pl
