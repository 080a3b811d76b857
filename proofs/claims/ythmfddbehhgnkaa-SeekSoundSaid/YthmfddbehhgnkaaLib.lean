/-
  The library's functions, by contracts.
-/
import Derived.Test.YthmfddbehhgnkaaEqA
import Derived.Test.YthmfddbehhgnkaaShelf
import Derived.Test.YthmfddbehhgnkaaDenI
set_option linter.unusedVariables false
set_option linter.unusedSimpArgs false
set_option maxRecDepth 100000
set_option maxHeartbeats 0
namespace Go.Pl
end Go.Pl
open Go Go.Den Go.Pl
namespace Go.Proofs.Ythmfddbehhgnkaa
noncomputable def c_strRepeat : Con := conV true [.str, .int .i64] [.str] fun x => strRepeat x.1 x.2.1
theorem con_strRepeat : ConOk Try.prog 43 c_strRepeat := strRepeat_ok Try.call43 Try.strings_Repeat
noncomputable def c_copyCheck : Con := conCC 112
theorem con_copyCheck : ConOk Try.prog 77 c_copyCheck := conCC_ok Try.call77 (fun b w h => Any.Builder_copyCheck_used { Try.lays156 with } Try.Builder_Extra_156.toX72 b w h) (fun b w h0 h1 h2 => Any.Builder_copyCheck_fresh { Try.lays156 with } Try.Builder_Extra_156.toX72 b w h0 h1 h2)
noncomputable def c_strJoin : Con := conV true [.sl .str, .str] [.str] fun x => strJoin x.1.1 x.1.2 x.2.1
theorem con_strJoin : ConOk Try.prog 81 c_strJoin := strJoin_ok Try.call81 Try.strings_Join_none Try.strings_Join
end Go.Proofs.Ythmfddbehhgnkaa
