/-
  The library's functions, by contracts.
-/
import Derived.Test.YtccbdhpcblfopaaGreatEqA
import Derived.Test.YtccbdhpcblfopaaGreatShelf
import Derived.Test.YtccbdhpcblfopaaGreatDenI
set_option linter.unusedVariables false
set_option linter.unusedSimpArgs false
set_option maxRecDepth 100000
set_option maxHeartbeats 0
namespace Go.Pl
end Go.Pl
open Go Go.Den Go.Pl
namespace Go.Proofs.YtccbdhpcblfopaaGreat
noncomputable def c_strRepeat : Con := conV true [.str, .int .i64] [.str] fun x => strRepeat x.1 x.2.1
theorem con_strRepeat : ConOk Tryz.prog 65 c_strRepeat := strRepeat_ok Tryz.call65 Tryz.strings_Repeat
noncomputable def c_copyCheck : Con := conCC 125
theorem con_copyCheck : ConOk Tryz.prog 110 c_copyCheck := conCC_ok Tryz.call110 (fun b w h => Any.Builder_copyCheck_used { Tryz.lays156 with } Tryz.Builder_Extra_156.toX72 b w h) (fun b w h0 h1 h2 => Any.Builder_copyCheck_fresh { Tryz.lays156 with } Tryz.Builder_Extra_156.toX72 b w h0 h1 h2)
noncomputable def c_strJoin : Con := conV true [.sl .str, .str] [.str] fun x => strJoin x.1.1 x.1.2 x.2.1
theorem con_strJoin : ConOk Tryz.prog 141 c_strJoin := strJoin_ok Tryz.call141 Tryz.strings_Join_none Tryz.strings_Join
end Go.Proofs.YtccbdhpcblfopaaGreat
