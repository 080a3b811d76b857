/-
  The functions of a package are the plain ones.
-/
import Derived.Test.YtejjdkhjdcjbbaaEqA
import Derived.Test.YtejjdkhjdcjbbaaPwire
set_option linter.unusedVariables false
set_option linter.unusedSimpArgs false
set_option maxRecDepth 100000
set_option maxHeartbeats 0
namespace Go.Pl
end Go.Pl
open Go Go.Den Go.Pl
namespace Go.Proofs.Ytejjdkhjdcjbbaa
noncomputable def c05_ : Con := conV true [.str] [.bool] fun x => wire_Key x.1
noncomputable def x05_ : Cx := { ti := ti, con := [], fns := [], un := 6 }
theorem xok05_ : CxOk Try.prog x05_ := CxOk.of mixed ti_ok fz fz
theorem fn05_ : FnOk Try.prog 40 Try.f40 [] := ⟨Try.func40, Try.call40, lps_nil⟩
theorem e05_ (s : ByteArray) : bodyK x05_ [] (denF x05_ 8) Try.f40 (domV [.str] (s, ())) [] 0 (kOut [.bool]) = wire_Key' s := by kernel_rfl
theorem con05_ : ConOk Try.prog 40 c05_ := con_ok xok05_ 8 fn05_ true [.str] [.bool] _ (by decide) (fun x => by rw [wire_Key_eq]; exact e05_ x.1)
end Go.Proofs.Ytejjdkhjdcjbbaa
