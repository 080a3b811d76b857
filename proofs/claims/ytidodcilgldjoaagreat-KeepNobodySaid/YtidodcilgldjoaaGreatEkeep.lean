/-
  The functions of a package are the plain ones.
-/
import Derived.Test.YtidodcilgldjoaaGreatEqA
import Derived.Test.YtidodcilgldjoaaGreatDenM
import Derived.Test.YtidodcilgldjoaaGreatPkeep
import Derived.Test.YtidodcilgldjoaaGreatEsha
set_option linter.unusedVariables false
set_option linter.unusedSimpArgs false
set_option maxRecDepth 100000
set_option maxHeartbeats 0
namespace Go.Pl
end Go.Pl
open Go Go.Den Go.Pl
namespace Go.Proofs.YtidodcilgldjoaaGreat
noncomputable def c1c_ : Con := conV false [.str] [(.pair tI (.pair tI (.pair tI (.pair (.sl tI) (.sl (.pair .str (.pair (.pair (.pair tI tI) (.pair .str (.pair (.sl (.sl tN)) (.pair (.sl tN) tI)))) (.pair (.sl (.pair tI (.pair (.pair tI tI) .str))) (.pair (.sl (.pair tI (.pair (.pair tI tI) .str))) (.sl (.pair (.pair (.pair tI tI) (.pair .str (.pair (.sl (.sl tN)) (.pair (.sl tN) tI)))) (.pair (.pair (.pair tI tI) (.pair .str (.pair (.sl (.sl tN)) (.pair (.sl tN) tI)))) (.pair (.pair (.pair tI tI) (.pair .str (.pair (.sl (.sl tN)) (.pair (.sl tN) tI)))) (.pair tI tI)))))))))))))), tI] fun x => keep_Take x.1
theorem con1c_ : ConOk Tryz.prog 10 c1c_ := conV_none (fun x => by rw [keep_Take_eq]; rfl)
noncomputable def c1d_ : Con := conV false [.str] [(.pair tI (.pair tI (.pair tI (.pair (.sl tI) (.sl (.pair .str (.pair (.pair (.pair tI tI) (.pair .str (.pair (.sl (.sl tN)) (.pair (.sl tN) tI)))) (.pair (.sl (.pair tI (.pair (.pair tI tI) .str))) (.pair (.sl (.pair tI (.pair (.pair tI tI) .str))) (.sl (.pair (.pair (.pair tI tI) (.pair .str (.pair (.sl (.sl tN)) (.pair (.sl tN) tI)))) (.pair (.pair (.pair tI tI) (.pair .str (.pair (.sl (.sl tN)) (.pair (.sl tN) tI)))) (.pair (.pair (.pair tI tI) (.pair .str (.pair (.sl (.sl tN)) (.pair (.sl tN) tI)))) (.pair tI tI)))))))))))))), tI] fun x => keep_Open x.1
noncomputable def x1d_ : Cx := { ti := ti, con := [(42, c1b_), (10, c1c_)], fns := [], un := 6 }
theorem xok1d_ : CxOk Tryz.prog x1d_ := CxOk.of mixed ti_ok (fc ⟨con1b_, fc ⟨con1c_, fz⟩⟩) fz
theorem fn1d_ : FnOk Tryz.prog 13 Tryz.f13 [] := ⟨Tryz.func13, Tryz.call13, lps_nil⟩
theorem e1d_ (s : ByteArray) : bodyK x1d_ [] (denF x1d_ 8) Tryz.f13 (domV [.str] (s, ())) [] 0 (kOut [(.pair tI (.pair tI (.pair tI (.pair (.sl tI) (.sl (.pair .str (.pair (.pair (.pair tI tI) (.pair .str (.pair (.sl (.sl tN)) (.pair (.sl tN) tI)))) (.pair (.sl (.pair tI (.pair (.pair tI tI) .str))) (.pair (.sl (.pair tI (.pair (.pair tI tI) .str))) (.sl (.pair (.pair (.pair tI tI) (.pair .str (.pair (.sl (.sl tN)) (.pair (.sl tN) tI)))) (.pair (.pair (.pair tI tI) (.pair .str (.pair (.sl (.sl tN)) (.pair (.sl tN) tI)))) (.pair (.pair (.pair tI tI) (.pair .str (.pair (.sl (.sl tN)) (.pair (.sl tN) tI)))) (.pair tI tI)))))))))))))), tI]) = keep_Open' s := by kernel_rfl
theorem con1d_ : ConOk Tryz.prog 13 c1d_ := con_ok xok1d_ 8 fn1d_ false [.str] [(.pair tI (.pair tI (.pair tI (.pair (.sl tI) (.sl (.pair .str (.pair (.pair (.pair tI tI) (.pair .str (.pair (.sl (.sl tN)) (.pair (.sl tN) tI)))) (.pair (.sl (.pair tI (.pair (.pair tI tI) .str))) (.pair (.sl (.pair tI (.pair (.pair tI tI) .str))) (.sl (.pair (.pair (.pair tI tI) (.pair .str (.pair (.sl (.sl tN)) (.pair (.sl tN) tI)))) (.pair (.pair (.pair tI tI) (.pair .str (.pair (.sl (.sl tN)) (.pair (.sl tN) tI)))) (.pair (.pair (.pair tI tI) (.pair .str (.pair (.sl (.sl tN)) (.pair (.sl tN) tI)))) (.pair tI tI)))))))))))))), tI] _ (by decide) (fun x => by rw [keep_Open_eq]; exact e1d_ x.1)
end Go.Proofs.YtidodcilgldjoaaGreat
