/-
  The functions of a package are the plain ones.
-/
import Derived.Test.YtidodcilgldjoaaGreatEqA
import Derived.Test.YtidodcilgldjoaaGreatLib
import Derived.Test.YtidodcilgldjoaaGreatDenF
import Derived.Test.YtidodcilgldjoaaGreatPstrings
set_option linter.unusedVariables false
set_option linter.unusedSimpArgs false
set_option maxRecDepth 100000
set_option maxHeartbeats 0
namespace Go.Pl
end Go.Pl
open Go Go.Den Go.Pl
namespace Go.Proofs.YtidodcilgldjoaaGreat
abbrev a2q:Shape:= { sl:=[(0,(.c ⟨(.ptr (.pair (.sp 82) (.sl (.int .u8)))),(.rf 0 [.L])⟩)),(pv 1 (.int .u8))],ob:=[(0,(.p (.p (.v (.sp 82)) (.w 5 (.int .u8) 1)) (.v .bool)))],lo:=1,nx:=2 }
abbrev afb:List Shape:=[{ sl:=[(pv 0 (.sp 0))],ob:=[(0,(.p (.p (.v (.sp 82)) (.w 5 (.int .u8) 4)) (.v .bool)))],lo:=4,nx:=5 }]
noncomputable def akN:Con:=nM a2q afb fun x=>fQ x.1.2.1 x.2.1.1.1 x.2.1.1.2.1 x.2.1.1.2.2 x.2.1.2
noncomputable def afc:Cx:= { ti:=ti,con:=[(122,wG)],fns:=[],un:=6 }
theorem afd:ay Tryz.prog afc:=ay.of mixed aK (fc ⟨vS,fz⟩) fz
theorem akO:aY Tryz.prog 72 Tryz.f72 []:=⟨Tryz.func72,Tryz.call72,ah⟩
theorem apd(c)(b)(nb)(b1)(b2):bodyK afc [] (denF afc 8) Tryz.f72 ((bY a2q.sl (show a2q.X from(((),(c,())),(((b,(nb,b1)),b2),()))).1).map .v) (mK a2q (((),(c,())),(((b,(nb,b1)),b2),()))) a2q.nx (iy 1 afb)=fB c b nb b1 b2:=by kernel_rfl
theorem afe:aD Tryz.prog 72 akN:=cO afd 8 akO 1 a2q afb _ (by decide) (fun x=>by rw[lW]; exact apd x.1.2.1 x.2.1.1.1 x.2.1.1.2.1 x.2.1.1.2.2 x.2.1.2)
abbrev a2r:Shape:= { sl:=[(0,(.c ⟨(.ptr (.pair (.sp 82) (.sl (.int .u8)))),(.rf 0 [.L])⟩)),(1,(.v .str))],ob:=[(0,(.p (.p (.v (.sp 82)) (.w 5 (.int .u8) 1)) (.v .bool)))],lo:=1,nx:=2 }
abbrev aff:List Shape:=[{ sl:=[(pv 0 tI),(pv 1 (.sp 0))],ob:=[(0,(.p (.p (.v (.sp 82)) (.w 5 (.int .u8) 3)) (.v .bool)))],lo:=3,nx:=4 }]
noncomputable def akP:Con:=nM a2r aff fun x=>eX x.1.2.1 x.2.1.1.1 x.2.1.1.2.1 x.2.1.1.2.2 x.2.1.2
noncomputable def afg:Cx:= { ti:=ti,con:=[(122,wG)],fns:=[],un:=6 }
theorem afh:ay Tryz.prog afg:=ay.of mixed aK (fc ⟨vS,fz⟩) fz
theorem akQ:aY Tryz.prog 123 Tryz.f123 []:=⟨Tryz.func123,Tryz.call123,ah⟩
theorem ape(s)(b)(nb)(b1)(b2):bodyK afg [] (denF afg 8) Tryz.f123 ((bY a2r.sl (show a2r.X from(((),(s,())),(((b,(nb,b1)),b2),()))).1).map .v) (mK a2r (((),(s,())),(((b,(nb,b1)),b2),()))) a2r.nx (iy 2 aff)=eH s b nb b1 b2:=by kernel_rfl
theorem afi:aD Tryz.prog 123 akP:=cO afh 8 akQ 2 a2r aff _ (by decide) (fun x=>by rw[jZ]; exact ape x.1.2.1 x.2.1.1.1 x.2.1.1.2.1 x.2.1.1.2.2 x.2.1.2)
end Go.Proofs.YtidodcilgldjoaaGreat
