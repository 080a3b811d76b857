/-
  The functions of a package are the plain ones.
-/
import Derived.Test.YtidodcilgldjoaaGreatEqA
import Derived.Test.YtidodcilgldjoaaGreatDenM
import Derived.Test.YtidodcilgldjoaaGreatLib
import Derived.Test.YtidodcilgldjoaaGreatPmatrix
set_option linter.unusedVariables false
set_option linter.unusedSimpArgs false
set_option maxRecDepth 100000
set_option maxHeartbeats 0
namespace Go.Pl
end Go.Pl
open Go Go.Den Go.Pl
namespace Go.Proofs.YtidodcilgldjoaaGreat
abbrev FW:Shape:= { sl:=[(0,(.sz (.sl tN))),(1,(.c ⟨.fn,(.mk 186 [((.sl (.sl tN)),0,[])])⟩)),(pv 7 tI),(pv 8 tI)],ob:=[(0,(.sz (.sl tN)))],lo:=1,nx:=1 }
abbrev QX:List Ex:=[(.ret, { sl:=[(pv 4 tI)],ob:=[(0,(.sz (.sl tN)))],lo:=1,nx:=1 }),(.normal, { sl:=[],ob:=[(0,(.sz (.sl tN)))],lo:=1,nx:=1 })]
noncomputable def XC:Code:=aQ (aO Tryz.f190) 0
noncomputable def XD:Lp:=cB FW QX 19 bO
noncomputable def af6:Con:=bG true [(.sl (.sl tN))] [.bool] fun x=>wJ x.1.1 x.1.2
noncomputable def af7:Cx:= { ti:=ti,con:=[],fns:=[(178,Tryz.f178,[]),(190,Tryz.f190,[(0,XD)]),(186,Tryz.f186,[])],un:=6 }
noncomputable def rJ:Cx:= { ti:=ti,con:=[],fns:=[(178,Tryz.f178,[]),(186,Tryz.f186,[])],un:=6 }
theorem FX:ay Tryz.prog rJ:=ay.of mixed aK fz (fc ⟨⟨Tryz.func178,Tryz.call178,ah⟩,fc ⟨⟨Tryz.func186,Tryz.call186,ah⟩,fz⟩⟩)
theorem a6t(x:FW.X):bJ rJ [] (denF rJ 8) XC (FW.mkS 19 x) (aL 0 FW QX)=bO x:=by kernel_rfl
theorem a6u:bF Tryz.prog 0 (.loop XC) XD:=aC FX 8 (ah) FW QX 19 bO (by decide) a6t
theorem af8:ay Tryz.prog af7:=ay.of mixed aK fz (fc ⟨⟨Tryz.func178,Tryz.call178,ah⟩,fc ⟨⟨Tryz.func190,Tryz.call190,aU (by kernel_rfl) (aB a6u (by kernel_rfl) fz)⟩,fc ⟨⟨Tryz.func186,Tryz.call186,ah⟩,fz⟩⟩⟩)
theorem akD:aY Tryz.prog 163 Tryz.f163 []:=⟨Tryz.func163,Tryz.call163,ah⟩
theorem apa(nm)(m):bodyK af7 [] (denF af7 8) Tryz.f163 (domV [(.sl (.sl tN))] ((nm,m),())) [] 0 (bT [.bool])=yM nm m:=by kernel_rfl
theorem a6v:aD Tryz.prog 163 af6:=aN af8 8 akD true [(.sl (.sl tN))] [.bool] _ (by decide) (fun x=>by rw[FU]; exact apa x.1.1 x.1.2)
abbrev XE:Shape:= { sl:=[(0,(.v .str)),(4,(.v .str)),(5,(.w 65 (.sl tN) 1)),(6,(.w 42 tN 2)),(pv 26 (.int .u8)),(pv 27 (.int .u8)),(pv 30 (.int .u8)),(pv 31 (.int .u8))],ob:=[],lo:=1,nx:=3 }
abbrev a6w:List Ex:=[(.ret, { sl:=[(2,(.sz (.sl tN))),(pv 3 tI)],ob:=[],lo:=4,nx:=4 }),(.normal, { sl:=[(0,(.v .str)),(4,(.v .str)),(5,(.w 65 (.sl tN) 3)),(6,(.w 42 tN 4)),(pv 26 (.int .u8)),(pv 27 (.int .u8))],ob:=[],lo:=3,nx:=5 })]
noncomputable def abq:Code:=aQ (aO Tryz.f130) 2
noncomputable def a1g:Lp:=cB XE a6w 77 d9
abbrev XF:Shape:= { sl:=[(0,(.v .str)),(4,(.v .str)),(5,(.w 65 (.sl tN) 0)),(pv 26 (.int .u8)),(pv 27 (.int .u8))],ob:=[],lo:=0,nx:=1 }
abbrev a6x:List Ex:=[(.ret, { sl:=[(2,(.sz (.sl tN))),(pv 3 tI)],ob:=[],lo:=4,nx:=4 }),(.normal, { sl:=[(4,(.v .str)),(5,(.w 65 (.sl tN) 1))],ob:=[],lo:=1,nx:=2 })]
noncomputable def abr:Code:=aQ (aO Tryz.f130) 0
noncomputable def a6y:Lp:=cB XF a6x 77 eB
noncomputable def af9:Con:=bG false [.str] [(.sl (.sl tN)),tI] fun x=>Ba x.1
noncomputable def a0g:Cx:= { ti:=ti,con:=[(132,aa6),(163,af6)],fns:=[],un:=6 }
theorem a0h:ay Tryz.prog a0g:=ay.of mixed aK (fc ⟨a03,fc ⟨a6v,fz⟩⟩) fz
theorem akE(x:XE.X):bJ a0g [] (denF a0g 8) abq (XE.mkS 77 x) (aL 2 XE a6w)=d9 x:=by kernel_rfl
theorem abt:bF Tryz.prog 2 (.loop abq) a1g:=aC a0h 8 (ah) XE a6w 77 d9 (by decide) akE
theorem akF(x:XF.X):bJ a0g [(2,(ZX 6 a1g))] (denF a0g 8) abr (XF.mkS 77 x) (aL 0 XF a6x)=eB x:=by kernel_rfl
theorem akG:bF Tryz.prog 0 (.loop abr) a6y:=aC a0h 8 (aU (by kernel_rfl) (aB (Pm 6 abt) (by kernel_rfl) fz)) XF a6x 77 eB (by decide) akF
theorem akH:aY Tryz.prog 130 Tryz.f130 [(2,(ZX 6 a1g)),(0,a6y)]:=⟨Tryz.func130,Tryz.call130,aU (by kernel_rfl) (aB (Pm 6 abt) (by kernel_rfl) (aB akG (by kernel_rfl) fz))⟩
theorem apb(s):bodyK a0g [(2,(ZX 6 a1g)),(0,a6y)] (denF a0g 8) Tryz.f130 (domV [.str] (s,())) [] 0 (bT [(.sl (.sl tN)),tI])=yN s:=by kernel_rfl
theorem a6z:aD Tryz.prog 130 af9:=aN a0h 8 akH false [.str] [(.sl (.sl tN)),tI] _ (by decide) (fun x=>by rw[FV]; exact apb x.1)
abbrev XG:Shape:= { sl:=[(pc 3 (.pair (.sp 82) (.sl (.int .u8))) 0),(22,(.sz (.sl tN))),(pv 23 tI),(pv 24 tI),(28,(.sz tN)),(pv 29 tI),(pv 30 tI)],ob:=[(0,(.p (.v (.sp 82)) (.w 5 (.int .u8) 6)))],lo:=6,nx:=7 }
abbrev a6A:List Ex:=[(.normal, { sl:=[(pc 3 (.pair (.sp 82) (.sl (.int .u8))) 0),(22,(.sz (.sl tN))),(pv 23 tI),(pv 24 tI)],ob:=[(0,(.p (.v (.sp 82)) (.w 5 (.int .u8) 7)))],lo:=7,nx:=8 })]
noncomputable def abu:Code:=aQ (aO Tryz.f124) 2
noncomputable def a1h:Lp:=cB XG a6A 45 fM
abbrev XH:Shape:= { sl:=[(pc 3 (.pair (.sp 82) (.sl (.int .u8))) 0),(22,(.sz (.sl tN))),(pv 23 tI),(pv 24 tI)],ob:=[(0,(.p (.v (.sp 82)) (.w 5 (.int .u8) 5)))],lo:=5,nx:=6 }
abbrev a6B:List Ex:=[(.normal, { sl:=[(pc 3 (.pair (.sp 82) (.sl (.int .u8))) 0)],ob:=[(0,(.p (.v (.sp 82)) (.w 5 (.int .u8) 6)))],lo:=6,nx:=7 })]
noncomputable def abv:Code:=aQ (aO Tryz.f124) 0
noncomputable def a6C:Lp:=cB XH a6B 45 fO
noncomputable def akI:Con:=bG true [(.sl (.sl tN))] [.str] fun x=>yO x.1.1 x.1.2
noncomputable def a0i:Cx:= { ti:=ti,con:=[(163,af6),(122,wG),(126,ady)],fns:=[(72,Tryz.f72,[]),(123,Tryz.f123,[]),(27,Tryz.f27,[])],un:=6 }
theorem a0j:ay Tryz.prog a0i:=ay.of mixed aK (fc ⟨a6v,fc ⟨vS,fc ⟨a4F,fz⟩⟩⟩) (fc ⟨⟨Tryz.func72,Tryz.call72,ah⟩,fc ⟨⟨Tryz.func123,Tryz.call123,ah⟩,fc ⟨⟨Tryz.func27,Tryz.call27,ah⟩,fz⟩⟩⟩)
theorem akJ(x:XG.X):bJ a0i [] (denF a0i 8) abu (XG.mkS 45 x) (aL 2 XG a6A)=fM x:=by kernel_rfl
theorem abw:bF Tryz.prog 2 (.loop abu) a1h:=aC a0j 8 (ah) XG a6A 45 fM (by decide) akJ
theorem akK(x:XH.X):bJ a0i [(2,a1h)] (denF a0i 8) abv (XH.mkS 45 x) (aL 0 XH a6B)=fO x:=by kernel_rfl
theorem akL:bF Tryz.prog 0 (.loop abv) a6C:=aC a0j 8 (aU (by kernel_rfl) (aB abw (by kernel_rfl) fz)) XH a6B 45 fO (by decide) akK
theorem akM:aY Tryz.prog 124 Tryz.f124 [(2,a1h),(0,a6C)]:=⟨Tryz.func124,Tryz.call124,aU (by kernel_rfl) (aB abw (by kernel_rfl) (aB akL (by kernel_rfl) fz))⟩
theorem apc(nm)(m):bodyK a0i [(2,a1h),(0,a6C)] (denF a0i 8) Tryz.f124 (domV [(.sl (.sl tN))] ((nm,m),())) [] 0 (bT [.str])=vW nm m:=by kernel_rfl
theorem afa:aD Tryz.prog 124 akI:=aN a0j 8 akM true [(.sl (.sl tN))] [.str] _ (by decide) (fun x=>by rw[EN]; exact apc x.1.1 x.1.2)
end Go.Proofs.YtidodcilgldjoaaGreat
