/-
  The functions of more packages are the plain ones.
-/
import Derived.Test.YtldlihheppdhnaaGreatEqA
import Derived.Test.YtldlihheppdhnaaGreatPlB
import Derived.Test.YtldlihheppdhnaaGreatDenM
import Derived.Test.YtldlihheppdhnaaGreatDenF
import Derived.Test.YtldlihheppdhnaaGreatLib
import Derived.Test.YtldlihheppdhnaaGreatDenK
set_option linter.unusedVariables false
set_option linter.unusedSimpArgs false
set_option maxRecDepth 100000
set_option maxHeartbeats 0
namespace Go.Pl
end Go.Pl
open Go Go.Den Go.Pl
namespace Go.Proofs.YtldlihheppdhnaaGreat
noncomputable section
abbrev apn:Shape:= { sl:=[(0,(.v .str)),(3,(.w 5 (.int .u8) 3))],ob:=[],lo:=3,nx:=4 }
abbrev apo:List Ex:=[(.normal, { sl:=[(0,(.v .str)),(3,(.w 5 (.int .u8) 4))],ob:=[],lo:=4,nx:=5 })]
def apq:Code:=aW (aU Tryz.f124) 0
def adu:Lp:=dA apn apo 32 kU
abbrev apr:Shape:= { sl:=[(0,(.v .str)),(3,(.w 5 (.int .u8) 5)),(pv 4 tI)],ob:=[],lo:=5,nx:=6 }
abbrev aps:List Ex:=[(.normal, { sl:=[(3,(.w 5 (.int .u8) 6))],ob:=[],lo:=6,nx:=7 })]
def apt:Code:=aW (aU Tryz.f124) 2
def adv:Lp:=dA apr aps 32 kV
def apu:Con:=aP false [.str] [(.sl (.int .u8))] λx=>EJ x.1
def avw:Cx:=cx [] []
theorem a4e:au Tryz.prog avw:=au.of mixed aA fz fz
theorem apv:bV Tryz.prog 0 (.loop apq) adu:=aK a4e 8 (ah) _ _ _ _ (by decide) λ_=>by kernel_rfl
theorem apw:bV Tryz.prog 2 (.loop apt) adv:=aK a4e 8 (ah) _ _ _ _ (by decide) λ_=>by kernel_rfl
theorem apx:fE Tryz.prog 124 Tryz.f124 [(0,adu),(2,adv)]:=⟨Tryz.func124,Tryz.call124,bB (by kernel_rfl) (aJ apv (by kernel_rfl) (aJ apw (by kernel_rfl) fz))⟩
theorem agR:av Tryz.prog 124 apu:=ay a4e 8 apx _ _ _ _ (by decide) (λx=>by rw[KD];kernel_rfl)
def apy:Con:=aP true [] [(.arr 8 tI)] λx=>JD
def avx:Cx:=cx [] []
theorem agS:au Tryz.prog avx:=au.of mixed aA fz fz
theorem agT:av Tryz.prog 125 apy:=ay agS 8 ⟨Tryz.func125,Tryz.call125,ah⟩ _ _ _ _ (by decide) (λx=>by rw[O4];kernel_rfl)
def agU:Con:=aP true [tI,tI] [tI] λx=>jL x.1 x.2.1
def avy:Cx:=cx [] []
theorem agV:au Tryz.prog avy:=au.of mixed aA fz fz
theorem a9s:av Tryz.prog 173 agU:=ay agV 8 ⟨Tryz.func173,Tryz.call173,ah⟩ _ _ _ _ (by decide) (λx=>by rw[Rw];kernel_rfl)
abbrev apz:Shape:= { sl:=[(0,(.sz (.int .u8))),(pc 2 (.arr 64 tI) 0),(pc 3 (.arr 64 tI) 1),(pv 4 tI)],ob:=[(pv 0 (.arr 64 tI)),(pv 1 (.arr 64 tI))],lo:=2,nx:=2 }
abbrev apA:List Ex:=[(.normal, { sl:=[(pc 2 (.arr 64 tI) 0),(pc 3 (.arr 64 tI) 1)],ob:=[(pv 0 (.arr 64 tI)),(pv 1 (.arr 64 tI))],lo:=2,nx:=2 })]
def apB:Code:=aW (aU Tryz.f171) 0
def adw:Lp:=dA apz apA 95 gX
abbrev apC:Shape:= { sl:=[(pc 2 (.arr 64 tI) 0),(pc 3 (.arr 64 tI) 1),(pv 5 tI)],ob:=[(pv 0 (.arr 64 tI)),(pv 1 (.arr 64 tI))],lo:=2,nx:=2 }
abbrev apD:List Ex:=[(.normal, { sl:=[(pc 2 (.arr 64 tI) 0),(pc 3 (.arr 64 tI) 1)],ob:=[(pv 0 (.arr 64 tI)),(pv 1 (.arr 64 tI))],lo:=2,nx:=2 })]
def apE:Code:=aW (aU Tryz.f171) 2
def adx:Lp:=dA apC apD 95 gZ
def apF:Con:=aP true [(.sl (.int .u8))] [(.arr 64 tI)] λx=>zC x.1.1 x.1.2
def avz:Cx:=cx [(173,agU)] []
theorem a4f:au Tryz.prog avz:=au.of mixed aA (fc ⟨a9s,fz⟩) fz
theorem apG:bV Tryz.prog 0 (.loop apB) adw:=aK a4f 8 (ah) _ _ _ _ (by decide) λ_=>by kernel_rfl
theorem apH:bV Tryz.prog 2 (.loop apE) adx:=aK a4f 8 (ah) _ _ _ _ (by decide) λ_=>by kernel_rfl
theorem apI:fE Tryz.prog 171 Tryz.f171 [(0,adw),(2,adx)]:=⟨Tryz.func171,Tryz.call171,bB (by kernel_rfl) (aJ apG (by kernel_rfl) (aJ apH (by kernel_rfl) fz))⟩
theorem agW:av Tryz.prog 171 apF:=ay a4f 8 apI _ _ _ _ (by decide) (λx=>by rw[FK];kernel_rfl)
def apJ:Con:=aP true [] [(.arr 64 tI)] λx=>xg
def avA:Cx:=cx [] []
theorem agX:au Tryz.prog avA:=au.of mixed aA fz fz
theorem agY:av Tryz.prog 172 apJ:=ay agX 8 ⟨Tryz.func172,Tryz.call172,ah⟩ _ _ _ _ (by decide) (λx=>by rw[Dv];kernel_rfl)
abbrev apK:Shape:= { sl:=[(pc 2 (.arr 8 tI) 0),(pc 4 (.arr 8 tI) 1),(pc 5 (.arr 64 tI) 2),(pc 6 (.arr 64 tI) 3),(pc 7 (.arr 8 tI) 4),(pv 8 tI)],ob:=[(pv 0 (.arr 8 tI)),(pv 1 (.arr 8 tI)),(pv 2 (.arr 64 tI)),(pv 3 (.arr 64 tI)),(pv 4 (.arr 8 tI))],lo:=5,nx:=5 }
abbrev apL:List Ex:=[(.normal, { sl:=[(pc 2 (.arr 8 tI) 0),(pc 4 (.arr 8 tI) 1),(pc 7 (.arr 8 tI) 4)],ob:=[(pv 0 (.arr 8 tI)),(pv 1 (.arr 8 tI)),(pv 4 (.arr 8 tI))],lo:=5,nx:=5 })]
def apM:Code:=aW (aU Tryz.f126) 0
def ady:Lp:=dA apK apL 129 kg
abbrev apN:Shape:= { sl:=[(pc 2 (.arr 8 tI) 0),(pc 4 (.arr 8 tI) 1),(pc 7 (.arr 8 tI) 4),(pc 14 (.arr 8 tI) 5),(pv 15 tI)],ob:=[(pv 0 (.arr 8 tI)),(pv 1 (.arr 8 tI)),(pv 4 (.arr 8 tI)),(pv 5 (.arr 8 tI))],lo:=6,nx:=6 }
abbrev apO:List Ex:=[(.normal, { sl:=[(pc 4 (.arr 8 tI) 1),(pc 14 (.arr 8 tI) 5)],ob:=[(pv 1 (.arr 8 tI)),(pv 5 (.arr 8 tI))],lo:=6,nx:=6 })]
def apP:Code:=aW (aU Tryz.f126) 2
def adz:Lp:=dA apN apO 129 mR
def apQ:Con:=aP true [(.arr 8 tI),(.sl (.int .u8))] [(.arr 8 tI)] λx=>JE x.1 x.2.1.1 x.2.1.2
def avB:Cx:=cx [(171,apF),(172,apJ),(173,agU)] []
theorem a4g:au Tryz.prog avB:=au.of mixed aA (fc ⟨agW,fc ⟨agY,fc ⟨a9s,fz⟩⟩⟩) fz
theorem apR:bV Tryz.prog 0 (.loop apM) ady:=aK a4g 8 (ah) _ _ _ _ (by decide) λ_=>by kernel_rfl
theorem apS:bV Tryz.prog 2 (.loop apP) adz:=aK a4g 8 (ah) _ _ _ _ (by decide) λ_=>by kernel_rfl
theorem apT:fE Tryz.prog 126 Tryz.f126 [(0,ady),(2,adz)]:=⟨Tryz.func126,Tryz.call126,bB (by kernel_rfl) (aJ apR (by kernel_rfl) (aJ apS (by kernel_rfl) fz))⟩
theorem agZ:av Tryz.prog 126 apQ:=ay a4g 8 apT _ _ _ _ (by decide) (λx=>by rw[O5];kernel_rfl)
abbrev apU:Shape:= { sl:=[(3,(.sz (.int .u8))),(pc 4 (.arr 8 tI) 0),(pv 5 tI)],ob:=[(pv 0 (.arr 8 tI))],lo:=1,nx:=1 }
abbrev apV:List Ex:=[(.normal, { sl:=[(pc 4 (.arr 8 tI) 0)],ob:=[(pv 0 (.arr 8 tI))],lo:=1,nx:=1 })]
def apW:Code:=aW (aU Tryz.f73) 0
def adA:Lp:=dA apU apV 46 tu
abbrev apX:Shape:= { sl:=[(pc 4 (.arr 8 tI) 0),(6,(.w 5 (.int .u8) 1)),(pv 7 tI)],ob:=[(pv 0 (.arr 8 tI))],lo:=1,nx:=2 }
abbrev apY:List Ex:=[(.normal, { sl:=[(6,(.w 5 (.int .u8) 2))],ob:=[],lo:=2,nx:=3 })]
def apZ:Code:=aW (aU Tryz.f73) 2
def adB:Lp:=dA apX apY 46 tF
def aq0:Con:=aP true [.str] [.str] λx=>O6 x.1
def avC:Cx:=cx [(124,apu),(125,apy),(126,apQ)] []
theorem a4h:au Tryz.prog avC:=au.of mixed aA (fc ⟨agR,fc ⟨agT,fc ⟨agZ,fz⟩⟩⟩) fz
theorem aq1:bV Tryz.prog 0 (.loop apW) adA:=aK a4h 8 (ah) _ _ _ _ (by decide) λ_=>by kernel_rfl
theorem aq2:bV Tryz.prog 2 (.loop apZ) adB:=aK a4h 8 (ah) _ _ _ _ (by decide) λ_=>by kernel_rfl
theorem aq3:fE Tryz.prog 73 Tryz.f73 [(0,adA),(2,adB)]:=⟨Tryz.func73,Tryz.call73,bB (by kernel_rfl) (aJ aq1 (by kernel_rfl) (aJ aq2 (by kernel_rfl) fz))⟩
theorem ah0:av Tryz.prog 73 aq0:=ay a4h 8 aq3 _ _ _ _ (by decide) (λx=>by rw[Vm];kernel_rfl)
end
end Go.Proofs.YtldlihheppdhnaaGreat
namespace Go.Proofs.YtldlihheppdhnaaGreat
noncomputable section
abbrev aq4:Shape:= { sl:=[(0,(.sz tI)),(pv 1 tI),(pv 2 tI),(pv 7 tI),(pv 8 tI),(pv 9 tI)],ob:=[],lo:=0,nx:=0 }
abbrev aq5:List Ex:=[(.normal, { sl:=[(pv 7 tI)],ob:=[],lo:=0,nx:=0 })]
def aq6:Code:=aW (aU Tryz.f123) 0
def adC:Lp:=dA aq4 aq5 31 pI
def aq7:Con:=aP true [(.sl tI),tI,tI] [tI] λx=>bn x.1.1 x.1.2 x.2.1 x.2.2.1
def avD:Cx:=cx [(170,apg),(169,aph)] []
theorem a9t:au Tryz.prog avD:=au.of mixed aA (fc ⟨agv,fc ⟨agx,fz⟩⟩) fz
theorem aq8:bV Tryz.prog 0 (.loop aq6) adC:=aK a9t 8 (ah) _ _ _ _ (by decide) λ_=>by kernel_rfl
theorem aq9:fE Tryz.prog 123 Tryz.f123 [(0,adC)]:=⟨Tryz.func123,Tryz.call123,bB (by kernel_rfl) (aJ aq8 (by kernel_rfl) fz)⟩
theorem ah1:av Tryz.prog 123 aq7:=ay a9t 8 aq9 _ _ _ _ (by decide) (λx=>by rw[Rz];kernel_rfl)
end
end Go.Proofs.YtldlihheppdhnaaGreat
namespace Go.Proofs.YtldlihheppdhnaaGreat
noncomputable section
abbrev aqa:Shape:= { sl:=[(1,(.sz tI)),(pv 2 tI),(pc 3 (.pair tI (.pair tI tI)) 0),(7,(.w 75 tN 1)),(pv 8 tI)],ob:=[(pv 0 (.pair tI (.pair tI tI)))],lo:=1,nx:=2 }
abbrev aqb:List Ex:=[(.normal, { sl:=[(7,(.w 75 tN 2))],ob:=[],lo:=2,nx:=3 })]
def aqc:Code:=aW (aU Tryz.f122) 0
def adD:Lp:=dA aqa aqb 34 wo
def aqd:Con:=aP false [(.pair tI (.pair tI tI)),(.sl tI),tI] [(.sl tN)] λx=>qh x.1 x.2.1.1 x.2.1.2 x.2.2.1
def avE:Cx:=cx [(71,a6K),(168,aox)] []
theorem a9u:au Tryz.prog avE:=au.of mixed aA (fc ⟨Ve,fc ⟨agh,fz⟩⟩) fz
theorem aqe:bV Tryz.prog 0 (.loop aqc) adD:=aK a9u 8 (ah) _ _ _ _ (by decide) λ_=>by kernel_rfl
theorem aqf:fE Tryz.prog 122 Tryz.f122 [(0,adD)]:=⟨Tryz.func122,Tryz.call122,bB (by kernel_rfl) (aJ aqe (by kernel_rfl) fz)⟩
theorem ah2:av Tryz.prog 122 aqd:=ay a9u 8 aqf _ _ _ _ (by decide) (λx=>by rw[Yu];kernel_rfl)
end
end Go.Proofs.YtldlihheppdhnaaGreat
namespace Go.Proofs.YtldlihheppdhnaaGreat
noncomputable section
abbrev aqg:Shape:= { sl:=[(0,(.sz tN)),(pv 1 tI),(pv 5 tI)],ob:=[],lo:=0,nx:=0 }
abbrev aqh:List Ex:=[(.ret, { sl:=[(4,(.v .bool))],ob:=[],lo:=0,nx:=0 }),(.normal, { sl:=[],ob:=[],lo:=0,nx:=0 })]
def aqi:Code:=aW (aU Tryz.f120) 0
def adE:Lp:=dA aqg aqh 20 wu
def aqj:Con:=aP true [(.sl tN),tI] [.bool] λx=>Am x.1.1 x.1.2 x.2.1
def avF:Cx:=cx [(71,a6K),(166,aob)] []
theorem a9v:au Tryz.prog avF:=au.of mixed aA (fc ⟨Ve,fc ⟨afU,fz⟩⟩) fz
theorem aqk:bV Tryz.prog 0 (.loop aqi) adE:=aK a9v 8 (ah) _ _ _ _ (by decide) λ_=>by kernel_rfl
theorem aql:fE Tryz.prog 120 Tryz.f120 [(0,adE)]:=⟨Tryz.func120,Tryz.call120,bB (by kernel_rfl) (aJ aqk (by kernel_rfl) fz)⟩
theorem ah3:av Tryz.prog 120 aqj:=ay a9v 8 aql _ _ _ _ (by decide) (λx=>by rw[Yv];kernel_rfl)
abbrev Gr:Shape:= { sl:=[(pv 0 (.pair tI (.pair tI tI))),(pv 1 tI),(2,(.sz tN)),(3,(.sz tN))],ob:=[],lo:=0,nx:=0 }
abbrev a6L:List Shape:=[{ sl:=[(0,(.sz (.sl tN))),(1,(.sz (.pair tI (.sl tN)))),(pv 2 tI)],ob:=[],lo:=400,nx:=400 }]
def aqm:Con:=lN Gr a6L λx=>EN x.1.1 x.1.2.1 x.1.2.2.1.1 x.1.2.2.1.2 x.1.2.2.2.1.1 x.1.2.2.2.1.2
def a03:Cx:= { ti:=ti,con:=[(120,aqj),(121,apd),(122,aqd),(123,aq7),(71,a6K)],fns:=[],un:=9 }
theorem ah4:au Tryz.prog a03:=au.of mixed aA (fc ⟨ah3,fc ⟨agt,fc ⟨ah2,fc ⟨ah1,fc ⟨Ve,fz⟩⟩⟩⟩⟩) fz
theorem aqn:fE Tryz.prog 72 Tryz.f72 []:=⟨Tryz.func72,Tryz.call72,ah⟩
theorem Sr(s)(numbers)(nrandom)(random):bX a03 [] (dZ a03 8) Tryz.f72 ((jD Gr.sl (show Gr.X from((s,(1,((1,numbers),((nrandom,random),())))),())).1).map .v) (Gj Gr ((s,(1,((1,numbers),((nrandom,random),())))),())) Gr.nx (Ns (a6H 1 [.R] 7) 3 a6L)=xk s numbers nrandom random:=by kernel_rfl
theorem Sw(s)(numbers)(nrandom)(random):bX a03 [] (dZ a03 8) Tryz.f72 ((jD Gr.sl (show Gr.X from((s,(1,((2,numbers),((nrandom,random),())))),())).1).map .v) (Gj Gr ((s,(1,((2,numbers),((nrandom,random),())))),())) Gr.nx (Ns (a6H 1 [.R] 7) 3 a6L)=xq s numbers nrandom random:=by kernel_rfl
theorem Sy(s)(numbers)(nrandom)(random):bX a03 [] (dZ a03 8) Tryz.f72 ((jD Gr.sl (show Gr.X from((s,(2,((1,numbers),((nrandom,random),())))),())).1).map .v) (Gj Gr ((s,(2,((1,numbers),((nrandom,random),())))),())) Gr.nx (Ns (a6H 1 [.R] 7) 3 a6L)=xu s numbers nrandom random:=by kernel_rfl
theorem Sz(s)(numbers)(nrandom)(random):bX a03 [] (dZ a03 8) Tryz.f72 ((jD Gr.sl (show Gr.X from((s,(2,((2,numbers),((nrandom,random),())))),())).1).map .v) (Gj Gr ((s,(2,((2,numbers),((nrandom,random),())))),())) Gr.nx (Ns (a6H 1 [.R] 7) 3 a6L)=xw s numbers nrandom random:=by kernel_rfl
theorem ah5:av Tryz.prog 72 aqm:=a5r (a6H 1 [.R] 7) ah4 8 aqn 3 Gr a6L _ (by decide) (by
  intro x y h;obtain⟨⟨v0,v1,⟨n2,f2⟩,⟨n3,f3⟩,_⟩,_⟩:=x;rw[KL]at h;rcases a5s h with⟨h1,h⟩|h
  · obtain⟨rfl,rfl⟩:=case2 h1;exact(Sr v0 f2 n3 f3).trans h
  rcases a5s h with⟨h1,h⟩|h
  · obtain⟨rfl,rfl⟩:=case2 h1;exact(Sw v0 f2 n3 f3).trans h
  rcases a5s h with⟨h1,h⟩|h
  · obtain⟨rfl,rfl⟩:=case2 h1;exact(Sy v0 f2 n3 f3).trans h
  rcases a5s h with⟨h1,h⟩|h
  · obtain⟨rfl,rfl⟩:=case2 h1;exact(Sz v0 f2 n3 f3).trans h
  cases h)
abbrev aqo:Shape:= { sl:=[(0,(.sz (.sl tN))),(pv 3 tI)],ob:=[],lo:=0,nx:=0 }
abbrev aqp:List Ex:=[(.ret, { sl:=[(2,(.v .bool))],ob:=[],lo:=0,nx:=0 }),(.normal, { sl:=[(0,(.sz (.sl tN)))],ob:=[],lo:=0,nx:=0 })]
def aqr:Code:=aW (aU Tryz.f127) 0
def adF:Lp:=dA aqo aqp 44 iW
def aqs:Con:=aP true [(.sl (.sl tN))] [.bool] λx=>O9 x.1.1 x.1.2
def avG:Cx:=cx [] []
theorem a9w:au Tryz.prog avG:=au.of mixed aA fz fz
theorem aqt:bV Tryz.prog 0 (.loop aqr) adF:=aK a9w 8 (ah) _ _ _ _ (by decide) λ_=>by kernel_rfl
theorem aqu:fE Tryz.prog 127 Tryz.f127 [(0,adF)]:=⟨Tryz.func127,Tryz.call127,bB (by kernel_rfl) (aJ aqt (by kernel_rfl) fz)⟩
theorem ah6:av Tryz.prog 127 aqs:=ay a9w 8 aqu _ _ _ _ (by decide) (λx=>by rw[RA];kernel_rfl)
abbrev aqv:Shape:= { sl:=[(0,(.sz (.sl tN))),(3,(.v .str)),(pv 4 tI),(pv 5 tI)],ob:=[],lo:=1,nx:=1 }
abbrev aqw:List Ex:=[(.normal, { sl:=[(0,(.sz (.sl tN))),(3,(.v .str)),(pv 4 tI)],ob:=[],lo:=1,nx:=1 })]
def aqx:Code:=aW (aU Tryz.f74) 2
def a9x:Lp:=dA aqv aqw 53 mU
abbrev a5z:Shape:= { sl:=[(0,(.sz (.sl tN))),(3,(.v .str)),(pv 4 tI)],ob:=[],lo:=1,nx:=1 }
abbrev adG:List Ex:=[(.normal, { sl:=[(3,(.v .str))],ob:=[],lo:=1,nx:=1 })]
def adH:Code:=aW (aU Tryz.f74) 0
def adI:Lp:=dA a5z adG 53 ko
def ah7:Con:=aP true [(.sl (.sl tN))] [.str] λx=>Dw x.1.1 x.1.2
def ah8:Cx:=cx [(127,aqs),(128,aoh)] []
theorem a4i:au Tryz.prog ah8:=au.of mixed aA (fc ⟨ah6,fc ⟨afY,fz⟩⟩) fz
theorem adJ:bV Tryz.prog 2 (.loop aqx) a9x:=aK a4i 8 (ah) _ _ _ _ (by decide) λ_=>by kernel_rfl
theorem aqy(x:a5z.X):zX ah8 [(2,a9x)] (dZ ah8 8) adH (a5z.mkS 53 x) (qg 0 a5z adG)=ko x:=by kernel_rfl
theorem aqz:bV Tryz.prog 0 (.loop adH) adI:=aK a4i 8 (bB (by kernel_rfl) (aJ adJ (by kernel_rfl) fz)) _ _ _ _ (by decide) aqy
theorem aqA:fE Tryz.prog 74 Tryz.f74 [(2,a9x),(0,adI)]:=⟨Tryz.func74,Tryz.call74,bB (by kernel_rfl) (aJ adJ (by kernel_rfl) (aJ aqz (by kernel_rfl) fz))⟩
theorem a9y:av Tryz.prog 74 ah7:=ay a4i 8 aqA _ _ _ _ (by decide) (λx=>by rw[Oa];kernel_rfl)
def ah9:Con:=aP true [(.sl (.sl tN))] [.str] λx=>rO x.1.1 x.1.2
def avH:Cx:=cx [(74,ah7),(73,aq0)] []
theorem aha:au Tryz.prog avH:=au.of mixed aA (fc ⟨a9y,fc ⟨ah0,fz⟩⟩) fz
theorem a9z:av Tryz.prog 29 ah9:=ay aha 8 ⟨Tryz.func29,Tryz.call29,ah⟩ _ _ _ _ (by decide) (λx=>by rw[KM];kernel_rfl)
end
end Go.Proofs.YtldlihheppdhnaaGreat
namespace Go.Proofs.YtldlihheppdhnaaGreat
noncomputable section
abbrev aqB:Shape:= { sl:=[(0,(.sz .str)),(1,(.sz .str)),(pv 5 tI)],ob:=[],lo:=0,nx:=0 }
abbrev aqC:List Ex:=[(.ret, { sl:=[(4,(.v .bool))],ob:=[],lo:=0,nx:=0 }),(.normal, { sl:=[],ob:=[],lo:=0,nx:=0 })]
def aqD:Code:=aW (aU Tryz.f17) 0
def adK:Lp:=dA aqB aqC 26 pK
def aqE:Con:=aP true [(.sl .str),(.sl .str)] [.bool] λx=>IB x.1.1 x.1.2 x.2.1.1 x.2.1.2
def avI:Cx:=cx [] []
theorem a9A:au Tryz.prog avI:=au.of mixed aA fz fz
theorem aqF:bV Tryz.prog 0 (.loop aqD) adK:=aK a9A 8 (ah) _ _ _ _ (by decide) λ_=>by kernel_rfl
theorem aqG:fE Tryz.prog 17 Tryz.f17 [(0,adK)]:=⟨Tryz.func17,Tryz.call17,bB (by kernel_rfl) (aJ aqF (by kernel_rfl) fz)⟩
theorem ahb:av Tryz.prog 17 aqE:=ay a9A 8 aqG _ _ _ _ (by decide) (λx=>by rw[RB];kernel_rfl)
end
end Go.Proofs.YtldlihheppdhnaaGreat
namespace Go.Proofs.YtldlihheppdhnaaGreat
noncomputable section
def aqH:Con:=aP true [.str] [.bool] λx=>Tp x.1
def avJ:Cx:=cx [] []
theorem ahc:au Tryz.prog avJ:=au.of mixed aA fz fz
theorem ahd:av Tryz.prog 55 aqH:=ay ahc 8 ⟨Tryz.func55,Tryz.call55,ah⟩ _ _ _ _ (by decide) (λx=>by rw[Vs];kernel_rfl)
def aqI:Con:=aP true [tMS] [.bool] λx=>dF x.1
def avK:Cx:=cx [] []
theorem ahe:au Tryz.prog avK:=au.of mixed aA fz fz
theorem ahf:av Tryz.prog 56 aqI:=ay ahe 8 ⟨Tryz.func56,Tryz.call56,ah⟩ _ _ _ _ (by decide) (λx=>by rw[IC];kernel_rfl)
def aqJ:Con:=aP true [(.pair tI tI)] [.bool] λx=>dX x.1
def avL:Cx:=cx [] []
theorem ahg:au Tryz.prog avL:=au.of mixed aA fz fz
theorem ahh:av Tryz.prog 57 aqJ:=ay ahg 8 ⟨Tryz.func57,Tryz.call57,ah⟩ _ _ _ _ (by decide) (λx=>by rw[Od];kernel_rfl)
def aqK:Con:=aP true [tMS] [.bool] λx=>iI x.1
def avM:Cx:=cx [(74,ah7)] []
theorem ahi:au Tryz.prog avM:=au.of mixed aA (fc ⟨a9y,fz⟩) fz
theorem ahj:av Tryz.prog 58 aqK:=ay ahi 8 ⟨Tryz.func58,Tryz.call58,ah⟩ _ _ _ _ (by decide) (λx=>by rw[IE];kernel_rfl)
def aqL:Con:=aP true [tMS] [.bool] λx=>Oe x.1
def avN:Cx:=cx [(55,aqH),(56,aqI),(57,aqJ),(58,aqK)] []
theorem ahk:au Tryz.prog avN:=au.of mixed aA (fc ⟨ahd,fc ⟨ahf,fc ⟨ahh,fc ⟨ahj,fz⟩⟩⟩⟩) fz
theorem ahl:av Tryz.prog 21 aqL:=ay ahk 8 ⟨Tryz.func21,Tryz.call21,ah⟩ _ _ _ _ (by decide) (λx=>by rw[Vu];kernel_rfl)
end
end Go.Proofs.YtldlihheppdhnaaGreat
namespace Go.Proofs.YtldlihheppdhnaaGreat
noncomputable def aqM:Con:=aP false [(.pair tI (.pair tI tI)),tI,tI,tI] [(.ptr (.pair (.pair tI (.pair tI tI)) (.pair tI (.pair tI (.pair tI (.pair tI (.pair (.pair tI (.pair tI (.pair (.sl .str) (.sl tI)))) (.pair (.sl (.pair .str (.pair tG (.pair (.sl tV) (.pair (.sl tV) (.arr 4 (.pair (.arr 2 tG) (.pair tG (.pair tI tI))))))))) (.sl tOU)))))))))] λx=>ER x.1 x.2.1 x.2.2.1 x.2.2.2.1
noncomputable def avO:Cx:=cx [] []
theorem ahm:au Tryz.prog avO:=au.of mixed aA fz fz
theorem ahn:av Tryz.prog 27 aqM:=ay ahm 8 ⟨Tryz.func27,Tryz.call27,ah⟩ _ _ _ _ (by decide) (λx=>by rw[Vw];kernel_rfl)
end Go.Proofs.YtldlihheppdhnaaGreat
namespace Go.Proofs.YtldlihheppdhnaaGreat
noncomputable section
abbrev a9B:Shape:= { sl:=[(0,(.sz tN)),(1,(.c ⟨.fn,(.mk 179 [((.ptr tGR),0,[])])⟩)),(pv 7 tI),(pv 8 tI)],ob:=[(0,(.pz tGR))],lo:=1,nx:=1 }
abbrev a9C:List Ex:=[(.ret, { sl:=[(pv 4 tI)],ob:=[(0,(.pz tGR)),(pv 1 tN)],lo:=2,nx:=2 }),(.normal, { sl:=[],ob:=[(0,(.pz tGR))],lo:=1,nx:=1 })]
def a9D:Code:=aW (aU Tryz.f212) 0
def a1D:Lp:=dA a9B a9C 19 fM
def ac0:Con:=aP true [(.ptr tGR),(.sl tN)] [.bool] λx=>wz x.1 x.2.1.1 x.2.1.2
def aho:Cx:=cx [(180,agB)] [(178,Tryz.f178,[]),(212,Tryz.f212,[(0,a1D)]),(179,Tryz.f179,[])]
def Om:Cx:=cx [(180,agB)] [(178,Tryz.f178,[]),(179,Tryz.f179,[])]
theorem K7:au Tryz.prog Om:=au.of mixed aA (fc ⟨a9r,fz⟩) (fc ⟨⟨Tryz.func178,Tryz.call178,ah⟩,fc ⟨⟨Tryz.func179,Tryz.call179,ah⟩,fz⟩⟩)
theorem a9E:bV Tryz.prog 0 (.loop a9D) a1D:=aK K7 8 (ah) _ _ _ _ (by decide) λ_=>by kernel_rfl
theorem ahp:au Tryz.prog aho:=au.of mixed aA (fc ⟨a9r,fz⟩) (fc ⟨⟨Tryz.func178,Tryz.call178,ah⟩,fc ⟨⟨Tryz.func212,Tryz.call212,bB (by kernel_rfl) (aJ a9E (by kernel_rfl) fz)⟩,fc ⟨⟨Tryz.func179,Tryz.call179,ah⟩,fz⟩⟩⟩)
theorem avP(g)(nc)(c):bX aho [] (dZ aho 8) Tryz.f133 (jC [(.ptr tGR),(.sl tN)] (g,(nc,c),())) [] 0 (kJ [.bool])=BP g nc c:=by cases g<;>kernel_rfl
theorem a4j:av Tryz.prog 133 ac0:=ay ahp 8 ⟨Tryz.func133,Tryz.call133,ah⟩ _ _ _ _ (by decide) (λx=>by rw[KN];exact avP x.1 x.2.1.1 x.2.1.2)
abbrev aqN:Shape:= { sl:=[(0,(.pz tGR)),(1,(.sz tN)),(pv 2 tI),(pc 6 tN 0),(7,(.w 75 tN 1)),(pv 8 tI),(pv 24 tI),(pv 25 tI)],ob:=[(pv 0 tN)],lo:=1,nx:=2 }
abbrev aqO:List Ex:=[(.normal, { sl:=[(0,(.pz tGR)),(1,(.sz tN)),(pc 6 tN 0),(7,(.w 75 tN 2))],ob:=[(pv 0 tN)],lo:=2,nx:=3 })]
def aqP:Code:=aW (aU Tryz.f183) 0
def a9F:Lp:=dA aqN aqO 44 mV
def aqQ:Con:=aP true [(.ptr tGR),(.sl tN),tI] [tN] λx=>Dx x.1 x.2.1.1 x.2.1.2 x.2.2.1
def ahq:Cx:=cx [(62,a3W),(217,apm)] []
theorem a9G:au Tryz.prog ahq:=au.of mixed aA (fc ⟨PS,fc ⟨agM,fz⟩⟩) fz
theorem aqR:bV Tryz.prog 0 (.loop aqP) a9F:=aK a9G 8 (ah) _ _ _ _ (by decide) λ_=>by kernel_rfl
theorem aqS:fE Tryz.prog 183 Tryz.f183 [(0,a9F)]:=⟨Tryz.func183,Tryz.call183,bB (by kernel_rfl) (aJ aqR (by kernel_rfl) fz)⟩
theorem avQ(g)(nc)(c)(i):bX ahq [(0,a9F)] (dZ ahq 8) Tryz.f183 (jC [(.ptr tGR),(.sl tN),tI] (g,(nc,c),i,())) [] 0 (kJ [tN])=ES g nc c i:=by cases g<;>kernel_rfl
theorem ahr:av Tryz.prog 183 aqQ:=ay a9G 8 aqS _ _ _ _ (by decide) (λx=>by rw[Og];exact avQ x.1 x.2.1.1 x.2.1.2 x.2.2.1)
def aqT:Con:=aP true [(.ptr tGR),(.sl tN),(.pair tI tN)] [.bool] λx=>zD x.1 x.2.1.1 x.2.1.2 x.2.2.1
def ahs:Cx:=cx [(181,apj),(133,ac0),(182,apl),(183,aqQ)] []
theorem aht:au Tryz.prog ahs:=au.of mixed aA (fc ⟨agA,fc ⟨a4j,fc ⟨agJ,fc ⟨ahr,fz⟩⟩⟩⟩) fz
theorem avR(g)(nc)(c)(s):bX ahs [] (dZ ahs 8) Tryz.f135 (jC [(.ptr tGR),(.sl tN),(.pair tI tN)] (g,(nc,c),s,())) [] 0 (kJ [.bool])=xA g nc c s:=by cases g<;>kernel_rfl
theorem ahu:av Tryz.prog 135 aqT:=ay aht 8 ⟨Tryz.func135,Tryz.call135,ah⟩ _ _ _ _ (by decide) (λx=>by rw[FN];exact avR x.1 x.2.1.1 x.2.1.2 x.2.2.1)
end
end Go.Proofs.YtldlihheppdhnaaGreat
namespace Go.Proofs.YtldlihheppdhnaaGreat
noncomputable section
def aqU:Con:=aP true [] [(.arr 8 (.int .u32))] λx=>Dy
def avS:Cx:=cx [] []
theorem ahv:au Tryz.prog avS:=au.of mixed aA fz fz
theorem ahw:av Tryz.prog 192 aqU:=ay ahv 8 ⟨Tryz.func192,Tryz.call192,ah⟩ _ _ _ _ (by decide) (λx=>by rw[ET];kernel_rfl)
abbrev avT:Shape:= { sl:=[],ob:=[],lo:=0,nx:=0 }
abbrev avU:List Shape:=[{ sl:=[(pc 0 (.pair .bool (.pair (.arr 8 (.int .u32)) (.pair (.arr 64 (.int .u8)) tI))) 0)],ob:=[(pv 0 (.pair .bool (.pair (.arr 8 (.int .u32)) (.pair (.arr 64 (.int .u8)) tI))))],lo:=1,nx:=1 }]
def aqV:Con:=lN avT avU λx=>PZ
def avV:Cx:=cx [(192,aqU)] []
theorem ahx:au Tryz.prog avV:=au.of mixed aA (fc ⟨ahw,fz⟩) fz
theorem ahy:av Tryz.prog 142 aqV:=dW ahx 8 ⟨Tryz.func142,Tryz.call142,ah⟩ 1 _ _ _ (by decide) (λx=>by rw[Oh];kernel_rfl)
def aqW:Con:=aP true [] [(.arr 64 (.int .u32))] λx=>qJ
def avW:Cx:=cx [] []
theorem ahz:au Tryz.prog avW:=au.of mixed aA fz fz
theorem ahA:av Tryz.prog 220 aqW:=ay ahz 8 ⟨Tryz.func220,Tryz.call220,ah⟩ _ _ _ _ (by decide) (λx=>by rw[wB];kernel_rfl)
def ahB:Con:=aP true [(.int .u32),tI] [(.int .u32)] λx=>fO x.1 x.2.1
def avX:Cx:=cx [(234,amv)] []
theorem ahC:au Tryz.prog avX:=au.of mixed aA (fc ⟨aeK,fz⟩) fz
theorem a9H:av Tryz.prog 222 ahB:=ay ahC 8 ⟨Tryz.func222,Tryz.call222,ah⟩ _ _ _ _ (by decide) (λx=>by rw[KP];kernel_rfl)
abbrev aqX:Shape:= { sl:=[(pc 1 (.arr 64 (.int .u8)) 0),(pc 2 (.arr 64 (.int .u32)) 1),(pc 3 (.arr 64 (.int .u32)) 2),(pv 10 tI)],ob:=[(pv 0 (.arr 64 (.int .u8))),(pv 1 (.arr 64 (.int .u32))),(pv 2 (.arr 64 (.int .u32)))],lo:=3,nx:=3 }
abbrev aqY:List Ex:=[(.normal, { sl:=[(pc 2 (.arr 64 (.int .u32)) 1),(pc 3 (.arr 64 (.int .u32)) 2)],ob:=[(pv 1 (.arr 64 (.int .u32))),(pv 2 (.arr 64 (.int .u32)))],lo:=3,nx:=3 })]
def aqZ:Code:=aW (aU Tryz.f221) 0
def adL:Lp:=dA aqX aqY 89 iq
abbrev ar0:Shape:= { sl:=[(pc 2 (.arr 64 (.int .u32)) 1),(pc 3 (.arr 64 (.int .u32)) 2),(pv 5 tI)],ob:=[(pv 1 (.arr 64 (.int .u32))),(pv 2 (.arr 64 (.int .u32)))],lo:=3,nx:=3 }
abbrev ar1:List Ex:=[(.normal, { sl:=[(pc 2 (.arr 64 (.int .u32)) 1),(pc 3 (.arr 64 (.int .u32)) 2)],ob:=[(pv 1 (.arr 64 (.int .u32))),(pv 2 (.arr 64 (.int .u32)))],lo:=3,nx:=3 })]
def ar2:Code:=aW (aU Tryz.f221) 2
def adM:Lp:=dA ar0 ar1 89 iy
def ar3:Con:=aP true [(.arr 64 (.int .u8))] [(.arr 64 (.int .u32))] λx=>zF x.1
def avY:Cx:=cx [(222,ahB)] []
theorem a4k:au Tryz.prog avY:=au.of mixed aA (fc ⟨a9H,fz⟩) fz
theorem ar4:bV Tryz.prog 0 (.loop aqZ) adL:=aK a4k 8 (ah) _ _ _ _ (by decide) λ_=>by kernel_rfl
theorem ar5:bV Tryz.prog 2 (.loop ar2) adM:=aK a4k 8 (ah) _ _ _ _ (by decide) λ_=>by kernel_rfl
theorem ar6:fE Tryz.prog 221 Tryz.f221 [(0,adL),(2,adM)]:=⟨Tryz.func221,Tryz.call221,bB (by kernel_rfl) (aJ ar4 (by kernel_rfl) (aJ ar5 (by kernel_rfl) fz))⟩
theorem ahD:av Tryz.prog 221 ar3:=ay a4k 8 ar6 _ _ _ _ (by decide) (λx=>by rw[FP];kernel_rfl)
abbrev ar7:Shape:= { sl:=[(pc 2 (.arr 8 (.int .u32)) 0),(pc 4 (.arr 8 (.int .u32)) 2),(pc 5 (.arr 64 (.int .u32)) 3),(pc 6 (.arr 64 (.int .u32)) 4),(pc 7 (.arr 8 (.int .u32)) 5),(pv 18 tI)],ob:=[(pv 0 (.arr 8 (.int .u32))),(pv 2 (.arr 8 (.int .u32))),(pv 3 (.arr 64 (.int .u32))),(pv 4 (.arr 64 (.int .u32))),(pv 5 (.arr 8 (.int .u32)))],lo:=6,nx:=6 }
abbrev ar8:List Ex:=[(.normal, { sl:=[(pc 2 (.arr 8 (.int .u32)) 0),(pc 4 (.arr 8 (.int .u32)) 2),(pc 7 (.arr 8 (.int .u32)) 5)],ob:=[(pv 0 (.arr 8 (.int .u32))),(pv 2 (.arr 8 (.int .u32))),(pv 5 (.arr 8 (.int .u32)))],lo:=6,nx:=6 })]
def ar9:Code:=aW (aU Tryz.f193) 0
def adN:Lp:=dA ar7 ar8 109 kC
abbrev ara:Shape:= { sl:=[(pc 2 (.arr 8 (.int .u32)) 0),(pc 4 (.arr 8 (.int .u32)) 2),(pc 7 (.arr 8 (.int .u32)) 5),(pv 96 tI)],ob:=[(pv 0 (.arr 8 (.int .u32))),(pv 2 (.arr 8 (.int .u32))),(pv 5 (.arr 8 (.int .u32)))],lo:=6,nx:=6 }
abbrev arb:List Ex:=[(.normal, { sl:=[(pc 4 (.arr 8 (.int .u32)) 2),(pc 7 (.arr 8 (.int .u32)) 5)],ob:=[(pv 2 (.arr 8 (.int .u32))),(pv 5 (.arr 8 (.int .u32)))],lo:=6,nx:=6 })]
def ard:Code:=aW (aU Tryz.f193) 2
def adO:Lp:=dA ara arb 109 mW
def arf:Con:=aP true [(.arr 8 (.int .u32)),(.arr 64 (.int .u8))] [(.arr 8 (.int .u32))] λx=>DF x.1 x.2.1
def avZ:Cx:=cx [(220,aqW),(221,ar3),(222,ahB)] []
theorem a4l:au Tryz.prog avZ:=au.of mixed aA (fc ⟨ahA,fc ⟨ahD,fc ⟨a9H,fz⟩⟩⟩) fz
theorem arh:bV Tryz.prog 0 (.loop ar9) adN:=aK a4l 8 (ah) _ _ _ _ (by decide) λ_=>by kernel_rfl
theorem ari:bV Tryz.prog 2 (.loop ard) adO:=aK a4l 8 (ah) _ _ _ _ (by decide) λ_=>by kernel_rfl
theorem arj:fE Tryz.prog 193 Tryz.f193 [(0,adN),(2,adO)]:=⟨Tryz.func193,Tryz.call193,bB (by kernel_rfl) (aJ arh (by kernel_rfl) (aJ ari (by kernel_rfl) fz))⟩
theorem ahE:av Tryz.prog 193 arf:=ay a4l 8 arj _ _ _ _ (by decide) (λx=>by rw[Oi];kernel_rfl)
abbrev ark:Shape:= { sl:=[(pc 0 (.pair .bool (.pair (.arr 8 (.int .u32)) (.pair (.arr 64 (.int .u8)) tI))) 0),(1,(.v .str))],ob:=[(pv 0 (.pair .bool (.pair (.arr 8 (.int .u32)) (.pair (.arr 64 (.int .u8)) tI))))],lo:=1,nx:=1 }
abbrev arl:List Ex:=[(.normal, { sl:=[(pc 0 (.pair .bool (.pair (.arr 8 (.int .u32)) (.pair (.arr 64 (.int .u8)) tI))) 0)],ob:=[(pv 0 (.pair .bool (.pair (.arr 8 (.int .u32)) (.pair (.arr 64 (.int .u8)) tI))))],lo:=1,nx:=1 })]
def arn:Code:=aW (aU Tryz.f143) 0
def adP:Lp:=dA ark arl 56 dO
abbrev aw0:Shape:= { sl:=[(pc 0 (.pair .bool (.pair (.arr 8 (.int .u32)) (.pair (.arr 64 (.int .u8)) tI))) 0),(1,(.v .str))],ob:=[(pv 0 (.pair .bool (.pair (.arr 8 (.int .u32)) (.pair (.arr 64 (.int .u8)) tI))))],lo:=1,nx:=1 }
abbrev aw1:List Shape:=[{ sl:=[],ob:=[(pv 0 (.pair .bool (.pair (.arr 8 (.int .u32)) (.pair (.arr 64 (.int .u8)) tI))))],lo:=1,nx:=1 }]
def ahF:Con:=lN aw0 aw1 λx=>jh x.1.2.1 x.2.1
def aw2:Cx:=cx [(193,arf)] []
theorem a9I:au Tryz.prog aw2:=au.of mixed aA (fc ⟨ahE,fz⟩) fz
theorem aro:bV Tryz.prog 0 (.loop arn) adP:=aK a9I 8 (ah) _ _ _ _ (by decide) λ_=>by kernel_rfl
theorem arp:fE Tryz.prog 143 Tryz.f143 [(0,adP)]:=⟨Tryz.func143,Tryz.call143,bB (by kernel_rfl) (aJ aro (by kernel_rfl) fz)⟩
theorem a9J:av Tryz.prog 143 ahF:=dW a9I 8 arp 0 _ _ _ (by decide) (λx=>by rw[BQ];kernel_rfl)
abbrev arq:Shape:= { sl:=[(0,(.pz (.pair .bool (.pair (.arr 8 (.int .u32)) (.pair (.arr 64 (.int .u8)) tI))))),(pc 3 (.pair .bool (.pair (.arr 8 (.int .u32)) (.pair (.arr 64 (.int .u8)) tI))) 0)],ob:=[(pv 0 (.pair .bool (.pair (.arr 8 (.int .u32)) (.pair (.arr 64 (.int .u8)) tI))))],lo:=1,nx:=1 }
abbrev ars:List Ex:=[(.normal, { sl:=[(0,(.pz (.pair .bool (.pair (.arr 8 (.int .u32)) (.pair (.arr 64 (.int .u8)) tI))))),(pc 3 (.pair .bool (.pair (.arr 8 (.int .u32)) (.pair (.arr 64 (.int .u8)) tI))) 0)],ob:=[(pv 0 (.pair .bool (.pair (.arr 8 (.int .u32)) (.pair (.arr 64 (.int .u8)) tI))))],lo:=1,nx:=1 })]
def aru:Code:=aW (aU Tryz.f144) 0
def a9K:Lp:=dA arq ars 69 jc
abbrev arv:Shape:= { sl:=[(0,(.pz (.pair .bool (.pair (.arr 8 (.int .u32)) (.pair (.arr 64 (.int .u8)) tI))))),(pc 3 (.pair .bool (.pair (.arr 8 (.int .u32)) (.pair (.arr 64 (.int .u8)) tI))) 0),(pc 4 (.arr 8 (.int .u8)) 1),(pv 27 tI)],ob:=[(pv 0 (.pair .bool (.pair (.arr 8 (.int .u32)) (.pair (.arr 64 (.int .u8)) tI)))),(pv 1 (.arr 8 (.int .u8)))],lo:=2,nx:=2 }
abbrev arw:List Ex:=[(.normal, { sl:=[(pc 3 (.pair .bool (.pair (.arr 8 (.int .u32)) (.pair (.arr 64 (.int .u8)) tI))) 0),(pc 4 (.arr 8 (.int .u8)) 1)],ob:=[(pv 0 (.pair .bool (.pair (.arr 8 (.int .u32)) (.pair (.arr 64 (.int .u8)) tI)))),(pv 1 (.arr 8 (.int .u8)))],lo:=2,nx:=2 })]
def arx:Code:=aW (aU Tryz.f144) 2
def a9L:Lp:=dA arv arw 69 jd
abbrev arz:Shape:= { sl:=[(6,(.w 5 (.int .u8) 3)),(pv 48 (.arr 8 (.int .u32))),(pv 49 tI)],ob:=[],lo:=3,nx:=4 }
abbrev arA:List Ex:=[(.normal, { sl:=[(6,(.w 5 (.int .u8) 4))],ob:=[],lo:=4,nx:=5 })]
def arB:Code:=aW (aU Tryz.f144) 4
def a9M:Lp:=dA arz arA 69 je
def arC:Con:=aP true [(.ptr (.pair .bool (.pair (.arr 8 (.int .u32)) (.pair (.arr 64 (.int .u8)) tI))))] [.str] λx=>zH x.1
def ahG:Cx:=cx [(143,ahF)] []
theorem a04:au Tryz.prog ahG:=au.of mixed aA (fc ⟨a9J,fz⟩) fz
theorem arD:bV Tryz.prog 0 (.loop aru) a9K:=aK a04 8 (ah) _ _ _ _ (by decide) λ_=>by kernel_rfl
theorem arE:bV Tryz.prog 2 (.loop arx) a9L:=aK a04 8 (ah) _ _ _ _ (by decide) λ_=>by kernel_rfl
theorem arF:bV Tryz.prog 4 (.loop arB) a9M:=aK a04 8 (ah) _ _ _ _ (by decide) λ_=>by kernel_rfl
theorem arG:fE Tryz.prog 144 Tryz.f144 [(0,a9K),(2,a9L),(4,a9M)]:=⟨Tryz.func144,Tryz.call144,bB (by kernel_rfl) (aJ arD (by kernel_rfl) (aJ arE (by kernel_rfl) (aJ arF (by kernel_rfl) fz)))⟩
theorem aw3(h):bX ahG [(0,a9K),(2,a9L),(4,a9M)] (dZ ahG 8) Tryz.f144 (jC [(.ptr (.pair .bool (.pair (.arr 8 (.int .u32)) (.pair (.arr 64 (.int .u8)) tI))))] (h,())) [] 0 (kJ [.str])=xB h:=by cases h<;>kernel_rfl
theorem ahH:av Tryz.prog 144 arC:=ay a04 8 arG _ _ _ _ (by decide) (λx=>by rw[FQ];exact aw3 x.1)
def arH:Con:=aP true [.str] [.str] λx=>Oj x.1
def aw4:Cx:=cx [(142,aqV),(143,ahF),(144,arC)] []
theorem ahI:au Tryz.prog aw4:=au.of mixed aA (fc ⟨ahy,fc ⟨a9J,fc ⟨ahH,fz⟩⟩⟩) fz
theorem ahJ:av Tryz.prog 90 arH:=ay ahI 8 ⟨Tryz.func90,Tryz.call90,ah⟩ _ _ _ _ (by decide) (λx=>by rw[Vz];kernel_rfl)
end
end Go.Proofs.YtldlihheppdhnaaGreat
namespace Go.Proofs.YtldlihheppdhnaaGreat
noncomputable section
abbrev a9N:Shape:= { sl:=[(0,(.sz (.sl tN))),(1,(.c ⟨.fn,(.mk 194 [((.sl (.sl tN)),0,[])])⟩)),(pv 7 tI),(pv 8 tI)],ob:=[(0,(.sz (.sl tN)))],lo:=1,nx:=1 }
abbrev a9O:List Ex:=[(.ret, { sl:=[(pv 4 tI)],ob:=[(0,(.sz (.sl tN)))],lo:=1,nx:=1 }),(.normal, { sl:=[],ob:=[(0,(.sz (.sl tN)))],lo:=1,nx:=1 })]
def a9P:Code:=aW (aU Tryz.f177) 0
def a1E:Lp:=dA a9N a9O 19 dh
def arI:Con:=aP true [(.sl (.sl tN))] [.bool] λx=>BR x.1.1 x.1.2
def aw5:Cx:=cx [] [(131,Tryz.f131,[]),(177,Tryz.f177,[(0,a1E)]),(194,Tryz.f194,[])]
def Mc:Cx:=cx [] [(131,Tryz.f131,[]),(194,Tryz.f194,[])]
theorem IW:au Tryz.prog Mc:=au.of mixed aA fz (fc ⟨⟨Tryz.func131,Tryz.call131,ah⟩,fc ⟨⟨Tryz.func194,Tryz.call194,ah⟩,fz⟩⟩)
theorem a9Q:bV Tryz.prog 0 (.loop a9P) a1E:=aK IW 8 (ah) _ _ _ _ (by decide) λ_=>by kernel_rfl
theorem ahK:au Tryz.prog aw5:=au.of mixed aA fz (fc ⟨⟨Tryz.func131,Tryz.call131,ah⟩,fc ⟨⟨Tryz.func177,Tryz.call177,bB (by kernel_rfl) (aJ a9Q (by kernel_rfl) fz)⟩,fc ⟨⟨Tryz.func194,Tryz.call194,ah⟩,fz⟩⟩⟩)
theorem ahL:av Tryz.prog 145 arI:=ay ahK 8 ⟨Tryz.func145,Tryz.call145,ah⟩ _ _ _ _ (by decide) (λx=>by rw[IJ];kernel_rfl)
abbrev arJ:Shape:= { sl:=[(pc 3 (.pair (.sp 244) (.sl (.int .u8))) 0),(22,(.sz (.sl tN))),(pv 23 tI),(pv 24 tI),(28,(.sz tN)),(pv 29 tI),(pv 30 tI)],ob:=[(0,(.p (.v (.sp 244)) (.w 5 (.int .u8) 6)))],lo:=6,nx:=7 }
abbrev arK:List Ex:=[(.normal, { sl:=[(pc 3 (.pair (.sp 244) (.sl (.int .u8))) 0),(22,(.sz (.sl tN))),(pv 23 tI),(pv 24 tI)],ob:=[(0,(.p (.v (.sp 244)) (.w 5 (.int .u8) 7)))],lo:=7,nx:=8 })]
def arL:Code:=aW (aU Tryz.f91) 2
def a9R:Lp:=dA arJ arK 45 jf
abbrev a5A:Shape:= { sl:=[(pc 3 (.pair (.sp 244) (.sl (.int .u8))) 0),(22,(.sz (.sl tN))),(pv 23 tI),(pv 24 tI)],ob:=[(0,(.p (.v (.sp 244)) (.w 5 (.int .u8) 5)))],lo:=5,nx:=6 }
abbrev adQ:List Ex:=[(.normal, { sl:=[(pc 3 (.pair (.sp 244) (.sl (.int .u8))) 0)],ob:=[(0,(.p (.v (.sp 244)) (.w 5 (.int .u8) 6)))],lo:=6,nx:=7 })]
def adR:Code:=aW (aU Tryz.f91) 0
def adS:Lp:=dA a5A adQ 45 iB
def ahM:Con:=aP true [(.sl (.sl tN))] [.str] λx=>uz x.1.1 x.1.2
def ahN:Cx:=cx [(145,arI),(195,Rv),(147,amM)] [(146,Tryz.f146,[]),(148,Tryz.f148,[]),(149,Tryz.f149,[])]
theorem a4m:au Tryz.prog ahN:=au.of mixed aA (fc ⟨ahL,fc ⟨XA,fc ⟨aeX,fz⟩⟩⟩) (fc ⟨⟨Tryz.func146,Tryz.call146,ah⟩,fc ⟨⟨Tryz.func148,Tryz.call148,ah⟩,fc ⟨⟨Tryz.func149,Tryz.call149,ah⟩,fz⟩⟩⟩)
theorem adT:bV Tryz.prog 2 (.loop arL) a9R:=aK a4m 8 (ah) _ _ _ _ (by decide) λ_=>by kernel_rfl
theorem arM(x:a5A.X):zX ahN [(2,a9R)] (dZ ahN 8) adR (a5A.mkS 45 x) (qg 0 a5A adQ)=iB x:=by kernel_rfl
theorem arN:bV Tryz.prog 0 (.loop adR) adS:=aK a4m 8 (bB (by kernel_rfl) (aJ adT (by kernel_rfl) fz)) _ _ _ _ (by decide) arM
theorem arO:fE Tryz.prog 91 Tryz.f91 [(2,a9R),(0,adS)]:=⟨Tryz.func91,Tryz.call91,bB (by kernel_rfl) (aJ adT (by kernel_rfl) (aJ arN (by kernel_rfl) fz))⟩
theorem a9S:av Tryz.prog 91 ahM:=ay a4m 8 arO _ _ _ _ (by decide) (λx=>by rw[FR];kernel_rfl)
def ahO:Con:=aP true [tI] [.bool] λx=>uD x.1
def aw6:Cx:=cx [] []
theorem ahP:au Tryz.prog aw6:=au.of mixed aA fz fz
theorem a9T:av Tryz.prog 134 ahO:=ay ahP 8 ⟨Tryz.func134,Tryz.call134,ah⟩ _ _ _ _ (by decide) (λx=>by rw[FT];kernel_rfl)
abbrev a9U:Shape:= { sl:=[(0,(.sz (.sl tN))),(1,(.c ⟨.fn,(.mk 132 [(tI,1,[]),((.ptr tGR),0,[])])⟩)),(pv 7 tI),(pv 8 tI)],ob:=[(0,(.pz tGR)),(pv 1 tI)],lo:=2,nx:=2 }
abbrev a9V:List Ex:=[(.ret, { sl:=[(pv 4 tI)],ob:=[(0,(.pz tGR)),(pv 1 tI)],lo:=2,nx:=2 }),(.normal, { sl:=[],ob:=[(0,(.pz tGR)),(pv 1 tI)],lo:=2,nx:=2 })]
def a9W:Code:=aW (aU Tryz.f177) 0
def a1F:Lp:=dA a9U a9V 19 eB
def ahQ:Con:=aP true [(.ptr tGR),tI,(.sl (.sl tN))] [.bool] λx=>oF x.1 x.2.1 x.2.2.1.1 x.2.2.1.2
def ahR:Cx:=cx [(133,ac0),(134,ahO)] [(131,Tryz.f131,[]),(177,Tryz.f177,[(0,a1F)]),(132,Tryz.f132,[])]
def Oo:Cx:=cx [(133,ac0),(134,ahO)] [(131,Tryz.f131,[]),(132,Tryz.f132,[])]
theorem K8:au Tryz.prog Oo:=au.of mixed aA (fc ⟨a4j,fc ⟨a9T,fz⟩⟩) (fc ⟨⟨Tryz.func131,Tryz.call131,ah⟩,fc ⟨⟨Tryz.func132,Tryz.call132,ah⟩,fz⟩⟩)
theorem a9X:bV Tryz.prog 0 (.loop a9W) a1F:=aK K8 8 (ah) _ _ _ _ (by decide) λ_=>by kernel_rfl
theorem ahS:au Tryz.prog ahR:=au.of mixed aA (fc ⟨a4j,fc ⟨a9T,fz⟩⟩) (fc ⟨⟨Tryz.func131,Tryz.call131,ah⟩,fc ⟨⟨Tryz.func177,Tryz.call177,bB (by kernel_rfl) (aJ a9X (by kernel_rfl) fz)⟩,fc ⟨⟨Tryz.func132,Tryz.call132,ah⟩,fz⟩⟩⟩)
theorem aw7(g)(t)(nm)(m):bX ahR [] (dZ ahR 8) Tryz.f85 (jC [(.ptr tGR),tI,(.sl (.sl tN))] (g,t,(nm,m),())) [] 0 (kJ [.bool])=BU g t nm m:=by cases g<;>kernel_rfl
theorem a9Y:av Tryz.prog 85 ahQ:=ay ahS 8 ⟨Tryz.func85,Tryz.call85,ah⟩ _ _ _ _ (by decide) (λx=>by rw[KS];exact aw7 x.1 x.2.1 x.2.2.1.1 x.2.2.1.2)
abbrev arP:Shape:= { sl:=[(0,(.pz tGR)),(pc 5 (.pair tI (.sl tN)) 0),(25,(.sz (.sl tN))),(pv 26 tI),(pv 27 tI)],ob:=[(0,(.p (.v tI) (.sz tN)))],lo:=1,nx:=1 }
abbrev arQ:List Ex:=[(.ret, { sl:=[(6,(.v .bool))],ob:=[],lo:=1,nx:=1 }),(.normal, { sl:=[],ob:=[],lo:=1,nx:=1 })]
def arR:Code:=aW (aU Tryz.f86) 0
def a9Z:Lp:=dA arP arQ 45 iC
def ahT:Con:=aP true [(.ptr tGR),(.sl (.sl tN)),(.pair tI (.sl tN))] [.bool] λx=>eP x.1 x.2.1.1 x.2.1.2 x.2.2.1
def ahU:Cx:=cx [(135,aqT)] []
theorem aa0:au Tryz.prog ahU:=au.of mixed aA (fc ⟨ahu,fz⟩) fz
theorem arS:bV Tryz.prog 0 (.loop arR) a9Z:=aK aa0 8 (ah) _ _ _ _ (by decide) λ_=>by kernel_rfl
theorem arT:fE Tryz.prog 86 Tryz.f86 [(0,a9Z)]:=⟨Tryz.func86,Tryz.call86,bB (by kernel_rfl) (aJ arS (by kernel_rfl) fz)⟩
theorem aw8(g)(nm)(m)(p):bX ahU [(0,a9Z)] (dZ ahU 8) Tryz.f86 (jC [(.ptr tGR),(.sl (.sl tN)),(.pair tI (.sl tN))] (g,(nm,m),p,())) [] 0 (kJ [.bool])=xC g nm m p:=by cases g<;>kernel_rfl
theorem aa1:av Tryz.prog 86 ahT:=ay aa0 8 arT _ _ _ _ (by decide) (λx=>by rw[FU];exact aw8 x.1 x.2.1.1 x.2.1.2 x.2.2.1)
def arU:Con:=aP true [(.sl (.sl tN))] [.str] λx=>qL x.1.1 x.1.2
def aw9:Cx:=cx [(91,ahM),(90,arH)] []
theorem ahV:au Tryz.prog aw9:=au.of mixed aA (fc ⟨a9S,fc ⟨ahJ,fz⟩⟩) fz
theorem ahW:av Tryz.prog 45 arU:=ay ahV 8 ⟨Tryz.func45,Tryz.call45,ah⟩ _ _ _ _ (by decide) (λx=>by rw[DT];kernel_rfl)
end
end Go.Proofs.YtldlihheppdhnaaGreat
namespace Go.Proofs.YtldlihheppdhnaaGreat
noncomputable section
def arV:Con:=aP true [(.pair tI tI)] [.bool] λx=>zI x.1
def awc:Cx:=cx [] []
theorem ahX:au Tryz.prog awc:=au.of mixed aA fz fz
theorem ahY:av Tryz.prog 176 arV:=ay ahX 8 ⟨Tryz.func176,Tryz.call176,ah⟩ _ _ _ _ (by decide) (λx=>by rw[FV];kernel_rfl)
abbrev awd:Shape:= { sl:=[(pv 0 tI),(1,(.v .bool)),(2,(.v .bool)),(pc 3 tI 0),(4,(.c ⟨(.ptr .bool),(.rf 1 [])⟩))],ob:=[(pv 0 tI),(1,(.v .bool))],lo:=2,nx:=2 }
abbrev awe:List Shape:=[{ sl:=[],ob:=[(pv 0 tI),(1,(.v .bool))],lo:=2,nx:=2 }]
def arW:Con:=lN awd awe λx=>cO x.1.1 x.1.2.1 x.1.2.2.1 x.2.1 x.2.2.1
def awf:Cx:=cx [] []
theorem ahZ:au Tryz.prog awf:=au.of mixed aA fz fz
theorem ai0:av Tryz.prog 175 arW:=dW ahZ 8 ⟨Tryz.func175,Tryz.call175,ah⟩ 0 _ _ _ (by decide) (λx=>by rw[za];kernel_rfl)
def arX:Con:=aP true [tMS] [tI,.bool] λx=>uG x.1
def awg:Cx:=cx [(176,arV),(175,arW),(91,ahM)] []
theorem ai1:au Tryz.prog awg:=au.of mixed aA (fc ⟨ahY,fc ⟨ai0,fc ⟨a9S,fz⟩⟩⟩) fz
theorem ai2:av Tryz.prog 129 arX:=ay ai1 8 ⟨Tryz.func129,Tryz.call129,ah⟩ _ _ _ _ (by decide) (λx=>by rw[FW];kernel_rfl)
def ac1:Con:=aP true [.str] [.bool] λx=>bO x.1
def awh:Cx:=cx [] []
theorem ai3:au Tryz.prog awh:=au.of mixed aA fz fz
theorem a4n:av Tryz.prog 130 ac1:=ay ai3 8 ⟨Tryz.func130,Tryz.call130,ah⟩ _ _ _ _ (by decide) (λx=>by rw[RF];kernel_rfl)
def ai4:Con:=aP true [tMS] [tI] λx=>wF x.1
def awi:Cx:=cx [(129,arX),(130,ac1)] []
theorem ai5:au Tryz.prog awi:=au.of mixed aA (fc ⟨ai2,fc ⟨a4n,fz⟩⟩) fz
theorem aa2:av Tryz.prog 83 ai4:=ay ai5 8 ⟨Tryz.func83,Tryz.call83,ah⟩ _ _ _ _ (by decide) (λx=>by rw[KT];kernel_rfl)
end
end Go.Proofs.YtldlihheppdhnaaGreat
namespace Go.Proofs.YtldlihheppdhnaaGreat
noncomputable section
abbrev awj:Shape:= { sl:=[(pv 0 tI),(pv 1 tI)],ob:=[],lo:=0,nx:=0 }
abbrev awk:List Shape:=[{ sl:=[(0,(.c ⟨(.ptr tSP),.nil⟩)),(pv 1 tI)],ob:=[],lo:=0,nx:=0 }, { sl:=[(pc 0 tSP 1),(pv 1 tI)],ob:=[(1,(.p (.v tI) (.p (.v tI) (.p (.w 9 .str 2) (.m tI tI 3)))))],lo:=2,nx:=4 }]
def arY:Con:=lN awj awk λx=>xY x.1.1 x.1.2.1
def awl:Cx:=cx [] []
theorem ai6:au Tryz.prog awl:=au.of mixed aA fz fz
theorem ai7:av Tryz.prog 66 arY:=dW ai6 8 ⟨Tryz.func66,Tryz.call66,ah⟩ 2 _ _ _ (by decide) (λx=>by rw[IL];kernel_rfl)
def arZ:Con:=aP true [.str,.str] [tI] λx=>ji x.1 x.2.1
def awm:Cx:=cx [(186,O3)] []
theorem ai8:au Tryz.prog awm:=au.of mixed aA (fc ⟨Vj,fz⟩) fz
theorem ai9:av Tryz.prog 185 arZ:=ay ai8 8 ⟨Tryz.func185,Tryz.call185,ah⟩ _ _ _ _ (by decide) (λx=>by rw[vk];kernel_rfl)
abbrev as0:Shape:= { sl:=[(0,(.sz .str)),(1,(.v .str)),(2,(.c ⟨.fn,(.mk 185 [])⟩)),(pv 8 tI),(pv 9 tI),(pv 10 tI)],ob:=[],lo:=0,nx:=0 }
abbrev as1:List Ex:=[(.normal, { sl:=[(0,(.sz .str)),(1,(.v .str)),(2,(.c ⟨.fn,(.mk 185 [])⟩)),(pv 8 tI),(pv 9 tI)],ob:=[],lo:=0,nx:=0 })]
def as2:Code:=aW (aU Tryz.f184) 0
def aa3:Lp:=dA as0 as1 49 aI
def aia:Con:=a6D 185 [(.sl .str),.str] [tI,.bool] λx=>aZ x.1.1 x.1.2 x.2.1
def aib:Cx:=cx [(185,arZ)] []
theorem aa4:au Tryz.prog aib:=au.of mixed aA (fc ⟨ai9,fz⟩) fz
theorem as3:bV Tryz.prog 0 (.loop as2) aa3:=aK aa4 8 (ah) _ _ _ _ (by decide) λ_=>by kernel_rfl
theorem as4:fE Tryz.prog 184 Tryz.f184 [(0,aa3)]:=⟨Tryz.func184,Tryz.call184,bB (by kernel_rfl) (aJ as3 (by kernel_rfl) fz)⟩
theorem awn(nx)(x)(target):bX aib [(0,aa3)] (dZ aib 8) Tryz.f184 (jC [(.sl .str),.str] ((nx,x),target,())++[.v ⟨.fn,.mk 185 []⟩]) [] 0 (kJ [tI,.bool])=bF nx x target:=by kernel_rfl
theorem aa5:av Tryz.prog 184 aia:=abN aa4 8 as4 185 [(.sl .str),.str] [tI,.bool] _ (by decide) (λx=>by rw[dP];exact awn x.1.1 x.1.2 x.2.1)
abbrev awo:Shape:= { sl:=[(pc 0 tSP 0),(1,(.v .str))],ob:=[(0,ZZ7)],lo:=1,nx:=3 }
abbrev awp:List Shape:=[{ sl:=[(pv 0 tI),(1,(.v .bool))],ob:=[(0,(.p (.v tI) (.p (.v tI) (.p (.w 9 .str 3) (.m tI tI 4)))))],lo:=3,nx:=5 }]
def aic:Con:=lN awo awp λx=>lX x.1.2.1 x.2.1.1 x.2.1.2.1 x.2.1.2.2.1.1 x.2.1.2.2.1.2 x.2.1.2.2.2
def awq:Cx:=cx [(184,aia)] []
theorem aie:au Tryz.prog awq:=au.of mixed aA (fc ⟨aa5,fz⟩) fz
theorem aa6:av Tryz.prog 137 aic:=dW aie 8 ⟨Tryz.func137,Tryz.call137,ah⟩ 2 _ _ _ (by decide) (λx=>by rw[vo];kernel_rfl)
def aif:Con:=aP true [(.ptr tSP),.str] [tI,.bool] λx=>wG x.1 x.2.1
def aii:Cx:=cx [(184,aia)] []
theorem aij:au Tryz.prog aii:=au.of mixed aA (fc ⟨aa5,fz⟩) fz
theorem awr(s)(key):bX aii [] (dZ aii 8) Tryz.f137 (jC [(.ptr tSP),.str] (s,key,())) [] 0 (kJ [tI,.bool])=uH s key:=by cases s<;>kernel_rfl
theorem aa7:av Tryz.prog 137 aif:=ay aij 8 ⟨Tryz.func137,Tryz.call137,ah⟩ _ _ _ _ (by decide) (λx=>by rw[K4];exact awr x.1 x.2.1)
abbrev aws:Shape:= { sl:=[(pc 0 tSP 0),(1,(.v .str)),(pv 2 tI)],ob:=[(0,ZZ7)],lo:=1,nx:=3 }
abbrev awt:List Shape:=[{ sl:=[(pv 0 tI),(1,(.v .bool)),(pv 2 tI)],ob:=[(0,(.p (.v tI) (.p (.v tI) (.p (.w 9 .str 9) (.m tI tI 10)))))],lo:=9,nx:=11 }]
def aik:Con:=lN aws awt λx=>lY x.1.2.1 x.1.2.2.1 x.2.1.1 x.2.1.2.1 x.2.1.2.2.1.1 x.2.1.2.2.1.2 x.2.1.2.2.2
def awu:Cx:=cx [(130,ac1),(136,Vh),(137,lI 0 aic aif),(138,Yt)] []
theorem ail:au Tryz.prog awu:=au.of mixed aA (fc ⟨a4n,fc ⟨Vi,fc ⟨eF aa6 aa7,fc ⟨a1C,fz⟩⟩⟩⟩) fz
theorem aa8:av Tryz.prog 87 aik:=dW ail 8 ⟨Tryz.func87,Tryz.call87,ah⟩ 3 _ _ _ (by decide) (λx=>by rw[vw];kernel_rfl)
def ain:Con:=aP true [(.ptr tSP),.str,tI] [tI,.bool,tI] λx=>aX x.1 x.2.1 x.2.2.1
def aio:Cx:=cx [(130,ac1),(136,Vh),(137,lI 0 aic aif)] []
theorem aip:au Tryz.prog aio:=au.of mixed aA (fc ⟨a4n,fc ⟨Vi,fc ⟨eF aa6 aa7,fz⟩⟩⟩) fz
theorem awv(s)(key)(end_):bX aio [] (dZ aio 8) Tryz.f87 (jC [(.ptr tSP),.str,tI] (s,key,end_,())) [] 0 (kJ [tI,.bool,tI])=uI s key end_:=by cases s<;>kernel_rfl
theorem aa9:av Tryz.prog 87 ain:=ay aip 8 ⟨Tryz.func87,Tryz.call87,ah⟩ _ _ _ _ (by decide) (λx=>by rw[K5];exact awv x.1 x.2.1 x.2.2.1)
abbrev aww:Shape:= { sl:=[(pc 0 tSP 0)],ob:=[(0,ZZ7)],lo:=1,nx:=3 }
abbrev awx:List Shape:=[{ sl:=[(0,(.sz .str))],ob:=[(0,(.p (.v tI) (.p (.v tI) (.p (.w 9 .str 4) (.m tI tI 5)))))],lo:=4,nx:=6 }]
def aac:Con:=lN aww awx λx=>iD x.2.1.1 x.2.1.2.1 x.2.1.2.2.1.1 x.2.1.2.2.1.2 x.2.1.2.2.2
def awy:Cx:=cx [(77,Vf)] []
theorem aiq:au Tryz.prog awy:=au.of mixed aA (fc ⟨Vg,fz⟩) fz
theorem a05:av Tryz.prog 31 aac:=dW aiq 8 ⟨Tryz.func31,Tryz.call31,ah⟩ 1 _ _ _ (by decide) (λx=>by rw[ng];kernel_rfl)
def aad:Con:=aP false [(.ptr tSP)] [(.sl .str)] λx=>pQ x.1
def air:Cx:=cx [(77,Vf)] []
theorem ais:au Tryz.prog air:=au.of mixed aA (fc ⟨Vg,fz⟩) fz
theorem awz(s):bX air [] (dZ air 8) Tryz.f31 (jC [(.ptr tSP)] (s,())) [] 0 (kJ [(.sl .str)])=uJ s:=by cases s<;>kernel_rfl
theorem a06:av Tryz.prog 31 aad:=ay ais 8 ⟨Tryz.func31,Tryz.call31,ah⟩ _ _ _ _ (by decide) (λx=>by rw[K6];exact awz x.1)
end
end Go.Proofs.YtldlihheppdhnaaGreat
namespace Go.Proofs.YtldlihheppdhnaaGreat
noncomputable section
def as5:Con:=aP true [tI] [.bool] λx=>uL x.1
def awC:Cx:=cx [] []
theorem ait:au Tryz.prog awC:=au.of mixed aA fz fz
theorem aiu:av Tryz.prog 224 as5:=ay ait 8 ⟨Tryz.func224,Tryz.call224,ah⟩ _ _ _ _ (by decide) (λx=>by rw[BX];kernel_rfl)
def as6:Con:=aP true [tI,tI] [tI] λx=>kZ x.1 x.2.1
def awD:Cx:=cx [(224,as5)] []
theorem aiv:au Tryz.prog awD:=au.of mixed aA (fc ⟨aiu,fz⟩) fz
theorem aiw:av Tryz.prog 197 as6:=ay aiv 8 ⟨Tryz.func197,Tryz.call197,ah⟩ _ _ _ _ (by decide) (λx=>by rw[ze];kernel_rfl)
abbrev as7:Shape:= { sl:=[(pv 3 tI),(6,(.sz tI)),(pv 7 tI),(pv 8 tI)],ob:=[],lo:=0,nx:=0 }
abbrev as8:List Ex:=[(.ret, { sl:=[(pv 2 tI)],ob:=[],lo:=0,nx:=0 }),(.normal, { sl:=[(pv 3 tI)],ob:=[],lo:=0,nx:=0 })]
def as9:Code:=aW (aU Tryz.f196) 0
def adU:Lp:=dA as7 as8 18 eU
def asa:Con:=aP true [(.sl tI)] [tI] λx=>BZ x.1.1 x.1.2
def awE:Cx:=cx [] []
theorem aae:au Tryz.prog awE:=au.of mixed aA fz fz
theorem asb:bV Tryz.prog 0 (.loop as9) adU:=aK aae 8 (ah) _ _ _ _ (by decide) λ_=>by kernel_rfl
theorem asc:fE Tryz.prog 196 Tryz.f196 [(0,adU)]:=⟨Tryz.func196,Tryz.call196,bB (by kernel_rfl) (aJ asb (by kernel_rfl) fz)⟩
theorem aix:av Tryz.prog 196 asa:=ay aae 8 asc _ _ _ _ (by decide) (λx=>by rw[IQ];kernel_rfl)
end
end Go.Proofs.YtldlihheppdhnaaGreat
namespace Go.Proofs.YtldlihheppdhnaaGreat
noncomputable section
def ase:Con:=aP true [tI] [.bool] λx=>EY x.1
def awF:Cx:=cx [] []
theorem aiy:au Tryz.prog awF:=au.of mixed aA fz fz
theorem aiz:av Tryz.prog 189 ase:=ay aiy 8 ⟨Tryz.func189,Tryz.call189,ah⟩ _ _ _ _ (by decide) (λx=>by rw[FZ];kernel_rfl)
def ac2:Con:=aP true [(.pair tI tI)] [.bool] λx=>wH x.1
def awG:Cx:=cx [(189,ase)] []
theorem aiA:au Tryz.prog awG:=au.of mixed aA (fc ⟨aiz,fz⟩) fz
theorem a4o:av Tryz.prog 139 ac2:=ay aiA 8 ⟨Tryz.func139,Tryz.call139,ah⟩ _ _ _ _ (by decide) (λx=>by rw[Ol];kernel_rfl)
def asf:Con:=aP true [(.pair tI tI),(.pair tI tI)] [tI] λx=>xD x.1 x.2.1
def awH:Cx:=cx [(197,as6),(196,asa)] []
theorem aiB:au Tryz.prog awH:=au.of mixed aA (fc ⟨aiw,fc ⟨aix,fz⟩⟩) fz
theorem aiC:av Tryz.prog 150 asf:=ay aiB 8 ⟨Tryz.func150,Tryz.call150,ah⟩ _ _ _ _ (by decide) (λx=>by rw[DU];kernel_rfl)
end
end Go.Proofs.YtldlihheppdhnaaGreat
namespace Go.Proofs.YtldlihheppdhnaaGreat
noncomputable section
abbrev awI:Shape:= { sl:=[(pv 0 tI)],ob:=[],lo:=0,nx:=0 }
abbrev awJ:List Shape:=[{ sl:=[(0,(.c ⟨(.ptr tVT),(.rf 0 [])⟩)),(pv 1 tI)],ob:=[(0,(.v tVT))],lo:=1,nx:=1 }]
def ac3:Con:=lN awI awJ λx=>mg x.1.1
def awK:Cx:=cx [] []
theorem aiD:au Tryz.prog awK:=au.of mixed aA fz fz
theorem a4p:av Tryz.prog 78 ac3:=dW aiD 8 ⟨Tryz.func78,Tryz.call78,ah⟩ 2 _ _ _ (by decide) (λx=>by rw[G6];kernel_rfl)
abbrev awL:Shape:= { sl:=[(0,(.c ⟨(.ptr tVT),(.rf 0 [])⟩)),(pv 1 tI),(pv 2 (.pair tI tI)),(3,(.v .str))],ob:=[(0,(.v tVT))],lo:=1,nx:=1 }
abbrev awM:List Shape:=[{ sl:=[(0,(.v .bool))],ob:=[(0,(.v tVT))],lo:=2,nx:=2 }]
def aaf:Con:=lN awL awM λx=>fP x.1.2.1 x.1.2.2.1 x.1.2.2.2.1 x.2.1
def awN:Cx:=cx [(139,ac2)] [(79,Tryz.f79,[])]
theorem aiE:au Tryz.prog awN:=au.of mixed aA (fc ⟨a4o,fz⟩) (fc ⟨⟨Tryz.func79,Tryz.call79,ah⟩,fz⟩)
theorem a07:av Tryz.prog 88 aaf:=dW aiE 8 ⟨Tryz.func88,Tryz.call88,ah⟩ 1 _ _ _ (by decide) (λx=>by rw[xZ];kernel_rfl)
def aag:Con:=aP true [(.ptr tVT),tI,(.pair tI tI),.str] [.bool] λx=>G5 x.1 x.2.1 x.2.2.1 x.2.2.2.1
def aiF:Cx:=cx [(139,ac2)] [(79,Tryz.f79,[])]
theorem aiG:au Tryz.prog aiF:=au.of mixed aA (fc ⟨a4o,fz⟩) (fc ⟨⟨Tryz.func79,Tryz.call79,ah⟩,fz⟩)
theorem awO(v)(server)(s)(digest):bX aiF [] (dZ aiF 8) Tryz.f88 (jC [(.ptr tVT),tI,(.pair tI tI),.str] (v,server,s,digest,())) [] 0 (kJ [.bool])=wI v server s digest:=by cases v<;>kernel_rfl
theorem a08:av Tryz.prog 88 aag:=ay aiG 8 ⟨Tryz.func88,Tryz.call88,ah⟩ _ _ _ _ (by decide) (λx=>by rw[Ma];exact awO x.1 x.2.1 x.2.2.1 x.2.2.2.1)
abbrev asg:Shape:= { sl:=[(0,(.pz tVT)),(2,(.v .str)),(pc 4 (.pair tI tI) 0),(pv 7 tI),(pv 19 tI),(pv 20 tI)],ob:=[(pv 0 (.pair tI tI))],lo:=1,nx:=1 }
abbrev ash:List Ex:=[(.normal, { sl:=[(pv 7 tI)],ob:=[],lo:=1,nx:=1 })]
def asi:Code:=aW (aU Tryz.f140) 0
def aah:Lp:=dA asg ash 45 dB
def asj:Con:=aP true [(.ptr tVT),(.pair tI tI),.str] [tI] λx=>iP x.1 x.2.1 x.2.2.1
def aiH:Cx:=cx [(139,ac2)] []
theorem aai:au Tryz.prog aiH:=au.of mixed aA (fc ⟨a4o,fz⟩) fz
theorem asl:bV Tryz.prog 0 (.loop asi) aah:=aK aai 8 (ah) _ _ _ _ (by decide) λ_=>by kernel_rfl
theorem asn:fE Tryz.prog 140 Tryz.f140 [(0,aah)]:=⟨Tryz.func140,Tryz.call140,bB (by kernel_rfl) (aJ asl (by kernel_rfl) fz)⟩
theorem awP(v)(s)(digest):bX aiH [(0,aah)] (dZ aiH 8) Tryz.f140 (jC [(.ptr tVT),(.pair tI tI),.str] (v,s,digest,())) [] 0 (kJ [tI])=lZ v s digest:=by cases v<;>kernel_rfl
theorem aiI:av Tryz.prog 140 asj:=ay aai 8 asn _ _ _ _ (by decide) (λx=>by rw[y9];exact awP x.1 x.2.1 x.2.2.1)
def aiJ:Con:=aP true [(.ptr tVT),tI,tI,tI] [(.pair tI tI),.str] λx=>jk x.1 x.2.1 x.2.2.1 x.2.2.2.1
def aiK:Cx:=cx [] [(79,Tryz.f79,[])]
theorem aiL:au Tryz.prog aiK:=au.of mixed aA fz (fc ⟨⟨Tryz.func79,Tryz.call79,ah⟩,fz⟩)
theorem awQ(v)(server)(client)(odd):bX aiK [] (dZ aiK 8) Tryz.f35 (jC [(.ptr tVT),tI,tI,tI] (v,server,client,odd,())) [] 0 (kJ [(.pair tI tI),.str])=rD v server client odd:=by cases v<;>kernel_rfl
theorem aaj:av Tryz.prog 35 aiJ:=ay aiL 8 ⟨Tryz.func35,Tryz.call35,ah⟩ _ _ _ _ (by decide) (λx=>by rw[C8];exact awQ x.1 x.2.1 x.2.2.1 x.2.2.2.1)
end
end Go.Proofs.YtldlihheppdhnaaGreat
namespace Go.Proofs.YtldlihheppdhnaaGreat
noncomputable section
abbrev aak:Shape:= { sl:=[(0,(.po tGR)),(pv 1 tI),(pv 2 tI),(pv 3 tI)],ob:=[],lo:=0,nx:=0 }
abbrev aso:List Shape:=[{ sl:=[(0,(.c ⟨(.ptr tSV),.nil⟩)),(pv 1 tI)],ob:=[],lo:=4,nx:=4 }, { sl:=[(0,(.c ⟨(.ptr tSV),(.rf 5 [])⟩)),(pv 1 tI)],ob:=[(1,(.p (.v tI) (.p (.v tI) (.p (.w 9 .str 6) (.m tI tI 7))))),(5,(.p (.pz tGR) (.p (.v tI) (.p (.v tI) (.p (.v tI) (.p (.v tI) (.p (.c ⟨(.ptr tSP),(.rf 1 [])⟩) (.p (.bg .str tRC 8 none) (.sz tOU)))))))))],lo:=6,nx:=9 }]
def asq:Con:=lN aak aso λx=>uO x.1.1 x.1.2.1 x.1.2.2.1 x.1.2.2.2.1
def aiM:Cx:=cx [(65,abW),(66,arY)] []
theorem aiN:au Tryz.prog aiM:=au.of mixed aA (fc ⟨a4a,fc ⟨ai7,fz⟩⟩) fz
theorem awR(g)(t)(number)(clients):bX aiM [] (dZ aiM 8) Tryz.f24 ((jD aak.sl (show aak.X from((g,(t,(number,(clients,())))),())).1).map .v) (Gj aak ((g,(t,(number,(clients,())))),())) aak.nx (R5 2 aso)=xE g t number clients:=by cases g<;>kernel_rfl
theorem aiO:av Tryz.prog 24 asq:=dW aiN 8 ⟨Tryz.func24,Tryz.call24,ah⟩ 2 _ _ _ (by decide) (λx=>by rw[G7];exact awR x.1.1 x.1.2.1 x.1.2.2.1 x.1.2.2.2.1)
abbrev awS:Shape:= { sl:=[(0,(.c ⟨(.ptr tSV),(.rf 0 [])⟩)),(pv 1 tI),(2,ZZ2)],ob:=oS 2 3 4 [],lo:=2,nx:=5 }
abbrev awT:List Shape:=[{ sl:=[(0,(.v .bool))],ob:=oS 6 7 8 [],lo:=6,nx:=9 }]
def aiP:Con:=lN awS awT λx=>iX x.1.2.1 x.1.2.2.1.1 x.1.2.2.1.2.1 x.1.2.2.1.2.2.1 x.1.2.2.1.2.2.2.1 x.1.2.2.1.2.2.2.2.1 x.1.2.2.1.2.2.2.2.2.1.1 x.1.2.2.1.2.2.2.2.2.1.2 x.1.2.2.1.2.2.2.2.2.2.1 x.1.2.2.1.2.2.2.2.2.2.2 x.2
def awU:Cx:=cx [] []
theorem aiQ:au Tryz.prog awU:=au.of mixed aA fz fz
theorem aal:av Tryz.prog 84 aiP:=dW aiQ 8 ⟨Tryz.func84,Tryz.call84,ah⟩ 1 _ _ _ (by decide) (λx=>by rw[pY];kernel_rfl)
def aiR:Con:=aP true [(.ptr tSV),tI,tMS] [.bool] λx=>jO x.1 x.2.1 x.2.2.1
def aiS:Cx:=cx [] []
theorem aiT:au Tryz.prog aiS:=au.of mixed aA fz fz
theorem awV(s:Z02)(from_:Int)(m:Z0g):bX aiS [] (dZ aiS 8) Tryz.f84 (jC [(.ptr tSV),tI,tMS] (s,from_,m,())) [] 0 (kJ [.bool])=ni s from_ m:=by cases s<;>kernel_rfl
theorem aam:av Tryz.prog 84 aiR:=ay aiT 8 ⟨Tryz.func84,Tryz.call84,ah⟩ _ _ _ _ (by decide) (λx=>by rw[DV];exact awV x.1 x.2.1 x.2.2.1)
abbrev awW:Shape:= { sl:=[(0,(.c ⟨(.ptr tSV),(.rf 0 [])⟩)),(pv 1 tI),(2,ZZ2)],ob:=oS 2 3 4 [],lo:=2,nx:=5 }
abbrev awX:List Shape:=[{ sl:=[(0,(.v .bool))],ob:=oS 26 27 28 [],lo:=26,nx:=29 }]
def asr:Con:=lN awW awX λx=>kP x.1.2.1 x.1.2.2.1.1 x.1.2.2.1.2.1 x.1.2.2.1.2.2.1 x.1.2.2.1.2.2.2.1 x.1.2.2.1.2.2.2.2.1 x.1.2.2.1.2.2.2.2.2.1.1 x.1.2.2.1.2.2.2.2.2.1.2 x.1.2.2.1.2.2.2.2.2.2.1 x.1.2.2.1.2.2.2.2.2.2.2 x.2
def awY:Cx:=cx [(83,ai4),(84,lI 0 aiP aiR),(85,ahQ),(86,ahT),(87,lI 0 aik ain)] []
theorem aiU:au Tryz.prog awY:=au.of mixed aA (fc ⟨aa2,fc ⟨eF aal aam,fc ⟨a9Y,fc ⟨aa1,fc ⟨eF aa8 aa9,fz⟩⟩⟩⟩⟩) fz
theorem aiV:av Tryz.prog 42 asr:=dW aiU 8 ⟨Tryz.func42,Tryz.call42,ah⟩ 1 _ _ _ (by decide) (λx=>by rw[uP];kernel_rfl)
def asu:Con:=aP true [(.ptr tSV),tI,tMS] [.bool] λx=>C9 x.1 x.2.1 x.2.2.1
def aiW:Cx:=cx [(83,ai4),(84,lI 0 aiP aiR),(85,ahQ),(86,ahT),(87,lI 0 aik ain)] []
theorem aiX:au Tryz.prog aiW:=au.of mixed aA (fc ⟨aa2,fc ⟨eF aal aam,fc ⟨a9Y,fc ⟨aa1,fc ⟨eF aa8 aa9,fz⟩⟩⟩⟩⟩) fz
theorem awZ(s:Z02)(from_:Int)(m:Z0g):bX aiW [] (dZ aiW 8) Tryz.f42 (jC [(.ptr tSV),tI,tMS] (s,from_,m,())) [] 0 (kJ [.bool])=rY s from_ m:=by cases s<;>kernel_rfl
theorem aiY:av Tryz.prog 42 asu:=ay aiX 8 ⟨Tryz.func42,Tryz.call42,ah⟩ _ _ _ _ (by decide) (λx=>by rw[IU];exact awZ x.1 x.2.1 x.2.2.1)
abbrev ax0:Shape:= { sl:=[(0,(.c ⟨(.ptr tSV),(.rf 0 [])⟩)),(pv 1 tI),(2,ZZ2)],ob:=[(0,ZZ1),(1,ZZ0),(2,(.v tVT)),(3,(.v tVT)),(4,ZZ3)],lo:=5,nx:=9 }
abbrev ax1:List Shape:=[{ sl:=[],ob:=[(0,(.p (.pz tGR) (.p (.v tI) (.p (.v tI) (.p (.v tI) (.p (.v tI) (.p (.c ⟨(.ptr tSP),(.rf 4 [])⟩) (.p (.bg .str tRC 12 (some 1)) (.w 60 tOU 13))))))))),(1,ZZ0),(2,(.v tVT)),(3,(.v tVT)),(4,(.p (.v tI) (.p (.v tI) (.p (.w 9 .str 14) (.m tI tI 15)))))],lo:=12,nx:=16 }]
def a1G:Con:=lN ax0 ax1 λx=>bI x.1.2.1 x.1.2.2.1.1 x.1.2.2.1.2.1 x.1.2.2.1.2.2.1 x.1.2.2.1.2.2.2.1 x.1.2.2.1.2.2.2.2.1 x.1.2.2.1.2.2.2.2.2.1.1 x.1.2.2.1.2.2.2.2.2.1.2 x.1.2.2.1.2.2.2.2.2.2.1 x.1.2.2.1.2.2.2.2.2.2.2 x.2
def ax2:Cx:=cx [] []
theorem aiZ:au Tryz.prog ax2:=au.of mixed aA fz fz
theorem Md:av Tryz.prog 80 a1G:=dW aiZ 8 ⟨Tryz.func80,Tryz.call80,ah⟩ 0 _ _ _ (by decide) (λx=>by rw[qM];kernel_rfl)
def ac4:Con:=aP true [tVA,(.pair tI tI),.str] [.bool] λx=>fQ x.1 x.2.1 x.2.2.1
def ax3:Cx:=cx [] []
theorem aj0:au Tryz.prog ax3:=au.of mixed aA fz fz
theorem a4q:av Tryz.prog 92 ac4:=ay aj0 8 ⟨Tryz.func92,Tryz.call92,ah⟩ _ _ _ _ (by decide) (λx=>by rw[yc];kernel_rfl)
abbrev aan:Shape:= { sl:=[(1,(.c ⟨(.ptr tRC),(.rf 1 [])⟩)),(2,(.c ⟨.fn,(.mk 81 [((.ptr tSV),9,[]),((.ptr tRC),10,[])])⟩)),(pv 10 tI),(pv 11 tI)],ob:=[(0,(.p (.pz tGR) (.p (.v tI) (.p (.v tI) (.p (.v tI) (.p (.v tI) (.p (.c ⟨(.ptr tSP),(.rf 4 [])⟩) (.p (.bg .str tRC 11 (some 1)) (.w 60 tOU 12))))))))),(1,ZZ0),(2,(.v tVT)),(3,(.v tVT)),(4,(.p (.v tI) (.p (.v tI) (.p (.w 9 .str 13) (.m tI tI 14))))),(9,(.c ⟨(.ptr tSV),(.rf 0 [])⟩)),(10,(.c ⟨(.ptr tRC),(.rf 1 [])⟩))],lo:=11,nx:=15 }
abbrev aao:List Ex:=[(.normal, { sl:=[],ob:=[(0,(.p (.pz tGR) (.p (.v tI) (.p (.v tI) (.p (.v tI) (.p (.v tI) (.p (.c ⟨(.ptr tSP),(.rf 4 [])⟩) (.p (.bg .str tRC 15 (some 1)) (.w 60 tOU 16))))))))),(1,ZZ0),(2,(.v tVT)),(3,(.v tVT)),(4,(.p (.v tI) (.p (.v tI) (.p (.w 9 .str 17) (.m tI tI 18))))),(9,(.c ⟨(.ptr tSV),(.rf 0 [])⟩)),(10,(.c ⟨(.ptr tRC),(.rf 1 [])⟩))],lo:=15,nx:=19 })]
def aap:Code:=aW (aU Tryz.f33) 0
def a1H:Lp:=dA aan aao 24 bR
abbrev ax4:Shape:= { sl:=[(0,(.c ⟨(.ptr tSV),(.rf 0 [])⟩)),(1,(.c ⟨(.ptr tRC),(.rf 1 [])⟩))],ob:=[(0,ZZ1),(1,ZZ0),(2,(.v tVT)),(3,(.v tVT)),(4,ZZ3)],lo:=5,nx:=9 }
abbrev ax5:List Shape:=[{ sl:=[],ob:=[(0,(.p (.pz tGR) (.p (.v tI) (.p (.v tI) (.p (.v tI) (.p (.v tI) (.p (.c ⟨(.ptr tSP),(.rf 4 [])⟩) (.p (.bg .str tRC 19 (some 1)) (.w 60 tOU 20))))))))),(1,ZZ0),(2,(.v tVT)),(3,(.v tVT)),(4,(.p (.v tI) (.p (.v tI) (.p (.w 9 .str 21) (.m tI tI 22)))))],lo:=19,nx:=23 }]
def a6M:Con:=lN ax4 ax5 λx=>dz x.2
def ax6:Cx:=cx [(80,a1G)] [(33,Tryz.f33,[(0,a1H)]),(81,Tryz.f81,[]),(43,Tryz.f43,[])]
def Bn:Cx:=cx [(80,a1G)] [(81,Tryz.f81,[]),(43,Tryz.f43,[])]
theorem zJ:au Tryz.prog Bn:=au.of mixed aA (fc ⟨Md,fz⟩) (fc ⟨⟨Tryz.func81,Tryz.call81,ah⟩,fc ⟨⟨Tryz.func43,Tryz.call43,ah⟩,fz⟩⟩)
theorem aaq:bV Tryz.prog 0 (.loop aap) a1H:=aK zJ 8 (ah) _ _ _ _ (by decide) λ_=>by kernel_rfl
theorem aj1:au Tryz.prog ax6:=au.of mixed aA (fc ⟨Md,fz⟩) (fc ⟨⟨Tryz.func33,Tryz.call33,bB (by kernel_rfl) (aJ aaq (by kernel_rfl) fz)⟩,fc ⟨⟨Tryz.func81,Tryz.call81,ah⟩,fc ⟨⟨Tryz.func43,Tryz.call43,ah⟩,fz⟩⟩⟩)
theorem VD:av Tryz.prog 37 a6M:=dW aj1 8 ⟨Tryz.func37,Tryz.call37,ah⟩ 0 _ _ _ (by decide) (λx=>by rw[uQ];kernel_rfl)
abbrev ax7:Shape:= { sl:=[(0,(.c ⟨(.ptr tRC),(.rf 0 [])⟩)),(pv 1 (.pair tI tI))],ob:=[(0,ZZ4),(1,(.v tVT)),(2,(.v tVT))],lo:=3,nx:=3 }
abbrev ax8:List Shape:=[{ sl:=[(0,(.v .bool))],ob:=[(0,ZZ4),(1,(.v tVT)),(2,(.v tVT))],lo:=4,nx:=4 }]
def aar:Con:=lN ax7 ax8 λx=>cu x.1.2.1 x.2
def ax9:Cx:=cx [(150,asf)] []
theorem aj2:au Tryz.prog ax9:=au.of mixed aA (fc ⟨aiC,fz⟩) fz
theorem a09:av Tryz.prog 93 aar:=dW aj2 8 ⟨Tryz.func93,Tryz.call93,ah⟩ 1 _ _ _ (by decide) (λx=>by rw[qN];kernel_rfl)
abbrev axa:Shape:= { sl:=[(0,(.c ⟨(.ptr tRC),(.rf 0 [])⟩)),(pv 1 (.pair tI tI))],ob:=[(0,ZZ4),(1,(.v tVT)),(2,(.v tVT))],lo:=3,nx:=3 }
abbrev axb:List Shape:=[{ sl:=[(0,(.v .bool))],ob:=[(0,ZZ4),(1,(.v tVT)),(2,(.v tVT))],lo:=4,nx:=4 }]
def ac5:Con:=lN axa axb λx=>iJ x.1.2.1 x.2
def axc:Cx:=cx [] []
theorem aj3:au Tryz.prog axc:=au.of mixed aA fz fz
theorem a4r:av Tryz.prog 95 ac5:=dW aj3 8 ⟨Tryz.func95,Tryz.call95,ah⟩ 1 _ _ _ (by decide) (λx=>by rw[tJ];kernel_rfl)
abbrev asv:Shape:= { sl:=[(0,(.c ⟨(.ptr tSV),(.rf 0 [])⟩)),(pv 1 tI),(2,(.c ⟨(.ptr tRC),(.rf 1 [])⟩)),(4,(.v .str)),(pc 8 (.pair tI tI) 9),(pv 14 tI),(pv 15 tI)],ob:=[(0,(.p (.pz tGR) (.p (.v tI) (.p (.v tI) (.p (.v tI) (.p (.v tI) (.p (.c ⟨(.ptr tSP),(.rf 4 [])⟩) (.p (.bg .str tRC 10 (some 1)) (.w 60 tOU 11))))))))),(1,ZZ0),(2,(.v tVT)),(3,(.v tVT)),(4,(.p (.v tI) (.p (.v tI) (.p (.w 9 .str 12) (.m tI tI 13))))),(pv 9 (.pair tI tI))],lo:=10,nx:=14 }
abbrev asw:List Ex:=[(.normal, { sl:=[(0,(.c ⟨(.ptr tSV),(.rf 0 [])⟩)),(2,(.c ⟨(.ptr tRC),(.rf 1 [])⟩))],ob:=[(0,(.p (.pz tGR) (.p (.v tI) (.p (.v tI) (.p (.v tI) (.p (.v tI) (.p (.c ⟨(.ptr tSP),(.rf 4 [])⟩) (.p (.bg .str tRC 14 (some 1)) (.w 60 tOU 15))))))))),(1,ZZ0),(2,(.v tVT)),(3,(.v tVT)),(4,(.p (.v tI) (.p (.v tI) (.p (.w 9 .str 16) (.m tI tI 17)))))],lo:=14,nx:=18 })]
def asx:Code:=aW (aU Tryz.f36) 0
def adV:Lp:=dA asv asw 38 bL
abbrev axd:Shape:= { sl:=[(0,(.c ⟨(.ptr tSV),(.rf 0 [])⟩)),(pv 1 tI),(2,(.c ⟨(.ptr tRC),(.rf 1 [])⟩)),(pv 3 (.pair tI tI)),(4,(.v .str))],ob:=[(0,ZZ1),(1,ZZ0),(2,(.v tVT)),(3,(.v tVT)),(4,ZZ3)],lo:=5,nx:=9 }
abbrev axe:List Shape:=[{ sl:=[],ob:=[(0,(.p (.pz tGR) (.p (.v tI) (.p (.v tI) (.p (.v tI) (.p (.v tI) (.p (.c ⟨(.ptr tSP),(.rf 4 [])⟩) (.p (.bg .str tRC 18 (some 1)) (.w 60 tOU 19))))))))),(1,ZZ0),(2,(.v tVT)),(3,(.v tVT)),(4,(.p (.v tI) (.p (.v tI) (.p (.w 9 .str 20) (.m tI tI 21)))))],lo:=18,nx:=22 }]
def aas:Con:=lN axd axe λx=>bE x.1.2.1 x.1.2.2.2.1 x.1.2.2.2.2.1 x.2
def axf:Cx:=cx [(80,a1G)] []
theorem aat:au Tryz.prog axf:=au.of mixed aA (fc ⟨Md,fz⟩) fz
theorem asy:bV Tryz.prog 0 (.loop asx) adV:=aK aat 8 (ah) _ _ _ _ (by decide) λ_=>by kernel_rfl
theorem asz:fE Tryz.prog 36 Tryz.f36 [(0,adV)]:=⟨Tryz.func36,Tryz.call36,bB (by kernel_rfl) (aJ asy (by kernel_rfl) fz)⟩
theorem a0a:av Tryz.prog 36 aas:=dW aat 8 asz 0 _ _ _ (by decide) (λx=>by rw[oJ];kernel_rfl)
abbrev a6N:Shape:= { sl:=[(0,(.c ⟨(.ptr tSV),(.rf 0 [])⟩)),(1,(.c ⟨(.ptr tRC),(.rf 1 [])⟩)),(pv 2 (.pair tI tI)),(3,(.v .str))],ob:=[(0,ZZ1),(1,ZZ0),(2,(.v tVT)),(3,(.v tVT)),(4,ZZ3)],lo:=5,nx:=9 }
abbrev aj4:List Shape:=[{ sl:=[],ob:=[(0,(.p (.pz tGR) (.p (.v tI) (.p (.v tI) (.p (.v tI) (.p (.v tI) (.p (.c ⟨(.ptr tSP),(.rf 4 [])⟩) (.p (.bg .str tRC 9 (some 1)) (.w 60 tOU 10))))))))),(1,ZZ0),(2,(.v tVT)),(3,(.v tVT)),(4,(.p (.v tI) (.p (.v tI) (.p (.w 9 .str 11) (.m tI tI 12)))))],lo:=9,nx:=13 }]
def Q5(n:Nat):Con:=lN a6N aj4 λx=>aD n x.1.2.2.1 x.1.2.2.2.1 x.2
abbrev a6O:Shape:= { sl:=[(0,(.c ⟨(.ptr tSV),(.rf 0 [])⟩)),(1,(.c ⟨(.ptr tRC),(.rf 1 [])⟩)),(pv 2 (.pair tI tI)),(3,(.v .str))],ob:=[(0,ZZ1),(1,ZZ0),(2,(.v tVT)),(3,(.v tVT)),(4,ZZ3)],lo:=5,nx:=9 }
abbrev aj5:List Shape:=[{ sl:=[],ob:=[(0,(.p (.pz tGR) (.p (.v tI) (.p (.v tI) (.p (.v tI) (.p (.v tI) (.p (.c ⟨(.ptr tSP),(.rf 4 [])⟩) (.p (.bg .str tRC 41 (some 1)) (.w 60 tOU 42))))))))),(1,ZZ0),(2,(.v tVT)),(3,(.v tVT)),(4,(.p (.v tI) (.p (.v tI) (.p (.w 9 .str 43) (.m tI tI 44)))))],lo:=41,nx:=45 }]
def ac6(n:Nat):Con:=lN a6O aj5 λx=>eD (aD n) x.1.2.2.1 x.1.2.2.2.1 x.2
def aj6(n:Nat):Cx:=cx [(140,asj),(88,lI 0 aaf aag),(36,aas),(93,aar),(141,Q5 n)] []
theorem aj7(n:Nat)(ih:av Tryz.prog 141 (Q5 n)):au Tryz.prog (aj6 n):=au.of mixed aA (fc ⟨aiI,fc ⟨eF a07 a08,fc ⟨a0a,fc ⟨a09,fc ⟨ih,fz⟩⟩⟩⟩⟩) fz
theorem asA(n:Nat)(ih:av Tryz.prog 141 (Q5 n)):fE Tryz.prog 89 Tryz.f89 []:=⟨Tryz.func89,Tryz.call89,ah⟩
theorem axg(n)(p)(digest)(o):bX (aj6 n) [] (dZ (aj6 n) 8) Tryz.f89 ((jD a6O.sl (show a6O.X from(((),((),(p,(digest,())))),o)).1).map .v) (Gj a6O (((),((),(p,(digest,())))),o)) a6O.nx (R5 0 aj5)=iY (aD n) p digest o:=by kernel_rfl
theorem a4s(n:Nat)(ih:av Tryz.prog 141 (Q5 n)):av Tryz.prog 89 (ac6 n):=dW (aj7 n ih) 8 (asA n ih) 0 a6O aj5 _ (by decide) (λx=>by rw[qO];exact axg n x.1.2.2.1 x.1.2.2.2.1 x.2)
abbrev a6P:Shape:= { sl:=[(0,(.c ⟨(.ptr tSV),(.rf 0 [])⟩)),(1,(.c ⟨(.ptr tRC),(.rf 1 [])⟩)),(2,(.v tPR))],ob:=[(0,ZZ1),(1,ZZ0),(2,(.v tVT)),(3,(.v tVT)),(4,ZZ3)],lo:=5,nx:=9 }
abbrev aj8:List Shape:=[{ sl:=[],ob:=[(0,(.p (.pz tGR) (.p (.v tI) (.p (.v tI) (.p (.v tI) (.p (.v tI) (.p (.c ⟨(.ptr tSP),(.rf 4 [])⟩) (.p (.bg .str tRC 68 (some 1)) (.w 60 tOU 69))))))))),(1,ZZ0),(2,(.v tVT)),(3,(.v tVT)),(4,(.p (.v tI) (.p (.v tI) (.p (.w 9 .str 70) (.m tI tI 71)))))],lo:=68,nx:=72 }]
def ac7(n:Nat):Con:=lN a6P aj8 λx=>gK (aD n) x.1.2.2.1 x.2
def aj9(n:Nat):Cx:=cx [(88,lI 0 aaf aag),(36,aas),(89,ac6 n)] []
theorem aja(n:Nat)(ih:av Tryz.prog 141 (Q5 n)):au Tryz.prog (aj9 n):=au.of mixed aA (fc ⟨eF a07 a08,fc ⟨a0a,fc ⟨(a4s n ih),fz⟩⟩⟩) fz
theorem asB(n:Nat)(ih:av Tryz.prog 141 (Q5 n)):fE Tryz.prog 96 Tryz.f96 []:=⟨Tryz.func96,Tryz.call96,ah⟩
theorem axh(n)(p)(o):bX (aj9 n) [] (dZ (aj9 n) 8) Tryz.f96 ((jD a6P.sl (show a6P.X from(((),((),(p,()))),o)).1).map .v) (Gj a6P (((),((),(p,()))),o)) a6P.nx (R5 0 aj8)=iZ (aD n) p o:=by kernel_rfl
theorem a4t(n:Nat)(ih:av Tryz.prog 141 (Q5 n)):av Tryz.prog 96 (ac7 n):=dW (aja n ih) 8 (asB n ih) 0 a6P aj8 _ (by decide) (λx=>by rw[qP];exact axh n x.1.2.2.1 x.2)
abbrev DW:Shape:= { sl:=[(1,(.c ⟨(.ptr tRC),(.rf 1 [])⟩)),(2,(.c ⟨.fn,(.mk 190 [((.ptr tRC),10,[]),((.ptr tSV),9,[])])⟩)),(pv 10 tI),(pv 11 tI)],ob:=[(0,(.p (.pz tGR) (.p (.v tI) (.p (.v tI) (.p (.v tI) (.p (.v tI) (.p (.c ⟨(.ptr tSP),(.rf 4 [])⟩) (.p (.bg .str tRC 34 (some 1)) (.w 60 tOU 35))))))))),(1,ZZ0),(2,(.v tVT)),(3,(.v tVT)),(4,(.p (.v tI) (.p (.v tI) (.p (.w 9 .str 36) (.m tI tI 37))))),(9,(.c ⟨(.ptr tSV),(.rf 0 [])⟩)),(10,(.c ⟨(.ptr tRC),(.rf 1 [])⟩)),(pv 11 (.pair tI tI))],lo:=34,nx:=38 }
abbrev VE:List Ex:=[(.normal, { sl:=[],ob:=[(0,(.p (.pz tGR) (.p (.v tI) (.p (.v tI) (.p (.v tI) (.p (.v tI) (.p (.c ⟨(.ptr tSP),(.rf 4 [])⟩) (.p (.bg .str tRC 38 (some 1)) (.w 60 tOU 39))))))))),(1,ZZ0),(2,(.v tVT)),(3,(.v tVT)),(4,(.p (.v tI) (.p (.v tI) (.p (.w 9 .str 40) (.m tI tI 41))))),(9,(.c ⟨(.ptr tSV),(.rf 0 [])⟩)),(10,(.c ⟨(.ptr tRC),(.rf 1 [])⟩)),(pv 11 (.pair tI tI))],lo:=38,nx:=42 })]
def a1I:Code:=aW (aU Tryz.f33) 0
def a1J(n:Nat):Lp:=dA DW VE 24 (aQ (aD n))
abbrev yj:Shape:= { sl:=[(1,(.c ⟨(.ptr tRC),(.rf 1 [])⟩)),(2,(.c ⟨.fn,(.mk 191 [((.ptr tRC),10,[]),((.ptr tSV),9,[])])⟩)),(pv 10 tI),(pv 11 tI)],ob:=[(0,(.p (.pz tGR) (.p (.v tI) (.p (.v tI) (.p (.v tI) (.p (.v tI) (.p (.c ⟨(.ptr tSP),(.rf 4 [])⟩) (.p (.bg .str tRC 42 (some 1)) (.w 60 tOU 43))))))))),(1,ZZ0),(2,(.v tVT)),(3,(.v tVT)),(4,(.p (.v tI) (.p (.v tI) (.p (.w 9 .str 44) (.m tI tI 45))))),(9,(.c ⟨(.ptr tSV),(.rf 0 [])⟩)),(10,(.c ⟨(.ptr tRC),(.rf 1 [])⟩)),(pv 11 (.pair tI tI))],lo:=42,nx:=46 }
abbrev IX:List Ex:=[(.normal, { sl:=[],ob:=[(0,(.p (.pz tGR) (.p (.v tI) (.p (.v tI) (.p (.v tI) (.p (.v tI) (.p (.c ⟨(.ptr tSP),(.rf 4 [])⟩) (.p (.bg .str tRC 46 (some 1)) (.w 60 tOU 47))))))))),(1,ZZ0),(2,(.v tVT)),(3,(.v tVT)),(4,(.p (.v tI) (.p (.v tI) (.p (.w 9 .str 48) (.m tI tI 49))))),(9,(.c ⟨(.ptr tSV),(.rf 0 [])⟩)),(10,(.c ⟨(.ptr tRC),(.rf 1 [])⟩)),(pv 11 (.pair tI tI))],lo:=46,nx:=50 })]
def RG:Code:=aW (aU Tryz.f33) 0
def RH(n:Nat):Lp:=dA yj IX 24 (aM (aD n))
def ajb(n:Nat):Cx:=cx [(92,ac4),(37,a6M),(93,aar),(80,a1G),(95,ac5),(96,ac7 n)] [(33,Tryz.f33,[(0,(a1m DW (a1J n) (RH n)))]),(190,Tryz.f190,[]),(94,Tryz.f94,[]),(191,Tryz.f191,[])]
def dG(n:Nat):Cx:=cx [(92,ac4),(37,a6M),(93,aar),(80,a1G),(95,ac5),(96,ac7 n)] [(190,Tryz.f190,[]),(94,Tryz.f94,[]),(191,Tryz.f191,[])]
theorem lJ(n:Nat)(ih:av Tryz.prog 141 (Q5 n)):au Tryz.prog (dG n):=au.of mixed aA (fc ⟨a4q,fc ⟨VD,fc ⟨a09,fc ⟨Md,fc ⟨a4r,fc ⟨(a4t n ih),fz⟩⟩⟩⟩⟩⟩) (fc ⟨⟨Tryz.func190,Tryz.call190,ah⟩,fc ⟨⟨Tryz.func94,Tryz.call94,ah⟩,fc ⟨⟨Tryz.func191,Tryz.call191,ah⟩,fz⟩⟩⟩)
theorem aau(n:Nat)(x:DW.X):zX (dG n) [] (dZ (dG n) 8) a1I (DW.mkS 24 x) (qg 0 DW VE)=(aQ (aD n)) x:=by kernel_rfl
theorem aav(n:Nat)(ih:av Tryz.prog 141 (Q5 n)):bV Tryz.prog 0 (.loop a1I) (a1J n):=aK (lJ n ih) 8 (ah) DW VE 24 (aQ (aD n)) (by decide) (aau n)
theorem a1K(n:Nat)(x:yj.X):zX (dG n) [] (dZ (dG n) 8) RG (yj.mkS 24 x) (qg 0 yj IX)=(aM (aD n)) x:=by kernel_rfl
theorem a1L(n:Nat)(ih:av Tryz.prog 141 (Q5 n)):bV Tryz.prog 0 (.loop RG) (RH n):=aK (lJ n ih) 8 (ah) yj IX 24 (aM (aD n)) (by decide) (a1K n)
theorem ajc(n:Nat)(ih:av Tryz.prog 141 (Q5 n)):au Tryz.prog (ajb n):=au.of mixed aA (fc ⟨a4q,fc ⟨VD,fc ⟨a09,fc ⟨Md,fc ⟨a4r,fc ⟨(a4t n ih),fz⟩⟩⟩⟩⟩⟩) (fc ⟨⟨Tryz.func33,Tryz.call33,bB (by kernel_rfl) (aJ (Te (aav n ih) (a1L n ih)) (by kernel_rfl) fz)⟩,fc ⟨⟨Tryz.func190,Tryz.call190,ah⟩,fc ⟨⟨Tryz.func94,Tryz.call94,ah⟩,fc ⟨⟨Tryz.func191,Tryz.call191,ah⟩,fz⟩⟩⟩⟩)
theorem asC(n:Nat)(ih:av Tryz.prog 141 (Q5 n)):fE Tryz.prog 141 Tryz.f141 []:=⟨Tryz.func141,Tryz.call141,ah⟩
theorem axi(n)(p)(digest)(o):bX (ajb n) [] (dZ (ajb n) 8) Tryz.f141 ((jD a6N.sl (show a6N.X from(((),((),(p,(digest,())))),o)).1).map .v) (Gj a6N (((),((),(p,(digest,())))),o)) a6N.nx (R5 0 aj4)=fU (aD n) p digest o:=by kernel_rfl
theorem VF: ∀n,av Tryz.prog 141 (Q5 n)
  |0=>a6F λx=>by rw[Aw];exact Eq.refl none
  |n+1=>dW (ajc n (VF n)) 8 (asC n (VF n)) 0 a6N aj4 _ (by decide) (λx=>by rw[oK];exact axi n x.1.2.2.1 x.1.2.2.2.1 x.2)
abbrev axj:Shape:= { sl:=[(0,(.c ⟨(.ptr tSV),(.rf 0 [])⟩)),(1,(.c ⟨(.ptr tRC),(.rf 1 [])⟩)),(2,(.c ⟨(.ptr tVT),(.rf 2 [])⟩)),(pv 3 tI),(4,ZZ2)],ob:=[(0,ZZ1),(1,ZZ0),(2,(.v tVT)),(3,(.v tVT)),(4,ZZ3)],lo:=5,nx:=9 }
abbrev axk:List Shape:=[{ sl:=[],ob:=[(0,ZZ5),(1,ZZ0),(2,(.v tVT)),(3,(.v tVT)),(4,(.p (.v tI) (.p (.v tI) (.p (.w 9 .str 53) (.m tI tI 54)))))],lo:=51,nx:=55 }]
def asD:Con:=lN axj axk λx=>jr x.1.2.2.2.1 x.1.2.2.2.2.1.1 x.1.2.2.2.2.1.2.1 x.1.2.2.2.2.1.2.2.1 x.1.2.2.2.2.1.2.2.2.1 x.1.2.2.2.2.1.2.2.2.2.1 x.1.2.2.2.2.1.2.2.2.2.2.1.1 x.1.2.2.2.2.1.2.2.2.2.2.1.2 x.1.2.2.2.2.1.2.2.2.2.2.2.1 x.1.2.2.2.2.1.2.2.2.2.2.2.2 x.2
def axl:Cx:=cx [(88,lI 0 aaf aag),(89,ac6 5)] []
theorem ajd:au Tryz.prog axl:=au.of mixed aA (fc ⟨eF a07 a08,fc ⟨(a4s 5 (VF 5)),fz⟩⟩) fz
theorem aje:av Tryz.prog 44 asD:=dW ajd 8 ⟨Tryz.func44,Tryz.call44,ah⟩ 0 _ _ _ (by decide) (λx=>by rw[qQ];kernel_rfl)
abbrev axm:Shape:= { sl:=[(0,(.c ⟨(.ptr tSV),(.rf 0 [])⟩)),(1,(.c ⟨(.ptr tRC),(.rf 1 [])⟩)),(2,(.c ⟨(.ptr tVT),(.rf 3 [])⟩)),(pv 3 tI),(4,ZZ2)],ob:=[(0,ZZ1),(1,ZZ0),(2,(.v tVT)),(3,(.v tVT)),(4,ZZ3)],lo:=5,nx:=9 }
abbrev axn:List Shape:=[{ sl:=[],ob:=[(0,ZZ5),(1,ZZ0),(2,(.v tVT)),(3,(.v tVT)),(4,(.p (.v tI) (.p (.v tI) (.p (.w 9 .str 53) (.m tI tI 54)))))],lo:=51,nx:=55 }]
def asE:Con:=lN axm axn λx=>j4 x.1.2.2.2.1 x.1.2.2.2.2.1.1 x.1.2.2.2.2.1.2.1 x.1.2.2.2.2.1.2.2.1 x.1.2.2.2.2.1.2.2.2.1 x.1.2.2.2.2.1.2.2.2.2.1 x.1.2.2.2.2.1.2.2.2.2.2.1.1 x.1.2.2.2.2.1.2.2.2.2.2.1.2 x.1.2.2.2.2.1.2.2.2.2.2.2.1 x.1.2.2.2.2.1.2.2.2.2.2.2.2 x.2
def axo:Cx:=cx [(88,lI 0 aaf aag),(89,ac6 5)] []
theorem ajf:au Tryz.prog axo:=au.of mixed aA (fc ⟨eF a07 a08,fc ⟨(a4s 5 (VF 5)),fz⟩⟩) fz
theorem ajg:av Tryz.prog 44 asE:=dW ajf 8 ⟨Tryz.func44,Tryz.call44,ah⟩ 0 _ _ _ (by decide) (λx=>by rw[qb];kernel_rfl)
abbrev axp:Shape:= { sl:=[(0,(.c ⟨(.ptr tSV),(.rf 0 [])⟩)),(1,(.c ⟨(.ptr tRC),(.rf 1 [])⟩)),(pv 2 tVA)],ob:=[(0,ZZ1),(1,ZZ0),(2,(.v tVT)),(3,(.v tVT)),(4,ZZ3)],lo:=5,nx:=9 }
abbrev axq:List Shape:=[{ sl:=[],ob:=[(0,(.p (.pz tGR) (.p (.v tI) (.p (.v tI) (.p (.v tI) (.p (.v tI) (.p (.c ⟨(.ptr tSP),(.rf 4 [])⟩) (.p (.bg .str tRC 28 (some 1)) (.w 60 tOU 29))))))))),(1,ZZ0),(2,(.v tVT)),(3,(.v tVT)),(4,(.p (.v tI) (.p (.v tI) (.p (.w 9 .str 30) (.m tI tI 31)))))],lo:=28,nx:=32 }]
def ajh:Con:=lN axp axq λx=>gL x.1.2.2.1 x.2
def axr:Cx:=cx [(92,ac4),(37,a6M)] []
theorem aji:au Tryz.prog axr:=au.of mixed aA (fc ⟨a4q,fc ⟨VD,fz⟩⟩) fz
theorem aaw:av Tryz.prog 46 ajh:=dW aji 8 ⟨Tryz.func46,Tryz.call46,ah⟩ 0 _ _ _ (by decide) (λx=>by rw[qR];kernel_rfl)
abbrev axt:Shape:= { sl:=[(0,(.c ⟨(.ptr tSV),(.rf 0 [])⟩)),(1,(.c ⟨(.ptr tRC),(.rf 1 [])⟩)),(pv 2 tI),(3,(.v tPR))],ob:=[(0,ZZ1),(1,ZZ0),(2,(.v tVT)),(3,(.v tVT)),(4,ZZ3)],lo:=5,nx:=9 }
abbrev axu:List Shape:=[{ sl:=[],ob:=[(0,(.p (.pz tGR) (.p (.v tI) (.p (.v tI) (.p (.v tI) (.p (.v tI) (.p (.c ⟨(.ptr tSP),(.rf 4 [])⟩) (.p (.bg .str tRC 79 (some 1)) (.w 60 tOU 80))))))))),(1,ZZ0),(2,(.v tVT)),(3,(.v tVT)),(4,(.p (.v tI) (.p (.v tI) (.p (.w 9 .str 81) (.m tI tI 82)))))],lo:=79,nx:=83 }]
def asF:Con:=lN axt axu λx=>iG x.1.2.2.1 x.1.2.2.2.1 x.2
def axv:Cx:=cx [(93,aar),(46,ajh),(80,a1G),(95,ac5),(96,ac7 5)] [(94,Tryz.f94,[])]
theorem ajj:au Tryz.prog axv:=au.of mixed aA (fc ⟨a09,fc ⟨aaw,fc ⟨Md,fc ⟨a4r,fc ⟨(a4t 5 (VF 5)),fz⟩⟩⟩⟩⟩) (fc ⟨⟨Tryz.func94,Tryz.call94,ah⟩,fz⟩)
theorem ajk:av Tryz.prog 47 asF:=dW ajj 8 ⟨Tryz.func47,Tryz.call47,ah⟩ 0 _ _ _ (by decide) (λx=>by rw[nL];kernel_rfl)
abbrev a6Q:Shape:= { sl:=[(0,(.c ⟨(.ptr tSV),(.rf 0 [])⟩)),(pv 1 tI),(2,ZZ2)],ob:=oS 2 3 4 [],lo:=2,nx:=5 }
abbrev ajl:List Shape:=[{ sl:=[(0,(.sz tOU))],ob:=oS 120 121 122 [],lo:=120,nx:=123 }]
def ajm:Con:=lN a6Q ajl λx=>bC x.1.2.1 x.1.2.2.1.1 x.1.2.2.1.2.1 x.1.2.2.1.2.2.1 x.1.2.2.1.2.2.2.1 x.1.2.2.1.2.2.2.2.1 x.1.2.2.1.2.2.2.2.2.1.1 x.1.2.2.1.2.2.2.2.2.1.2 x.1.2.2.1.2.2.2.2.2.2.1 x.1.2.2.1.2.2.2.2.2.2.2 x.2
def ajn:Cx:=cx [(42,lI 0 asr asu),(78,ac3),(80,a1G),(44,a6G 1 2 [.R,.R,.L] asD asE),(45,arU),(46,ajh),(47,asF)] [(32,Tryz.f32,[]),(43,Tryz.f43,[])]
theorem ajo:au Tryz.prog ajn:=au.of mixed aA (fc ⟨eF aiV aiY,fc ⟨a4p,fc ⟨Md,fc ⟨abQ aje ajg,fc ⟨ahW,fc ⟨aaw,fc ⟨ajk,fz⟩⟩⟩⟩⟩⟩⟩) (fc ⟨⟨Tryz.func32,Tryz.call32,ah⟩,fc ⟨⟨Tryz.func43,Tryz.call43,ah⟩,fz⟩⟩)
theorem asG:fE Tryz.prog 13 Tryz.f13 []:=⟨Tryz.func13,Tryz.call13,ah⟩
theorem axw(from_)(m)(m1)(m2)(m3)(m4)(nm)(m5)(nm1)(m6)(o):bX ajn [] (dZ ajn 8) Tryz.f13 ((jD a6Q.sl (show a6Q.X from(((),(from_,((m,(m1,(m2,(m3,(m4,((nm,m5),(nm1,m6))))))),()))),o)).1).map .v) (Gj a6Q (((),(from_,((m,(m1,(m2,(m3,(m4,((nm,m5),(nm1,m6))))))),()))),o)) a6Q.nx (Ns (abP 0 [.R,.R,.R,.R,.R,.R,.R]) 1 ajl)=gM from_ m m1 m2 m3 m4 nm m5 nm1 m6 o:=by kernel_rfl
theorem aax:av Tryz.prog 13 ajm:=ZB (abP 0 [.R,.R,.R,.R,.R,.R,.R]) ajo 8 asG 1 a6Q ajl _ (by decide) (λx=>by rw[lg];exact axw x.1.2.1 x.1.2.2.1.1 x.1.2.2.1.2.1 x.1.2.2.1.2.2.1 x.1.2.2.1.2.2.2.1 x.1.2.2.1.2.2.2.2.1 x.1.2.2.1.2.2.2.2.2.1.1 x.1.2.2.1.2.2.2.2.2.1.2 x.1.2.2.1.2.2.2.2.2.2.1 x.1.2.2.1.2.2.2.2.2.2.2 x.2)
def ajp:Con:=aP false [(.ptr tSV),tI,tMS] [(.sl tOU)] λx=>Ay x.1 x.2.1 x.2.2.1
def ajq:Cx:=cx [] []
theorem ajr:au Tryz.prog ajq:=au.of mixed aA fz fz
theorem axx(s:Z02)(from_:Int)(m:Z0g):bX ajq [] (dZ ajq 8) Tryz.f13 (jC [(.ptr tSV),tI,tMS] (s,from_,m,())) [] 0 (kJ [(.sl tOU)])=qx s from_ m:=by cases s<;>kernel_rfl
theorem aay:av Tryz.prog 13 ajp:=ay ajr 8 ⟨Tryz.func13,Tryz.call13,ah⟩ _ _ _ _ (by decide) (λx=>by rw[Gm];exact axx x.1 x.2.1 x.2.2.1)
abbrev axy:Shape:= { sl:=[(0,(.c ⟨(.ptr tSV),(.rf 0 [])⟩)),(1,(.v .str))],ob:=oS 2 3 4 [],lo:=2,nx:=5 }
abbrev axz:List Shape:=[{ sl:=[(pv 0 (.pair tI tI)),(1,(.v .str)),(2,(.v .bool))],ob:=oS 9 10 11 [],lo:=9,nx:=12 }]
def ajs:Con:=lN axy axz λx=>bW x.1.2.1 x.2
def axA:Cx:=cx [] []
theorem ajt:au Tryz.prog axA:=au.of mixed aA fz fz
theorem aaz:av Tryz.prog 15 ajs:=dW ajt 8 ⟨Tryz.func15,Tryz.call15,ah⟩ 3 _ _ _ (by decide) (λx=>by rw[tK];kernel_rfl)
def aju:Con:=aP true [(.ptr tSV),.str] [(.pair tI tI),.str,.bool] λx=>Az x.1 x.2.1
def ajv:Cx:=cx [] []
theorem ajw:au Tryz.prog ajv:=au.of mixed aA fz fz
theorem axB(s:Z02)(key:ByteArray):bX ajv [] (dZ ajv 8) Tryz.f15 (jC [(.ptr tSV),.str] (s,key,())) [] 0 (kJ [(.pair tI tI),.str,.bool])=qy s key:=by cases s<;>kernel_rfl
theorem aaA:av Tryz.prog 15 aju:=ay ajw 8 ⟨Tryz.func15,Tryz.call15,ah⟩ _ _ _ _ (by decide) (λx=>by rw[Gn];exact axB x.1 x.2.1)
abbrev axC:Shape:= { sl:=[(0,(.c ⟨(.ptr tSV),(.rf 0 [])⟩))],ob:=oS 2 3 4 [],lo:=2,nx:=5 }
abbrev axD:List Shape:=[{ sl:=[(0,(.sz .str))],ob:=oS 10 11 12 [],lo:=10,nx:=13 }]
def asH:Con:=lN axC axD λx=>jP x.2
def axE:Cx:=cx [(31,lI 0 aac aad)] []
theorem ajx:au Tryz.prog axE:=au.of mixed aA (fc ⟨eF a05 a06,fz⟩) fz
theorem ajy:av Tryz.prog 18 asH:=dW ajx 8 ⟨Tryz.func18,Tryz.call18,ah⟩ 1 _ _ _ (by decide) (λx=>by rw[tL];kernel_rfl)
def asI:Con:=aP false [(.ptr tSV)] [(.sl .str)] λx=>AA x.1
def ajz:Cx:=cx [(31,lI 0 aac aad)] []
theorem ajA:au Tryz.prog ajz:=au.of mixed aA (fc ⟨eF a05 a06,fz⟩) fz
theorem axF(s:Z02):bX ajz [] (dZ ajz 8) Tryz.f18 (jC [(.ptr tSV)] (s,())) [] 0 (kJ [(.sl .str)])=qz s:=by cases s<;>kernel_rfl
theorem ajB:av Tryz.prog 18 asI:=ay ajA 8 ⟨Tryz.func18,Tryz.call18,ah⟩ _ _ _ _ (by decide) (λx=>by rw[Gp];exact axF x.1)
abbrev aaB:Shape:= { sl:=[(1,(.c ⟨(.ptr tRC),(.rf 15 [])⟩)),(2,(.c ⟨.fn,(.mk 34 [((.ptr tRC),18,[]),((.ptr tSV),5,[])])⟩)),(pv 10 tI),(pv 11 tI)],ob:=[(0,(.p (.pz tGR) (.p (.v tI) (.p (.v tI) (.p (.v tI) (.p (.v tI) (.p (.c ⟨(.ptr tSP),(.rf 1 [])⟩) (.p (.bg .str tRC 19 (some 15)) (.w 60 tOU 20))))))))),(1,(.p (.v tI) (.p (.v tI) (.p (.w 9 .str 21) (.m tI tI 22))))),(5,(.c ⟨(.ptr tSV),(.rf 0 [])⟩)),(15,ZZ6),(16,(.v tVT)),(17,(.v tVT)),(18,(.c ⟨(.ptr tRC),(.rf 15 [])⟩))],lo:=19,nx:=23 }
abbrev aaC:List Ex:=[(.normal, { sl:=[],ob:=[(0,(.p (.pz tGR) (.p (.v tI) (.p (.v tI) (.p (.v tI) (.p (.v tI) (.p (.c ⟨(.ptr tSP),(.rf 1 [])⟩) (.p (.bg .str tRC 23 (some 15)) (.w 60 tOU 24))))))))),(1,(.p (.v tI) (.p (.v tI) (.p (.w 9 .str 25) (.m tI tI 26))))),(5,(.c ⟨(.ptr tSV),(.rf 0 [])⟩)),(15,ZZ6),(16,(.v tVT)),(17,(.v tVT)),(18,(.c ⟨(.ptr tRC),(.rf 15 [])⟩))],lo:=23,nx:=27 })]
def aaD:Code:=aW (aU Tryz.f33) 0
def a1M:Lp:=dA aaB aaC 24 bM
abbrev asJ:Shape:= { sl:=[(0,(.c ⟨(.ptr tSV),(.rf 0 [])⟩)),(1,(.c ⟨(.ptr (.ptr tSV)),(.rf 5 [])⟩)),(22,(.sz .str)),(pv 23 tI),(pv 24 tI)],ob:=oW 11 12 13 14 [(5,(.c ⟨(.ptr tSV),(.rf 0 [])⟩))],lo:=11,nx:=15 }
abbrev asK:List Ex:=[(.normal, { sl:=[(0,(.c ⟨(.ptr tSV),(.rf 0 [])⟩)),(1,(.c ⟨(.ptr (.ptr tSV)),(.rf 5 [])⟩))],ob:=oW 15 16 17 18 [(5,(.c ⟨(.ptr tSV),(.rf 0 [])⟩))],lo:=15,nx:=19 })]
def asL:Code:=aW (aU Tryz.f10) 0
def aaE:Lp:=dA asJ asK 43 dx
abbrev a6R:Shape:= { sl:=[(0,(.c ⟨(.ptr tSV),(.rf 0 [])⟩))],ob:=oS 2 3 4 [],lo:=2,nx:=5 }
abbrev ajC:List Shape:=[{ sl:=[(0,(.sz tOU))],ob:=oS 19 20 21 [],lo:=19,nx:=22 }]
def asM:Con:=lN a6R ajC λx=>fA x.2
def ajD:Cx:=cx [(31,lI 0 aac aad),(35,aiJ),(36,aas),(37,a6M),(78,ac3)] [(32,Tryz.f32,[]),(33,Tryz.f33,[(0,a1M)]),(34,Tryz.f34,[])]
def AL:Cx:=cx [(31,lI 0 aac aad),(35,aiJ),(36,aas),(37,a6M),(78,ac3)] [(32,Tryz.f32,[]),(34,Tryz.f34,[])]
theorem yP:au Tryz.prog AL:=au.of mixed aA (fc ⟨eF a05 a06,fc ⟨aaj,fc ⟨a0a,fc ⟨VD,fc ⟨a4p,fz⟩⟩⟩⟩⟩) (fc ⟨⟨Tryz.func32,Tryz.call32,ah⟩,fc ⟨⟨Tryz.func34,Tryz.call34,ah⟩,fz⟩⟩)
theorem aaF:bV Tryz.prog 0 (.loop aaD) a1M:=aK yP 8 (ah) _ _ _ _ (by decide) λ_=>by kernel_rfl
theorem aaG:au Tryz.prog ajD:=au.of mixed aA (fc ⟨eF a05 a06,fc ⟨aaj,fc ⟨a0a,fc ⟨VD,fc ⟨a4p,fz⟩⟩⟩⟩⟩) (fc ⟨⟨Tryz.func32,Tryz.call32,ah⟩,fc ⟨⟨Tryz.func33,Tryz.call33,bB (by kernel_rfl) (aJ aaF (by kernel_rfl) fz)⟩,fc ⟨⟨Tryz.func34,Tryz.call34,ah⟩,fz⟩⟩⟩)
theorem asN:bV Tryz.prog 0 (.loop asL) aaE:=aK aaG 8 (ah) _ _ _ _ (by decide) λ_=>by kernel_rfl
theorem asO:fE Tryz.prog 10 Tryz.f10 [(0,aaE)]:=⟨Tryz.func10,Tryz.call10,bB (by kernel_rfl) (aJ asN (by kernel_rfl) fz)⟩
theorem axG(o):bX ajD [(0,aaE)] (dZ ajD 8) Tryz.f10 ((jD a6R.sl (show a6R.X from(((),()),o)).1).map .v) (Gj a6R (((),()),o)) a6R.nx (Ns (abP 0 [.R,.R,.R,.R,.R,.R,.R]) 1 ajC)=jv o:=by kernel_rfl
theorem ajE:av Tryz.prog 10 asM:=ZB (abP 0 [.R,.R,.R,.R,.R,.R,.R]) aaG 8 asO 1 a6R ajC _ (by decide) (λx=>by rw[tO];exact axG x.2)
def asP:Con:=aP false [(.ptr tSV)] [(.sl tOU)] λx=>AJ x.1
def ajF:Cx:=cx [] []
theorem ajG:au Tryz.prog ajF:=au.of mixed aA fz fz
theorem axH(s:Z02):bX ajF [] (dZ ajF 8) Tryz.f10 (jC [(.ptr tSV)] (s,())) [] 0 (kJ [(.sl tOU)])=qA s:=by cases s<;>kernel_rfl
theorem ajH:av Tryz.prog 10 asP:=ay ajG 8 ⟨Tryz.func10,Tryz.call10,ah⟩ _ _ _ _ (by decide) (λx=>by rw[Gq];exact axH x.1)
end
end Go.Proofs.YtldlihheppdhnaaGreat
namespace Go.Proofs.YtldlihheppdhnaaGreat
noncomputable def asQ:Con:=aP true [(.pair tI tI),(.pair tI tI)] [tI] λx=>yh x.1 x.2.1
noncomputable def axI:Cx:=cx [] []
theorem ajI:au Tryz.prog axI:=au.of mixed aA fz fz
theorem ajJ:av Tryz.prog 20 asQ:=ay ajI 8 ⟨Tryz.func20,Tryz.call20,ah⟩ _ _ _ _ (by decide) (λx=>by rw[IV];kernel_rfl)
end Go.Proofs.YtldlihheppdhnaaGreat
