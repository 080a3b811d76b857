/-
  The functions of more packages are the plain ones.
-/
import Derived.Test.YtldlihheppdhnaaGreatEqA
import Derived.Test.YtldlihheppdhnaaGreatPlB
import Derived.Test.YtldlihheppdhnaaGreatDenM
import Derived.Test.YtldlihheppdhnaaGreatDenF
import Derived.Test.YtldlihheppdhnaaGreatLib
import Derived.Test.YtldlihheppdhnaaGreatDenK
set_option linter.unusedVariables false
set_option linter.unusedSimpArgs false
set_option maxRecDepth 100000
set_option maxHeartbeats 0
namespace Go.Pl
end Go.Pl
open Go Go.Den Go.Pl
namespace Go.Proofs.YtldlihheppdhnaaGreat
noncomputable section
abbrev aoE:Shape:= { sl:=[(0,(.v .str)),(3,(.w 5 (.int .u8) 3))],ob:=[],lo:=3,nx:=4 }
abbrev aoF:List Ex:=[(.normal, { sl:=[(0,(.v .str)),(3,(.w 5 (.int .u8) 4))],ob:=[],lo:=4,nx:=5 })]
def aoG:Code:=aY (aW Tryz.f124) 0
def acH:Lp:=dF aoE aoF 32 kP
abbrev aoH:Shape:= { sl:=[(0,(.v .str)),(3,(.w 5 (.int .u8) 5)),(pv 4 tI)],ob:=[],lo:=5,nx:=6 }
abbrev aoI:List Ex:=[(.normal, { sl:=[(3,(.w 5 (.int .u8) 6))],ob:=[],lo:=6,nx:=7 })]
def aoJ:Code:=aY (aW Tryz.f124) 2
def acI:Lp:=dF aoH aoI 32 kQ
def aoK:Con:=aQ false [.str] [(.sl (.int .u8))] λx=>Eo x.1
def auU:Cx:=cx [] []
theorem a3v:ay Tryz.prog auU:=ay.of mixed aC fz fz
theorem aoL:bY Tryz.prog 0 (.loop aoG) acH:=aM a3v 8 (ak) _ _ _ _ (by decide) λ_=>by kernel_rfl
theorem aoM:bY Tryz.prog 2 (.loop aoJ) acI:=aM a3v 8 (ak) _ _ _ _ (by decide) λ_=>by kernel_rfl
theorem aoN:eD Tryz.prog 124 Tryz.f124 [(0,acH),(2,acI)]:=⟨Tryz.func124,Tryz.call124,bG (by kernel_rfl) (aL aoL (by kernel_rfl) (aL aoM (by kernel_rfl) fz))⟩
theorem ag8:aA Tryz.prog 124 aoK:=aB a3v 8 aoN _ _ _ _ (by decide) (λx=>by rw[K5];kernel_rfl)
def aoO:Con:=aQ true [] [(.arr 8 tI)] λx=>IZ
def auV:Cx:=cx [] []
theorem ag9:ay Tryz.prog auV:=ay.of mixed aC fz fz
theorem aga:aA Tryz.prog 125 aoO:=aB ag9 8 ⟨Tryz.func125,Tryz.call125,ak⟩ _ _ _ _ (by decide) (λx=>by rw[Nr];kernel_rfl)
def agb:Con:=aQ true [tI,tI] [tI] λx=>jH x.1 x.2.1
def auW:Cx:=cx [] []
theorem agc:ay Tryz.prog auW:=ay.of mixed aC fz fz
theorem a8M:aA Tryz.prog 173 agb:=aB agc 8 ⟨Tryz.func173,Tryz.call173,ak⟩ _ _ _ _ (by decide) (λx=>by rw[QN];kernel_rfl)
abbrev aoP:Shape:= { sl:=[(0,(.sz (.int .u8))),(pc 2 (.arr 64 tI) 0),(pc 3 (.arr 64 tI) 1),(pv 4 tI)],ob:=[(pv 0 (.arr 64 tI)),(pv 1 (.arr 64 tI))],lo:=2,nx:=2 }
abbrev aoQ:List Ex:=[(.normal, { sl:=[(pc 2 (.arr 64 tI) 0),(pc 3 (.arr 64 tI) 1)],ob:=[(pv 0 (.arr 64 tI)),(pv 1 (.arr 64 tI))],lo:=2,nx:=2 })]
def aoR:Code:=aY (aW Tryz.f171) 0
def acJ:Lp:=dF aoP aoQ 95 gL
abbrev aoS:Shape:= { sl:=[(pc 2 (.arr 64 tI) 0),(pc 3 (.arr 64 tI) 1),(pv 5 tI)],ob:=[(pv 0 (.arr 64 tI)),(pv 1 (.arr 64 tI))],lo:=2,nx:=2 }
abbrev aoT:List Ex:=[(.normal, { sl:=[(pc 2 (.arr 64 tI) 0),(pc 3 (.arr 64 tI) 1)],ob:=[(pv 0 (.arr 64 tI)),(pv 1 (.arr 64 tI))],lo:=2,nx:=2 })]
def aoU:Code:=aY (aW Tryz.f171) 2
def acK:Lp:=dF aoS aoT 95 gN
def aoV:Con:=aQ true [(.sl (.int .u8))] [(.arr 64 tI)] λx=>zo x.1.1 x.1.2
def auX:Cx:=cx [(173,agb)] []
theorem a3w:ay Tryz.prog auX:=ay.of mixed aC (fc ⟨a8M,fz⟩) fz
theorem aoW:bY Tryz.prog 0 (.loop aoR) acJ:=aM a3w 8 (ak) _ _ _ _ (by decide) λ_=>by kernel_rfl
theorem aoX:bY Tryz.prog 2 (.loop aoU) acK:=aM a3w 8 (ak) _ _ _ _ (by decide) λ_=>by kernel_rfl
theorem aoY:eD Tryz.prog 171 Tryz.f171 [(0,acJ),(2,acK)]:=⟨Tryz.func171,Tryz.call171,bG (by kernel_rfl) (aL aoW (by kernel_rfl) (aL aoX (by kernel_rfl) fz))⟩
theorem agd:aA Tryz.prog 171 aoV:=aB a3w 8 aoY _ _ _ _ (by decide) (λx=>by rw[F9];kernel_rfl)
def aoZ:Con:=aQ true [] [(.arr 64 tI)] λx=>xg
def auY:Cx:=cx [] []
theorem agf:ay Tryz.prog auY:=ay.of mixed aC fz fz
theorem agh:aA Tryz.prog 172 aoZ:=aB agf 8 ⟨Tryz.func172,Tryz.call172,ak⟩ _ _ _ _ (by decide) (λx=>by rw[Df];kernel_rfl)
abbrev ap0:Shape:= { sl:=[(pc 2 (.arr 8 tI) 0),(pc 4 (.arr 8 tI) 1),(pc 5 (.arr 64 tI) 2),(pc 6 (.arr 64 tI) 3),(pc 7 (.arr 8 tI) 4),(pv 8 tI)],ob:=[(pv 0 (.arr 8 tI)),(pv 1 (.arr 8 tI)),(pv 2 (.arr 64 tI)),(pv 3 (.arr 64 tI)),(pv 4 (.arr 8 tI))],lo:=5,nx:=5 }
abbrev ap1:List Ex:=[(.normal, { sl:=[(pc 2 (.arr 8 tI) 0),(pc 4 (.arr 8 tI) 1),(pc 7 (.arr 8 tI) 4)],ob:=[(pv 0 (.arr 8 tI)),(pv 1 (.arr 8 tI)),(pv 4 (.arr 8 tI))],lo:=5,nx:=5 })]
def ap2:Code:=aY (aW Tryz.f126) 0
def acL:Lp:=dF ap0 ap1 129 jU
abbrev ap3:Shape:= { sl:=[(pc 2 (.arr 8 tI) 0),(pc 4 (.arr 8 tI) 1),(pc 7 (.arr 8 tI) 4),(pc 14 (.arr 8 tI) 5),(pv 15 tI)],ob:=[(pv 0 (.arr 8 tI)),(pv 1 (.arr 8 tI)),(pv 4 (.arr 8 tI)),(pv 5 (.arr 8 tI))],lo:=6,nx:=6 }
abbrev ap4:List Ex:=[(.normal, { sl:=[(pc 4 (.arr 8 tI) 1),(pc 14 (.arr 8 tI) 5)],ob:=[(pv 1 (.arr 8 tI)),(pv 5 (.arr 8 tI))],lo:=6,nx:=6 })]
def ap5:Code:=aY (aW Tryz.f126) 2
def acM:Lp:=dF ap3 ap4 129 mP
def ap6:Con:=aQ true [(.arr 8 tI),(.sl (.int .u8))] [(.arr 8 tI)] λx=>J2 x.1 x.2.1.1 x.2.1.2
def auZ:Cx:=cx [(171,aoV),(172,aoZ),(173,agb)] []
theorem a3x:ay Tryz.prog auZ:=ay.of mixed aC (fc ⟨agd,fc ⟨agh,fc ⟨a8M,fz⟩⟩⟩) fz
theorem ap7:bY Tryz.prog 0 (.loop ap2) acL:=aM a3x 8 (ak) _ _ _ _ (by decide) λ_=>by kernel_rfl
theorem ap8:bY Tryz.prog 2 (.loop ap5) acM:=aM a3x 8 (ak) _ _ _ _ (by decide) λ_=>by kernel_rfl
theorem ap9:eD Tryz.prog 126 Tryz.f126 [(0,acL),(2,acM)]:=⟨Tryz.func126,Tryz.call126,bG (by kernel_rfl) (aL ap7 (by kernel_rfl) (aL ap8 (by kernel_rfl) fz))⟩
theorem agi:aA Tryz.prog 126 ap6:=aB a3x 8 ap9 _ _ _ _ (by decide) (λx=>by rw[Ns];kernel_rfl)
abbrev apa:Shape:= { sl:=[(3,(.sz (.int .u8))),(pc 4 (.arr 8 tI) 0),(pv 5 tI)],ob:=[(pv 0 (.arr 8 tI))],lo:=1,nx:=1 }
abbrev apb:List Ex:=[(.normal, { sl:=[(pc 4 (.arr 8 tI) 0)],ob:=[(pv 0 (.arr 8 tI))],lo:=1,nx:=1 })]
def apc:Code:=aY (aW Tryz.f73) 0
def acN:Lp:=dF apa apb 46 sQ
abbrev apd:Shape:= { sl:=[(pc 4 (.arr 8 tI) 0),(6,(.w 5 (.int .u8) 1)),(pv 7 tI)],ob:=[(pv 0 (.arr 8 tI))],lo:=1,nx:=2 }
abbrev ape:List Ex:=[(.normal, { sl:=[(6,(.w 5 (.int .u8) 2))],ob:=[],lo:=2,nx:=3 })]
def apf:Code:=aY (aW Tryz.f73) 2
def acO:Lp:=dF apd ape 46 sS
def apg:Con:=aQ true [.str] [.str] λx=>Nt x.1
def av0:Cx:=cx [(124,aoK),(125,aoO),(126,ap6)] []
theorem a3y:ay Tryz.prog av0:=ay.of mixed aC (fc ⟨ag8,fc ⟨aga,fc ⟨agi,fz⟩⟩⟩) fz
theorem aph:bY Tryz.prog 0 (.loop apc) acN:=aM a3y 8 (ak) _ _ _ _ (by decide) λ_=>by kernel_rfl
theorem apj:bY Tryz.prog 2 (.loop apf) acO:=aM a3y 8 (ak) _ _ _ _ (by decide) λ_=>by kernel_rfl
theorem apk:eD Tryz.prog 73 Tryz.f73 [(0,acN),(2,acO)]:=⟨Tryz.func73,Tryz.call73,bG (by kernel_rfl) (aL aph (by kernel_rfl) (aL apj (by kernel_rfl) fz))⟩
theorem agj:aA Tryz.prog 73 apg:=aB a3y 8 apk _ _ _ _ (by decide) (λx=>by rw[UL];kernel_rfl)
end
end Go.Proofs.YtldlihheppdhnaaGreat
namespace Go.Proofs.YtldlihheppdhnaaGreat
noncomputable section
abbrev apl:Shape:= { sl:=[(0,(.sz tI)),(pv 1 tI),(pv 2 tI),(pv 7 tI),(pv 8 tI),(pv 9 tI)],ob:=[],lo:=0,nx:=0 }
abbrev apm:List Ex:=[(.normal, { sl:=[(pv 7 tI)],ob:=[],lo:=0,nx:=0 })]
def apn:Code:=aY (aW Tryz.f123) 0
def acP:Lp:=dF apl apm 31 pK
def apo:Con:=aQ true [(.sl tI),tI,tI] [tI] λx=>bE x.1.1 x.1.2 x.2.1 x.2.2.1
def av1:Cx:=cx [(170,aot),(169,aou)] []
theorem a8N:ay Tryz.prog av1:=ay.of mixed aC (fc ⟨afL,fc ⟨afN,fz⟩⟩) fz
theorem apq:bY Tryz.prog 0 (.loop apn) acP:=aM a8N 8 (ak) _ _ _ _ (by decide) λ_=>by kernel_rfl
theorem apr:eD Tryz.prog 123 Tryz.f123 [(0,acP)]:=⟨Tryz.func123,Tryz.call123,bG (by kernel_rfl) (aL apq (by kernel_rfl) fz)⟩
theorem agk:aA Tryz.prog 123 apo:=aB a8N 8 apr _ _ _ _ (by decide) (λx=>by rw[QT];kernel_rfl)
end
end Go.Proofs.YtldlihheppdhnaaGreat
namespace Go.Proofs.YtldlihheppdhnaaGreat
noncomputable section
abbrev aps:Shape:= { sl:=[(1,(.sz tI)),(pv 2 tI),(pc 3 (.pair tI (.pair tI tI)) 0),(7,(.w 75 tN 1)),(pv 8 tI)],ob:=[(pv 0 (.pair tI (.pair tI tI)))],lo:=1,nx:=2 }
abbrev apt:List Ex:=[(.normal, { sl:=[(7,(.w 75 tN 2))],ob:=[],lo:=2,nx:=3 })]
def apu:Code:=aY (aW Tryz.f122) 0
def acQ:Lp:=dF aps apt 34 vZ
def apv:Con:=aQ false [(.pair tI (.pair tI tI)),(.sl tI),tI] [(.sl tN)] λx=>ql x.1 x.2.1.1 x.2.1.2 x.2.2.1
def av2:Cx:=cx [(71,a5Y),(168,anK)] []
theorem a8O:ay Tryz.prog av2:=ay.of mixed aC (fc ⟨UC,fc ⟨afy,fz⟩⟩) fz
theorem apw:bY Tryz.prog 0 (.loop apu) acQ:=aM a8O 8 (ak) _ _ _ _ (by decide) λ_=>by kernel_rfl
theorem apx:eD Tryz.prog 122 Tryz.f122 [(0,acQ)]:=⟨Tryz.func122,Tryz.call122,bG (by kernel_rfl) (aL apw (by kernel_rfl) fz)⟩
theorem agl:aA Tryz.prog 122 apv:=aB a8O 8 apx _ _ _ _ (by decide) (λx=>by rw[Y2];kernel_rfl)
end
end Go.Proofs.YtldlihheppdhnaaGreat
namespace Go.Proofs.YtldlihheppdhnaaGreat
noncomputable section
abbrev apy:Shape:= { sl:=[(0,(.sz tN)),(pv 1 tI),(pv 5 tI)],ob:=[],lo:=0,nx:=0 }
abbrev apz:List Ex:=[(.ret, { sl:=[(4,(.v .bool))],ob:=[],lo:=0,nx:=0 }),(.normal, { sl:=[],ob:=[],lo:=0,nx:=0 })]
def apA:Code:=aY (aW Tryz.f120) 0
def acR:Lp:=dF apy apz 20 w9
def apB:Con:=aQ true [(.sl tN),tI] [.bool] λx=>Ae x.1.1 x.1.2 x.2.1
def av3:Cx:=cx [(71,a5Y),(166,anm)] []
theorem a8P:ay Tryz.prog av3:=ay.of mixed aC (fc ⟨UC,fc ⟨afd,fz⟩⟩) fz
theorem apC:bY Tryz.prog 0 (.loop apA) acR:=aM a8P 8 (ak) _ _ _ _ (by decide) λ_=>by kernel_rfl
theorem apD:eD Tryz.prog 120 Tryz.f120 [(0,acR)]:=⟨Tryz.func120,Tryz.call120,bG (by kernel_rfl) (aL apC (by kernel_rfl) fz)⟩
theorem agm:aA Tryz.prog 120 apB:=aB a8P 8 apD _ _ _ _ (by decide) (λx=>by rw[Y3];kernel_rfl)
abbrev FT:Shape:= { sl:=[(pv 0 (.pair tI (.pair tI tI))),(pv 1 tI),(2,(.sz tN)),(3,(.sz tN))],ob:=[],lo:=0,nx:=0 }
abbrev a5Z:List Shape:=[{ sl:=[(0,(.sz (.sl tN))),(1,(.sz (.pair tI (.sl tN)))),(pv 2 tI)],ob:=[],lo:=400,nx:=400 }]
def apE:Con:=lJ FT a5Z λx=>Eu x.1.1 x.1.2.1 x.1.2.2.1.1 x.1.2.2.1.2 x.1.2.2.2.1.1 x.1.2.2.2.1.2
def Zv:Cx:= { ti:=ti,con:=[(120,apB),(121,aoq),(122,apv),(123,apo),(71,a5Y)],fns:=[],un:=9 }
theorem agn:ay Tryz.prog Zv:=ay.of mixed aC (fc ⟨agm,fc ⟨afJ,fc ⟨agl,fc ⟨agk,fc ⟨UC,fz⟩⟩⟩⟩⟩) fz
theorem apF:eD Tryz.prog 72 Tryz.f72 []:=⟨Tryz.func72,Tryz.call72,ak⟩
theorem RB(s)(numbers)(nrandom)(random):cu Zv [] (dX Zv 8) Tryz.f72 ((jy FT.sl (show FT.X from((s,(1,((1,numbers),((nrandom,random),())))),())).1).map .v) (FQ FT ((s,(1,((1,numbers),((nrandom,random),())))),())) FT.nx (MH (a5V 1 [.R] 7) 3 a5Z)=xk s numbers nrandom random:=by kernel_rfl
theorem RF(s)(numbers)(nrandom)(random):cu Zv [] (dX Zv 8) Tryz.f72 ((jy FT.sl (show FT.X from((s,(1,((2,numbers),((nrandom,random),())))),())).1).map .v) (FQ FT ((s,(1,((2,numbers),((nrandom,random),())))),())) FT.nx (MH (a5V 1 [.R] 7) 3 a5Z)=xq s numbers nrandom random:=by kernel_rfl
theorem RG(s)(numbers)(nrandom)(random):cu Zv [] (dX Zv 8) Tryz.f72 ((jy FT.sl (show FT.X from((s,(2,((1,numbers),((nrandom,random),())))),())).1).map .v) (FQ FT ((s,(2,((1,numbers),((nrandom,random),())))),())) FT.nx (MH (a5V 1 [.R] 7) 3 a5Z)=xu s numbers nrandom random:=by kernel_rfl
theorem RH(s)(numbers)(nrandom)(random):cu Zv [] (dX Zv 8) Tryz.f72 ((jy FT.sl (show FT.X from((s,(2,((2,numbers),((nrandom,random),())))),())).1).map .v) (FQ FT ((s,(2,((2,numbers),((nrandom,random),())))),())) FT.nx (MH (a5V 1 [.R] 7) 3 a5Z)=xw s numbers nrandom random:=by kernel_rfl
theorem agp:aA Tryz.prog 72 apE:=a4J (a5V 1 [.R] 7) agn 8 apF 3 FT a5Z _ (by decide) (by
  intro x y h;obtain⟨⟨v0,v1,⟨n2,f2⟩,⟨n3,f3⟩,_⟩,_⟩:=x;rw[Ke]at h;rcases a4K h with⟨h1,h⟩|h
  · obtain⟨rfl,rfl⟩:=case2 h1;exact(RB v0 f2 n3 f3).trans h
  rcases a4K h with⟨h1,h⟩|h
  · obtain⟨rfl,rfl⟩:=case2 h1;exact(RF v0 f2 n3 f3).trans h
  rcases a4K h with⟨h1,h⟩|h
  · obtain⟨rfl,rfl⟩:=case2 h1;exact(RG v0 f2 n3 f3).trans h
  rcases a4K h with⟨h1,h⟩|h
  · obtain⟨rfl,rfl⟩:=case2 h1;exact(RH v0 f2 n3 f3).trans h
  cases h)
abbrev apG:Shape:= { sl:=[(0,(.sz (.sl tN))),(pv 3 tI)],ob:=[],lo:=0,nx:=0 }
abbrev apH:List Ex:=[(.ret, { sl:=[(2,(.v .bool))],ob:=[],lo:=0,nx:=0 }),(.normal, { sl:=[(0,(.sz (.sl tN)))],ob:=[],lo:=0,nx:=0 })]
def apI:Code:=aY (aW Tryz.f127) 0
def acS:Lp:=dF apG apH 44 iT
def apJ:Con:=aQ true [(.sl (.sl tN))] [.bool] λx=>Nz x.1.1 x.1.2
def av4:Cx:=cx [] []
theorem a8Q:ay Tryz.prog av4:=ay.of mixed aC fz fz
theorem apK:bY Tryz.prog 0 (.loop apI) acS:=aM a8Q 8 (ak) _ _ _ _ (by decide) λ_=>by kernel_rfl
theorem apL:eD Tryz.prog 127 Tryz.f127 [(0,acS)]:=⟨Tryz.func127,Tryz.call127,bG (by kernel_rfl) (aL apK (by kernel_rfl) fz)⟩
theorem agq:aA Tryz.prog 127 apJ:=aB a8Q 8 apL _ _ _ _ (by decide) (λx=>by rw[QV];kernel_rfl)
abbrev apM:Shape:= { sl:=[(0,(.sz (.sl tN))),(3,(.v .str)),(pv 4 tI),(pv 5 tI)],ob:=[],lo:=1,nx:=1 }
abbrev apN:List Ex:=[(.normal, { sl:=[(0,(.sz (.sl tN))),(3,(.v .str)),(pv 4 tI)],ob:=[],lo:=1,nx:=1 })]
def apO:Code:=aY (aW Tryz.f74) 2
def a8R:Lp:=dF apM apN 53 mQ
abbrev a4R:Shape:= { sl:=[(0,(.sz (.sl tN))),(3,(.v .str)),(pv 4 tI)],ob:=[],lo:=1,nx:=1 }
abbrev acT:List Ex:=[(.normal, { sl:=[(3,(.v .str))],ob:=[],lo:=1,nx:=1 })]
def acU:Code:=aY (aW Tryz.f74) 0
def acV:Lp:=dF a4R acT 53 jV
def apP:Con:=aQ true [(.sl (.sl tN))] [.str] λx=>J3 x.1.1 x.1.2
def agr:Cx:=cx [(127,apJ),(128,anu)] []
theorem a3z:ay Tryz.prog agr:=ay.of mixed aC (fc ⟨agq,fc ⟨afh,fz⟩⟩) fz
theorem acW:bY Tryz.prog 2 (.loop apO) a8R:=aM a3z 8 (ak) _ _ _ _ (by decide) λ_=>by kernel_rfl
theorem apQ(x:a4R.X):CP agr [(2,a8R)] (dX agr 8) acU (a4R.mkS 53 x) (vP 0 a4R acT)=jV x:=by kernel_rfl
theorem apR:bY Tryz.prog 0 (.loop acU) acV:=aM a3z 8 (bG (by kernel_rfl) (aL acW (by kernel_rfl) fz)) _ _ _ _ (by decide) apQ
theorem apS:eD Tryz.prog 74 Tryz.f74 [(2,a8R),(0,acV)]:=⟨Tryz.func74,Tryz.call74,bG (by kernel_rfl) (aL acW (by kernel_rfl) (aL apR (by kernel_rfl) fz))⟩
theorem ags:aA Tryz.prog 74 apP:=aB a3z 8 apS _ _ _ _ (by decide) (λx=>by rw[NA];kernel_rfl)
def agt:Con:=aQ true [(.sl (.sl tN))] [.str] λx=>rR x.1.1 x.1.2
def av5:Cx:=cx [(74,apP),(73,apg)] []
theorem agu:ay Tryz.prog av5:=ay.of mixed aC (fc ⟨ags,fc ⟨agj,fz⟩⟩) fz
theorem a8S:aA Tryz.prog 29 agt:=aB agu 8 ⟨Tryz.func29,Tryz.call29,ak⟩ _ _ _ _ (by decide) (λx=>by rw[Kg];kernel_rfl)
abbrev apT:Shape:= { sl:=[(0,(.sz (.sl tN))),(1,(.sz (.sl tN))),(pv 5 tI)],ob:=[],lo:=0,nx:=0 }
abbrev apU:List Ex:=[(.ret, { sl:=[(4,(.v .bool))],ob:=[],lo:=0,nx:=0 }),(.normal, { sl:=[],ob:=[],lo:=0,nx:=0 })]
def apV:Code:=aY (aW Tryz.f75) 0
def acX:Lp:=dF apT apU 27 lV
def apW:Con:=aQ true [(.sl (.sl tN)),(.sl (.sl tN))] [.bool] λx=>Nw x.1.1 x.1.2 x.2.1.1 x.2.1.2
def av6:Cx:=cx [(76,afO)] []
theorem a8T:ay Tryz.prog av6:=ay.of mixed aC (fc ⟨a8K,fz⟩) fz
theorem apX:bY Tryz.prog 0 (.loop apV) acX:=aM a8T 8 (ak) _ _ _ _ (by decide) λ_=>by kernel_rfl
theorem apY:eD Tryz.prog 75 Tryz.f75 [(0,acX)]:=⟨Tryz.func75,Tryz.call75,bG (by kernel_rfl) (aL apX (by kernel_rfl) fz)⟩
theorem agv:aA Tryz.prog 75 apW:=aB a8T 8 apY _ _ _ _ (by decide) (λx=>by rw[QU];kernel_rfl)
end
end Go.Proofs.YtldlihheppdhnaaGreat
namespace Go.Proofs.YtldlihheppdhnaaGreat
noncomputable section
abbrev apZ:Shape:= { sl:=[(0,(.sz .str)),(1,(.sz .str)),(pv 5 tI)],ob:=[],lo:=0,nx:=0 }
abbrev aq0:List Ex:=[(.ret, { sl:=[(4,(.v .bool))],ob:=[],lo:=0,nx:=0 }),(.normal, { sl:=[],ob:=[],lo:=0,nx:=0 })]
def aq1:Code:=aY (aW Tryz.f17) 0
def acY:Lp:=dF apZ aq0 26 pQ
def aq2:Con:=aQ true [(.sl .str),(.sl .str)] [.bool] λx=>Hy x.1.1 x.1.2 x.2.1.1 x.2.1.2
def av7:Cx:=cx [] []
theorem a8U:ay Tryz.prog av7:=ay.of mixed aC fz fz
theorem aq3:bY Tryz.prog 0 (.loop aq1) acY:=aM a8U 8 (ak) _ _ _ _ (by decide) λ_=>by kernel_rfl
theorem aq4:eD Tryz.prog 17 Tryz.f17 [(0,acY)]:=⟨Tryz.func17,Tryz.call17,bG (by kernel_rfl) (aL aq3 (by kernel_rfl) fz)⟩
theorem agw:aA Tryz.prog 17 aq2:=aB a8U 8 aq4 _ _ _ _ (by decide) (λx=>by rw[QW];kernel_rfl)
end
end Go.Proofs.YtldlihheppdhnaaGreat
namespace Go.Proofs.YtldlihheppdhnaaGreat
noncomputable def aq5:Con:=aQ true [tMS,tMS] [.bool] λx=>Hz x.1 x.2.1
noncomputable def av8:Cx:=cx [(75,apW),(76,afO)] []
theorem agx:ay Tryz.prog av8:=ay.of mixed aC (fc ⟨agv,fc ⟨a8K,fz⟩⟩) fz
theorem agy:aA Tryz.prog 30 aq5:=aB agx 8 ⟨Tryz.func30,Tryz.call30,ak⟩ _ _ _ _ (by decide) (λx=>by rw[QX];kernel_rfl)
end Go.Proofs.YtldlihheppdhnaaGreat
namespace Go.Proofs.YtldlihheppdhnaaGreat
noncomputable section
def aq6:Con:=aQ false [(.pair tI (.pair tI tI)),tI,tI,tI] [(.ptr (.pair (.pair tI (.pair tI tI)) (.pair tI (.pair tI (.pair tI (.pair tI (.pair (.pair tI (.pair tI (.pair (.sl .str) (.sl tI)))) (.pair (.sl (.pair .str (.pair tG (.pair (.sl tV) (.pair (.sl tV) (.arr 4 (.pair (.arr 2 tG) (.pair tG (.pair tI tI))))))))) (.sl tOU)))))))))] λx=>Ew x.1 x.2.1 x.2.2.1 x.2.2.2.1
def av9:Cx:=cx [] []
theorem agz:ay Tryz.prog av9:=ay.of mixed aC fz fz
theorem agA:aA Tryz.prog 27 aq6:=aB agz 8 ⟨Tryz.func27,Tryz.call27,ak⟩ _ _ _ _ (by decide) (λx=>by rw[UY];kernel_rfl)
abbrev aq7:Shape:= { sl:=[(0,(.sz tOU)),(1,(.sz tOU)),(pv 5 tI)],ob:=[],lo:=0,nx:=0 }
abbrev aq8:List Ex:=[(.ret, { sl:=[(4,(.v .bool))],ob:=[],lo:=0,nx:=0 }),(.normal, { sl:=[],ob:=[],lo:=0,nx:=0 })]
def aq9:Code:=aY (aW Tryz.f9) 0
def acZ:Lp:=dF aq7 aq8 42 j4
def aqa:Con:=aQ true [(.sl tOU),(.sl tOU)] [.bool] λx=>uq x.1.1 x.1.2 x.2.1.1 x.2.1.2
def ava:Cx:=cx [(30,aq5)] []
theorem a8V:ay Tryz.prog ava:=ay.of mixed aC (fc ⟨agy,fz⟩) fz
theorem aqb:bY Tryz.prog 0 (.loop aq9) acZ:=aM a8V 8 (ak) _ _ _ _ (by decide) λ_=>by kernel_rfl
theorem aqc:eD Tryz.prog 9 Tryz.f9 [(0,acZ)]:=⟨Tryz.func9,Tryz.call9,bG (by kernel_rfl) (aL aqb (by kernel_rfl) fz)⟩
theorem agB:aA Tryz.prog 9 aqa:=aB a8V 8 aqc _ _ _ _ (by decide) (λx=>by rw[Fe];kernel_rfl)
end
end Go.Proofs.YtldlihheppdhnaaGreat
namespace Go.Proofs.YtldlihheppdhnaaGreat
noncomputable section
abbrev a8W:Shape:= { sl:=[(0,(.sz tN)),(1,(.c ⟨.fn,(.mk 179 [((.ptr tGR),0,[])])⟩)),(pv 7 tI),(pv 8 tI)],ob:=[(0,(.pz tGR))],lo:=1,nx:=1 }
abbrev a8X:List Ex:=[(.ret, { sl:=[(pv 4 tI)],ob:=[(0,(.pz tGR)),(pv 1 tN)],lo:=2,nx:=2 }),(.normal, { sl:=[],ob:=[(0,(.pz tGR))],lo:=1,nx:=1 })]
def a8Y:Code:=aY (aW Tryz.f212) 0
def a15:Lp:=dF a8W a8X 19 fD
def abg:Con:=aQ true [(.ptr tGR),(.sl tN)] [.bool] λx=>wm x.1 x.2.1.1 x.2.1.2
def agC:Cx:=cx [(180,afS)] [(178,Tryz.f178,[]),(212,Tryz.f212,[(0,a15)]),(179,Tryz.f179,[])]
def NN:Cx:=cx [(180,afS)] [(178,Tryz.f178,[]),(179,Tryz.f179,[])]
theorem Jp:ay Tryz.prog NN:=ay.of mixed aC (fc ⟨a8L,fz⟩) (fc ⟨⟨Tryz.func178,Tryz.call178,ak⟩,fc ⟨⟨Tryz.func179,Tryz.call179,ak⟩,fz⟩⟩)
theorem a8Z:bY Tryz.prog 0 (.loop a8Y) a15:=aM Jp 8 (ak) _ _ _ _ (by decide) λ_=>by kernel_rfl
theorem agD:ay Tryz.prog agC:=ay.of mixed aC (fc ⟨a8L,fz⟩) (fc ⟨⟨Tryz.func178,Tryz.call178,ak⟩,fc ⟨⟨Tryz.func212,Tryz.call212,bG (by kernel_rfl) (aL a8Z (by kernel_rfl) fz)⟩,fc ⟨⟨Tryz.func179,Tryz.call179,ak⟩,fz⟩⟩⟩)
theorem avb(g)(nc)(c):cu agC [] (dX agC 8) Tryz.f133 (jv [(.ptr tGR),(.sl tN)] (g,(nc,c),())) [] 0 (kD [.bool])=Bq g nc c:=by cases g<;>kernel_rfl
theorem a3A:aA Tryz.prog 133 abg:=aB agD 8 ⟨Tryz.func133,Tryz.call133,ak⟩ _ _ _ _ (by decide) (λx=>by rw[Kh];exact avb x.1 x.2.1.1 x.2.1.2)
abbrev aqd:Shape:= { sl:=[(0,(.pz tGR)),(1,(.sz tN)),(pv 2 tI),(pc 6 tN 0),(7,(.w 75 tN 1)),(pv 8 tI),(pv 24 tI),(pv 25 tI)],ob:=[(pv 0 tN)],lo:=1,nx:=2 }
abbrev aqe:List Ex:=[(.normal, { sl:=[(0,(.pz tGR)),(1,(.sz tN)),(pc 6 tN 0),(7,(.w 75 tN 2))],ob:=[(pv 0 tN)],lo:=2,nx:=3 })]
def aqf:Code:=aY (aW Tryz.f183) 0
def a90:Lp:=dF aqd aqe 44 mR
def aqg:Con:=aQ true [(.ptr tGR),(.sl tN),tI] [tN] λx=>Di x.1 x.2.1.1 x.2.1.2 x.2.2.1
def agE:Cx:=cx [(62,a3n),(217,aoD)] []
theorem a92:ay Tryz.prog agE:=ay.of mixed aC (fc ⟨P5,fc ⟨ag3,fz⟩⟩) fz
theorem aqh:bY Tryz.prog 0 (.loop aqf) a90:=aM a92 8 (ak) _ _ _ _ (by decide) λ_=>by kernel_rfl
theorem aqi:eD Tryz.prog 183 Tryz.f183 [(0,a90)]:=⟨Tryz.func183,Tryz.call183,bG (by kernel_rfl) (aL aqh (by kernel_rfl) fz)⟩
theorem avc(g)(nc)(c)(i):cu agE [(0,a90)] (dX agE 8) Tryz.f183 (jv [(.ptr tGR),(.sl tN),tI] (g,(nc,c),i,())) [] 0 (kD [tN])=Ey g nc c i:=by cases g<;>kernel_rfl
theorem agF:aA Tryz.prog 183 aqg:=aB a92 8 aqi _ _ _ _ (by decide) (λx=>by rw[NG];exact avc x.1 x.2.1.1 x.2.1.2 x.2.2.1)
def aqj:Con:=aQ true [(.ptr tGR),(.sl tN),(.pair tI tN)] [.bool] λx=>zu x.1 x.2.1.1 x.2.1.2 x.2.2.1
def agG:Cx:=cx [(181,aoA),(133,abg),(182,aoC),(183,aqg)] []
theorem agH:ay Tryz.prog agG:=ay.of mixed aC (fc ⟨afR,fc ⟨a3A,fc ⟨ag0,fc ⟨agF,fz⟩⟩⟩⟩) fz
theorem avd(g)(nc)(c)(s):cu agG [] (dX agG 8) Tryz.f135 (jv [(.ptr tGR),(.sl tN),(.pair tI tN)] (g,(nc,c),s,())) [] 0 (kD [.bool])=xA g nc c s:=by cases g<;>kernel_rfl
theorem agI:aA Tryz.prog 135 aqj:=aB agH 8 ⟨Tryz.func135,Tryz.call135,ak⟩ _ _ _ _ (by decide) (λx=>by rw[Fg];exact avd x.1 x.2.1.1 x.2.1.2 x.2.2.1)
end
end Go.Proofs.YtldlihheppdhnaaGreat
namespace Go.Proofs.YtldlihheppdhnaaGreat
noncomputable section
def aqk:Con:=aQ true [] [(.arr 8 (.int .u32))] λx=>Dj
def ave:Cx:=cx [] []
theorem agJ:ay Tryz.prog ave:=ay.of mixed aC fz fz
theorem agK:aA Tryz.prog 192 aqk:=aB agJ 8 ⟨Tryz.func192,Tryz.call192,ak⟩ _ _ _ _ (by decide) (λx=>by rw[Ez];kernel_rfl)
abbrev avf:Shape:= { sl:=[],ob:=[],lo:=0,nx:=0 }
abbrev avg:List Shape:=[{ sl:=[(pc 0 (.pair .bool (.pair (.arr 8 (.int .u32)) (.pair (.arr 64 (.int .u8)) tI))) 0)],ob:=[(pv 0 (.pair .bool (.pair (.arr 8 (.int .u32)) (.pair (.arr 64 (.int .u8)) tI))))],lo:=1,nx:=1 }]
def aql:Con:=lJ avf avg λx=>Pe
def avh:Cx:=cx [(192,aqk)] []
theorem agL:ay Tryz.prog avh:=ay.of mixed aC (fc ⟨agK,fz⟩) fz
theorem agM:aA Tryz.prog 142 aql:=dS agL 8 ⟨Tryz.func142,Tryz.call142,ak⟩ 1 _ _ _ (by decide) (λx=>by rw[NH];kernel_rfl)
def aqm:Con:=aQ true [] [(.arr 64 (.int .u32))] λx=>qN
def avi:Cx:=cx [] []
theorem agN:ay Tryz.prog avi:=ay.of mixed aC fz fz
theorem agO:aA Tryz.prog 220 aqm:=aB agN 8 ⟨Tryz.func220,Tryz.call220,ak⟩ _ _ _ _ (by decide) (λx=>by rw[wo];kernel_rfl)
def agP:Con:=aQ true [(.int .u32),tI] [(.int .u32)] λx=>fE x.1 x.2.1
def avj:Cx:=cx [(234,alJ)] []
theorem agQ:ay Tryz.prog avj:=ay.of mixed aC (fc ⟨ae1,fz⟩) fz
theorem a94:aA Tryz.prog 222 agP:=aB agQ 8 ⟨Tryz.func222,Tryz.call222,ak⟩ _ _ _ _ (by decide) (λx=>by rw[Kj];kernel_rfl)
abbrev aqn:Shape:= { sl:=[(pc 1 (.arr 64 (.int .u8)) 0),(pc 2 (.arr 64 (.int .u32)) 1),(pc 3 (.arr 64 (.int .u32)) 2),(pv 10 tI)],ob:=[(pv 0 (.arr 64 (.int .u8))),(pv 1 (.arr 64 (.int .u32))),(pv 2 (.arr 64 (.int .u32)))],lo:=3,nx:=3 }
abbrev aqo:List Ex:=[(.normal, { sl:=[(pc 2 (.arr 64 (.int .u32)) 1),(pc 3 (.arr 64 (.int .u32)) 2)],ob:=[(pv 1 (.arr 64 (.int .u32))),(pv 2 (.arr 64 (.int .u32)))],lo:=3,nx:=3 })]
def aqp:Code:=aY (aW Tryz.f221) 0
def ad1:Lp:=dF aqn aqo 89 gT
abbrev aqr:Shape:= { sl:=[(pc 2 (.arr 64 (.int .u32)) 1),(pc 3 (.arr 64 (.int .u32)) 2),(pv 5 tI)],ob:=[(pv 1 (.arr 64 (.int .u32))),(pv 2 (.arr 64 (.int .u32)))],lo:=3,nx:=3 }
abbrev aqs:List Ex:=[(.normal, { sl:=[(pc 2 (.arr 64 (.int .u32)) 1),(pc 3 (.arr 64 (.int .u32)) 2)],ob:=[(pv 1 (.arr 64 (.int .u32))),(pv 2 (.arr 64 (.int .u32)))],lo:=3,nx:=3 })]
def aqt:Code:=aY (aW Tryz.f221) 2
def ad2:Lp:=dF aqr aqs 89 gV
def aqu:Con:=aQ true [(.arr 64 (.int .u8))] [(.arr 64 (.int .u32))] λx=>zw x.1
def avk:Cx:=cx [(222,agP)] []
theorem a3B:ay Tryz.prog avk:=ay.of mixed aC (fc ⟨a94,fz⟩) fz
theorem aqv:bY Tryz.prog 0 (.loop aqp) ad1:=aM a3B 8 (ak) _ _ _ _ (by decide) λ_=>by kernel_rfl
theorem aqw:bY Tryz.prog 2 (.loop aqt) ad2:=aM a3B 8 (ak) _ _ _ _ (by decide) λ_=>by kernel_rfl
theorem aqx:eD Tryz.prog 221 Tryz.f221 [(0,ad1),(2,ad2)]:=⟨Tryz.func221,Tryz.call221,bG (by kernel_rfl) (aL aqv (by kernel_rfl) (aL aqw (by kernel_rfl) fz))⟩
theorem agR:aA Tryz.prog 221 aqu:=aB a3B 8 aqx _ _ _ _ (by decide) (λx=>by rw[Fh];kernel_rfl)
abbrev aqy:Shape:= { sl:=[(pc 2 (.arr 8 (.int .u32)) 0),(pc 4 (.arr 8 (.int .u32)) 2),(pc 5 (.arr 64 (.int .u32)) 3),(pc 6 (.arr 64 (.int .u32)) 4),(pc 7 (.arr 8 (.int .u32)) 5),(pv 18 tI)],ob:=[(pv 0 (.arr 8 (.int .u32))),(pv 2 (.arr 8 (.int .u32))),(pv 3 (.arr 64 (.int .u32))),(pv 4 (.arr 64 (.int .u32))),(pv 5 (.arr 8 (.int .u32)))],lo:=6,nx:=6 }
abbrev aqz:List Ex:=[(.normal, { sl:=[(pc 2 (.arr 8 (.int .u32)) 0),(pc 4 (.arr 8 (.int .u32)) 2),(pc 7 (.arr 8 (.int .u32)) 5)],ob:=[(pv 0 (.arr 8 (.int .u32))),(pv 2 (.arr 8 (.int .u32))),(pv 5 (.arr 8 (.int .u32)))],lo:=6,nx:=6 })]
def aqA:Code:=aY (aW Tryz.f193) 0
def ad3:Lp:=dF aqy aqz 109 jX
abbrev aqB:Shape:= { sl:=[(pc 2 (.arr 8 (.int .u32)) 0),(pc 4 (.arr 8 (.int .u32)) 2),(pc 7 (.arr 8 (.int .u32)) 5),(pv 96 tI)],ob:=[(pv 0 (.arr 8 (.int .u32))),(pv 2 (.arr 8 (.int .u32))),(pv 5 (.arr 8 (.int .u32)))],lo:=6,nx:=6 }
abbrev aqC:List Ex:=[(.normal, { sl:=[(pc 4 (.arr 8 (.int .u32)) 2),(pc 7 (.arr 8 (.int .u32)) 5)],ob:=[(pv 2 (.arr 8 (.int .u32))),(pv 5 (.arr 8 (.int .u32)))],lo:=6,nx:=6 })]
def aqD:Code:=aY (aW Tryz.f193) 2
def ad4:Lp:=dF aqB aqC 109 mU
def aqE:Con:=aQ true [(.arr 8 (.int .u32)),(.arr 64 (.int .u8))] [(.arr 8 (.int .u32))] λx=>Dm x.1 x.2.1
def avl:Cx:=cx [(220,aqm),(221,aqu),(222,agP)] []
theorem a3C:ay Tryz.prog avl:=ay.of mixed aC (fc ⟨agO,fc ⟨agR,fc ⟨a94,fz⟩⟩⟩) fz
theorem aqF:bY Tryz.prog 0 (.loop aqA) ad3:=aM a3C 8 (ak) _ _ _ _ (by decide) λ_=>by kernel_rfl
theorem aqG:bY Tryz.prog 2 (.loop aqD) ad4:=aM a3C 8 (ak) _ _ _ _ (by decide) λ_=>by kernel_rfl
theorem aqH:eD Tryz.prog 193 Tryz.f193 [(0,ad3),(2,ad4)]:=⟨Tryz.func193,Tryz.call193,bG (by kernel_rfl) (aL aqF (by kernel_rfl) (aL aqG (by kernel_rfl) fz))⟩
theorem agS:aA Tryz.prog 193 aqE:=aB a3C 8 aqH _ _ _ _ (by decide) (λx=>by rw[NJ];kernel_rfl)
abbrev aqI:Shape:= { sl:=[(pc 0 (.pair .bool (.pair (.arr 8 (.int .u32)) (.pair (.arr 64 (.int .u8)) tI))) 0),(1,(.v .str))],ob:=[(pv 0 (.pair .bool (.pair (.arr 8 (.int .u32)) (.pair (.arr 64 (.int .u8)) tI))))],lo:=1,nx:=1 }
abbrev aqJ:List Ex:=[(.normal, { sl:=[(pc 0 (.pair .bool (.pair (.arr 8 (.int .u32)) (.pair (.arr 64 (.int .u8)) tI))) 0)],ob:=[(pv 0 (.pair .bool (.pair (.arr 8 (.int .u32)) (.pair (.arr 64 (.int .u8)) tI))))],lo:=1,nx:=1 })]
def aqK:Code:=aY (aW Tryz.f143) 0
def ad5:Lp:=dF aqI aqJ 56 dO
abbrev avm:Shape:= { sl:=[(pc 0 (.pair .bool (.pair (.arr 8 (.int .u32)) (.pair (.arr 64 (.int .u8)) tI))) 0),(1,(.v .str))],ob:=[(pv 0 (.pair .bool (.pair (.arr 8 (.int .u32)) (.pair (.arr 64 (.int .u8)) tI))))],lo:=1,nx:=1 }
abbrev avn:List Shape:=[{ sl:=[],ob:=[(pv 0 (.pair .bool (.pair (.arr 8 (.int .u32)) (.pair (.arr 64 (.int .u8)) tI))))],lo:=1,nx:=1 }]
def agT:Con:=lJ avm avn λx=>jg x.1.2.1 x.2.1
def avo:Cx:=cx [(193,aqE)] []
theorem a95:ay Tryz.prog avo:=ay.of mixed aC (fc ⟨agS,fz⟩) fz
theorem aqL:bY Tryz.prog 0 (.loop aqK) ad5:=aM a95 8 (ak) _ _ _ _ (by decide) λ_=>by kernel_rfl
theorem aqM:eD Tryz.prog 143 Tryz.f143 [(0,ad5)]:=⟨Tryz.func143,Tryz.call143,bG (by kernel_rfl) (aL aqL (by kernel_rfl) fz)⟩
theorem a96:aA Tryz.prog 143 agT:=dS a95 8 aqM 0 _ _ _ (by decide) (λx=>by rw[Br];kernel_rfl)
abbrev aqN:Shape:= { sl:=[(0,(.pz (.pair .bool (.pair (.arr 8 (.int .u32)) (.pair (.arr 64 (.int .u8)) tI))))),(pc 3 (.pair .bool (.pair (.arr 8 (.int .u32)) (.pair (.arr 64 (.int .u8)) tI))) 0)],ob:=[(pv 0 (.pair .bool (.pair (.arr 8 (.int .u32)) (.pair (.arr 64 (.int .u8)) tI))))],lo:=1,nx:=1 }
abbrev aqO:List Ex:=[(.normal, { sl:=[(0,(.pz (.pair .bool (.pair (.arr 8 (.int .u32)) (.pair (.arr 64 (.int .u8)) tI))))),(pc 3 (.pair .bool (.pair (.arr 8 (.int .u32)) (.pair (.arr 64 (.int .u8)) tI))) 0)],ob:=[(pv 0 (.pair .bool (.pair (.arr 8 (.int .u32)) (.pair (.arr 64 (.int .u8)) tI))))],lo:=1,nx:=1 })]
def aqP:Code:=aY (aW Tryz.f144) 0
def a97:Lp:=dF aqN aqO 69 j5
abbrev aqQ:Shape:= { sl:=[(0,(.pz (.pair .bool (.pair (.arr 8 (.int .u32)) (.pair (.arr 64 (.int .u8)) tI))))),(pc 3 (.pair .bool (.pair (.arr 8 (.int .u32)) (.pair (.arr 64 (.int .u8)) tI))) 0),(pc 4 (.arr 8 (.int .u8)) 1),(pv 27 tI)],ob:=[(pv 0 (.pair .bool (.pair (.arr 8 (.int .u32)) (.pair (.arr 64 (.int .u8)) tI)))),(pv 1 (.arr 8 (.int .u8)))],lo:=2,nx:=2 }
abbrev aqR:List Ex:=[(.normal, { sl:=[(pc 3 (.pair .bool (.pair (.arr 8 (.int .u32)) (.pair (.arr 64 (.int .u8)) tI))) 0),(pc 4 (.arr 8 (.int .u8)) 1)],ob:=[(pv 0 (.pair .bool (.pair (.arr 8 (.int .u32)) (.pair (.arr 64 (.int .u8)) tI)))),(pv 1 (.arr 8 (.int .u8)))],lo:=2,nx:=2 })]
def aqS:Code:=aY (aW Tryz.f144) 2
def a98:Lp:=dF aqQ aqR 69 j6
abbrev aqT:Shape:= { sl:=[(6,(.w 5 (.int .u8) 3)),(pv 48 (.arr 8 (.int .u32))),(pv 49 tI)],ob:=[],lo:=3,nx:=4 }
abbrev aqU:List Ex:=[(.normal, { sl:=[(6,(.w 5 (.int .u8) 4))],ob:=[],lo:=4,nx:=5 })]
def aqV:Code:=aY (aW Tryz.f144) 4
def a99:Lp:=dF aqT aqU 69 jc
def aqW:Con:=aQ true [(.ptr (.pair .bool (.pair (.arr 8 (.int .u32)) (.pair (.arr 64 (.int .u8)) tI))))] [.str] λx=>zx x.1
def agU:Cx:=cx [(143,agT)] []
theorem Zw:ay Tryz.prog agU:=ay.of mixed aC (fc ⟨a96,fz⟩) fz
theorem aqX:bY Tryz.prog 0 (.loop aqP) a97:=aM Zw 8 (ak) _ _ _ _ (by decide) λ_=>by kernel_rfl
theorem aqY:bY Tryz.prog 2 (.loop aqS) a98:=aM Zw 8 (ak) _ _ _ _ (by decide) λ_=>by kernel_rfl
theorem aqZ:bY Tryz.prog 4 (.loop aqV) a99:=aM Zw 8 (ak) _ _ _ _ (by decide) λ_=>by kernel_rfl
theorem ar0:eD Tryz.prog 144 Tryz.f144 [(0,a97),(2,a98),(4,a99)]:=⟨Tryz.func144,Tryz.call144,bG (by kernel_rfl) (aL aqX (by kernel_rfl) (aL aqY (by kernel_rfl) (aL aqZ (by kernel_rfl) fz)))⟩
theorem avp(h):cu agU [(0,a97),(2,a98),(4,a99)] (dX agU 8) Tryz.f144 (jv [(.ptr (.pair .bool (.pair (.arr 8 (.int .u32)) (.pair (.arr 64 (.int .u8)) tI))))] (h,())) [] 0 (kD [.str])=xB h:=by cases h<;>kernel_rfl
theorem agV:aA Tryz.prog 144 aqW:=aB Zw 8 ar0 _ _ _ _ (by decide) (λx=>by rw[Fj];exact avp x.1)
def ar1:Con:=aQ true [.str] [.str] λx=>NK x.1
def avq:Cx:=cx [(142,aql),(143,agT),(144,aqW)] []
theorem agW:ay Tryz.prog avq:=ay.of mixed aC (fc ⟨agM,fc ⟨a96,fc ⟨agV,fz⟩⟩⟩) fz
theorem agX:aA Tryz.prog 90 ar1:=aB agW 8 ⟨Tryz.func90,Tryz.call90,ak⟩ _ _ _ _ (by decide) (λx=>by rw[V6];kernel_rfl)
end
end Go.Proofs.YtldlihheppdhnaaGreat
namespace Go.Proofs.YtldlihheppdhnaaGreat
noncomputable section
abbrev a9a:Shape:= { sl:=[(0,(.sz (.sl tN))),(1,(.c ⟨.fn,(.mk 194 [((.sl (.sl tN)),0,[])])⟩)),(pv 7 tI),(pv 8 tI)],ob:=[(0,(.sz (.sl tN)))],lo:=1,nx:=1 }
abbrev a9b:List Ex:=[(.ret, { sl:=[(pv 4 tI)],ob:=[(0,(.sz (.sl tN)))],lo:=1,nx:=1 }),(.normal, { sl:=[],ob:=[(0,(.sz (.sl tN)))],lo:=1,nx:=1 })]
def a9c:Code:=aY (aW Tryz.f177) 0
def a18:Lp:=dF a9a a9b 19 dz
def ar2:Con:=aQ true [(.sl (.sl tN))] [.bool] λx=>Bt x.1.1 x.1.2
def avr:Cx:=cx [] [(131,Tryz.f131,[]),(177,Tryz.f177,[(0,a18)]),(194,Tryz.f194,[])]
def LA:Cx:=cx [] [(131,Tryz.f131,[]),(194,Tryz.f194,[])]
theorem I7:ay Tryz.prog LA:=ay.of mixed aC fz (fc ⟨⟨Tryz.func131,Tryz.call131,ak⟩,fc ⟨⟨Tryz.func194,Tryz.call194,ak⟩,fz⟩⟩)
theorem a9d:bY Tryz.prog 0 (.loop a9c) a18:=aM I7 8 (ak) _ _ _ _ (by decide) λ_=>by kernel_rfl
theorem agY:ay Tryz.prog avr:=ay.of mixed aC fz (fc ⟨⟨Tryz.func131,Tryz.call131,ak⟩,fc ⟨⟨Tryz.func177,Tryz.call177,bG (by kernel_rfl) (aL a9d (by kernel_rfl) fz)⟩,fc ⟨⟨Tryz.func194,Tryz.call194,ak⟩,fz⟩⟩⟩)
theorem agZ:aA Tryz.prog 145 ar2:=aB agY 8 ⟨Tryz.func145,Tryz.call145,ak⟩ _ _ _ _ (by decide) (λx=>by rw[HZ];kernel_rfl)
abbrev ar3:Shape:= { sl:=[(pc 3 (.pair (.sp 244) (.sl (.int .u8))) 0),(22,(.sz (.sl tN))),(pv 23 tI),(pv 24 tI),(28,(.sz tN)),(pv 29 tI),(pv 30 tI)],ob:=[(0,(.p (.v (.sp 244)) (.w 5 (.int .u8) 6)))],lo:=6,nx:=7 }
abbrev ar4:List Ex:=[(.normal, { sl:=[(pc 3 (.pair (.sp 244) (.sl (.int .u8))) 0),(22,(.sz (.sl tN))),(pv 23 tI),(pv 24 tI)],ob:=[(0,(.p (.v (.sp 244)) (.w 5 (.int .u8) 7)))],lo:=7,nx:=8 })]
def ar5:Code:=aY (aW Tryz.f91) 2
def a9e:Lp:=dF ar3 ar4 45 jd
abbrev a4S:Shape:= { sl:=[(pc 3 (.pair (.sp 244) (.sl (.int .u8))) 0),(22,(.sz (.sl tN))),(pv 23 tI),(pv 24 tI)],ob:=[(0,(.p (.v (.sp 244)) (.w 5 (.int .u8) 5)))],lo:=5,nx:=6 }
abbrev ad6:List Ex:=[(.normal, { sl:=[(pc 3 (.pair (.sp 244) (.sl (.int .u8))) 0)],ob:=[(0,(.p (.v (.sp 244)) (.w 5 (.int .u8) 6)))],lo:=6,nx:=7 })]
def ad7:Code:=aY (aW Tryz.f91) 0
def ad8:Lp:=dF a4S ad6 45 gX
def ah0:Con:=aQ true [(.sl (.sl tN))] [.str] λx=>uy x.1.1 x.1.2
def ah1:Cx:=cx [(145,ar2),(195,QM),(147,am0)] [(146,Tryz.f146,[]),(148,Tryz.f148,[]),(149,Tryz.f149,[])]
theorem a3D:ay Tryz.prog ah1:=ay.of mixed aC (fc ⟨agZ,fc ⟨Xa,fc ⟨aee,fz⟩⟩⟩) (fc ⟨⟨Tryz.func146,Tryz.call146,ak⟩,fc ⟨⟨Tryz.func148,Tryz.call148,ak⟩,fc ⟨⟨Tryz.func149,Tryz.call149,ak⟩,fz⟩⟩⟩)
theorem ad9:bY Tryz.prog 2 (.loop ar5) a9e:=aM a3D 8 (ak) _ _ _ _ (by decide) λ_=>by kernel_rfl
theorem ar6(x:a4S.X):CP ah1 [(2,a9e)] (dX ah1 8) ad7 (a4S.mkS 45 x) (vP 0 a4S ad6)=gX x:=by kernel_rfl
theorem ar7:bY Tryz.prog 0 (.loop ad7) ad8:=aM a3D 8 (bG (by kernel_rfl) (aL ad9 (by kernel_rfl) fz)) _ _ _ _ (by decide) ar6
theorem ar8:eD Tryz.prog 91 Tryz.f91 [(2,a9e),(0,ad8)]:=⟨Tryz.func91,Tryz.call91,bG (by kernel_rfl) (aL ad9 (by kernel_rfl) (aL ar7 (by kernel_rfl) fz))⟩
theorem a9f:aA Tryz.prog 91 ah0:=aB a3D 8 ar8 _ _ _ _ (by decide) (λx=>by rw[Fq];kernel_rfl)
def ah2:Con:=aQ true [tI] [.bool] λx=>uz x.1
def avs:Cx:=cx [] []
theorem ah3:ay Tryz.prog avs:=ay.of mixed aC fz fz
theorem a9g:aA Tryz.prog 134 ah2:=aB ah3 8 ⟨Tryz.func134,Tryz.call134,ak⟩ _ _ _ _ (by decide) (λx=>by rw[Fu];kernel_rfl)
abbrev a9h:Shape:= { sl:=[(0,(.sz (.sl tN))),(1,(.c ⟨.fn,(.mk 132 [(tI,1,[]),((.ptr tGR),0,[])])⟩)),(pv 7 tI),(pv 8 tI)],ob:=[(0,(.pz tGR)),(pv 1 tI)],lo:=2,nx:=2 }
abbrev a9i:List Ex:=[(.ret, { sl:=[(pv 4 tI)],ob:=[(0,(.pz tGR)),(pv 1 tI)],lo:=2,nx:=2 }),(.normal, { sl:=[],ob:=[(0,(.pz tGR)),(pv 1 tI)],lo:=2,nx:=2 })]
def a9j:Code:=aY (aW Tryz.f177) 0
def a19:Lp:=dF a9h a9i 19 dV
def ah4:Con:=aQ true [(.ptr tGR),tI,(.sl (.sl tN))] [.bool] λx=>oF x.1 x.2.1 x.2.2.1.1 x.2.2.1.2
def ah5:Cx:=cx [(133,abg),(134,ah2)] [(131,Tryz.f131,[]),(177,Tryz.f177,[(0,a19)]),(132,Tryz.f132,[])]
def NP:Cx:=cx [(133,abg),(134,ah2)] [(131,Tryz.f131,[]),(132,Tryz.f132,[])]
theorem Jq:ay Tryz.prog NP:=ay.of mixed aC (fc ⟨a3A,fc ⟨a9g,fz⟩⟩) (fc ⟨⟨Tryz.func131,Tryz.call131,ak⟩,fc ⟨⟨Tryz.func132,Tryz.call132,ak⟩,fz⟩⟩)
theorem a9k:bY Tryz.prog 0 (.loop a9j) a19:=aM Jq 8 (ak) _ _ _ _ (by decide) λ_=>by kernel_rfl
theorem ah6:ay Tryz.prog ah5:=ay.of mixed aC (fc ⟨a3A,fc ⟨a9g,fz⟩⟩) (fc ⟨⟨Tryz.func131,Tryz.call131,ak⟩,fc ⟨⟨Tryz.func177,Tryz.call177,bG (by kernel_rfl) (aL a9k (by kernel_rfl) fz)⟩,fc ⟨⟨Tryz.func132,Tryz.call132,ak⟩,fz⟩⟩⟩)
theorem avt(g)(t)(nm)(m):cu ah5 [] (dX ah5 8) Tryz.f85 (jv [(.ptr tGR),tI,(.sl (.sl tN))] (g,t,(nm,m),())) [] 0 (kD [.bool])=Bv g t nm m:=by cases g<;>kernel_rfl
theorem a9l:aA Tryz.prog 85 ah4:=aB ah6 8 ⟨Tryz.func85,Tryz.call85,ak⟩ _ _ _ _ (by decide) (λx=>by rw[Km];exact avt x.1 x.2.1 x.2.2.1.1 x.2.2.1.2)
abbrev ar9:Shape:= { sl:=[(0,(.pz tGR)),(pc 5 (.pair tI (.sl tN)) 0),(25,(.sz (.sl tN))),(pv 26 tI),(pv 27 tI)],ob:=[(0,(.p (.v tI) (.sz tN)))],lo:=1,nx:=1 }
abbrev ara:List Ex:=[(.ret, { sl:=[(6,(.v .bool))],ob:=[],lo:=1,nx:=1 }),(.normal, { sl:=[],ob:=[],lo:=1,nx:=1 })]
def arb:Code:=aY (aW Tryz.f86) 0
def a9m:Lp:=dF ar9 ara 45 gY
def ah7:Con:=aQ true [(.ptr tGR),(.sl (.sl tN)),(.pair tI (.sl tN))] [.bool] λx=>eF x.1 x.2.1.1 x.2.1.2 x.2.2.1
def ah8:Cx:=cx [(135,aqj)] []
theorem a9n:ay Tryz.prog ah8:=ay.of mixed aC (fc ⟨agI,fz⟩) fz
theorem ard:bY Tryz.prog 0 (.loop arb) a9m:=aM a9n 8 (ak) _ _ _ _ (by decide) λ_=>by kernel_rfl
theorem arf:eD Tryz.prog 86 Tryz.f86 [(0,a9m)]:=⟨Tryz.func86,Tryz.call86,bG (by kernel_rfl) (aL ard (by kernel_rfl) fz)⟩
theorem avu(g)(nm)(m)(p):cu ah8 [(0,a9m)] (dX ah8 8) Tryz.f86 (jv [(.ptr tGR),(.sl (.sl tN)),(.pair tI (.sl tN))] (g,(nm,m),p,())) [] 0 (kD [.bool])=xC g nm m p:=by cases g<;>kernel_rfl
theorem a9o:aA Tryz.prog 86 ah7:=aB a9n 8 arf _ _ _ _ (by decide) (λx=>by rw[Fv];exact avu x.1 x.2.1.1 x.2.1.2 x.2.2.1)
def arh:Con:=aQ true [(.sl (.sl tN))] [.str] λx=>qP x.1.1 x.1.2
def avv:Cx:=cx [(91,ah0),(90,ar1)] []
theorem ah9:ay Tryz.prog avv:=ay.of mixed aC (fc ⟨a9f,fc ⟨agX,fz⟩⟩) fz
theorem aha:aA Tryz.prog 45 arh:=aB ah9 8 ⟨Tryz.func45,Tryz.call45,ak⟩ _ _ _ _ (by decide) (λx=>by rw[Dv];kernel_rfl)
end
end Go.Proofs.YtldlihheppdhnaaGreat
namespace Go.Proofs.YtldlihheppdhnaaGreat
noncomputable section
def ari:Con:=aQ true [(.pair tI tI)] [.bool] λx=>zy x.1
def avw:Cx:=cx [] []
theorem ahb:ay Tryz.prog avw:=ay.of mixed aC fz fz
theorem ahc:aA Tryz.prog 176 ari:=aB ahb 8 ⟨Tryz.func176,Tryz.call176,ak⟩ _ _ _ _ (by decide) (λx=>by rw[Fw];kernel_rfl)
abbrev avx:Shape:= { sl:=[(pv 0 tI),(1,(.v .bool)),(2,(.v .bool)),(pc 3 tI 0),(4,(.c ⟨(.ptr .bool),(.rf 1 [])⟩))],ob:=[(pv 0 tI),(1,(.v .bool))],lo:=2,nx:=2 }
abbrev avy:List Shape:=[{ sl:=[],ob:=[(pv 0 tI),(1,(.v .bool))],lo:=2,nx:=2 }]
def arj:Con:=lJ avx avy λx=>dh x.1.1 x.1.2.1 x.1.2.2.1 x.2.1 x.2.2.1
def avz:Cx:=cx [] []
theorem ahd:ay Tryz.prog avz:=ay.of mixed aC fz fz
theorem ahe:aA Tryz.prog 175 arj:=dS ahd 8 ⟨Tryz.func175,Tryz.call175,ak⟩ 0 _ _ _ (by decide) (λx=>by rw[yS];kernel_rfl)
def ark:Con:=aQ true [tMS] [tI,.bool] λx=>uF x.1
def avA:Cx:=cx [(176,ari),(175,arj),(91,ah0)] []
theorem ahf:ay Tryz.prog avA:=ay.of mixed aC (fc ⟨ahc,fc ⟨ahe,fc ⟨a9f,fz⟩⟩⟩) fz
theorem ahg:aA Tryz.prog 129 ark:=aB ahf 8 ⟨Tryz.func129,Tryz.call129,ak⟩ _ _ _ _ (by decide) (λx=>by rw[Fy];kernel_rfl)
def abh:Con:=aQ true [.str] [.bool] λx=>bT x.1
def avB:Cx:=cx [] []
theorem ahh:ay Tryz.prog avB:=ay.of mixed aC fz fz
theorem a3E:aA Tryz.prog 130 abh:=aB ahh 8 ⟨Tryz.func130,Tryz.call130,ak⟩ _ _ _ _ (by decide) (λx=>by rw[QY];kernel_rfl)
def ahi:Con:=aQ true [tMS] [tI] λx=>wC x.1
def avC:Cx:=cx [(129,ark),(130,abh)] []
theorem ahj:ay Tryz.prog avC:=ay.of mixed aC (fc ⟨ahg,fc ⟨a3E,fz⟩⟩) fz
theorem a9p:aA Tryz.prog 83 ahi:=aB ahj 8 ⟨Tryz.func83,Tryz.call83,ak⟩ _ _ _ _ (by decide) (λx=>by rw[Kn];kernel_rfl)
end
end Go.Proofs.YtldlihheppdhnaaGreat
namespace Go.Proofs.YtldlihheppdhnaaGreat
noncomputable section
abbrev avD:Shape:= { sl:=[(pv 0 tI),(pv 1 tI)],ob:=[],lo:=0,nx:=0 }
abbrev avE:List Shape:=[{ sl:=[(0,(.c ⟨(.ptr tSP),.nil⟩)),(pv 1 tI)],ob:=[],lo:=0,nx:=0 }, { sl:=[(pc 0 tSP 1),(pv 1 tI)],ob:=[(1,(.p (.v tI) (.p (.v tI) (.p (.w 9 .str 2) (.m tI tI 3)))))],lo:=2,nx:=4 }]
def arl:Con:=lJ avD avE λx=>sU x.1.1 x.1.2.1
def avF:Cx:=cx [] []
theorem ahk:ay Tryz.prog avF:=ay.of mixed aC fz fz
theorem ahl:aA Tryz.prog 66 arl:=dS ahk 8 ⟨Tryz.func66,Tryz.call66,ak⟩ 2 _ _ _ (by decide) (λx=>by rw[Ak];kernel_rfl)
def arn:Con:=aQ true [.str,.str] [tI] λx=>jh x.1 x.2.1
def avG:Cx:=cx [(186,Nq)] []
theorem ahm:ay Tryz.prog avG:=ay.of mixed aC (fc ⟨UH,fz⟩) fz
theorem ahn:aA Tryz.prog 185 arn:=aB ahm 8 ⟨Tryz.func185,Tryz.call185,ak⟩ _ _ _ _ (by decide) (λx=>by rw[vg];kernel_rfl)
abbrev aro:Shape:= { sl:=[(0,(.sz .str)),(1,(.v .str)),(2,(.c ⟨.fn,(.mk 185 [])⟩)),(pv 8 tI),(pv 9 tI),(pv 10 tI)],ob:=[],lo:=0,nx:=0 }
abbrev arp:List Ex:=[(.normal, { sl:=[(0,(.sz .str)),(1,(.v .str)),(2,(.c ⟨.fn,(.mk 185 [])⟩)),(pv 8 tI),(pv 9 tI)],ob:=[],lo:=0,nx:=0 })]
def arq:Code:=aY (aW Tryz.f184) 0
def a9q:Lp:=dF aro arp 49 aK
def aho:Con:=a5R 185 [(.sl .str),.str] [tI,.bool] λx=>bC x.1.1 x.1.2 x.2.1
def ahp:Cx:=cx [(185,arn)] []
theorem a9r:ay Tryz.prog ahp:=ay.of mixed aC (fc ⟨ahn,fz⟩) fz
theorem ars:bY Tryz.prog 0 (.loop arq) a9q:=aM a9r 8 (ak) _ _ _ _ (by decide) λ_=>by kernel_rfl
theorem aru:eD Tryz.prog 184 Tryz.f184 [(0,a9q)]:=⟨Tryz.func184,Tryz.call184,bG (by kernel_rfl) (aL ars (by kernel_rfl) fz)⟩
theorem avH(nx)(x)(target):cu ahp [(0,a9q)] (dX ahp 8) Tryz.f184 (jv [(.sl .str),.str] ((nx,x),target,())++[.v ⟨.fn,.mk 185 []⟩]) [] 0 (kD [tI,.bool])=bK nx x target:=by kernel_rfl
theorem a9s:aA Tryz.prog 184 aho:=ab1 a9r 8 aru 185 [(.sl .str),.str] [tI,.bool] _ (by decide) (λx=>by rw[dP];exact avH x.1.1 x.1.2 x.2.1)
abbrev avI:Shape:= { sl:=[(pc 0 tSP 0),(1,(.v .str))],ob:=[(0,ZZ7)],lo:=1,nx:=3 }
abbrev avJ:List Shape:=[{ sl:=[(pv 0 tI),(1,(.v .bool))],ob:=[(0,(.p (.v tI) (.p (.v tI) (.p (.w 9 .str 3) (.m tI tI 4)))))],lo:=3,nx:=5 }]
def ahq:Con:=lJ avI avJ λx=>lW x.1.2.1 x.2.1.1 x.2.1.2.1 x.2.1.2.2.1.1 x.2.1.2.2.1.2 x.2.1.2.2.2
def avK:Cx:=cx [(184,aho)] []
theorem ahr:ay Tryz.prog avK:=ay.of mixed aC (fc ⟨a9s,fz⟩) fz
theorem a9t:aA Tryz.prog 137 ahq:=dS ahr 8 ⟨Tryz.func137,Tryz.call137,ak⟩ 2 _ _ _ (by decide) (λx=>by rw[vk];kernel_rfl)
def ahs:Con:=aQ true [(.ptr tSP),.str] [tI,.bool] λx=>wD x.1 x.2.1
def aht:Cx:=cx [(184,aho)] []
theorem ahu:ay Tryz.prog aht:=ay.of mixed aC (fc ⟨a9s,fz⟩) fz
theorem avL(s)(key):cu aht [] (dX aht 8) Tryz.f137 (jv [(.ptr tSP),.str] (s,key,())) [] 0 (kD [tI,.bool])=uG s key:=by cases s<;>kernel_rfl
theorem a9u:aA Tryz.prog 137 ahs:=aB ahu 8 ⟨Tryz.func137,Tryz.call137,ak⟩ _ _ _ _ (by decide) (λx=>by rw[Jm];exact avL x.1 x.2.1)
abbrev avM:Shape:= { sl:=[(pc 0 tSP 0),(1,(.v .str)),(pv 2 tI)],ob:=[(0,ZZ7)],lo:=1,nx:=3 }
abbrev avN:List Shape:=[{ sl:=[(pv 0 tI),(1,(.v .bool)),(pv 2 tI)],ob:=[(0,(.p (.v tI) (.p (.v tI) (.p (.w 9 .str 9) (.m tI tI 10)))))],lo:=9,nx:=11 }]
def ahv:Con:=lJ avM avN λx=>lX x.1.2.1 x.1.2.2.1 x.2.1.1 x.2.1.2.1 x.2.1.2.2.1.1 x.2.1.2.2.1.2 x.2.1.2.2.2
def avO:Cx:=cx [(130,abh),(136,UF),(137,kM 0 ahq ahs),(138,Y1)] []
theorem ahw:ay Tryz.prog avO:=ay.of mixed aC (fc ⟨a3E,fc ⟨UG,fc ⟨dU a9t a9u,fc ⟨a14,fz⟩⟩⟩⟩) fz
theorem a9v:aA Tryz.prog 87 ahv:=dS ahw 8 ⟨Tryz.func87,Tryz.call87,ak⟩ 3 _ _ _ (by decide) (λx=>by rw[vo];kernel_rfl)
def ahx:Con:=aQ true [(.ptr tSP),.str,tI] [tI,.bool,tI] λx=>aZ x.1 x.2.1 x.2.2.1
def ahy:Cx:=cx [(130,abh),(136,UF),(137,kM 0 ahq ahs)] []
theorem ahz:ay Tryz.prog ahy:=ay.of mixed aC (fc ⟨a3E,fc ⟨UG,fc ⟨dU a9t a9u,fz⟩⟩⟩) fz
theorem avP(s)(key)(end_):cu ahy [] (dX ahy 8) Tryz.f87 (jv [(.ptr tSP),.str,tI] (s,key,end_,())) [] 0 (kD [tI,.bool,tI])=uH s key end_:=by cases s<;>kernel_rfl
theorem a9w:aA Tryz.prog 87 ahx:=aB ahz 8 ⟨Tryz.func87,Tryz.call87,ak⟩ _ _ _ _ (by decide) (λx=>by rw[Jo];exact avP x.1 x.2.1 x.2.2.1)
abbrev avQ:Shape:= { sl:=[(pc 0 tSP 0)],ob:=[(0,ZZ7)],lo:=1,nx:=3 }
abbrev avR:List Shape:=[{ sl:=[(0,(.sz .str))],ob:=[(0,(.p (.v tI) (.p (.v tI) (.p (.w 9 .str 4) (.m tI tI 5)))))],lo:=4,nx:=6 }]
def a9x:Con:=lJ avQ avR λx=>gZ x.2.1.1 x.2.1.2.1 x.2.1.2.2.1.1 x.2.1.2.2.1.2 x.2.1.2.2.2
def avS:Cx:=cx [(77,UD)] []
theorem ahA:ay Tryz.prog avS:=ay.of mixed aC (fc ⟨UE,fz⟩) fz
theorem Zx:aA Tryz.prog 31 a9x:=dS ahA 8 ⟨Tryz.func31,Tryz.call31,ak⟩ 1 _ _ _ (by decide) (λx=>by rw[mX];kernel_rfl)
def a9y:Con:=aQ false [(.ptr tSP)] [(.sl .str)] λx=>kV x.1
def ahB:Cx:=cx [(77,UD)] []
theorem ahC:ay Tryz.prog ahB:=ay.of mixed aC (fc ⟨UE,fz⟩) fz
theorem avT(s):cu ahB [] (dX ahB 8) Tryz.f31 (jv [(.ptr tSP)] (s,())) [] 0 (kD [(.sl .str)])=uI s:=by cases s<;>kernel_rfl
theorem Zy:aA Tryz.prog 31 a9y:=aB ahC 8 ⟨Tryz.func31,Tryz.call31,ak⟩ _ _ _ _ (by decide) (λx=>by rw[yT];exact avT x.1)
end
end Go.Proofs.YtldlihheppdhnaaGreat
namespace Go.Proofs.YtldlihheppdhnaaGreat
noncomputable section
def arv:Con:=aQ true [tI] [.bool] λx=>uJ x.1
def avU:Cx:=cx [] []
theorem ahD:ay Tryz.prog avU:=ay.of mixed aC fz fz
theorem ahE:aA Tryz.prog 224 arv:=aB ahD 8 ⟨Tryz.func224,Tryz.call224,ak⟩ _ _ _ _ (by decide) (λx=>by rw[Bw];kernel_rfl)
def arw:Con:=aQ true [tI,tI] [tI] λx=>kW x.1 x.2.1
def avV:Cx:=cx [(224,arv)] []
theorem ahF:ay Tryz.prog avV:=ay.of mixed aC (fc ⟨ahE,fz⟩) fz
theorem ahG:aA Tryz.prog 197 arw:=aB ahF 8 ⟨Tryz.func197,Tryz.call197,ak⟩ _ _ _ _ (by decide) (λx=>by rw[yU];kernel_rfl)
abbrev arx:Shape:= { sl:=[(pv 3 tI),(6,(.sz tI)),(pv 7 tI),(pv 8 tI)],ob:=[],lo:=0,nx:=0 }
abbrev arz:List Ex:=[(.ret, { sl:=[(pv 2 tI)],ob:=[],lo:=0,nx:=0 }),(.normal, { sl:=[(pv 3 tI)],ob:=[],lo:=0,nx:=0 })]
def arA:Code:=aY (aW Tryz.f196) 0
def ada:Lp:=dF arx arz 18 eG
def arB:Con:=aQ true [(.sl tI)] [tI] λx=>Bz x.1.1 x.1.2
def avW:Cx:=cx [] []
theorem a9z:ay Tryz.prog avW:=ay.of mixed aC fz fz
theorem arC:bY Tryz.prog 0 (.loop arA) ada:=aM a9z 8 (ak) _ _ _ _ (by decide) λ_=>by kernel_rfl
theorem arD:eD Tryz.prog 196 Tryz.f196 [(0,ada)]:=⟨Tryz.func196,Tryz.call196,bG (by kernel_rfl) (aL arC (by kernel_rfl) fz)⟩
theorem ahH:aA Tryz.prog 196 arB:=aB a9z 8 arD _ _ _ _ (by decide) (λx=>by rw[I5];kernel_rfl)
end
end Go.Proofs.YtldlihheppdhnaaGreat
namespace Go.Proofs.YtldlihheppdhnaaGreat
noncomputable section
def arE:Con:=aQ true [tI] [.bool] λx=>EC x.1
def avX:Cx:=cx [] []
theorem ahI:ay Tryz.prog avX:=ay.of mixed aC fz fz
theorem ahJ:aA Tryz.prog 189 arE:=aB ahI 8 ⟨Tryz.func189,Tryz.call189,ak⟩ _ _ _ _ (by decide) (λx=>by rw[FD];kernel_rfl)
def abj:Con:=aQ true [(.pair tI tI)] [.bool] λx=>wE x.1
def avY:Cx:=cx [(189,arE)] []
theorem ahK:ay Tryz.prog avY:=ay.of mixed aC (fc ⟨ahJ,fz⟩) fz
theorem a3F:aA Tryz.prog 139 abj:=aB ahK 8 ⟨Tryz.func139,Tryz.call139,ak⟩ _ _ _ _ (by decide) (λx=>by rw[NM];kernel_rfl)
def arF:Con:=aQ true [(.pair tI tI),(.pair tI tI)] [tI] λx=>xD x.1 x.2.1
def avZ:Cx:=cx [(197,arw),(196,arB)] []
theorem ahL:ay Tryz.prog avZ:=ay.of mixed aC (fc ⟨ahG,fc ⟨ahH,fz⟩⟩) fz
theorem ahM:aA Tryz.prog 150 arF:=aB ahL 8 ⟨Tryz.func150,Tryz.call150,ak⟩ _ _ _ _ (by decide) (λx=>by rw[Dw];kernel_rfl)
end
end Go.Proofs.YtldlihheppdhnaaGreat
namespace Go.Proofs.YtldlihheppdhnaaGreat
noncomputable section
abbrev aw0:Shape:= { sl:=[(pv 0 tI)],ob:=[],lo:=0,nx:=0 }
abbrev aw1:List Shape:=[{ sl:=[(0,(.c ⟨(.ptr tVT),(.rf 0 [])⟩)),(pv 1 tI)],ob:=[(0,(.v tVT))],lo:=1,nx:=1 }]
def abk:Con:=lJ aw0 aw1 λx=>lZ x.1.1
def aw2:Cx:=cx [] []
theorem ahN:ay Tryz.prog aw2:=ay.of mixed aC fz fz
theorem a3G:aA Tryz.prog 78 abk:=dS ahN 8 ⟨Tryz.func78,Tryz.call78,ak⟩ 2 _ _ _ (by decide) (λx=>by rw[FH];kernel_rfl)
abbrev aw3:Shape:= { sl:=[(0,(.c ⟨(.ptr tVT),(.rf 0 [])⟩)),(pv 1 tI),(pv 2 (.pair tI tI)),(3,(.v .str))],ob:=[(0,(.v tVT))],lo:=1,nx:=1 }
abbrev aw4:List Shape:=[{ sl:=[(0,(.v .bool))],ob:=[(0,(.v tVT))],lo:=2,nx:=2 }]
def a9A:Con:=lJ aw3 aw4 λx=>fF x.1.2.1 x.1.2.2.1 x.1.2.2.2.1 x.2.1
def aw5:Cx:=cx [(139,abj)] [(79,Tryz.f79,[])]
theorem ahO:ay Tryz.prog aw5:=ay.of mixed aC (fc ⟨a3F,fz⟩) (fc ⟨⟨Tryz.func79,Tryz.call79,ak⟩,fz⟩)
theorem Zz:aA Tryz.prog 88 a9A:=dS ahO 8 ⟨Tryz.func88,Tryz.call88,ak⟩ 1 _ _ _ (by decide) (λx=>by rw[xV];kernel_rfl)
def a9B:Con:=aQ true [(.ptr tVT),tI,(.pair tI tI),.str] [.bool] λx=>FE x.1 x.2.1 x.2.2.1 x.2.2.2.1
def ahP:Cx:=cx [(139,abj)] [(79,Tryz.f79,[])]
theorem ahQ:ay Tryz.prog ahP:=ay.of mixed aC (fc ⟨a3F,fz⟩) (fc ⟨⟨Tryz.func79,Tryz.call79,ak⟩,fz⟩)
theorem aw6(v)(server)(s)(digest):cu ahP [] (dX ahP 8) Tryz.f88 (jv [(.ptr tVT),tI,(.pair tI tI),.str] (v,server,s,digest,())) [] 0 (kD [.bool])=wF v server s digest:=by cases v<;>kernel_rfl
theorem ZA:aA Tryz.prog 88 a9B:=aB ahQ 8 ⟨Tryz.func88,Tryz.call88,ak⟩ _ _ _ _ (by decide) (λx=>by rw[Lx];exact aw6 x.1 x.2.1 x.2.2.1 x.2.2.2.1)
abbrev arG:Shape:= { sl:=[(0,(.pz tVT)),(2,(.v .str)),(pc 4 (.pair tI tI) 0),(pv 7 tI),(pv 19 tI),(pv 20 tI)],ob:=[(pv 0 (.pair tI tI))],lo:=1,nx:=1 }
abbrev arH:List Ex:=[(.normal, { sl:=[(pv 7 tI)],ob:=[],lo:=1,nx:=1 })]
def arI:Code:=aY (aW Tryz.f140) 0
def a9C:Lp:=dF arG arH 45 dG
def arJ:Con:=aQ true [(.ptr tVT),(.pair tI tI),.str] [tI] λx=>iI x.1 x.2.1 x.2.2.1
def ahR:Cx:=cx [(139,abj)] []
theorem a9D:ay Tryz.prog ahR:=ay.of mixed aC (fc ⟨a3F,fz⟩) fz
theorem arK:bY Tryz.prog 0 (.loop arI) a9C:=aM a9D 8 (ak) _ _ _ _ (by decide) λ_=>by kernel_rfl
theorem arL:eD Tryz.prog 140 Tryz.f140 [(0,a9C)]:=⟨Tryz.func140,Tryz.call140,bG (by kernel_rfl) (aL arK (by kernel_rfl) fz)⟩
theorem aw7(v)(s)(digest):cu ahR [(0,a9C)] (dX ahR 8) Tryz.f140 (jv [(.ptr tVT),(.pair tI tI),.str] (v,s,digest,())) [] 0 (kD [tI])=lY v s digest:=by cases v<;>kernel_rfl
theorem ahS:aA Tryz.prog 140 arJ:=aB a9D 8 arL _ _ _ _ (by decide) (λx=>by rw[xW];exact aw7 x.1 x.2.1 x.2.2.1)
def ahT:Con:=aQ true [(.ptr tVT),tI,tI,tI] [(.pair tI tI),.str] λx=>ji x.1 x.2.1 x.2.2.1 x.2.2.2.1
def ahU:Cx:=cx [] [(79,Tryz.f79,[])]
theorem ahV:ay Tryz.prog ahU:=ay.of mixed aC fz (fc ⟨⟨Tryz.func79,Tryz.call79,ak⟩,fz⟩)
theorem aw8(v)(server)(client)(odd):cu ahU [] (dX ahU 8) Tryz.f35 (jv [(.ptr tVT),tI,tI,tI] (v,server,client,odd,())) [] 0 (kD [(.pair tI tI),.str])=rG v server client odd:=by cases v<;>kernel_rfl
theorem a9E:aA Tryz.prog 35 ahT:=aB ahV 8 ⟨Tryz.func35,Tryz.call35,ak⟩ _ _ _ _ (by decide) (λx=>by rw[BA];exact aw8 x.1 x.2.1 x.2.2.1 x.2.2.2.1)
end
end Go.Proofs.YtldlihheppdhnaaGreat
namespace Go.Proofs.YtldlihheppdhnaaGreat
noncomputable section
abbrev a9F:Shape:= { sl:=[(0,(.po tGR)),(pv 1 tI),(pv 2 tI),(pv 3 tI)],ob:=[],lo:=0,nx:=0 }
abbrev arM:List Shape:=[{ sl:=[(0,(.c ⟨(.ptr tSV),.nil⟩)),(pv 1 tI)],ob:=[],lo:=4,nx:=4 }, { sl:=[(0,(.c ⟨(.ptr tSV),(.rf 5 [])⟩)),(pv 1 tI)],ob:=[(1,(.p (.v tI) (.p (.v tI) (.p (.w 9 .str 6) (.m tI tI 7))))),(5,(.p (.pz tGR) (.p (.v tI) (.p (.v tI) (.p (.v tI) (.p (.v tI) (.p (.c ⟨(.ptr tSP),(.rf 1 [])⟩) (.p (.bg .str tRC 8 none) (.sz tOU)))))))))],lo:=6,nx:=9 }]
def ahW:Con:=lJ a9F arM λx=>bD x.1.1 x.1.2.1 x.1.2.2.1 x.1.2.2.2.1
def ahX:Cx:=cx [(65,abb),(66,arl)] []
theorem ahY:ay Tryz.prog ahX:=ay.of mixed aC (fc ⟨a3r,fc ⟨ahl,fz⟩⟩) fz
theorem aw9(g)(t)(number)(clients):cu ahX [] (dX ahX 8) Tryz.f24 ((jy a9F.sl (show a9F.X from((g,(t,(number,(clients,())))),())).1).map .v) (FQ a9F ((g,(t,(number,(clients,())))),())) a9F.nx (Qq 2 arM)=jY g t number clients:=by cases g<;>kernel_rfl
theorem a9G:aA Tryz.prog 24 ahW:=dS ahY 8 ⟨Tryz.func24,Tryz.call24,ak⟩ 2 _ _ _ (by decide) (λx=>by rw[mF];exact aw9 x.1.1 x.1.2.1 x.1.2.2.1 x.1.2.2.2.1)
abbrev awc:Shape:= { sl:=[(0,(.c ⟨(.ptr tSV),(.rf 0 [])⟩)),(pv 1 tI),(2,ZZ2)],ob:=oS 2 3 4 [],lo:=2,nx:=5 }
abbrev awd:List Shape:=[{ sl:=[(0,(.v .bool))],ob:=oS 6 7 8 [],lo:=6,nx:=9 }]
def ahZ:Con:=lJ awc awd λx=>iU x.1.2.1 x.1.2.2.1.1 x.1.2.2.1.2.1 x.1.2.2.1.2.2.1 x.1.2.2.1.2.2.2.1 x.1.2.2.1.2.2.2.2.1 x.1.2.2.1.2.2.2.2.2.1.1 x.1.2.2.1.2.2.2.2.2.1.2 x.1.2.2.1.2.2.2.2.2.2.1 x.1.2.2.1.2.2.2.2.2.2.2 x.2
def awe:Cx:=cx [] []
theorem ai0:ay Tryz.prog awe:=ay.of mixed aC fz fz
theorem a9H:aA Tryz.prog 84 ahZ:=dS ai0 8 ⟨Tryz.func84,Tryz.call84,ak⟩ 1 _ _ _ (by decide) (λx=>by rw[qd];kernel_rfl)
def ai1:Con:=aQ true [(.ptr tSV),tI,tMS] [.bool] λx=>jK x.1 x.2.1 x.2.2.1
def ai2:Cx:=cx [] []
theorem ai3:ay Tryz.prog ai2:=ay.of mixed aC fz fz
theorem awf(s:Z03)(from_:Int)(m:Z0e):cu ai2 [] (dX ai2 8) Tryz.f84 (jv [(.ptr tSV),tI,tMS] (s,from_,m,())) [] 0 (kD [.bool])=mY s from_ m:=by cases s<;>kernel_rfl
theorem a9I:aA Tryz.prog 84 ai1:=aB ai3 8 ⟨Tryz.func84,Tryz.call84,ak⟩ _ _ _ _ (by decide) (λx=>by rw[Dx];exact awf x.1 x.2.1 x.2.2.1)
abbrev awg:Shape:= { sl:=[(0,(.c ⟨(.ptr tSV),(.rf 0 [])⟩)),(pv 1 tI),(2,ZZ2)],ob:=oS 2 3 4 [],lo:=2,nx:=5 }
abbrev awh:List Shape:=[{ sl:=[(0,(.v .bool))],ob:=oS 26 27 28 [],lo:=26,nx:=29 }]
def arN:Con:=lJ awg awh λx=>kG x.1.2.1 x.1.2.2.1.1 x.1.2.2.1.2.1 x.1.2.2.1.2.2.1 x.1.2.2.1.2.2.2.1 x.1.2.2.1.2.2.2.2.1 x.1.2.2.1.2.2.2.2.2.1.1 x.1.2.2.1.2.2.2.2.2.1.2 x.1.2.2.1.2.2.2.2.2.2.1 x.1.2.2.1.2.2.2.2.2.2.2 x.2
def awi:Cx:=cx [(83,ahi),(84,kM 0 ahZ ai1),(85,ah4),(86,ah7),(87,kM 0 ahv ahx)] []
theorem ai4:ay Tryz.prog awi:=ay.of mixed aC (fc ⟨a9p,fc ⟨dU a9H a9I,fc ⟨a9l,fc ⟨a9o,fc ⟨dU a9v a9w,fz⟩⟩⟩⟩⟩) fz
theorem ai5:aA Tryz.prog 42 arN:=dS ai4 8 ⟨Tryz.func42,Tryz.call42,ak⟩ 1 _ _ _ (by decide) (λx=>by rw[uN];kernel_rfl)
def arO:Con:=aQ true [(.ptr tSV),tI,tMS] [.bool] λx=>BD x.1 x.2.1 x.2.2.1
def ai6:Cx:=cx [(83,ahi),(84,kM 0 ahZ ai1),(85,ah4),(86,ah7),(87,kM 0 ahv ahx)] []
theorem ai7:ay Tryz.prog ai6:=ay.of mixed aC (fc ⟨a9p,fc ⟨dU a9H a9I,fc ⟨a9l,fc ⟨a9o,fc ⟨dU a9v a9w,fz⟩⟩⟩⟩⟩) fz
theorem awj(s:Z03)(from_:Int)(m:Z0e):cu ai6 [] (dX ai6 8) Tryz.f42 (jv [(.ptr tSV),tI,tMS] (s,from_,m,())) [] 0 (kD [.bool])=sw s from_ m:=by cases s<;>kernel_rfl
theorem ai8:aA Tryz.prog 42 arO:=aB ai7 8 ⟨Tryz.func42,Tryz.call42,ak⟩ _ _ _ _ (by decide) (λx=>by rw[I6];exact awj x.1 x.2.1 x.2.2.1)
abbrev awk:Shape:= { sl:=[(0,(.c ⟨(.ptr tSV),(.rf 0 [])⟩)),(pv 1 tI),(2,ZZ2)],ob:=[(0,ZZ1),(1,ZZ0),(2,(.v tVT)),(3,(.v tVT)),(4,ZZ3)],lo:=5,nx:=9 }
abbrev awl:List Shape:=[{ sl:=[],ob:=[(0,(.p (.pz tGR) (.p (.v tI) (.p (.v tI) (.p (.v tI) (.p (.v tI) (.p (.c ⟨(.ptr tSP),(.rf 4 [])⟩) (.p (.bg .str tRC 12 (some 1)) (.w 60 tOU 13))))))))),(1,ZZ0),(2,(.v tVT)),(3,(.v tVT)),(4,(.p (.v tI) (.p (.v tI) (.p (.w 9 .str 14) (.m tI tI 15)))))],lo:=12,nx:=16 }]
def a1a:Con:=lJ awk awl λx=>bP x.1.2.1 x.1.2.2.1.1 x.1.2.2.1.2.1 x.1.2.2.1.2.2.1 x.1.2.2.1.2.2.2.1 x.1.2.2.1.2.2.2.2.1 x.1.2.2.1.2.2.2.2.2.1.1 x.1.2.2.1.2.2.2.2.2.1.2 x.1.2.2.1.2.2.2.2.2.2.1 x.1.2.2.1.2.2.2.2.2.2.2 x.2
def awm:Cx:=cx [] []
theorem ai9:ay Tryz.prog awm:=ay.of mixed aC fz fz
theorem LB:aA Tryz.prog 80 a1a:=dS ai9 8 ⟨Tryz.func80,Tryz.call80,ak⟩ 0 _ _ _ (by decide) (λx=>by rw[qQ];kernel_rfl)
def abl:Con:=aQ true [tVA,(.pair tI tI),.str] [.bool] λx=>fG x.1 x.2.1 x.2.2.1
def awn:Cx:=cx [] []
theorem aia:ay Tryz.prog awn:=ay.of mixed aC fz fz
theorem a3H:aA Tryz.prog 92 abl:=aB aia 8 ⟨Tryz.func92,Tryz.call92,ak⟩ _ _ _ _ (by decide) (λx=>by rw[xX];kernel_rfl)
abbrev a9J:Shape:= { sl:=[(1,(.c ⟨(.ptr tRC),(.rf 1 [])⟩)),(2,(.c ⟨.fn,(.mk 81 [((.ptr tSV),9,[]),((.ptr tRC),10,[])])⟩)),(pv 10 tI),(pv 11 tI)],ob:=[(0,(.p (.pz tGR) (.p (.v tI) (.p (.v tI) (.p (.v tI) (.p (.v tI) (.p (.c ⟨(.ptr tSP),(.rf 4 [])⟩) (.p (.bg .str tRC 11 (some 1)) (.w 60 tOU 12))))))))),(1,ZZ0),(2,(.v tVT)),(3,(.v tVT)),(4,(.p (.v tI) (.p (.v tI) (.p (.w 9 .str 13) (.m tI tI 14))))),(9,(.c ⟨(.ptr tSV),(.rf 0 [])⟩)),(10,(.c ⟨(.ptr tRC),(.rf 1 [])⟩))],lo:=11,nx:=15 }
abbrev a9K:List Ex:=[(.normal, { sl:=[],ob:=[(0,(.p (.pz tGR) (.p (.v tI) (.p (.v tI) (.p (.v tI) (.p (.v tI) (.p (.c ⟨(.ptr tSP),(.rf 4 [])⟩) (.p (.bg .str tRC 15 (some 1)) (.w 60 tOU 16))))))))),(1,ZZ0),(2,(.v tVT)),(3,(.v tVT)),(4,(.p (.v tI) (.p (.v tI) (.p (.w 9 .str 17) (.m tI tI 18))))),(9,(.c ⟨(.ptr tSV),(.rf 0 [])⟩)),(10,(.c ⟨(.ptr tRC),(.rf 1 [])⟩))],lo:=15,nx:=19 })]
def a9L:Code:=aY (aW Tryz.f33) 0
def a1b:Lp:=dF a9J a9K 24 bV
abbrev awo:Shape:= { sl:=[(0,(.c ⟨(.ptr tSV),(.rf 0 [])⟩)),(1,(.c ⟨(.ptr tRC),(.rf 1 [])⟩))],ob:=[(0,ZZ1),(1,ZZ0),(2,(.v tVT)),(3,(.v tVT)),(4,ZZ3)],lo:=5,nx:=9 }
abbrev awp:List Shape:=[{ sl:=[],ob:=[(0,(.p (.pz tGR) (.p (.v tI) (.p (.v tI) (.p (.v tI) (.p (.v tI) (.p (.c ⟨(.ptr tSP),(.rf 4 [])⟩) (.p (.bg .str tRC 19 (some 1)) (.w 60 tOU 20))))))))),(1,ZZ0),(2,(.v tVT)),(3,(.v tVT)),(4,(.p (.v tI) (.p (.v tI) (.p (.w 9 .str 21) (.m tI tI 22)))))],lo:=19,nx:=23 }]
def a6a:Con:=lJ awo awp λx=>dD x.2
def awq:Cx:=cx [(80,a1a)] [(33,Tryz.f33,[(0,a1b)]),(81,Tryz.f81,[]),(43,Tryz.f43,[])]
def AO:Cx:=cx [(80,a1a)] [(81,Tryz.f81,[]),(43,Tryz.f43,[])]
theorem zB:ay Tryz.prog AO:=ay.of mixed aC (fc ⟨LB,fz⟩) (fc ⟨⟨Tryz.func81,Tryz.call81,ak⟩,fc ⟨⟨Tryz.func43,Tryz.call43,ak⟩,fz⟩⟩)
theorem a9M:bY Tryz.prog 0 (.loop a9L) a1b:=aM zB 8 (ak) _ _ _ _ (by decide) λ_=>by kernel_rfl
theorem aib:ay Tryz.prog awq:=ay.of mixed aC (fc ⟨LB,fz⟩) (fc ⟨⟨Tryz.func33,Tryz.call33,bG (by kernel_rfl) (aL a9M (by kernel_rfl) fz)⟩,fc ⟨⟨Tryz.func81,Tryz.call81,ak⟩,fc ⟨⟨Tryz.func43,Tryz.call43,ak⟩,fz⟩⟩⟩)
theorem V8:aA Tryz.prog 37 a6a:=dS aib 8 ⟨Tryz.func37,Tryz.call37,ak⟩ 0 _ _ _ (by decide) (λx=>by rw[uO];kernel_rfl)
abbrev awr:Shape:= { sl:=[(0,(.c ⟨(.ptr tRC),(.rf 0 [])⟩)),(pv 1 (.pair tI tI))],ob:=[(0,ZZ4),(1,(.v tVT)),(2,(.v tVT))],lo:=3,nx:=3 }
abbrev aws:List Shape:=[{ sl:=[(0,(.v .bool))],ob:=[(0,ZZ4),(1,(.v tVT)),(2,(.v tVT))],lo:=4,nx:=4 }]
def a9N:Con:=lJ awr aws λx=>cK x.1.2.1 x.2
def awt:Cx:=cx [(150,arF)] []
theorem aic:ay Tryz.prog awt:=ay.of mixed aC (fc ⟨ahM,fz⟩) fz
theorem ZB:aA Tryz.prog 93 a9N:=dS aic 8 ⟨Tryz.func93,Tryz.call93,ak⟩ 1 _ _ _ (by decide) (λx=>by rw[qR];kernel_rfl)
abbrev awu:Shape:= { sl:=[(0,(.c ⟨(.ptr tRC),(.rf 0 [])⟩)),(pv 1 (.pair tI tI))],ob:=[(0,ZZ4),(1,(.v tVT)),(2,(.v tVT))],lo:=3,nx:=3 }
abbrev awv:List Shape:=[{ sl:=[(0,(.v .bool))],ob:=[(0,ZZ4),(1,(.v tVT)),(2,(.v tVT))],lo:=4,nx:=4 }]
def abm:Con:=lJ awu awv λx=>iC x.1.2.1 x.2
def aww:Cx:=cx [] []
theorem aie:ay Tryz.prog aww:=ay.of mixed aC fz fz
theorem a3I:aA Tryz.prog 95 abm:=dS aie 8 ⟨Tryz.func95,Tryz.call95,ak⟩ 1 _ _ _ (by decide) (λx=>by rw[sW];kernel_rfl)
abbrev arP:Shape:= { sl:=[(0,(.c ⟨(.ptr tSV),(.rf 0 [])⟩)),(pv 1 tI),(2,(.c ⟨(.ptr tRC),(.rf 1 [])⟩)),(4,(.v .str)),(pc 8 (.pair tI tI) 9),(pv 14 tI),(pv 15 tI)],ob:=[(0,(.p (.pz tGR) (.p (.v tI) (.p (.v tI) (.p (.v tI) (.p (.v tI) (.p (.c ⟨(.ptr tSP),(.rf 4 [])⟩) (.p (.bg .str tRC 10 (some 1)) (.w 60 tOU 11))))))))),(1,ZZ0),(2,(.v tVT)),(3,(.v tVT)),(4,(.p (.v tI) (.p (.v tI) (.p (.w 9 .str 12) (.m tI tI 13))))),(pv 9 (.pair tI tI))],lo:=10,nx:=14 }
abbrev arQ:List Ex:=[(.normal, { sl:=[(0,(.c ⟨(.ptr tSV),(.rf 0 [])⟩)),(2,(.c ⟨(.ptr tRC),(.rf 1 [])⟩))],ob:=[(0,(.p (.pz tGR) (.p (.v tI) (.p (.v tI) (.p (.v tI) (.p (.v tI) (.p (.c ⟨(.ptr tSP),(.rf 4 [])⟩) (.p (.bg .str tRC 14 (some 1)) (.w 60 tOU 15))))))))),(1,ZZ0),(2,(.v tVT)),(3,(.v tVT)),(4,(.p (.v tI) (.p (.v tI) (.p (.w 9 .str 16) (.m tI tI 17)))))],lo:=14,nx:=18 })]
def arR:Code:=aY (aW Tryz.f36) 0
def adb:Lp:=dF arP arQ 38 bR
abbrev awx:Shape:= { sl:=[(0,(.c ⟨(.ptr tSV),(.rf 0 [])⟩)),(pv 1 tI),(2,(.c ⟨(.ptr tRC),(.rf 1 [])⟩)),(pv 3 (.pair tI tI)),(4,(.v .str))],ob:=[(0,ZZ1),(1,ZZ0),(2,(.v tVT)),(3,(.v tVT)),(4,ZZ3)],lo:=5,nx:=9 }
abbrev awy:List Shape:=[{ sl:=[],ob:=[(0,(.p (.pz tGR) (.p (.v tI) (.p (.v tI) (.p (.v tI) (.p (.v tI) (.p (.c ⟨(.ptr tSP),(.rf 4 [])⟩) (.p (.bg .str tRC 18 (some 1)) (.w 60 tOU 19))))))))),(1,ZZ0),(2,(.v tVT)),(3,(.v tVT)),(4,(.p (.v tI) (.p (.v tI) (.p (.w 9 .str 20) (.m tI tI 21)))))],lo:=18,nx:=22 }]
def a9O:Con:=lJ awx awy λx=>bJ x.1.2.1 x.1.2.2.2.1 x.1.2.2.2.2.1 x.2
def awz:Cx:=cx [(80,a1a)] []
theorem a9P:ay Tryz.prog awz:=ay.of mixed aC (fc ⟨LB,fz⟩) fz
theorem arS:bY Tryz.prog 0 (.loop arR) adb:=aM a9P 8 (ak) _ _ _ _ (by decide) λ_=>by kernel_rfl
theorem arT:eD Tryz.prog 36 Tryz.f36 [(0,adb)]:=⟨Tryz.func36,Tryz.call36,bG (by kernel_rfl) (aL arS (by kernel_rfl) fz)⟩
theorem ZC:aA Tryz.prog 36 a9O:=dS a9P 8 arT 0 _ _ _ (by decide) (λx=>by rw[oJ];kernel_rfl)
abbrev a6b:Shape:= { sl:=[(0,(.c ⟨(.ptr tSV),(.rf 0 [])⟩)),(1,(.c ⟨(.ptr tRC),(.rf 1 [])⟩)),(pv 2 (.pair tI tI)),(3,(.v .str))],ob:=[(0,ZZ1),(1,ZZ0),(2,(.v tVT)),(3,(.v tVT)),(4,ZZ3)],lo:=5,nx:=9 }
abbrev aif:List Shape:=[{ sl:=[],ob:=[(0,(.p (.pz tGR) (.p (.v tI) (.p (.v tI) (.p (.v tI) (.p (.v tI) (.p (.c ⟨(.ptr tSP),(.rf 4 [])⟩) (.p (.bg .str tRC 9 (some 1)) (.w 60 tOU 10))))))))),(1,ZZ0),(2,(.v tVT)),(3,(.v tVT)),(4,(.p (.v tI) (.p (.v tI) (.p (.w 9 .str 11) (.m tI tI 12)))))],lo:=9,nx:=13 }]
def Pg(n:Nat):Con:=lJ a6b aif λx=>aF n x.1.2.2.1 x.1.2.2.2.1 x.2
abbrev a6c:Shape:= { sl:=[(0,(.c ⟨(.ptr tSV),(.rf 0 [])⟩)),(1,(.c ⟨(.ptr tRC),(.rf 1 [])⟩)),(pv 2 (.pair tI tI)),(3,(.v .str))],ob:=[(0,ZZ1),(1,ZZ0),(2,(.v tVT)),(3,(.v tVT)),(4,ZZ3)],lo:=5,nx:=9 }
abbrev aii:List Shape:=[{ sl:=[],ob:=[(0,(.p (.pz tGR) (.p (.v tI) (.p (.v tI) (.p (.v tI) (.p (.v tI) (.p (.c ⟨(.ptr tSP),(.rf 4 [])⟩) (.p (.bg .str tRC 41 (some 1)) (.w 60 tOU 42))))))))),(1,ZZ0),(2,(.v tVT)),(3,(.v tVT)),(4,(.p (.v tI) (.p (.v tI) (.p (.w 9 .str 43) (.m tI tI 44)))))],lo:=41,nx:=45 }]
def abn(n:Nat):Con:=lJ a6c aii λx=>dW (aF n) x.1.2.2.1 x.1.2.2.2.1 x.2
def aij(n:Nat):Cx:=cx [(140,arJ),(88,kM 0 a9A a9B),(36,a9O),(93,a9N),(141,Pg n)] []
theorem aik(n:Nat)(ih:aA Tryz.prog 141 (Pg n)):ay Tryz.prog (aij n):=ay.of mixed aC (fc ⟨ahS,fc ⟨dU Zz ZA,fc ⟨ZC,fc ⟨ZB,fc ⟨ih,fz⟩⟩⟩⟩⟩) fz
theorem arU(n:Nat)(ih:aA Tryz.prog 141 (Pg n)):eD Tryz.prog 89 Tryz.f89 []:=⟨Tryz.func89,Tryz.call89,ak⟩
theorem awC(n)(p)(digest)(o):cu (aij n) [] (dX (aij n) 8) Tryz.f89 ((jy a6c.sl (show a6c.X from(((),((),(p,(digest,())))),o)).1).map .v) (FQ a6c (((),((),(p,(digest,())))),o)) a6c.nx (Qq 0 aii)=iV (aF n) p digest o:=by kernel_rfl
theorem a3J(n:Nat)(ih:aA Tryz.prog 141 (Pg n)):aA Tryz.prog 89 (abn n):=dS (aik n ih) 8 (arU n ih) 0 a6c aii _ (by decide) (λx=>by rw[qU];exact awC n x.1.2.2.1 x.1.2.2.2.1 x.2)
abbrev a6d:Shape:= { sl:=[(0,(.c ⟨(.ptr tSV),(.rf 0 [])⟩)),(1,(.c ⟨(.ptr tRC),(.rf 1 [])⟩)),(2,(.v tPR))],ob:=[(0,ZZ1),(1,ZZ0),(2,(.v tVT)),(3,(.v tVT)),(4,ZZ3)],lo:=5,nx:=9 }
abbrev ail:List Shape:=[{ sl:=[],ob:=[(0,(.p (.pz tGR) (.p (.v tI) (.p (.v tI) (.p (.v tI) (.p (.v tI) (.p (.c ⟨(.ptr tSP),(.rf 4 [])⟩) (.p (.bg .str tRC 68 (some 1)) (.w 60 tOU 69))))))))),(1,ZZ0),(2,(.v tVT)),(3,(.v tVT)),(4,(.p (.v tI) (.p (.v tI) (.p (.w 9 .str 70) (.m tI tI 71)))))],lo:=68,nx:=72 }]
def abo(n:Nat):Con:=lJ a6d ail λx=>gq (aF n) x.1.2.2.1 x.2
def ain(n:Nat):Cx:=cx [(88,kM 0 a9A a9B),(36,a9O),(89,abn n)] []
theorem aio(n:Nat)(ih:aA Tryz.prog 141 (Pg n)):ay Tryz.prog (ain n):=ay.of mixed aC (fc ⟨dU Zz ZA,fc ⟨ZC,fc ⟨(a3J n ih),fz⟩⟩⟩) fz
theorem arV(n:Nat)(ih:aA Tryz.prog 141 (Pg n)):eD Tryz.prog 96 Tryz.f96 []:=⟨Tryz.func96,Tryz.call96,ak⟩
theorem awD(n)(p)(o):cu (ain n) [] (dX (ain n) 8) Tryz.f96 ((jy a6d.sl (show a6d.X from(((),((),(p,()))),o)).1).map .v) (FQ a6d (((),((),(p,()))),o)) a6d.nx (Qq 0 ail)=iW (aF n) p o:=by kernel_rfl
theorem a3K(n:Nat)(ih:aA Tryz.prog 141 (Pg n)):aA Tryz.prog 96 (abo n):=dS (aio n ih) 8 (arV n ih) 0 a6d ail _ (by decide) (λx=>by rw[qV];exact awD n x.1.2.2.1 x.2)
abbrev Dy:Shape:= { sl:=[(1,(.c ⟨(.ptr tRC),(.rf 1 [])⟩)),(2,(.c ⟨.fn,(.mk 190 [((.ptr tRC),10,[]),((.ptr tSV),9,[])])⟩)),(pv 10 tI),(pv 11 tI)],ob:=[(0,(.p (.pz tGR) (.p (.v tI) (.p (.v tI) (.p (.v tI) (.p (.v tI) (.p (.c ⟨(.ptr tSP),(.rf 4 [])⟩) (.p (.bg .str tRC 34 (some 1)) (.w 60 tOU 35))))))))),(1,ZZ0),(2,(.v tVT)),(3,(.v tVT)),(4,(.p (.v tI) (.p (.v tI) (.p (.w 9 .str 36) (.m tI tI 37))))),(9,(.c ⟨(.ptr tSV),(.rf 0 [])⟩)),(10,(.c ⟨(.ptr tRC),(.rf 1 [])⟩)),(pv 11 (.pair tI tI))],lo:=34,nx:=38 }
abbrev V9:List Ex:=[(.normal, { sl:=[],ob:=[(0,(.p (.pz tGR) (.p (.v tI) (.p (.v tI) (.p (.v tI) (.p (.v tI) (.p (.c ⟨(.ptr tSP),(.rf 4 [])⟩) (.p (.bg .str tRC 38 (some 1)) (.w 60 tOU 39))))))))),(1,ZZ0),(2,(.v tVT)),(3,(.v tVT)),(4,(.p (.v tI) (.p (.v tI) (.p (.w 9 .str 40) (.m tI tI 41))))),(9,(.c ⟨(.ptr tSV),(.rf 0 [])⟩)),(10,(.c ⟨(.ptr tRC),(.rf 1 [])⟩)),(pv 11 (.pair tI tI))],lo:=38,nx:=42 })]
def a1c:Code:=aY (aW Tryz.f33) 0
def a1d(n:Nat):Lp:=dF Dy V9 24 (aS (aF n))
abbrev xZ:Shape:= { sl:=[(1,(.c ⟨(.ptr tRC),(.rf 1 [])⟩)),(2,(.c ⟨.fn,(.mk 191 [((.ptr tRC),10,[]),((.ptr tSV),9,[])])⟩)),(pv 10 tI),(pv 11 tI)],ob:=[(0,(.p (.pz tGR) (.p (.v tI) (.p (.v tI) (.p (.v tI) (.p (.v tI) (.p (.c ⟨(.ptr tSP),(.rf 4 [])⟩) (.p (.bg .str tRC 42 (some 1)) (.w 60 tOU 43))))))))),(1,ZZ0),(2,(.v tVT)),(3,(.v tVT)),(4,(.p (.v tI) (.p (.v tI) (.p (.w 9 .str 44) (.m tI tI 45))))),(9,(.c ⟨(.ptr tSV),(.rf 0 [])⟩)),(10,(.c ⟨(.ptr tRC),(.rf 1 [])⟩)),(pv 11 (.pair tI tI))],lo:=42,nx:=46 }
abbrev I8:List Ex:=[(.normal, { sl:=[],ob:=[(0,(.p (.pz tGR) (.p (.v tI) (.p (.v tI) (.p (.v tI) (.p (.v tI) (.p (.c ⟨(.ptr tSP),(.rf 4 [])⟩) (.p (.bg .str tRC 46 (some 1)) (.w 60 tOU 47))))))))),(1,ZZ0),(2,(.v tVT)),(3,(.v tVT)),(4,(.p (.v tI) (.p (.v tI) (.p (.w 9 .str 48) (.m tI tI 49))))),(9,(.c ⟨(.ptr tSV),(.rf 0 [])⟩)),(10,(.c ⟨(.ptr tRC),(.rf 1 [])⟩)),(pv 11 (.pair tI tI))],lo:=46,nx:=50 })]
def QZ:Code:=aY (aW Tryz.f33) 0
def R3(n:Nat):Lp:=dF xZ I8 24 (aN (aF n))
def aip(n:Nat):Cx:=cx [(92,abl),(37,a6a),(93,a9N),(80,a1a),(95,abm),(96,abo n)] [(33,Tryz.f33,[(0,(adQ Dy (a1d n) (R3 n)))]),(190,Tryz.f190,[]),(94,Tryz.f94,[]),(191,Tryz.f191,[])]
def dI(n:Nat):Cx:=cx [(92,abl),(37,a6a),(93,a9N),(80,a1a),(95,abm),(96,abo n)] [(190,Tryz.f190,[]),(94,Tryz.f94,[]),(191,Tryz.f191,[])]
theorem lG(n:Nat)(ih:aA Tryz.prog 141 (Pg n)):ay Tryz.prog (dI n):=ay.of mixed aC (fc ⟨a3H,fc ⟨V8,fc ⟨ZB,fc ⟨LB,fc ⟨a3I,fc ⟨(a3K n ih),fz⟩⟩⟩⟩⟩⟩) (fc ⟨⟨Tryz.func190,Tryz.call190,ak⟩,fc ⟨⟨Tryz.func94,Tryz.call94,ak⟩,fc ⟨⟨Tryz.func191,Tryz.call191,ak⟩,fz⟩⟩⟩)
theorem a9Q(n:Nat)(x:Dy.X):CP (dI n) [] (dX (dI n) 8) a1c (Dy.mkS 24 x) (vP 0 Dy V9)=(aS (aF n)) x:=by kernel_rfl
theorem a9R(n:Nat)(ih:aA Tryz.prog 141 (Pg n)):bY Tryz.prog 0 (.loop a1c) (a1d n):=aM (lG n ih) 8 (ak) Dy V9 24 (aS (aF n)) (by decide) (a9Q n)
theorem a1e(n:Nat)(x:xZ.X):CP (dI n) [] (dX (dI n) 8) QZ (xZ.mkS 24 x) (vP 0 xZ I8)=(aN (aF n)) x:=by kernel_rfl
theorem a1f(n:Nat)(ih:aA Tryz.prog 141 (Pg n)):bY Tryz.prog 0 (.loop QZ) (R3 n):=aM (lG n ih) 8 (ak) xZ I8 24 (aN (aF n)) (by decide) (a1e n)
theorem aiq(n:Nat)(ih:aA Tryz.prog 141 (Pg n)):ay Tryz.prog (aip n):=ay.of mixed aC (fc ⟨a3H,fc ⟨V8,fc ⟨ZB,fc ⟨LB,fc ⟨a3I,fc ⟨(a3K n ih),fz⟩⟩⟩⟩⟩⟩) (fc ⟨⟨Tryz.func33,Tryz.call33,bG (by kernel_rfl) (aL (aaZ (a9R n ih) (a1f n ih)) (by kernel_rfl) fz)⟩,fc ⟨⟨Tryz.func190,Tryz.call190,ak⟩,fc ⟨⟨Tryz.func94,Tryz.call94,ak⟩,fc ⟨⟨Tryz.func191,Tryz.call191,ak⟩,fz⟩⟩⟩⟩)
theorem arW(n:Nat)(ih:aA Tryz.prog 141 (Pg n)):eD Tryz.prog 141 Tryz.f141 []:=⟨Tryz.func141,Tryz.call141,ak⟩
theorem awE(n)(p)(digest)(o):cu (aip n) [] (dX (aip n) 8) Tryz.f141 ((jy a6b.sl (show a6b.X from(((),((),(p,(digest,())))),o)).1).map .v) (FQ a6b (((),((),(p,(digest,())))),o)) a6b.nx (Qq 0 aif)=fI (aF n) p digest o:=by kernel_rfl
theorem Va: ∀n,aA Tryz.prog 141 (Pg n)
  |0=>a5T λx=>by rw[Am];exact Eq.refl none
  |n+1=>dS (aiq n (Va n)) 8 (arW n (Va n)) 0 a6b aif _ (by decide) (λx=>by rw[oK];exact awE n x.1.2.2.1 x.1.2.2.2.1 x.2)
abbrev awF:Shape:= { sl:=[(0,(.c ⟨(.ptr tSV),(.rf 0 [])⟩)),(1,(.c ⟨(.ptr tRC),(.rf 1 [])⟩)),(2,(.c ⟨(.ptr tVT),(.rf 2 [])⟩)),(pv 3 tI),(4,ZZ2)],ob:=[(0,ZZ1),(1,ZZ0),(2,(.v tVT)),(3,(.v tVT)),(4,ZZ3)],lo:=5,nx:=9 }
abbrev awG:List Shape:=[{ sl:=[],ob:=[(0,ZZ5),(1,ZZ0),(2,(.v tVT)),(3,(.v tVT)),(4,(.p (.v tI) (.p (.v tI) (.p (.w 9 .str 53) (.m tI tI 54)))))],lo:=51,nx:=55 }]
def arX:Con:=lJ awF awG λx=>jq x.1.2.2.2.1 x.1.2.2.2.2.1.1 x.1.2.2.2.2.1.2.1 x.1.2.2.2.2.1.2.2.1 x.1.2.2.2.2.1.2.2.2.1 x.1.2.2.2.2.1.2.2.2.2.1 x.1.2.2.2.2.1.2.2.2.2.2.1.1 x.1.2.2.2.2.1.2.2.2.2.2.1.2 x.1.2.2.2.2.1.2.2.2.2.2.2.1 x.1.2.2.2.2.1.2.2.2.2.2.2.2 x.2
def awH:Cx:=cx [(88,kM 0 a9A a9B),(89,abn 5)] []
theorem air:ay Tryz.prog awH:=ay.of mixed aC (fc ⟨dU Zz ZA,fc ⟨(a3J 5 (Va 5)),fz⟩⟩) fz
theorem ais:aA Tryz.prog 44 arX:=dS air 8 ⟨Tryz.func44,Tryz.call44,ak⟩ 0 _ _ _ (by decide) (λx=>by rw[qW];kernel_rfl)
abbrev awI:Shape:= { sl:=[(0,(.c ⟨(.ptr tSV),(.rf 0 [])⟩)),(1,(.c ⟨(.ptr tRC),(.rf 1 [])⟩)),(2,(.c ⟨(.ptr tVT),(.rf 3 [])⟩)),(pv 3 tI),(4,ZZ2)],ob:=[(0,ZZ1),(1,ZZ0),(2,(.v tVT)),(3,(.v tVT)),(4,ZZ3)],lo:=5,nx:=9 }
abbrev awJ:List Shape:=[{ sl:=[],ob:=[(0,ZZ5),(1,ZZ0),(2,(.v tVT)),(3,(.v tVT)),(4,(.p (.v tI) (.p (.v tI) (.p (.w 9 .str 53) (.m tI tI 54)))))],lo:=51,nx:=55 }]
def arY:Con:=lJ awI awJ λx=>iX x.1.2.2.2.1 x.1.2.2.2.2.1.1 x.1.2.2.2.2.1.2.1 x.1.2.2.2.2.1.2.2.1 x.1.2.2.2.2.1.2.2.2.1 x.1.2.2.2.2.1.2.2.2.2.1 x.1.2.2.2.2.1.2.2.2.2.2.1.1 x.1.2.2.2.2.1.2.2.2.2.2.1.2 x.1.2.2.2.2.1.2.2.2.2.2.2.1 x.1.2.2.2.2.1.2.2.2.2.2.2.2 x.2
def awK:Cx:=cx [(88,kM 0 a9A a9B),(89,abn 5)] []
theorem ait:ay Tryz.prog awK:=ay.of mixed aC (fc ⟨dU Zz ZA,fc ⟨(a3J 5 (Va 5)),fz⟩⟩) fz
theorem aiu:aA Tryz.prog 44 arY:=dS ait 8 ⟨Tryz.func44,Tryz.call44,ak⟩ 0 _ _ _ (by decide) (λx=>by rw[qg];kernel_rfl)
abbrev awL:Shape:= { sl:=[(0,(.c ⟨(.ptr tSV),(.rf 0 [])⟩)),(1,(.c ⟨(.ptr tRC),(.rf 1 [])⟩)),(pv 2 tVA)],ob:=[(0,ZZ1),(1,ZZ0),(2,(.v tVT)),(3,(.v tVT)),(4,ZZ3)],lo:=5,nx:=9 }
abbrev awM:List Shape:=[{ sl:=[],ob:=[(0,(.p (.pz tGR) (.p (.v tI) (.p (.v tI) (.p (.v tI) (.p (.v tI) (.p (.c ⟨(.ptr tSP),(.rf 4 [])⟩) (.p (.bg .str tRC 28 (some 1)) (.w 60 tOU 29))))))))),(1,ZZ0),(2,(.v tVT)),(3,(.v tVT)),(4,(.p (.v tI) (.p (.v tI) (.p (.w 9 .str 30) (.m tI tI 31)))))],lo:=28,nx:=32 }]
def aiv:Con:=lJ awL awM λx=>gu x.1.2.2.1 x.2
def awN:Cx:=cx [(92,abl),(37,a6a)] []
theorem aiw:ay Tryz.prog awN:=ay.of mixed aC (fc ⟨a3H,fc ⟨V8,fz⟩⟩) fz
theorem a9S:aA Tryz.prog 46 aiv:=dS aiw 8 ⟨Tryz.func46,Tryz.call46,ak⟩ 0 _ _ _ (by decide) (λx=>by rw[qX];kernel_rfl)
abbrev awO:Shape:= { sl:=[(0,(.c ⟨(.ptr tSV),(.rf 0 [])⟩)),(1,(.c ⟨(.ptr tRC),(.rf 1 [])⟩)),(pv 2 tI),(3,(.v tPR))],ob:=[(0,ZZ1),(1,ZZ0),(2,(.v tVT)),(3,(.v tVT)),(4,ZZ3)],lo:=5,nx:=9 }
abbrev awP:List Shape:=[{ sl:=[],ob:=[(0,(.p (.pz tGR) (.p (.v tI) (.p (.v tI) (.p (.v tI) (.p (.v tI) (.p (.c ⟨(.ptr tSP),(.rf 4 [])⟩) (.p (.bg .str tRC 79 (some 1)) (.w 60 tOU 80))))))))),(1,ZZ0),(2,(.v tVT)),(3,(.v tVT)),(4,(.p (.v tI) (.p (.v tI) (.p (.w 9 .str 81) (.m tI tI 82)))))],lo:=79,nx:=83 }]
def arZ:Con:=lJ awO awP λx=>iB x.1.2.2.1 x.1.2.2.2.1 x.2
def awQ:Cx:=cx [(93,a9N),(46,aiv),(80,a1a),(95,abm),(96,abo 5)] [(94,Tryz.f94,[])]
theorem aix:ay Tryz.prog awQ:=ay.of mixed aC (fc ⟨ZB,fc ⟨a9S,fc ⟨LB,fc ⟨a3I,fc ⟨(a3K 5 (Va 5)),fz⟩⟩⟩⟩⟩) (fc ⟨⟨Tryz.func94,Tryz.call94,ak⟩,fz⟩)
theorem aiy:aA Tryz.prog 47 arZ:=dS aix 8 ⟨Tryz.func47,Tryz.call47,ak⟩ 0 _ _ _ (by decide) (λx=>by rw[nM];kernel_rfl)
abbrev a6e:Shape:= { sl:=[(0,(.c ⟨(.ptr tSV),(.rf 0 [])⟩)),(pv 1 tI),(2,ZZ2)],ob:=oS 2 3 4 [],lo:=2,nx:=5 }
abbrev aiz:List Shape:=[{ sl:=[(0,(.sz tOU))],ob:=oS 120 121 122 [],lo:=120,nx:=123 }]
def aiA:Con:=lJ a6e aiz λx=>bn x.1.2.1 x.1.2.2.1.1 x.1.2.2.1.2.1 x.1.2.2.1.2.2.1 x.1.2.2.1.2.2.2.1 x.1.2.2.1.2.2.2.2.1 x.1.2.2.1.2.2.2.2.2.1.1 x.1.2.2.1.2.2.2.2.2.1.2 x.1.2.2.1.2.2.2.2.2.2.1 x.1.2.2.1.2.2.2.2.2.2.2 x.2
def aiB:Cx:=cx [(42,kM 0 arN arO),(78,abk),(80,a1a),(44,a5U 1 2 [.R,.R,.L] arX arY),(45,arh),(46,aiv),(47,arZ)] [(32,Tryz.f32,[]),(43,Tryz.f43,[])]
theorem aiC:ay Tryz.prog aiB:=ay.of mixed aC (fc ⟨dU ai5 ai8,fc ⟨a3G,fc ⟨LB,fc ⟨ab4 ais aiu,fc ⟨aha,fc ⟨a9S,fc ⟨aiy,fz⟩⟩⟩⟩⟩⟩⟩) (fc ⟨⟨Tryz.func32,Tryz.call32,ak⟩,fc ⟨⟨Tryz.func43,Tryz.call43,ak⟩,fz⟩⟩)
theorem as0:eD Tryz.prog 13 Tryz.f13 []:=⟨Tryz.func13,Tryz.call13,ak⟩
theorem awR(from_)(m)(m1)(m2)(m3)(m4)(nm)(m5)(nm1)(m6)(o):cu aiB [] (dX aiB 8) Tryz.f13 ((jy a6e.sl (show a6e.X from(((),(from_,((m,(m1,(m2,(m3,(m4,((nm,m5),(nm1,m6))))))),()))),o)).1).map .v) (FQ a6e (((),(from_,((m,(m1,(m2,(m3,(m4,((nm,m5),(nm1,m6))))))),()))),o)) a6e.nx (MH (ab3 0 [.R,.R,.R,.R,.R,.R,.R]) 1 aiz)=gD from_ m m1 m2 m3 m4 nm m5 nm1 m6 o:=by kernel_rfl
theorem a9T:aA Tryz.prog 13 aiA:=Z5 (ab3 0 [.R,.R,.R,.R,.R,.R,.R]) aiC 8 as0 1 a6e aiz _ (by decide) (λx=>by rw[l8];exact awR x.1.2.1 x.1.2.2.1.1 x.1.2.2.1.2.1 x.1.2.2.1.2.2.1 x.1.2.2.1.2.2.2.1 x.1.2.2.1.2.2.2.2.1 x.1.2.2.1.2.2.2.2.2.1.1 x.1.2.2.1.2.2.2.2.2.1.2 x.1.2.2.1.2.2.2.2.2.2.1 x.1.2.2.1.2.2.2.2.2.2.2 x.2)
def aiD:Con:=aQ false [(.ptr tSV),tI,tMS] [(.sl tOU)] λx=>ig x.1 x.2.1 x.2.2.1
def aiE:Cx:=cx [] []
theorem aiF:ay Tryz.prog aiE:=ay.of mixed aC fz fz
theorem awS(s:Z03)(from_:Int)(m:Z0e):cu aiE [] (dX aiE 8) Tryz.f13 (jv [(.ptr tSV),tI,tMS] (s,from_,m,())) [] 0 (kD [(.sl tOU)])=qz s from_ m:=by cases s<;>kernel_rfl
theorem a9U:aA Tryz.prog 13 aiD:=aB aiF 8 ⟨Tryz.func13,Tryz.call13,ak⟩ _ _ _ _ (by decide) (λx=>by rw[mZ];exact awS x.1 x.2.1 x.2.2.1)
abbrev awT:Shape:= { sl:=[(0,(.c ⟨(.ptr tSV),(.rf 0 [])⟩)),(1,(.v .str))],ob:=oS 2 3 4 [],lo:=2,nx:=5 }
abbrev awU:List Shape:=[{ sl:=[(pv 0 (.pair tI tI)),(1,(.v .str)),(2,(.v .bool))],ob:=oS 9 10 11 [],lo:=9,nx:=12 }]
def aiG:Con:=lJ awT awU λx=>iD x.1.2.1 x.2
def awV:Cx:=cx [] []
theorem aiH:ay Tryz.prog awV:=ay.of mixed aC fz fz
theorem a9V:aA Tryz.prog 15 aiG:=dS aiH 8 ⟨Tryz.func15,Tryz.call15,ak⟩ 3 _ _ _ (by decide) (λx=>by rw[sZ];kernel_rfl)
def aiI:Con:=aQ true [(.ptr tSV),.str] [(.pair tI tI),.str,.bool] λx=>iq x.1 x.2.1
def aiJ:Cx:=cx [] []
theorem aiK:ay Tryz.prog aiJ:=ay.of mixed aC fz fz
theorem awW(s:Z03)(key:ByteArray):cu aiJ [] (dX aiJ 8) Tryz.f15 (jv [(.ptr tSV),.str] (s,key,())) [] 0 (kD [(.pair tI tI),.str,.bool])=qA s key:=by cases s<;>kernel_rfl
theorem a9W:aA Tryz.prog 15 aiI:=aB aiK 8 ⟨Tryz.func15,Tryz.call15,ak⟩ _ _ _ _ (by decide) (λx=>by rw[ni];exact awW x.1 x.2.1)
abbrev awX:Shape:= { sl:=[(0,(.c ⟨(.ptr tSV),(.rf 0 [])⟩))],ob:=oS 2 3 4 [],lo:=2,nx:=5 }
abbrev awY:List Shape:=[{ sl:=[(0,(.sz .str))],ob:=oS 10 11 12 [],lo:=10,nx:=13 }]
def aiL:Con:=lJ awX awY λx=>jL x.2
def awZ:Cx:=cx [(31,kM 0 a9x a9y)] []
theorem aiM:ay Tryz.prog awZ:=ay.of mixed aC (fc ⟨dU Zx Zy,fz⟩) fz
theorem a9X:aA Tryz.prog 18 aiL:=dS aiM 8 ⟨Tryz.func18,Tryz.call18,ak⟩ 1 _ _ _ (by decide) (λx=>by rw[tu];kernel_rfl)
def aiN:Con:=aQ false [(.ptr tSV)] [(.sl .str)] λx=>iw x.1
def aiO:Cx:=cx [(31,kM 0 a9x a9y)] []
theorem aiP:ay Tryz.prog aiO:=ay.of mixed aC (fc ⟨dU Zx Zy,fz⟩) fz
theorem ax0(s:Z03):cu aiO [] (dX aiO 8) Tryz.f18 (jv [(.ptr tSV)] (s,())) [] 0 (kD [(.sl .str)])=kH s:=by cases s<;>kernel_rfl
theorem a9Y:aA Tryz.prog 18 aiN:=aB aiP 8 ⟨Tryz.func18,Tryz.call18,ak⟩ _ _ _ _ (by decide) (λx=>by rw[nu];exact ax0 x.1)
abbrev a9Z:Shape:= { sl:=[(1,(.c ⟨(.ptr tRC),(.rf 15 [])⟩)),(2,(.c ⟨.fn,(.mk 34 [((.ptr tRC),18,[]),((.ptr tSV),5,[])])⟩)),(pv 10 tI),(pv 11 tI)],ob:=[(0,(.p (.pz tGR) (.p (.v tI) (.p (.v tI) (.p (.v tI) (.p (.v tI) (.p (.c ⟨(.ptr tSP),(.rf 1 [])⟩) (.p (.bg .str tRC 19 (some 15)) (.w 60 tOU 20))))))))),(1,(.p (.v tI) (.p (.v tI) (.p (.w 9 .str 21) (.m tI tI 22))))),(5,(.c ⟨(.ptr tSV),(.rf 0 [])⟩)),(15,ZZ6),(16,(.v tVT)),(17,(.v tVT)),(18,(.c ⟨(.ptr tRC),(.rf 15 [])⟩))],lo:=19,nx:=23 }
abbrev aa0:List Ex:=[(.normal, { sl:=[],ob:=[(0,(.p (.pz tGR) (.p (.v tI) (.p (.v tI) (.p (.v tI) (.p (.v tI) (.p (.c ⟨(.ptr tSP),(.rf 1 [])⟩) (.p (.bg .str tRC 23 (some 15)) (.w 60 tOU 24))))))))),(1,(.p (.v tI) (.p (.v tI) (.p (.w 9 .str 25) (.m tI tI 26))))),(5,(.c ⟨(.ptr tSV),(.rf 0 [])⟩)),(15,ZZ6),(16,(.v tVT)),(17,(.v tVT)),(18,(.c ⟨(.ptr tRC),(.rf 15 [])⟩))],lo:=23,nx:=27 })]
def aa1:Code:=aY (aW Tryz.f33) 0
def a1g:Lp:=dF a9Z aa0 24 bS
abbrev as1:Shape:= { sl:=[(0,(.c ⟨(.ptr tSV),(.rf 0 [])⟩)),(1,(.c ⟨(.ptr (.ptr tSV)),(.rf 5 [])⟩)),(22,(.sz .str)),(pv 23 tI),(pv 24 tI)],ob:=oW 11 12 13 14 [(5,(.c ⟨(.ptr tSV),(.rf 0 [])⟩))],lo:=11,nx:=15 }
abbrev as2:List Ex:=[(.normal, { sl:=[(0,(.c ⟨(.ptr tSV),(.rf 0 [])⟩)),(1,(.c ⟨(.ptr (.ptr tSV)),(.rf 5 [])⟩))],ob:=oW 15 16 17 18 [(5,(.c ⟨(.ptr tSV),(.rf 0 [])⟩))],lo:=15,nx:=19 })]
def as3:Code:=aY (aW Tryz.f10) 0
def aa2:Lp:=dF as1 as2 43 dB
abbrev a6f:Shape:= { sl:=[(0,(.c ⟨(.ptr tSV),(.rf 0 [])⟩))],ob:=oS 2 3 4 [],lo:=2,nx:=5 }
abbrev aiQ:List Shape:=[{ sl:=[(0,(.sz tOU))],ob:=oS 19 20 21 [],lo:=19,nx:=22 }]
def as4:Con:=lJ a6f aiQ λx=>dn x.2
def aiR:Cx:=cx [(31,kM 0 a9x a9y),(35,ahT),(36,a9O),(37,a6a),(78,abk)] [(32,Tryz.f32,[]),(33,Tryz.f33,[(0,a1g)]),(34,Tryz.f34,[])]
def Ap:Cx:=cx [(31,kM 0 a9x a9y),(35,ahT),(36,a9O),(37,a6a),(78,abk)] [(32,Tryz.f32,[]),(34,Tryz.f34,[])]
theorem yK:ay Tryz.prog Ap:=ay.of mixed aC (fc ⟨dU Zx Zy,fc ⟨a9E,fc ⟨ZC,fc ⟨V8,fc ⟨a3G,fz⟩⟩⟩⟩⟩) (fc ⟨⟨Tryz.func32,Tryz.call32,ak⟩,fc ⟨⟨Tryz.func34,Tryz.call34,ak⟩,fz⟩⟩)
theorem aa3:bY Tryz.prog 0 (.loop aa1) a1g:=aM yK 8 (ak) _ _ _ _ (by decide) λ_=>by kernel_rfl
theorem aa4:ay Tryz.prog aiR:=ay.of mixed aC (fc ⟨dU Zx Zy,fc ⟨a9E,fc ⟨ZC,fc ⟨V8,fc ⟨a3G,fz⟩⟩⟩⟩⟩) (fc ⟨⟨Tryz.func32,Tryz.call32,ak⟩,fc ⟨⟨Tryz.func33,Tryz.call33,bG (by kernel_rfl) (aL aa3 (by kernel_rfl) fz)⟩,fc ⟨⟨Tryz.func34,Tryz.call34,ak⟩,fz⟩⟩⟩)
theorem as5:bY Tryz.prog 0 (.loop as3) aa2:=aM aa4 8 (ak) _ _ _ _ (by decide) λ_=>by kernel_rfl
theorem as6:eD Tryz.prog 10 Tryz.f10 [(0,aa2)]:=⟨Tryz.func10,Tryz.call10,bG (by kernel_rfl) (aL as5 (by kernel_rfl) fz)⟩
theorem ax1(o):cu aiR [(0,aa2)] (dX aiR 8) Tryz.f10 ((jy a6f.sl (show a6f.X from(((),()),o)).1).map .v) (FQ a6f (((),()),o)) a6f.nx (MH (ab3 0 [.R,.R,.R,.R,.R,.R,.R]) 1 aiQ)=jr o:=by kernel_rfl
theorem aiS:aA Tryz.prog 10 as4:=Z5 (ab3 0 [.R,.R,.R,.R,.R,.R,.R]) aa4 8 as6 1 a6f aiQ _ (by decide) (λx=>by rw[tF];exact ax1 x.2)
def as7:Con:=aQ false [(.ptr tSV)] [(.sl tOU)] λx=>iy x.1
def aiT:Cx:=cx [] []
theorem aiU:ay Tryz.prog aiT:=ay.of mixed aC fz fz
theorem ax2(s:Z03):cu aiT [] (dX aiT 8) Tryz.f10 (jv [(.ptr tSV)] (s,())) [] 0 (kD [(.sl tOU)])=qB s:=by cases s<;>kernel_rfl
theorem aiV:aA Tryz.prog 10 as7:=aB aiU 8 ⟨Tryz.func10,Tryz.call10,ak⟩ _ _ _ _ (by decide) (λx=>by rw[nA];exact ax2 x.1)
end
end Go.Proofs.YtldlihheppdhnaaGreat
