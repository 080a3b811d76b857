/-
  The functions of more packages are the plain ones.
-/
import Derived.Test.YtldlihheppdhnaaGreatEqA
import Derived.Test.YtldlihheppdhnaaGreatPlB
import Derived.Test.YtldlihheppdhnaaGreatDenM
import Derived.Test.YtldlihheppdhnaaGreatDenF
import Derived.Test.YtldlihheppdhnaaGreatLib
import Derived.Test.YtldlihheppdhnaaGreatDenK
set_option linter.unusedVariables false
set_option linter.unusedSimpArgs false
set_option maxRecDepth 100000
set_option maxHeartbeats 0
namespace Go.Pl
end Go.Pl
open Go Go.Den Go.Pl
namespace Go.Proofs.YtldlihheppdhnaaGreat
noncomputable section
abbrev aob:Shape:= { sl:=[(0,(.v .str)),(3,(.w 5 (.int .u8) 3))],ob:=[],lo:=3,nx:=4 }
abbrev aoc:List Ex:=[(.normal, { sl:=[(0,(.v .str)),(3,(.w 5 (.int .u8) 4))],ob:=[],lo:=4,nx:=5 })]
def aod:Code:=aY (aV Tryz.f124) 0
def ac6:Lp:=dA aob aoc 32 jZ
abbrev aoe:Shape:= { sl:=[(0,(.v .str)),(3,(.w 5 (.int .u8) 5)),(pv 4 tI)],ob:=[],lo:=5,nx:=6 }
abbrev aof:List Ex:=[(.normal, { sl:=[(3,(.w 5 (.int .u8) 6))],ob:=[],lo:=6,nx:=7 })]
def aog:Code:=aY (aV Tryz.f124) 2
def ac7:Lp:=dA aoe aof 32 kg
def aoh:Con:=aP false [.str] [(.sl (.int .u8))] fun x=>DX x.1
def auw:Cx:=cx [] []
theorem a2T:au Tryz.prog auw:=au.of mixed aA fz fz
theorem aoi:bU Tryz.prog 0 (.loop aod) ac6:=aK a2T 8 (ah) _ _ _ _ (by decide) fun _=>by kernel_rfl
theorem aoj:bU Tryz.prog 2 (.loop aog) ac7:=aK a2T 8 (ah) _ _ _ _ (by decide) fun _=>by kernel_rfl
theorem aok:dZ Tryz.prog 124 Tryz.f124 [(0,ac6),(2,ac7)]:=⟨Tryz.func124,Tryz.call124,bA (by kernel_rfl) (aJ aoi (by kernel_rfl) (aJ aoj (by kernel_rfl) fz))⟩
theorem afF:av Tryz.prog 124 aoh:=ay a2T 8 aok _ _ _ _ (by decide) (fun x=>by rw[JK]; kernel_rfl)
def aol:Con:=aP true [] [(.arr 8 tI)] fun x=>IC
def auy:Cx:=cx [] []
theorem afG:au Tryz.prog auy:=au.of mixed aA fz fz
theorem afH:av Tryz.prog 125 aol:=ay afG 8 ⟨Tryz.func125,Tryz.call125,ah⟩ _ _ _ _ (by decide) (fun x=>by rw[N7]; kernel_rfl)
def afI:Con:=aP true [tI,tI] [tI] fun x=>jq x.1 x.2.1
def auz:Cx:=cx [] []
theorem afJ:au Tryz.prog auz:=au.of mixed aA fz fz
theorem a8g:av Tryz.prog 173 afI:=ay afJ 8 ⟨Tryz.func173,Tryz.call173,ah⟩ _ _ _ _ (by decide) (fun x=>by rw[Qv]; kernel_rfl)
abbrev aom:Shape:= { sl:=[(0,(.sz (.int .u8))),(pc 2 (.arr 64 tI) 0),(pc 3 (.arr 64 tI) 1),(pv 4 tI)],ob:=[(pv 0 (.arr 64 tI)),(pv 1 (.arr 64 tI))],lo:=2,nx:=2 }
abbrev aon:List Ex:=[(.normal, { sl:=[(pc 2 (.arr 64 tI) 0),(pc 3 (.arr 64 tI) 1)],ob:=[(pv 0 (.arr 64 tI)),(pv 1 (.arr 64 tI))],lo:=2,nx:=2 })]
def aoo:Code:=aY (aV Tryz.f171) 0
def ac8:Lp:=dA aom aon 95 gI
abbrev aop:Shape:= { sl:=[(pc 2 (.arr 64 tI) 0),(pc 3 (.arr 64 tI) 1),(pv 5 tI)],ob:=[(pv 0 (.arr 64 tI)),(pv 1 (.arr 64 tI))],lo:=2,nx:=2 }
abbrev aoq:List Ex:=[(.normal, { sl:=[(pc 2 (.arr 64 tI) 0),(pc 3 (.arr 64 tI) 1)],ob:=[(pv 0 (.arr 64 tI)),(pv 1 (.arr 64 tI))],lo:=2,nx:=2 })]
def aor:Code:=aY (aV Tryz.f171) 2
def ac9:Lp:=dA aop aoq 95 gK
def aos:Con:=aP true [(.sl (.int .u8))] [(.arr 64 tI)] fun x=>yM x.1.1 x.1.2
def auA:Cx:=cx [(173,afI)] []
theorem a2U:au Tryz.prog auA:=au.of mixed aA (fc ⟨a8g,fz⟩) fz
theorem aot:bU Tryz.prog 0 (.loop aoo) ac8:=aK a2U 8 (ah) _ _ _ _ (by decide) fun _=>by kernel_rfl
theorem aou:bU Tryz.prog 2 (.loop aor) ac9:=aK a2U 8 (ah) _ _ _ _ (by decide) fun _=>by kernel_rfl
theorem aov:dZ Tryz.prog 171 Tryz.f171 [(0,ac8),(2,ac9)]:=⟨Tryz.func171,Tryz.call171,bA (by kernel_rfl) (aJ aot (by kernel_rfl) (aJ aou (by kernel_rfl) fz))⟩
theorem afK:av Tryz.prog 171 aos:=ay a2U 8 aov _ _ _ _ (by decide) (fun x=>by rw[EL]; kernel_rfl)
def aow:Con:=aP true [] [(.arr 64 tI)] fun x=>wo
def auB:Cx:=cx [] []
theorem afL:au Tryz.prog auB:=au.of mixed aA fz fz
theorem afM:av Tryz.prog 172 aow:=ay afL 8 ⟨Tryz.func172,Tryz.call172,ah⟩ _ _ _ _ (by decide) (fun x=>by rw[CJ]; kernel_rfl)
abbrev aox:Shape:= { sl:=[(pc 2 (.arr 8 tI) 0),(pc 4 (.arr 8 tI) 1),(pc 5 (.arr 64 tI) 2),(pc 6 (.arr 64 tI) 3),(pc 7 (.arr 8 tI) 4),(pv 8 tI)],ob:=[(pv 0 (.arr 8 tI)),(pv 1 (.arr 8 tI)),(pv 2 (.arr 64 tI)),(pv 3 (.arr 64 tI)),(pv 4 (.arr 8 tI))],lo:=5,nx:=5 }
abbrev aoy:List Ex:=[(.normal, { sl:=[(pc 2 (.arr 8 tI) 0),(pc 4 (.arr 8 tI) 1),(pc 7 (.arr 8 tI) 4)],ob:=[(pv 0 (.arr 8 tI)),(pv 1 (.arr 8 tI)),(pv 4 (.arr 8 tI))],lo:=5,nx:=5 })]
def aoz:Code:=aY (aV Tryz.f126) 0
def acd:Lp:=dA aox aoy 129 jH
abbrev aoA:Shape:= { sl:=[(pc 2 (.arr 8 tI) 0),(pc 4 (.arr 8 tI) 1),(pc 7 (.arr 8 tI) 4),(pc 14 (.arr 8 tI) 5),(pv 15 tI)],ob:=[(pv 0 (.arr 8 tI)),(pv 1 (.arr 8 tI)),(pv 4 (.arr 8 tI)),(pv 5 (.arr 8 tI))],lo:=6,nx:=6 }
abbrev aoB:List Ex:=[(.normal, { sl:=[(pc 4 (.arr 8 tI) 1),(pc 14 (.arr 8 tI) 5)],ob:=[(pv 1 (.arr 8 tI)),(pv 5 (.arr 8 tI))],lo:=6,nx:=6 })]
def aoC:Code:=aY (aV Tryz.f126) 2
def ace:Lp:=dA aoA aoB 129 lY
def aoD:Con:=aP true [(.arr 8 tI),(.sl (.int .u8))] [(.arr 8 tI)] fun x=>IE x.1 x.2.1.1 x.2.1.2
def auC:Cx:=cx [(171,aos),(172,aow),(173,afI)] []
theorem a2V:au Tryz.prog auC:=au.of mixed aA (fc ⟨afK,fc ⟨afM,fc ⟨a8g,fz⟩⟩⟩) fz
theorem aoE:bU Tryz.prog 0 (.loop aoz) acd:=aK a2V 8 (ah) _ _ _ _ (by decide) fun _=>by kernel_rfl
theorem aoF:bU Tryz.prog 2 (.loop aoC) ace:=aK a2V 8 (ah) _ _ _ _ (by decide) fun _=>by kernel_rfl
theorem aoG:dZ Tryz.prog 126 Tryz.f126 [(0,acd),(2,ace)]:=⟨Tryz.func126,Tryz.call126,bA (by kernel_rfl) (aJ aoE (by kernel_rfl) (aJ aoF (by kernel_rfl) fz))⟩
theorem afN:av Tryz.prog 126 aoD:=ay a2V 8 aoG _ _ _ _ (by decide) (fun x=>by rw[N8]; kernel_rfl)
abbrev aoH:Shape:= { sl:=[(3,(.sz (.int .u8))),(pc 4 (.arr 8 tI) 0),(pv 5 tI)],ob:=[(pv 0 (.arr 8 tI))],lo:=1,nx:=1 }
abbrev aoI:List Ex:=[(.normal, { sl:=[(pc 4 (.arr 8 tI) 0)],ob:=[(pv 0 (.arr 8 tI))],lo:=1,nx:=1 })]
def aoJ:Code:=aY (aV Tryz.f73) 0
def acf:Lp:=dA aoH aoI 46 rQ
abbrev aoK:Shape:= { sl:=[(pc 4 (.arr 8 tI) 0),(6,(.w 5 (.int .u8) 1)),(pv 7 tI)],ob:=[(pv 0 (.arr 8 tI))],lo:=1,nx:=2 }
abbrev aoL:List Ex:=[(.normal, { sl:=[(6,(.w 5 (.int .u8) 2))],ob:=[],lo:=2,nx:=3 })]
def aoM:Code:=aY (aV Tryz.f73) 2
def acg:Lp:=dA aoK aoL 46 rR
def aoN:Con:=aP true [.str] [.str] fun x=>N9 x.1
def auD:Cx:=cx [(124,aoh),(125,aol),(126,aoD)] []
theorem a2W:au Tryz.prog auD:=au.of mixed aA (fc ⟨afF,fc ⟨afH,fc ⟨afN,fz⟩⟩⟩) fz
theorem aoO:bU Tryz.prog 0 (.loop aoJ) acf:=aK a2W 8 (ah) _ _ _ _ (by decide) fun _=>by kernel_rfl
theorem aoP:bU Tryz.prog 2 (.loop aoM) acg:=aK a2W 8 (ah) _ _ _ _ (by decide) fun _=>by kernel_rfl
theorem aoQ:dZ Tryz.prog 73 Tryz.f73 [(0,acf),(2,acg)]:=⟨Tryz.func73,Tryz.call73,bA (by kernel_rfl) (aJ aoO (by kernel_rfl) (aJ aoP (by kernel_rfl) fz))⟩
theorem afO:av Tryz.prog 73 aoN:=ay a2W 8 aoQ _ _ _ _ (by decide) (fun x=>by rw[Un]; kernel_rfl)
end
end Go.Proofs.YtldlihheppdhnaaGreat
namespace Go.Proofs.YtldlihheppdhnaaGreat
noncomputable section
abbrev aoR:Shape:= { sl:=[(0,(.sz tI)),(pv 1 tI),(pv 2 tI),(pv 7 tI),(pv 8 tI),(pv 9 tI)],ob:=[],lo:=0,nx:=0 }
abbrev aoS:List Ex:=[(.normal, { sl:=[(pv 7 tI)],ob:=[],lo:=0,nx:=0 })]
def aoT:Code:=aY (aV Tryz.f123) 0
def ach:Lp:=dA aoR aoS 31 oz
def aoU:Con:=aP true [(.sl tI),tI,tI] [tI] fun x=>bq x.1.1 x.1.2 x.2.1 x.2.2.1
def auE:Cx:=cx [(170,ao0),(169,ao1)] []
theorem a8h:au Tryz.prog auE:=au.of mixed aA (fc ⟨afi,fc ⟨afk,fz⟩⟩) fz
theorem aoV:bU Tryz.prog 0 (.loop aoT) ach:=aK a8h 8 (ah) _ _ _ _ (by decide) fun _=>by kernel_rfl
theorem aoW:dZ Tryz.prog 123 Tryz.f123 [(0,ach)]:=⟨Tryz.func123,Tryz.call123,bA (by kernel_rfl) (aJ aoV (by kernel_rfl) fz)⟩
theorem afP:av Tryz.prog 123 aoU:=ay a8h 8 aoW _ _ _ _ (by decide) (fun x=>by rw[Qy]; kernel_rfl)
end
end Go.Proofs.YtldlihheppdhnaaGreat
namespace Go.Proofs.YtldlihheppdhnaaGreat
noncomputable section
abbrev aoX:Shape:= { sl:=[(1,(.sz tI)),(pv 2 tI),(pc 3 (.pair tI (.pair tI tI)) 0),(7,(.w 75 tN 1)),(pv 8 tI)],ob:=[(pv 0 (.pair tI (.pair tI tI)))],lo:=1,nx:=2 }
abbrev aoY:List Ex:=[(.normal, { sl:=[(7,(.w 75 tN 2))],ob:=[],lo:=2,nx:=3 })]
def aoZ:Code:=aY (aV Tryz.f122) 0
def aci:Lp:=dA aoX aoY 34 uX
def ap0:Con:=aP false [(.pair tI (.pair tI tI)),(.sl tI),tI] [(.sl tN)] fun x=>oZ x.1 x.2.1.1 x.2.1.2 x.2.2.1
def auF:Cx:=cx [(71,a5x),(168,ane)] []
theorem a8i:au Tryz.prog auF:=au.of mixed aA (fc ⟨Uf,fc ⟨af5,fz⟩⟩) fz
theorem ap1:bU Tryz.prog 0 (.loop aoZ) aci:=aK a8i 8 (ah) _ _ _ _ (by decide) fun _=>by kernel_rfl
theorem ap2:dZ Tryz.prog 122 Tryz.f122 [(0,aci)]:=⟨Tryz.func122,Tryz.call122,bA (by kernel_rfl) (aJ ap1 (by kernel_rfl) fz)⟩
theorem afQ:av Tryz.prog 122 ap0:=ay a8i 8 ap2 _ _ _ _ (by decide) (fun x=>by rw[XE]; kernel_rfl)
end
end Go.Proofs.YtldlihheppdhnaaGreat
namespace Go.Proofs.YtldlihheppdhnaaGreat
noncomputable section
abbrev ap3:Shape:= { sl:=[(0,(.sz tN)),(pv 1 tI),(pv 5 tI)],ob:=[],lo:=0,nx:=0 }
abbrev ap4:List Ex:=[(.ret, { sl:=[(4,(.v .bool))],ob:=[],lo:=0,nx:=0 }),(.normal, { sl:=[],ob:=[],lo:=0,nx:=0 })]
def ap5:Code:=aY (aV Tryz.f120) 0
def acj:Lp:=dA ap3 ap4 20 uY
def ap6:Con:=aP true [(.sl tN),tI] [.bool] fun x=>zF x.1.1 x.1.2 x.2.1
def auG:Cx:=cx [(71,a5x),(166,amR)] []
theorem a8j:au Tryz.prog auG:=au.of mixed aA (fc ⟨Uf,fc ⟨aeJ,fz⟩⟩) fz
theorem ap7:bU Tryz.prog 0 (.loop ap5) acj:=aK a8j 8 (ah) _ _ _ _ (by decide) fun _=>by kernel_rfl
theorem ap8:dZ Tryz.prog 120 Tryz.f120 [(0,acj)]:=⟨Tryz.func120,Tryz.call120,bA (by kernel_rfl) (aJ ap7 (by kernel_rfl) fz)⟩
theorem afR:av Tryz.prog 120 ap6:=ay a8j 8 ap8 _ _ _ _ (by decide) (fun x=>by rw[XF]; kernel_rfl)
abbrev FB:Shape:= { sl:=[(pv 0 (.pair tI (.pair tI tI))),(pv 1 tI),(2,(.sz tN)),(3,(.sz tN))],ob:=[],lo:=0,nx:=0 }
abbrev a5y:List Shape:=[{ sl:=[(0,(.sz (.sl tN))),(1,(.sz (.pair tI (.sl tN)))),(pv 2 tI)],ob:=[],lo:=400,nx:=400 }]
def ap9:Con:=kU FB a5y fun x=>E9 x.1.1 x.1.2.1 x.1.2.2.1.1 x.1.2.2.1.2 x.1.2.2.2.1.1 x.1.2.2.2.1.2
def Z7:Cx:= { ti:=ti,con:=[(120,ap6),(121,anX),(122,ap0),(123,aoU),(71,a5x)],fns:=[],un:=9 }
theorem afS:au Tryz.prog Z7:=au.of mixed aA (fc ⟨afR,fc ⟨afg,fc ⟨afQ,fc ⟨afP,fc ⟨Uf,fz⟩⟩⟩⟩⟩) fz
theorem apa:dZ Tryz.prog 72 Tryz.f72 []:=⟨Tryz.func72,Tryz.call72,ah⟩
theorem Rf(s)(numbers)(nrandom)(random):bV Z7 [] (dU Z7 8) Tryz.f72 ((jh FB.sl (show FB.X from((s,(1,((1,numbers),((nrandom,random),())))),())).1).map .v) (Fj FB ((s,(1,((1,numbers),((nrandom,random),())))),())) FB.nx (Mh (a5u 1 [.R] 7) 3 a5y)=wu s numbers nrandom random:=by kernel_rfl
theorem Rh(s)(numbers)(nrandom)(random):bV Z7 [] (dU Z7 8) Tryz.f72 ((jh FB.sl (show FB.X from((s,(1,((2,numbers),((nrandom,random),())))),())).1).map .v) (Fj FB ((s,(1,((2,numbers),((nrandom,random),())))),())) FB.nx (Mh (a5u 1 [.R] 7) 3 a5y)=wz s numbers nrandom random:=by kernel_rfl
theorem Ri(s)(numbers)(nrandom)(random):bV Z7 [] (dU Z7 8) Tryz.f72 ((jh FB.sl (show FB.X from((s,(2,((1,numbers),((nrandom,random),())))),())).1).map .v) (Fj FB ((s,(2,((1,numbers),((nrandom,random),())))),())) FB.nx (Mh (a5u 1 [.R] 7) 3 a5y)=wB s numbers nrandom random:=by kernel_rfl
theorem Rj(s)(numbers)(nrandom)(random):bV Z7 [] (dU Z7 8) Tryz.f72 ((jh FB.sl (show FB.X from((s,(2,((2,numbers),((nrandom,random),())))),())).1).map .v) (Fj FB ((s,(2,((2,numbers),((nrandom,random),())))),())) FB.nx (Mh (a5u 1 [.R] 7) 3 a5y)=wC s numbers nrandom random:=by kernel_rfl
theorem afT:av Tryz.prog 72 ap9:=a4g (a5u 1 [.R] 7) afS 8 apa 3 FB a5y _ (by decide) (by
  intro x y h
  obtain⟨⟨v0,v1,⟨n2,f2⟩,⟨n3,f3⟩,_⟩,_⟩:=x
  rw[JU]at h
  rcases a4h h with⟨h1,h⟩|h
  · obtain⟨rfl,rfl⟩:=case2 h1; exact(Rf v0 f2 n3 f3).trans h
  rcases a4h h with⟨h1,h⟩|h
  · obtain⟨rfl,rfl⟩:=case2 h1; exact(Rh v0 f2 n3 f3).trans h
  rcases a4h h with⟨h1,h⟩|h
  · obtain⟨rfl,rfl⟩:=case2 h1; exact(Ri v0 f2 n3 f3).trans h
  rcases a4h h with⟨h1,h⟩|h
  · obtain⟨rfl,rfl⟩:=case2 h1; exact(Rj v0 f2 n3 f3).trans h
  cases h)
abbrev apb:Shape:= { sl:=[(0,(.sz (.sl tN))),(pv 3 tI)],ob:=[],lo:=0,nx:=0 }
abbrev apc:List Ex:=[(.ret, { sl:=[(2,(.v .bool))],ob:=[],lo:=0,nx:=0 }),(.normal, { sl:=[(0,(.sz (.sl tN)))],ob:=[],lo:=0,nx:=0 })]
def apd:Code:=aY (aV Tryz.f127) 0
def acn:Lp:=dA apb apc 44 iI
def ape:Con:=aP true [(.sl (.sl tN))] [.bool] fun x=>Ng x.1.1 x.1.2
def auH:Cx:=cx [] []
theorem a8k:au Tryz.prog auH:=au.of mixed aA fz fz
theorem apf:bU Tryz.prog 0 (.loop apd) acn:=aK a8k 8 (ah) _ _ _ _ (by decide) fun _=>by kernel_rfl
theorem apg:dZ Tryz.prog 127 Tryz.f127 [(0,acn)]:=⟨Tryz.func127,Tryz.call127,bA (by kernel_rfl) (aJ apf (by kernel_rfl) fz)⟩
theorem afU:av Tryz.prog 127 ape:=ay a8k 8 apg _ _ _ _ (by decide) (fun x=>by rw[QA]; kernel_rfl)
abbrev aph:Shape:= { sl:=[(0,(.sz (.sl tN))),(3,(.v .str)),(pv 4 tI),(pv 5 tI)],ob:=[],lo:=1,nx:=1 }
abbrev apj:List Ex:=[(.normal, { sl:=[(0,(.sz (.sl tN))),(3,(.v .str)),(pv 4 tI)],ob:=[],lo:=1,nx:=1 })]
def apk:Code:=aY (aV Tryz.f74) 2
def a8l:Lp:=dA aph apj 53 lZ
abbrev a4o:Shape:= { sl:=[(0,(.sz (.sl tN))),(3,(.v .str)),(pv 4 tI)],ob:=[],lo:=1,nx:=1 }
abbrev aco:List Ex:=[(.normal, { sl:=[(3,(.v .str))],ob:=[],lo:=1,nx:=1 })]
def acp:Code:=aY (aV Tryz.f74) 0
def acr:Lp:=dA a4o aco 53 jI
def apl:Con:=aP true [(.sl (.sl tN))] [.str] fun x=>IG x.1.1 x.1.2
def afV:Cx:=cx [(127,ape),(128,amX)] []
theorem a2X:au Tryz.prog afV:=au.of mixed aA (fc ⟨afU,fc ⟨aeN,fz⟩⟩) fz
theorem acs:bU Tryz.prog 2 (.loop apk) a8l:=aK a2X 8 (ah) _ _ _ _ (by decide) fun _=>by kernel_rfl
theorem apm(x:a4o.X):Cj afV [(2,a8l)] (dU afV 8) acp (a4o.mkS 53 x) (uP 0 a4o aco)=jI x:=by kernel_rfl
theorem apn:bU Tryz.prog 0 (.loop acp) acr:=aK a2X 8 (bA (by kernel_rfl) (aJ acs (by kernel_rfl) fz)) _ _ _ _ (by decide) apm
theorem apo:dZ Tryz.prog 74 Tryz.f74 [(2,a8l),(0,acr)]:=⟨Tryz.func74,Tryz.call74,bA (by kernel_rfl) (aJ acs (by kernel_rfl) (aJ apn (by kernel_rfl) fz))⟩
theorem afW:av Tryz.prog 74 apl:=ay a2X 8 apo _ _ _ _ (by decide) (fun x=>by rw[Nh]; kernel_rfl)
def afX:Con:=aP true [(.sl (.sl tN))] [.str] fun x=>qO x.1.1 x.1.2
def auI:Cx:=cx [(74,apl),(73,aoN)] []
theorem afY:au Tryz.prog auI:=au.of mixed aA (fc ⟨afW,fc ⟨afO,fz⟩⟩) fz
theorem a8m:av Tryz.prog 29 afX:=ay afY 8 ⟨Tryz.func29,Tryz.call29,ah⟩ _ _ _ _ (by decide) (fun x=>by rw[JV]; kernel_rfl)
abbrev apq:Shape:= { sl:=[(0,(.sz (.sl tN))),(1,(.sz (.sl tN))),(pv 5 tI)],ob:=[],lo:=0,nx:=0 }
abbrev apr:List Ex:=[(.ret, { sl:=[(4,(.v .bool))],ob:=[],lo:=0,nx:=0 }),(.normal, { sl:=[],ob:=[],lo:=0,nx:=0 })]
def aps:Code:=aY (aV Tryz.f75) 0
def acu:Lp:=dA apq apr 27 lg
def apt:Con:=aP true [(.sl (.sl tN)),(.sl (.sl tN))] [.bool] fun x=>Nc x.1.1 x.1.2 x.2.1.1 x.2.1.2
def auJ:Cx:=cx [(76,afl)] []
theorem a8n:au Tryz.prog auJ:=au.of mixed aA (fc ⟨a8e,fz⟩) fz
theorem apu:bU Tryz.prog 0 (.loop aps) acu:=aK a8n 8 (ah) _ _ _ _ (by decide) fun _=>by kernel_rfl
theorem apv:dZ Tryz.prog 75 Tryz.f75 [(0,acu)]:=⟨Tryz.func75,Tryz.call75,bA (by kernel_rfl) (aJ apu (by kernel_rfl) fz)⟩
theorem afZ:av Tryz.prog 75 apt:=ay a8n 8 apv _ _ _ _ (by decide) (fun x=>by rw[Qz]; kernel_rfl)
end
end Go.Proofs.YtldlihheppdhnaaGreat
namespace Go.Proofs.YtldlihheppdhnaaGreat
noncomputable section
abbrev apw:Shape:= { sl:=[(0,(.sz .str)),(1,(.sz .str)),(pv 5 tI)],ob:=[],lo:=0,nx:=0 }
abbrev apx:List Ex:=[(.ret, { sl:=[(4,(.v .bool))],ob:=[],lo:=0,nx:=0 }),(.normal, { sl:=[],ob:=[],lo:=0,nx:=0 })]
def apy:Code:=aY (aV Tryz.f17) 0
def acv:Lp:=dA apw apx 26 oF
def ag0:Con:=aP true [(.sl .str),(.sl .str)] [.bool] fun x=>wW x.1.1 x.1.2 x.2.1.1 x.2.1.2
def auK:Cx:=cx [] []
theorem a8o:au Tryz.prog auK:=au.of mixed aA fz fz
theorem apz:bU Tryz.prog 0 (.loop apy) acv:=aK a8o 8 (ah) _ _ _ _ (by decide) fun _=>by kernel_rfl
theorem apA:dZ Tryz.prog 17 Tryz.f17 [(0,acv)]:=⟨Tryz.func17,Tryz.call17,bA (by kernel_rfl) (aJ apz (by kernel_rfl) fz)⟩
theorem a8p:av Tryz.prog 17 ag0:=ay a8o 8 apA _ _ _ _ (by decide) (fun x=>by rw[QB]; kernel_rfl)
end
end Go.Proofs.YtldlihheppdhnaaGreat
namespace Go.Proofs.YtldlihheppdhnaaGreat
noncomputable def apB:Con:=aP true [tMS,tMS] [.bool] fun x=>H6 x.1 x.2.1
noncomputable def auL:Cx:=cx [(75,apt),(76,afl)] []
theorem ag1:au Tryz.prog auL:=au.of mixed aA (fc ⟨afZ,fc ⟨a8e,fz⟩⟩) fz
theorem ag2:av Tryz.prog 30 apB:=ay ag1 8 ⟨Tryz.func30,Tryz.call30,ah⟩ _ _ _ _ (by decide) (fun x=>by rw[QC]; kernel_rfl)
end Go.Proofs.YtldlihheppdhnaaGreat
namespace Go.Proofs.YtldlihheppdhnaaGreat
noncomputable section
def apC:Con:=aP false [(.pair tI (.pair tI tI)),tI,tI,tI] [(.ptr (.pair (.pair tI (.pair tI tI)) (.pair tI (.pair tI (.pair tI (.pair tI (.pair (.pair tI (.pair tI (.pair (.sl .str) (.sl tI)))) (.pair (.sl (.pair .str (.pair tG (.pair (.sl tV) (.pair (.sl tV) (.arr 4 (.pair (.arr 2 tG) (.pair tG (.pair tI tI))))))))) (.sl tOU)))))))))] fun x=>Eb x.1 x.2.1 x.2.2.1 x.2.2.2.1
def auM:Cx:=cx [] []
theorem ag3:au Tryz.prog auM:=au.of mixed aA fz fz
theorem ag4:av Tryz.prog 27 apC:=ay ag3 8 ⟨Tryz.func27,Tryz.call27,ah⟩ _ _ _ _ (by decide) (fun x=>by rw[Uw]; kernel_rfl)
abbrev apD:Shape:= { sl:=[(0,(.sz tOU)),(1,(.sz tOU)),(pv 5 tI)],ob:=[],lo:=0,nx:=0 }
abbrev apE:List Ex:=[(.ret, { sl:=[(4,(.v .bool))],ob:=[],lo:=0,nx:=0 }),(.normal, { sl:=[],ob:=[],lo:=0,nx:=0 })]
def apF:Code:=aY (aV Tryz.f9) 0
def acw:Lp:=dA apD apE 42 iO
def apG:Con:=aP true [(.sl tOU),(.sl tOU)] [.bool] fun x=>lq x.1.1 x.1.2 x.2.1.1 x.2.1.2
def auN:Cx:=cx [(30,apB)] []
theorem a8q:au Tryz.prog auN:=au.of mixed aA (fc ⟨ag2,fz⟩) fz
theorem apH:bU Tryz.prog 0 (.loop apF) acw:=aK a8q 8 (ah) _ _ _ _ (by decide) fun _=>by kernel_rfl
theorem apI:dZ Tryz.prog 9 Tryz.f9 [(0,acw)]:=⟨Tryz.func9,Tryz.call9,bA (by kernel_rfl) (aJ apH (by kernel_rfl) fz)⟩
theorem ag5:av Tryz.prog 9 apG:=ay a8q 8 apI _ _ _ _ (by decide) (fun x=>by rw[EO]; kernel_rfl)
end
end Go.Proofs.YtldlihheppdhnaaGreat
namespace Go.Proofs.YtldlihheppdhnaaGreat
noncomputable section
abbrev a8r:Shape:= { sl:=[(0,(.sz tN)),(1,(.c ⟨.fn,(.mk 179 [((.ptr tGR),0,[])])⟩)),(pv 7 tI),(pv 8 tI)],ob:=[(0,(.pz tGR))],lo:=1,nx:=1 }
abbrev a8s:List Ex:=[(.ret, { sl:=[(pv 4 tI)],ob:=[(0,(.pz tGR)),(pv 1 tN)],lo:=2,nx:=2 }),(.normal, { sl:=[],ob:=[(0,(.pz tGR))],lo:=1,nx:=1 })]
def a8t:Code:=aY (aV Tryz.f212) 0
def a0F:Lp:=dA a8r a8s 19 fD
def aaN:Con:=aP true [(.ptr tGR),(.sl tN)] [.bool] fun x=>vg x.1 x.2.1.1 x.2.1.2
def ag6:Cx:=cx [(180,afp)] [(178,Tryz.f178,[]),(212,Tryz.f212,[(0,a0F)]),(179,Tryz.f179,[])]
def Nr:Cx:=cx [(180,afp)] [(178,Tryz.f178,[]),(179,Tryz.f179,[])]
theorem Je:au Tryz.prog Nr:=au.of mixed aA (fc ⟨a8f,fz⟩) (fc ⟨⟨Tryz.func178,Tryz.call178,ah⟩,fc ⟨⟨Tryz.func179,Tryz.call179,ah⟩,fz⟩⟩)
theorem a8u:bU Tryz.prog 0 (.loop a8t) a0F:=aK Je 8 (ah) _ _ _ _ (by decide) fun _=>by kernel_rfl
theorem ag7:au Tryz.prog ag6:=au.of mixed aA (fc ⟨a8f,fz⟩) (fc ⟨⟨Tryz.func178,Tryz.call178,ah⟩,fc ⟨⟨Tryz.func212,Tryz.call212,bA (by kernel_rfl) (aJ a8u (by kernel_rfl) fz)⟩,fc ⟨⟨Tryz.func179,Tryz.call179,ah⟩,fz⟩⟩⟩)
theorem auO(g)(nc)(c):bV ag6 [] (dU ag6 8) Tryz.f133 (jf [(.ptr tGR),(.sl tN)] (g,(nc,c),())) [] 0 (jR [.bool])=AQ g nc c:=by cases g<;>kernel_rfl
theorem a2Y:av Tryz.prog 133 aaN:=ay ag7 8 ⟨Tryz.func133,Tryz.call133,ah⟩ _ _ _ _ (by decide) (fun x=>by rw[JW]; exact auO x.1 x.2.1.1 x.2.1.2)
abbrev apJ:Shape:= { sl:=[(0,(.pz tGR)),(1,(.sz tN)),(pv 2 tI),(pc 6 tN 0),(7,(.w 75 tN 1)),(pv 8 tI),(pv 24 tI),(pv 25 tI)],ob:=[(pv 0 tN)],lo:=1,nx:=2 }
abbrev apK:List Ex:=[(.normal, { sl:=[(0,(.pz tGR)),(1,(.sz tN)),(pc 6 tN 0),(7,(.w 75 tN 2))],ob:=[(pv 0 tN)],lo:=2,nx:=3 })]
def apL:Code:=aY (aV Tryz.f183) 0
def a8v:Lp:=dA apJ apK 44 mg
def apM:Con:=aP true [(.ptr tGR),(.sl tN),tI] [tN] fun x=>CP x.1 x.2.1.1 x.2.1.2 x.2.2.1
def ag8:Cx:=cx [(62,a2L),(217,aoa)] []
theorem a8w:au Tryz.prog ag8:=au.of mixed aA (fc ⟨OC,fc ⟨afA,fz⟩⟩) fz
theorem apN:bU Tryz.prog 0 (.loop apL) a8v:=aK a8w 8 (ah) _ _ _ _ (by decide) fun _=>by kernel_rfl
theorem apO:dZ Tryz.prog 183 Tryz.f183 [(0,a8v)]:=⟨Tryz.func183,Tryz.call183,bA (by kernel_rfl) (aJ apN (by kernel_rfl) fz)⟩
theorem auP(g)(nc)(c)(i):bV ag8 [(0,a8v)] (dU ag8 8) Tryz.f183 (jf [(.ptr tGR),(.sl tN),tI] (g,(nc,c),i,())) [] 0 (jR [tN])=Ec g nc c i:=by cases g<;>kernel_rfl
theorem ag9:av Tryz.prog 183 apM:=ay a8w 8 apO _ _ _ _ (by decide) (fun x=>by rw[Nk]; exact auP x.1 x.2.1.1 x.2.1.2 x.2.2.1)
def apP:Con:=aP true [(.ptr tGR),(.sl tN),(.pair tI tN)] [.bool] fun x=>yO x.1 x.2.1.1 x.2.1.2 x.2.2.1
def aga:Cx:=cx [(181,ao7),(133,aaN),(182,ao9),(183,apM)] []
theorem agb:au Tryz.prog aga:=au.of mixed aA (fc ⟨afo,fc ⟨a2Y,fc ⟨afx,fc ⟨ag9,fz⟩⟩⟩⟩) fz
theorem auQ(g)(nc)(c)(s):bV aga [] (dU aga 8) Tryz.f135 (jf [(.ptr tGR),(.sl tN),(.pair tI tN)] (g,(nc,c),s,())) [] 0 (jR [.bool])=wD g nc c s:=by cases g<;>kernel_rfl
theorem agc:av Tryz.prog 135 apP:=ay agb 8 ⟨Tryz.func135,Tryz.call135,ah⟩ _ _ _ _ (by decide) (fun x=>by rw[EP]; exact auQ x.1 x.2.1.1 x.2.1.2 x.2.2.1)
end
end Go.Proofs.YtldlihheppdhnaaGreat
namespace Go.Proofs.YtldlihheppdhnaaGreat
noncomputable section
def apQ:Con:=aP true [] [(.arr 8 (.int .u32))] fun x=>CQ
def auR:Cx:=cx [] []
theorem agd:au Tryz.prog auR:=au.of mixed aA fz fz
theorem agf:av Tryz.prog 192 apQ:=ay agd 8 ⟨Tryz.func192,Tryz.call192,ah⟩ _ _ _ _ (by decide) (fun x=>by rw[Ed]; kernel_rfl)
abbrev auS:Shape:= { sl:=[],ob:=[],lo:=0,nx:=0 }
abbrev auT:List Shape:=[{ sl:=[(pc 0 (.pair .bool (.pair (.arr 8 (.int .u32)) (.pair (.arr 64 (.int .u8)) tI))) 0)],ob:=[(pv 0 (.pair .bool (.pair (.arr 8 (.int .u32)) (.pair (.arr 64 (.int .u8)) tI))))],lo:=1,nx:=1 }]
def apR:Con:=kU auS auT fun x=>OL
def auU:Cx:=cx [(192,apQ)] []
theorem agh:au Tryz.prog auU:=au.of mixed aA (fc ⟨agf,fz⟩) fz
theorem agi:av Tryz.prog 142 apR:=dO agh 8 ⟨Tryz.func142,Tryz.call142,ah⟩ 1 _ _ _ (by decide) (fun x=>by rw[Nl]; kernel_rfl)
def apS:Con:=aP true [] [(.arr 64 (.int .u32))] fun x=>qg
def auV:Cx:=cx [] []
theorem agj:au Tryz.prog auV:=au.of mixed aA fz fz
theorem agk:av Tryz.prog 220 apS:=ay agj 8 ⟨Tryz.func220,Tryz.call220,ah⟩ _ _ _ _ (by decide) (fun x=>by rw[vk]; kernel_rfl)
def agl:Con:=aP true [(.int .u32),tI] [(.int .u32)] fun x=>fE x.1 x.2.1
def auW:Cx:=cx [(234,alb)] []
theorem agm:au Tryz.prog auW:=au.of mixed aA (fc ⟨ady,fz⟩) fz
theorem a8x:av Tryz.prog 222 agl:=ay agm 8 ⟨Tryz.func222,Tryz.call222,ah⟩ _ _ _ _ (by decide) (fun x=>by rw[JY]; kernel_rfl)
abbrev apT:Shape:= { sl:=[(pc 1 (.arr 64 (.int .u8)) 0),(pc 2 (.arr 64 (.int .u32)) 1),(pc 3 (.arr 64 (.int .u32)) 2),(pv 10 tI)],ob:=[(pv 0 (.arr 64 (.int .u8))),(pv 1 (.arr 64 (.int .u32))),(pv 2 (.arr 64 (.int .u32)))],lo:=3,nx:=3 }
abbrev apU:List Ex:=[(.normal, { sl:=[(pc 2 (.arr 64 (.int .u32)) 1),(pc 3 (.arr 64 (.int .u32)) 2)],ob:=[(pv 1 (.arr 64 (.int .u32))),(pv 2 (.arr 64 (.int .u32)))],lo:=3,nx:=3 })]
def apV:Code:=aY (aV Tryz.f221) 0
def acy:Lp:=dA apT apU 89 gM
abbrev apW:Shape:= { sl:=[(pc 2 (.arr 64 (.int .u32)) 1),(pc 3 (.arr 64 (.int .u32)) 2),(pv 5 tI)],ob:=[(pv 1 (.arr 64 (.int .u32))),(pv 2 (.arr 64 (.int .u32)))],lo:=3,nx:=3 }
abbrev apX:List Ex:=[(.normal, { sl:=[(pc 2 (.arr 64 (.int .u32)) 1),(pc 3 (.arr 64 (.int .u32)) 2)],ob:=[(pv 1 (.arr 64 (.int .u32))),(pv 2 (.arr 64 (.int .u32)))],lo:=3,nx:=3 })]
def apY:Code:=aY (aV Tryz.f221) 2
def acz:Lp:=dA apW apX 89 gQ
def apZ:Con:=aP true [(.arr 64 (.int .u8))] [(.arr 64 (.int .u32))] fun x=>yP x.1
def auX:Cx:=cx [(222,agl)] []
theorem a2Z:au Tryz.prog auX:=au.of mixed aA (fc ⟨a8x,fz⟩) fz
theorem aq0:bU Tryz.prog 0 (.loop apV) acy:=aK a2Z 8 (ah) _ _ _ _ (by decide) fun _=>by kernel_rfl
theorem aq1:bU Tryz.prog 2 (.loop apY) acz:=aK a2Z 8 (ah) _ _ _ _ (by decide) fun _=>by kernel_rfl
theorem aq2:dZ Tryz.prog 221 Tryz.f221 [(0,acy),(2,acz)]:=⟨Tryz.func221,Tryz.call221,bA (by kernel_rfl) (aJ aq0 (by kernel_rfl) (aJ aq1 (by kernel_rfl) fz))⟩
theorem agn:av Tryz.prog 221 apZ:=ay a2Z 8 aq2 _ _ _ _ (by decide) (fun x=>by rw[ER]; kernel_rfl)
abbrev aq3:Shape:= { sl:=[(pc 2 (.arr 8 (.int .u32)) 0),(pc 4 (.arr 8 (.int .u32)) 2),(pc 5 (.arr 64 (.int .u32)) 3),(pc 6 (.arr 64 (.int .u32)) 4),(pc 7 (.arr 8 (.int .u32)) 5),(pv 18 tI)],ob:=[(pv 0 (.arr 8 (.int .u32))),(pv 2 (.arr 8 (.int .u32))),(pv 3 (.arr 64 (.int .u32))),(pv 4 (.arr 64 (.int .u32))),(pv 5 (.arr 8 (.int .u32)))],lo:=6,nx:=6 }
abbrev aq4:List Ex:=[(.normal, { sl:=[(pc 2 (.arr 8 (.int .u32)) 0),(pc 4 (.arr 8 (.int .u32)) 2),(pc 7 (.arr 8 (.int .u32)) 5)],ob:=[(pv 0 (.arr 8 (.int .u32))),(pv 2 (.arr 8 (.int .u32))),(pv 5 (.arr 8 (.int .u32)))],lo:=6,nx:=6 })]
def aq5:Code:=aY (aV Tryz.f193) 0
def acA:Lp:=dA aq3 aq4 109 jK
abbrev aq6:Shape:= { sl:=[(pc 2 (.arr 8 (.int .u32)) 0),(pc 4 (.arr 8 (.int .u32)) 2),(pc 7 (.arr 8 (.int .u32)) 5),(pv 96 tI)],ob:=[(pv 0 (.arr 8 (.int .u32))),(pv 2 (.arr 8 (.int .u32))),(pv 5 (.arr 8 (.int .u32)))],lo:=6,nx:=6 }
abbrev aq7:List Ex:=[(.normal, { sl:=[(pc 4 (.arr 8 (.int .u32)) 2),(pc 7 (.arr 8 (.int .u32)) 5)],ob:=[(pv 2 (.arr 8 (.int .u32))),(pv 5 (.arr 8 (.int .u32)))],lo:=6,nx:=6 })]
def aq8:Code:=aY (aV Tryz.f193) 2
def acB:Lp:=dA aq6 aq7 109 mh
def aq9:Con:=aP true [(.arr 8 (.int .u32)),(.arr 64 (.int .u8))] [(.arr 8 (.int .u32))] fun x=>CV x.1 x.2.1
def auY:Cx:=cx [(220,apS),(221,apZ),(222,agl)] []
theorem a3a:au Tryz.prog auY:=au.of mixed aA (fc ⟨agk,fc ⟨agn,fc ⟨a8x,fz⟩⟩⟩) fz
theorem aqa:bU Tryz.prog 0 (.loop aq5) acA:=aK a3a 8 (ah) _ _ _ _ (by decide) fun _=>by kernel_rfl
theorem aqb:bU Tryz.prog 2 (.loop aq8) acB:=aK a3a 8 (ah) _ _ _ _ (by decide) fun _=>by kernel_rfl
theorem aqc:dZ Tryz.prog 193 Tryz.f193 [(0,acA),(2,acB)]:=⟨Tryz.func193,Tryz.call193,bA (by kernel_rfl) (aJ aqa (by kernel_rfl) (aJ aqb (by kernel_rfl) fz))⟩
theorem agp:av Tryz.prog 193 aq9:=ay a3a 8 aqc _ _ _ _ (by decide) (fun x=>by rw[Nn]; kernel_rfl)
abbrev aqd:Shape:= { sl:=[(pc 0 (.pair .bool (.pair (.arr 8 (.int .u32)) (.pair (.arr 64 (.int .u8)) tI))) 0),(1,(.v .str))],ob:=[(pv 0 (.pair .bool (.pair (.arr 8 (.int .u32)) (.pair (.arr 64 (.int .u8)) tI))))],lo:=1,nx:=1 }
abbrev aqe:List Ex:=[(.normal, { sl:=[(pc 0 (.pair .bool (.pair (.arr 8 (.int .u32)) (.pair (.arr 64 (.int .u8)) tI))) 0)],ob:=[(pv 0 (.pair .bool (.pair (.arr 8 (.int .u32)) (.pair (.arr 64 (.int .u8)) tI))))],lo:=1,nx:=1 })]
def aqf:Code:=aY (aV Tryz.f143) 0
def acC:Lp:=dA aqd aqe 56 dK
abbrev auZ:Shape:= { sl:=[(pc 0 (.pair .bool (.pair (.arr 8 (.int .u32)) (.pair (.arr 64 (.int .u8)) tI))) 0),(1,(.v .str))],ob:=[(pv 0 (.pair .bool (.pair (.arr 8 (.int .u32)) (.pair (.arr 64 (.int .u8)) tI))))],lo:=1,nx:=1 }
abbrev av0:List Shape:=[{ sl:=[],ob:=[(pv 0 (.pair .bool (.pair (.arr 8 (.int .u32)) (.pair (.arr 64 (.int .u8)) tI))))],lo:=1,nx:=1 }]
def agq:Con:=kU auZ av0 fun x=>iV x.1.2.1 x.2.1
def av1:Cx:=cx [(193,aq9)] []
theorem a8y:au Tryz.prog av1:=au.of mixed aA (fc ⟨agp,fz⟩) fz
theorem aqg:bU Tryz.prog 0 (.loop aqf) acC:=aK a8y 8 (ah) _ _ _ _ (by decide) fun _=>by kernel_rfl
theorem aqh:dZ Tryz.prog 143 Tryz.f143 [(0,acC)]:=⟨Tryz.func143,Tryz.call143,bA (by kernel_rfl) (aJ aqg (by kernel_rfl) fz)⟩
theorem a8z:av Tryz.prog 143 agq:=dO a8y 8 aqh 0 _ _ _ (by decide) (fun x=>by rw[AR]; kernel_rfl)
abbrev aqi:Shape:= { sl:=[(0,(.pz (.pair .bool (.pair (.arr 8 (.int .u32)) (.pair (.arr 64 (.int .u8)) tI))))),(pc 3 (.pair .bool (.pair (.arr 8 (.int .u32)) (.pair (.arr 64 (.int .u8)) tI))) 0)],ob:=[(pv 0 (.pair .bool (.pair (.arr 8 (.int .u32)) (.pair (.arr 64 (.int .u8)) tI))))],lo:=1,nx:=1 }
abbrev aqj:List Ex:=[(.normal, { sl:=[(0,(.pz (.pair .bool (.pair (.arr 8 (.int .u32)) (.pair (.arr 64 (.int .u8)) tI))))),(pc 3 (.pair .bool (.pair (.arr 8 (.int .u32)) (.pair (.arr 64 (.int .u8)) tI))) 0)],ob:=[(pv 0 (.pair .bool (.pair (.arr 8 (.int .u32)) (.pair (.arr 64 (.int .u8)) tI))))],lo:=1,nx:=1 })]
def aqk:Code:=aY (aV Tryz.f144) 0
def a8A:Lp:=dA aqi aqj 69 iP
abbrev aql:Shape:= { sl:=[(0,(.pz (.pair .bool (.pair (.arr 8 (.int .u32)) (.pair (.arr 64 (.int .u8)) tI))))),(pc 3 (.pair .bool (.pair (.arr 8 (.int .u32)) (.pair (.arr 64 (.int .u8)) tI))) 0),(pc 4 (.arr 8 (.int .u8)) 1),(pv 27 tI)],ob:=[(pv 0 (.pair .bool (.pair (.arr 8 (.int .u32)) (.pair (.arr 64 (.int .u8)) tI)))),(pv 1 (.arr 8 (.int .u8)))],lo:=2,nx:=2 }
abbrev aqm:List Ex:=[(.normal, { sl:=[(pc 3 (.pair .bool (.pair (.arr 8 (.int .u32)) (.pair (.arr 64 (.int .u8)) tI))) 0),(pc 4 (.arr 8 (.int .u8)) 1)],ob:=[(pv 0 (.pair .bool (.pair (.arr 8 (.int .u32)) (.pair (.arr 64 (.int .u8)) tI)))),(pv 1 (.arr 8 (.int .u8)))],lo:=2,nx:=2 })]
def aqn:Code:=aY (aV Tryz.f144) 2
def a8B:Lp:=dA aql aqm 69 iQ
abbrev aqo:Shape:= { sl:=[(6,(.w 5 (.int .u8) 3)),(pv 48 (.arr 8 (.int .u32))),(pv 49 tI)],ob:=[],lo:=3,nx:=4 }
abbrev aqp:List Ex:=[(.normal, { sl:=[(6,(.w 5 (.int .u8) 4))],ob:=[],lo:=4,nx:=5 })]
def aqr:Code:=aY (aV Tryz.f144) 4
def a8C:Lp:=dA aqo aqp 69 iR
def aqs:Con:=aP true [(.ptr (.pair .bool (.pair (.arr 8 (.int .u32)) (.pair (.arr 64 (.int .u8)) tI))))] [.str] fun x=>yQ x.1
def agr:Cx:=cx [(143,agq)] []
theorem Z8:au Tryz.prog agr:=au.of mixed aA (fc ⟨a8z,fz⟩) fz
theorem aqt:bU Tryz.prog 0 (.loop aqk) a8A:=aK Z8 8 (ah) _ _ _ _ (by decide) fun _=>by kernel_rfl
theorem aqu:bU Tryz.prog 2 (.loop aqn) a8B:=aK Z8 8 (ah) _ _ _ _ (by decide) fun _=>by kernel_rfl
theorem aqv:bU Tryz.prog 4 (.loop aqr) a8C:=aK Z8 8 (ah) _ _ _ _ (by decide) fun _=>by kernel_rfl
theorem aqw:dZ Tryz.prog 144 Tryz.f144 [(0,a8A),(2,a8B),(4,a8C)]:=⟨Tryz.func144,Tryz.call144,bA (by kernel_rfl) (aJ aqt (by kernel_rfl) (aJ aqu (by kernel_rfl) (aJ aqv (by kernel_rfl) fz)))⟩
theorem av2(h):bV agr [(0,a8A),(2,a8B),(4,a8C)] (dU agr 8) Tryz.f144 (jf [(.ptr (.pair .bool (.pair (.arr 8 (.int .u32)) (.pair (.arr 64 (.int .u8)) tI))))] (h,())) [] 0 (jR [.str])=wE h:=by cases h<;>kernel_rfl
theorem ags:av Tryz.prog 144 aqs:=ay Z8 8 aqw _ _ _ _ (by decide) (fun x=>by rw[ES]; exact av2 x.1)
def aqx:Con:=aP true [.str] [.str] fun x=>Np x.1
def av3:Cx:=cx [(142,apR),(143,agq),(144,aqs)] []
theorem agt:au Tryz.prog av3:=au.of mixed aA (fc ⟨agi,fc ⟨a8z,fc ⟨ags,fz⟩⟩⟩) fz
theorem agu:av Tryz.prog 90 aqx:=ay agt 8 ⟨Tryz.func90,Tryz.call90,ah⟩ _ _ _ _ (by decide) (fun x=>by rw[Uz]; kernel_rfl)
end
end Go.Proofs.YtldlihheppdhnaaGreat
namespace Go.Proofs.YtldlihheppdhnaaGreat
noncomputable section
abbrev a8D:Shape:= { sl:=[(0,(.sz (.sl tN))),(1,(.c ⟨.fn,(.mk 194 [((.sl (.sl tN)),0,[])])⟩)),(pv 7 tI),(pv 8 tI)],ob:=[(0,(.sz (.sl tN)))],lo:=1,nx:=1 }
abbrev a8E:List Ex:=[(.ret, { sl:=[(pv 4 tI)],ob:=[(0,(.sz (.sl tN)))],lo:=1,nx:=1 }),(.normal, { sl:=[],ob:=[(0,(.sz (.sl tN)))],lo:=1,nx:=1 })]
def a8F:Code:=aY (aV Tryz.f177) 0
def a0G:Lp:=dA a8D a8E 19 cZ
def aqy:Con:=aP true [(.sl (.sl tN))] [.bool] fun x=>AU x.1.1 x.1.2
def av4:Cx:=cx [] [(131,Tryz.f131,[]),(177,Tryz.f177,[(0,a0G)]),(194,Tryz.f194,[])]
def Lb:Cx:=cx [] [(131,Tryz.f131,[]),(194,Tryz.f194,[])]
theorem Ho:au Tryz.prog Lb:=au.of mixed aA fz (fc ⟨⟨Tryz.func131,Tryz.call131,ah⟩,fc ⟨⟨Tryz.func194,Tryz.call194,ah⟩,fz⟩⟩)
theorem a8G:bU Tryz.prog 0 (.loop a8F) a0G:=aK Ho 8 (ah) _ _ _ _ (by decide) fun _=>by kernel_rfl
theorem agv:au Tryz.prog av4:=au.of mixed aA fz (fc ⟨⟨Tryz.func131,Tryz.call131,ah⟩,fc ⟨⟨Tryz.func177,Tryz.call177,bA (by kernel_rfl) (aJ a8G (by kernel_rfl) fz)⟩,fc ⟨⟨Tryz.func194,Tryz.call194,ah⟩,fz⟩⟩⟩)
theorem agw:av Tryz.prog 145 aqy:=ay agv 8 ⟨Tryz.func145,Tryz.call145,ah⟩ _ _ _ _ (by decide) (fun x=>by rw[H9]; kernel_rfl)
abbrev aqz:Shape:= { sl:=[(pc 3 (.pair (.sp 244) (.sl (.int .u8))) 0),(22,(.sz (.sl tN))),(pv 23 tI),(pv 24 tI),(28,(.sz tN)),(pv 29 tI),(pv 30 tI)],ob:=[(0,(.p (.v (.sp 244)) (.w 5 (.int .u8) 6)))],lo:=6,nx:=7 }
abbrev aqA:List Ex:=[(.normal, { sl:=[(pc 3 (.pair (.sp 244) (.sl (.int .u8))) 0),(22,(.sz (.sl tN))),(pv 23 tI),(pv 24 tI)],ob:=[(0,(.p (.v (.sp 244)) (.w 5 (.int .u8) 7)))],lo:=7,nx:=8 })]
def aqB:Code:=aY (aV Tryz.f91) 2
def a8H:Lp:=dA aqz aqA 45 iT
abbrev a4p:Shape:= { sl:=[(pc 3 (.pair (.sp 244) (.sl (.int .u8))) 0),(22,(.sz (.sl tN))),(pv 23 tI),(pv 24 tI)],ob:=[(0,(.p (.v (.sp 244)) (.w 5 (.int .u8) 5)))],lo:=5,nx:=6 }
abbrev acD:List Ex:=[(.normal, { sl:=[(pc 3 (.pair (.sp 244) (.sl (.int .u8))) 0)],ob:=[(0,(.p (.v (.sp 244)) (.w 5 (.int .u8) 6)))],lo:=6,nx:=7 })]
def acE:Code:=aY (aV Tryz.f91) 0
def acF:Lp:=dA a4p acD 45 gU
def agx:Con:=aP true [(.sl (.sl tN))] [.str] fun x=>sS x.1.1 x.1.2
def agy:Cx:=cx [(145,aqy),(195,Qu),(147,alu)] [(146,Tryz.f146,[]),(148,Tryz.f148,[]),(149,Tryz.f149,[])]
theorem a3b:au Tryz.prog agy:=au.of mixed aA (fc ⟨agw,fc ⟨WG,fc ⟨adL,fz⟩⟩⟩) (fc ⟨⟨Tryz.func146,Tryz.call146,ah⟩,fc ⟨⟨Tryz.func148,Tryz.call148,ah⟩,fc ⟨⟨Tryz.func149,Tryz.call149,ah⟩,fz⟩⟩⟩)
theorem acG:bU Tryz.prog 2 (.loop aqB) a8H:=aK a3b 8 (ah) _ _ _ _ (by decide) fun _=>by kernel_rfl
theorem aqC(x:a4p.X):Cj agy [(2,a8H)] (dU agy 8) acE (a4p.mkS 45 x) (uP 0 a4p acD)=gU x:=by kernel_rfl
theorem aqD:bU Tryz.prog 0 (.loop acE) acF:=aK a3b 8 (bA (by kernel_rfl) (aJ acG (by kernel_rfl) fz)) _ _ _ _ (by decide) aqC
theorem aqE:dZ Tryz.prog 91 Tryz.f91 [(2,a8H),(0,acF)]:=⟨Tryz.func91,Tryz.call91,bA (by kernel_rfl) (aJ acG (by kernel_rfl) (aJ aqD (by kernel_rfl) fz))⟩
theorem a8I:av Tryz.prog 91 agx:=ay a3b 8 aqE _ _ _ _ (by decide) (fun x=>by rw[ET]; kernel_rfl)
def agz:Con:=aP true [tI] [.bool] fun x=>sU x.1
def av5:Cx:=cx [] []
theorem agA:au Tryz.prog av5:=au.of mixed aA fz fz
theorem a8J:av Tryz.prog 134 agz:=ay agA 8 ⟨Tryz.func134,Tryz.call134,ah⟩ _ _ _ _ (by decide) (fun x=>by rw[EU]; kernel_rfl)
abbrev a8K:Shape:= { sl:=[(0,(.sz (.sl tN))),(1,(.c ⟨.fn,(.mk 132 [(tI,1,[]),((.ptr tGR),0,[])])⟩)),(pv 7 tI),(pv 8 tI)],ob:=[(0,(.pz tGR)),(pv 1 tI)],lo:=2,nx:=2 }
abbrev a8L:List Ex:=[(.ret, { sl:=[(pv 4 tI)],ob:=[(0,(.pz tGR)),(pv 1 tI)],lo:=2,nx:=2 }),(.normal, { sl:=[],ob:=[(0,(.pz tGR)),(pv 1 tI)],lo:=2,nx:=2 })]
def a8M:Code:=aY (aV Tryz.f177) 0
def a0H:Lp:=dA a8K a8L 19 dQ
def agB:Con:=aP true [(.ptr tGR),tI,(.sl (.sl tN))] [.bool] fun x=>nK x.1 x.2.1 x.2.2.1.1 x.2.2.1.2
def agC:Cx:=cx [(133,aaN),(134,agz)] [(131,Tryz.f131,[]),(177,Tryz.f177,[(0,a0H)]),(132,Tryz.f132,[])]
def Ns:Cx:=cx [(133,aaN),(134,agz)] [(131,Tryz.f131,[]),(132,Tryz.f132,[])]
theorem Jf:au Tryz.prog Ns:=au.of mixed aA (fc ⟨a2Y,fc ⟨a8J,fz⟩⟩) (fc ⟨⟨Tryz.func131,Tryz.call131,ah⟩,fc ⟨⟨Tryz.func132,Tryz.call132,ah⟩,fz⟩⟩)
theorem a8N:bU Tryz.prog 0 (.loop a8M) a0H:=aK Jf 8 (ah) _ _ _ _ (by decide) fun _=>by kernel_rfl
theorem agD:au Tryz.prog agC:=au.of mixed aA (fc ⟨a2Y,fc ⟨a8J,fz⟩⟩) (fc ⟨⟨Tryz.func131,Tryz.call131,ah⟩,fc ⟨⟨Tryz.func177,Tryz.call177,bA (by kernel_rfl) (aJ a8N (by kernel_rfl) fz)⟩,fc ⟨⟨Tryz.func132,Tryz.call132,ah⟩,fz⟩⟩⟩)
theorem av6(g)(t)(nm)(m):bV agC [] (dU agC 8) Tryz.f85 (jf [(.ptr tGR),tI,(.sl (.sl tN))] (g,t,(nm,m),())) [] 0 (jR [.bool])=AX g t nm m:=by cases g<;>kernel_rfl
theorem a8O:av Tryz.prog 85 agB:=ay agD 8 ⟨Tryz.func85,Tryz.call85,ah⟩ _ _ _ _ (by decide) (fun x=>by rw[K5]; exact av6 x.1 x.2.1 x.2.2.1.1 x.2.2.1.2)
abbrev aqF:Shape:= { sl:=[(0,(.pz tGR)),(pc 5 (.pair tI (.sl tN)) 0),(25,(.sz (.sl tN))),(pv 26 tI),(pv 27 tI)],ob:=[(0,(.p (.v tI) (.sz tN)))],lo:=1,nx:=1 }
abbrev aqG:List Ex:=[(.ret, { sl:=[(6,(.v .bool))],ob:=[],lo:=1,nx:=1 }),(.normal, { sl:=[],ob:=[],lo:=1,nx:=1 })]
def aqH:Code:=aY (aV Tryz.f86) 0
def a8P:Lp:=dA aqF aqG 45 gV
def agE:Con:=aP true [(.ptr tGR),(.sl (.sl tN)),(.pair tI (.sl tN))] [.bool] fun x=>eB x.1 x.2.1.1 x.2.1.2 x.2.2.1
def agF:Cx:=cx [(135,apP)] []
theorem a8Q:au Tryz.prog agF:=au.of mixed aA (fc ⟨agc,fz⟩) fz
theorem aqI:bU Tryz.prog 0 (.loop aqH) a8P:=aK a8Q 8 (ah) _ _ _ _ (by decide) fun _=>by kernel_rfl
theorem aqJ:dZ Tryz.prog 86 Tryz.f86 [(0,a8P)]:=⟨Tryz.func86,Tryz.call86,bA (by kernel_rfl) (aJ aqI (by kernel_rfl) fz)⟩
theorem av7(g)(nm)(m)(p):bV agF [(0,a8P)] (dU agF 8) Tryz.f86 (jf [(.ptr tGR),(.sl (.sl tN)),(.pair tI (.sl tN))] (g,(nm,m),p,())) [] 0 (jR [.bool])=wF g nm m p:=by cases g<;>kernel_rfl
theorem a8R:av Tryz.prog 86 agE:=ay a8Q 8 aqJ _ _ _ _ (by decide) (fun x=>by rw[EW]; exact av7 x.1 x.2.1.1 x.2.1.2 x.2.2.1)
def aqK:Con:=aP true [(.sl (.sl tN))] [.str] fun x=>qj x.1.1 x.1.2
def av8:Cx:=cx [(91,agx),(90,aqx)] []
theorem agG:au Tryz.prog av8:=au.of mixed aA (fc ⟨a8I,fc ⟨agu,fz⟩⟩) fz
theorem agH:av Tryz.prog 45 aqK:=ay agG 8 ⟨Tryz.func45,Tryz.call45,ah⟩ _ _ _ _ (by decide) (fun x=>by rw[D7]; kernel_rfl)
end
end Go.Proofs.YtldlihheppdhnaaGreat
namespace Go.Proofs.YtldlihheppdhnaaGreat
noncomputable section
def aqL:Con:=aP true [(.pair tI tI)] [.bool] fun x=>yR x.1
def av9:Cx:=cx [] []
theorem agI:au Tryz.prog av9:=au.of mixed aA fz fz
theorem agJ:av Tryz.prog 176 aqL:=ay agI 8 ⟨Tryz.func176,Tryz.call176,ah⟩ _ _ _ _ (by decide) (fun x=>by rw[EX]; kernel_rfl)
abbrev ava:Shape:= { sl:=[(pv 0 tI),(1,(.v .bool)),(2,(.v .bool)),(pc 3 tI 0),(4,(.c ⟨(.ptr .bool),(.rf 1 [])⟩))],ob:=[(pv 0 tI),(1,(.v .bool))],lo:=2,nx:=2 }
abbrev avb:List Shape:=[{ sl:=[],ob:=[(pv 0 tI),(1,(.v .bool))],lo:=2,nx:=2 }]
def aqM:Con:=kU ava avb fun x=>cB x.1.1 x.1.2.1 x.1.2.2.1 x.2.1 x.2.2.1
def avc:Cx:=cx [] []
theorem agK:au Tryz.prog avc:=au.of mixed aA fz fz
theorem agL:av Tryz.prog 175 aqM:=dO agK 8 ⟨Tryz.func175,Tryz.call175,ah⟩ 0 _ _ _ (by decide) (fun x=>by rw[yh]; kernel_rfl)
def aqN:Con:=aP true [tMS] [tI,.bool] fun x=>sZ x.1
def avd:Cx:=cx [(176,aqL),(175,aqM),(91,agx)] []
theorem agM:au Tryz.prog avd:=au.of mixed aA (fc ⟨agJ,fc ⟨agL,fc ⟨a8I,fz⟩⟩⟩) fz
theorem agN:av Tryz.prog 129 aqN:=ay agM 8 ⟨Tryz.func129,Tryz.call129,ah⟩ _ _ _ _ (by decide) (fun x=>by rw[EY]; kernel_rfl)
def aaO:Con:=aP true [.str] [.bool] fun x=>bM x.1
def ave:Cx:=cx [] []
theorem agO:au Tryz.prog ave:=au.of mixed aA fz fz
theorem a3c:av Tryz.prog 130 aaO:=ay agO 8 ⟨Tryz.func130,Tryz.call130,ah⟩ _ _ _ _ (by decide) (fun x=>by rw[QD]; kernel_rfl)
def agP:Con:=aP true [tMS] [tI] fun x=>vC x.1
def avf:Cx:=cx [(129,aqN),(130,aaO)] []
theorem agQ:au Tryz.prog avf:=au.of mixed aA (fc ⟨agN,fc ⟨a3c,fz⟩⟩) fz
theorem a8S:av Tryz.prog 83 agP:=ay agQ 8 ⟨Tryz.func83,Tryz.call83,ah⟩ _ _ _ _ (by decide) (fun x=>by rw[K6]; kernel_rfl)
end
end Go.Proofs.YtldlihheppdhnaaGreat
namespace Go.Proofs.YtldlihheppdhnaaGreat
noncomputable section
abbrev avg:Shape:= { sl:=[(pv 0 tI),(pv 1 tI)],ob:=[],lo:=0,nx:=0 }
abbrev avh:List Shape:=[{ sl:=[(0,(.c ⟨(.ptr tSP),.nil⟩)),(pv 1 tI)],ob:=[],lo:=0,nx:=0 }, { sl:=[(pc 0 tSP 1),(pv 1 tI)],ob:=[(1,(.p (.v tI) (.p (.v tI) (.p (.w 9 .str 2) (.m tI tI 3)))))],lo:=2,nx:=4 }]
def aqO:Con:=kU avg avh fun x=>wZ x.1.1 x.1.2.1
def avi:Cx:=cx [] []
theorem agR:au Tryz.prog avi:=au.of mixed aA fz fz
theorem agS:av Tryz.prog 66 aqO:=dO agR 8 ⟨Tryz.func66,Tryz.call66,ah⟩ 2 _ _ _ (by decide) (fun x=>by rw[Hf]; kernel_rfl)
def aqP:Con:=aP true [.str,.str] [tI] fun x=>iW x.1 x.2.1
def avj:Cx:=cx [(186,MZ)] []
theorem agT:au Tryz.prog avj:=au.of mixed aA (fc ⟨Uk,fz⟩) fz
theorem agU:av Tryz.prog 185 aqP:=ay agT 8 ⟨Tryz.func185,Tryz.call185,ah⟩ _ _ _ _ (by decide) (fun x=>by rw[uo]; kernel_rfl)
abbrev aqQ:Shape:= { sl:=[(0,(.sz .str)),(1,(.v .str)),(2,(.c ⟨.fn,(.mk 185 [])⟩)),(pv 8 tI),(pv 9 tI),(pv 10 tI)],ob:=[],lo:=0,nx:=0 }
abbrev aqR:List Ex:=[(.normal, { sl:=[(0,(.sz .str)),(1,(.v .str)),(2,(.c ⟨.fn,(.mk 185 [])⟩)),(pv 8 tI),(pv 9 tI)],ob:=[],lo:=0,nx:=0 })]
def aqS:Code:=aY (aV Tryz.f184) 0
def a8T:Lp:=dA aqQ aqR 49 aI
def agV:Con:=a5q 185 [(.sl .str),.str] [tI,.bool] fun x=>bn x.1.1 x.1.2 x.2.1
def agW:Cx:=cx [(185,aqP)] []
theorem a8U:au Tryz.prog agW:=au.of mixed aA (fc ⟨agU,fz⟩) fz
theorem aqT:bU Tryz.prog 0 (.loop aqS) a8T:=aK a8U 8 (ah) _ _ _ _ (by decide) fun _=>by kernel_rfl
theorem aqU:dZ Tryz.prog 184 Tryz.f184 [(0,a8T)]:=⟨Tryz.func184,Tryz.call184,bA (by kernel_rfl) (aJ aqT (by kernel_rfl) fz)⟩
theorem avk(nx)(x)(target):bV agW [(0,a8T)] (dU agW 8) Tryz.f184 (jf [(.sl .str),.str] ((nx,x),target,())++[.v ⟨.fn,.mk 185 []⟩]) [] 0 (jR [tI,.bool])=bE nx x target:=by kernel_rfl
theorem a8V:av Tryz.prog 184 agV:=aaA a8U 8 aqU 185 [(.sl .str),.str] [tI,.bool] _ (by decide) (fun x=>by rw[dL]; exact avk x.1.1 x.1.2 x.2.1)
abbrev avl:Shape:= { sl:=[(pc 0 tSP 0),(1,(.v .str))],ob:=[(0,ZZ7)],lo:=1,nx:=3 }
abbrev avm:List Shape:=[{ sl:=[(pv 0 tI),(1,(.v .bool))],ob:=[(0,(.p (.v tI) (.p (.v tI) (.p (.w 9 .str 3) (.m tI tI 4)))))],lo:=3,nx:=5 }]
def agX:Con:=kU avl avm fun x=>lu x.1.2.1 x.2.1.1 x.2.1.2.1 x.2.1.2.2.1.1 x.2.1.2.2.1.2 x.2.1.2.2.2
def avn:Cx:=cx [(184,agV)] []
theorem agY:au Tryz.prog avn:=au.of mixed aA (fc ⟨a8V,fz⟩) fz
theorem a8W:av Tryz.prog 137 agX:=dO agY 8 ⟨Tryz.func137,Tryz.call137,ah⟩ 2 _ _ _ (by decide) (fun x=>by rw[uq]; kernel_rfl)
def agZ:Con:=aP true [(.ptr tSP),.str] [tI,.bool] fun x=>vD x.1 x.2.1
def ah0:Cx:=cx [(184,agV)] []
theorem ah1:au Tryz.prog ah0:=au.of mixed aA (fc ⟨a8V,fz⟩) fz
theorem avo(s)(key):bV ah0 [] (dU ah0 8) Tryz.f137 (jf [(.ptr tSP),.str] (s,key,())) [] 0 (jR [tI,.bool])=tu s key:=by cases s<;>kernel_rfl
theorem a8X:av Tryz.prog 137 agZ:=ay ah1 8 ⟨Tryz.func137,Tryz.call137,ah⟩ _ _ _ _ (by decide) (fun x=>by rw[Jb]; exact avo x.1 x.2.1)
abbrev avp:Shape:= { sl:=[(pc 0 tSP 0),(1,(.v .str)),(pv 2 tI)],ob:=[(0,ZZ7)],lo:=1,nx:=3 }
abbrev avq:List Shape:=[{ sl:=[(pv 0 tI),(1,(.v .bool)),(pv 2 tI)],ob:=[(0,(.p (.v tI) (.p (.v tI) (.p (.w 9 .str 9) (.m tI tI 10)))))],lo:=9,nx:=11 }]
def ah2:Con:=kU avp avq fun x=>lD x.1.2.1 x.1.2.2.1 x.2.1.1 x.2.1.2.1 x.2.1.2.2.1.1 x.2.1.2.2.1.2 x.2.1.2.2.2
def avr:Cx:=cx [(130,aaO),(136,Ui),(137,kP 0 agX agZ),(138,XD)] []
theorem ah3:au Tryz.prog avr:=au.of mixed aA (fc ⟨a3c,fc ⟨Uj,fc ⟨dV a8W a8X,fc ⟨a0E,fz⟩⟩⟩⟩) fz
theorem a8Y:av Tryz.prog 87 ah2:=dO ah3 8 ⟨Tryz.func87,Tryz.call87,ah⟩ 3 _ _ _ (by decide) (fun x=>by rw[uw]; kernel_rfl)
def ah4:Con:=aP true [(.ptr tSP),.str,tI] [tI,.bool,tI] fun x=>aX x.1 x.2.1 x.2.2.1
def ah5:Cx:=cx [(130,aaO),(136,Ui),(137,kP 0 agX agZ)] []
theorem ah6:au Tryz.prog ah5:=au.of mixed aA (fc ⟨a3c,fc ⟨Uj,fc ⟨dV a8W a8X,fz⟩⟩⟩) fz
theorem avs(s)(key)(end_):bV ah5 [] (dU ah5 8) Tryz.f87 (jf [(.ptr tSP),.str,tI] (s,key,end_,())) [] 0 (jR [tI,.bool,tI])=tF s key end_:=by cases s<;>kernel_rfl
theorem a8Z:av Tryz.prog 87 ah4:=ay ah6 8 ⟨Tryz.func87,Tryz.call87,ah⟩ _ _ _ _ (by decide) (fun x=>by rw[Jc]; exact avs x.1 x.2.1 x.2.2.1)
abbrev avt:Shape:= { sl:=[(pc 0 tSP 0)],ob:=[(0,ZZ7)],lo:=1,nx:=3 }
abbrev avu:List Shape:=[{ sl:=[(0,(.sz .str))],ob:=[(0,(.p (.v tI) (.p (.v tI) (.p (.w 9 .str 4) (.m tI tI 5)))))],lo:=4,nx:=6 }]
def a90:Con:=kU avt avu fun x=>eG x.2.1.1 x.2.1.2.1 x.2.1.2.2.1.1 x.2.1.2.2.1.2 x.2.1.2.2.2
def avv:Cx:=cx [(77,Ug)] []
theorem ah7:au Tryz.prog avv:=au.of mixed aA (fc ⟨Uh,fz⟩) fz
theorem Z9:av Tryz.prog 31 a90:=dO ah7 8 ⟨Tryz.func31,Tryz.call31,ah⟩ 1 _ _ _ (by decide) (fun x=>by rw[j5]; kernel_rfl)
def a92:Con:=aP false [(.ptr tSP)] [(.sl .str)] fun x=>oH x.1
def ah8:Cx:=cx [(77,Ug)] []
theorem ah9:au Tryz.prog ah8:=au.of mixed aA (fc ⟨Uh,fz⟩) fz
theorem avw(s):bV ah8 [] (dU ah8 8) Tryz.f31 (jf [(.ptr tSP)] (s,())) [] 0 (jR [(.sl .str)])=tH s:=by cases s<;>kernel_rfl
theorem Za:av Tryz.prog 31 a92:=ay ah9 8 ⟨Tryz.func31,Tryz.call31,ah⟩ _ _ _ _ (by decide) (fun x=>by rw[Jd]; exact avw x.1)
end
end Go.Proofs.YtldlihheppdhnaaGreat
namespace Go.Proofs.YtldlihheppdhnaaGreat
noncomputable section
def aqV:Con:=aP true [tI] [.bool] fun x=>tJ x.1
def avx:Cx:=cx [] []
theorem aha:au Tryz.prog avx:=au.of mixed aA fz fz
theorem ahb:av Tryz.prog 224 aqV:=ay aha 8 ⟨Tryz.func224,Tryz.call224,ah⟩ _ _ _ _ (by decide) (fun x=>by rw[AY]; kernel_rfl)
def aqW:Con:=aP true [tI,tI] [tI] fun x=>kC x.1 x.2.1
def avy:Cx:=cx [(224,aqV)] []
theorem ahc:au Tryz.prog avy:=au.of mixed aA (fc ⟨ahb,fz⟩) fz
theorem ahd:av Tryz.prog 197 aqW:=ay ahc 8 ⟨Tryz.func197,Tryz.call197,ah⟩ _ _ _ _ (by decide) (fun x=>by rw[yj]; kernel_rfl)
abbrev aqX:Shape:= { sl:=[(pv 3 tI),(6,(.sz tI)),(pv 7 tI),(pv 8 tI)],ob:=[],lo:=0,nx:=0 }
abbrev aqY:List Ex:=[(.ret, { sl:=[(pv 2 tI)],ob:=[],lo:=0,nx:=0 }),(.normal, { sl:=[(pv 3 tI)],ob:=[],lo:=0,nx:=0 })]
def aqZ:Code:=aY (aV Tryz.f196) 0
def acH:Lp:=dA aqX aqY 18 eD
def ar0:Con:=aP true [(.sl tI)] [tI] fun x=>AZ x.1.1 x.1.2
def avz:Cx:=cx [] []
theorem a94:au Tryz.prog avz:=au.of mixed aA fz fz
theorem ar1:bU Tryz.prog 0 (.loop aqZ) acH:=aK a94 8 (ah) _ _ _ _ (by decide) fun _=>by kernel_rfl
theorem ar2:dZ Tryz.prog 196 Tryz.f196 [(0,acH)]:=⟨Tryz.func196,Tryz.call196,bA (by kernel_rfl) (aJ ar1 (by kernel_rfl) fz)⟩
theorem ahe:av Tryz.prog 196 ar0:=ay a94 8 ar2 _ _ _ _ (by decide) (fun x=>by rw[Hg]; kernel_rfl)
end
end Go.Proofs.YtldlihheppdhnaaGreat
namespace Go.Proofs.YtldlihheppdhnaaGreat
noncomputable section
def ar3:Con:=aP true [tI] [.bool] fun x=>Ei x.1
def avA:Cx:=cx [] []
theorem ahf:au Tryz.prog avA:=au.of mixed aA fz fz
theorem ahg:av Tryz.prog 189 ar3:=ay ahf 8 ⟨Tryz.func189,Tryz.call189,ah⟩ _ _ _ _ (by decide) (fun x=>by rw[F4]; kernel_rfl)
def aaP:Con:=aP true [(.pair tI tI)] [.bool] fun x=>vE x.1
def avB:Cx:=cx [(189,ar3)] []
theorem ahh:au Tryz.prog avB:=au.of mixed aA (fc ⟨ahg,fz⟩) fz
theorem a3d:av Tryz.prog 139 aaP:=ay ahh 8 ⟨Tryz.func139,Tryz.call139,ah⟩ _ _ _ _ (by decide) (fun x=>by rw[Nq]; kernel_rfl)
def ar4:Con:=aP true [(.pair tI tI),(.pair tI tI)] [tI] fun x=>wG x.1 x.2.1
def avC:Cx:=cx [(197,aqW),(196,ar0)] []
theorem ahi:au Tryz.prog avC:=au.of mixed aA (fc ⟨ahd,fc ⟨ahe,fz⟩⟩) fz
theorem ahj:av Tryz.prog 150 ar4:=ay ahi 8 ⟨Tryz.func150,Tryz.call150,ah⟩ _ _ _ _ (by decide) (fun x=>by rw[D8]; kernel_rfl)
end
end Go.Proofs.YtldlihheppdhnaaGreat
namespace Go.Proofs.YtldlihheppdhnaaGreat
noncomputable section
abbrev avD:Shape:= { sl:=[(pv 0 tI)],ob:=[],lo:=0,nx:=0 }
abbrev avE:List Shape:=[{ sl:=[(0,(.c ⟨(.ptr tVT),(.rf 0 [])⟩)),(pv 1 tI)],ob:=[(0,(.v tVT))],lo:=1,nx:=1 }]
def aaQ:Con:=kU avD avE fun x=>lG x.1.1
def avF:Cx:=cx [] []
theorem ahk:au Tryz.prog avF:=au.of mixed aA fz fz
theorem a3e:av Tryz.prog 78 aaQ:=dO ahk 8 ⟨Tryz.func78,Tryz.call78,ah⟩ 2 _ _ _ (by decide) (fun x=>by rw[F6]; kernel_rfl)
abbrev avG:Shape:= { sl:=[(0,(.c ⟨(.ptr tVT),(.rf 0 [])⟩)),(pv 1 tI),(pv 2 (.pair tI tI)),(3,(.v .str))],ob:=[(0,(.v tVT))],lo:=1,nx:=1 }
abbrev avH:List Shape:=[{ sl:=[(0,(.v .bool))],ob:=[(0,(.v tVT))],lo:=2,nx:=2 }]
def a95:Con:=kU avG avH fun x=>fF x.1.2.1 x.1.2.2.1 x.1.2.2.2.1 x.2.1
def avI:Cx:=cx [(139,aaP)] [(79,Tryz.f79,[])]
theorem ahl:au Tryz.prog avI:=au.of mixed aA (fc ⟨a3d,fz⟩) (fc ⟨⟨Tryz.func79,Tryz.call79,ah⟩,fz⟩)
theorem Zb:av Tryz.prog 88 a95:=dO ahl 8 ⟨Tryz.func88,Tryz.call88,ah⟩ 1 _ _ _ (by decide) (fun x=>by rw[x9]; kernel_rfl)
def a96:Con:=aP true [(.ptr tVT),tI,(.pair tI tI),.str] [.bool] fun x=>F5 x.1 x.2.1 x.2.2.1 x.2.2.2.1
def ahm:Cx:=cx [(139,aaP)] [(79,Tryz.f79,[])]
theorem ahn:au Tryz.prog ahm:=au.of mixed aA (fc ⟨a3d,fz⟩) (fc ⟨⟨Tryz.func79,Tryz.call79,ah⟩,fz⟩)
theorem avJ(v)(server)(s)(digest):bV ahm [] (dU ahm 8) Tryz.f88 (jf [(.ptr tVT),tI,(.pair tI tI),.str] (v,server,s,digest,())) [] 0 (jR [.bool])=vF v server s digest:=by cases v<;>kernel_rfl
theorem Zc:av Tryz.prog 88 a96:=ay ahn 8 ⟨Tryz.func88,Tryz.call88,ah⟩ _ _ _ _ (by decide) (fun x=>by rw[La]; exact avJ x.1 x.2.1 x.2.2.1 x.2.2.2.1)
abbrev ar5:Shape:= { sl:=[(0,(.pz tVT)),(2,(.v .str)),(pc 4 (.pair tI tI) 0),(pv 7 tI),(pv 19 tI),(pv 20 tI)],ob:=[(pv 0 (.pair tI tI))],lo:=1,nx:=1 }
abbrev ar6:List Ex:=[(.normal, { sl:=[(pv 7 tI)],ob:=[],lo:=1,nx:=1 })]
def ar7:Code:=aY (aV Tryz.f140) 0
def a97:Lp:=dA ar5 ar6 45 dx
def ar8:Con:=aP true [(.ptr tVT),(.pair tI tI),.str] [tI] fun x=>iy x.1 x.2.1 x.2.2.1
def aho:Cx:=cx [(139,aaP)] []
theorem a98:au Tryz.prog aho:=au.of mixed aA (fc ⟨a3d,fz⟩) fz
theorem ar9:bU Tryz.prog 0 (.loop ar7) a97:=aK a98 8 (ah) _ _ _ _ (by decide) fun _=>by kernel_rfl
theorem ara:dZ Tryz.prog 140 Tryz.f140 [(0,a97)]:=⟨Tryz.func140,Tryz.call140,bA (by kernel_rfl) (aJ ar9 (by kernel_rfl) fz)⟩
theorem avK(v)(s)(digest):bV aho [(0,a97)] (dU aho 8) Tryz.f140 (jf [(.ptr tVT),(.pair tI tI),.str] (v,s,digest,())) [] 0 (jR [tI])=lF v s digest:=by cases v<;>kernel_rfl
theorem ahp:av Tryz.prog 140 ar8:=ay a98 8 ara _ _ _ _ (by decide) (fun x=>by rw[xg]; exact avK x.1 x.2.1 x.2.2.1)
def ahq:Con:=aP true [(.ptr tVT),tI,tI,tI] [(.pair tI tI),.str] fun x=>iX x.1 x.2.1 x.2.2.1 x.2.2.2.1
def ahr:Cx:=cx [] [(79,Tryz.f79,[])]
theorem ahs:au Tryz.prog ahr:=au.of mixed aA fz (fc ⟨⟨Tryz.func79,Tryz.call79,ah⟩,fz⟩)
theorem avL(v)(server)(client)(odd):bV ahr [] (dU ahr 8) Tryz.f35 (jf [(.ptr tVT),tI,tI,tI] (v,server,client,odd,())) [] 0 (jR [(.pair tI tI),.str])=qH v server client odd:=by cases v<;>kernel_rfl
theorem a99:av Tryz.prog 35 ahq:=ay ahs 8 ⟨Tryz.func35,Tryz.call35,ah⟩ _ _ _ _ (by decide) (fun x=>by rw[Ba]; exact avL x.1 x.2.1 x.2.2.1 x.2.2.2.1)
end
end Go.Proofs.YtldlihheppdhnaaGreat
namespace Go.Proofs.YtldlihheppdhnaaGreat
noncomputable section
abbrev a9a:Shape:= { sl:=[(0,(.po tGR)),(pv 1 tI),(pv 2 tI),(pv 3 tI)],ob:=[],lo:=0,nx:=0 }
abbrev arb:List Shape:=[{ sl:=[(0,(.c ⟨(.ptr tSV),.nil⟩)),(pv 1 tI)],ob:=[],lo:=4,nx:=4 }, { sl:=[(0,(.c ⟨(.ptr tSV),(.rf 5 [])⟩)),(pv 1 tI)],ob:=[(1,(.p (.v tI) (.p (.v tI) (.p (.w 9 .str 6) (.m tI tI 7))))),(5,(.p (.pz tGR) (.p (.v tI) (.p (.v tI) (.p (.v tI) (.p (.v tI) (.p (.c ⟨(.ptr tSP),(.rf 1 [])⟩) (.p (.bg .str tRC 8 none) (.sz tOU)))))))))],lo:=6,nx:=9 }]
def ard:Con:=kU a9a arb fun x=>tO x.1.1 x.1.2.1 x.1.2.2.1 x.1.2.2.2.1
def aht:Cx:=cx [(65,aaJ),(66,aqO)] []
theorem ahu:au Tryz.prog aht:=au.of mixed aA (fc ⟨a2P,fc ⟨agS,fz⟩⟩) fz
theorem avM(g)(t)(number)(clients):bV aht [] (dU aht 8) Tryz.f24 ((jh a9a.sl (show a9a.X from((g,(t,(number,(clients,())))),())).1).map .v) (Fj a9a ((g,(t,(number,(clients,())))),())) a9a.nx (Q8 2 arb)=wH g t number clients:=by cases g<;>kernel_rfl
theorem ahv:av Tryz.prog 24 ard:=dO ahu 8 ⟨Tryz.func24,Tryz.call24,ah⟩ 2 _ _ _ (by decide) (fun x=>by rw[F7]; exact avM x.1.1 x.1.2.1 x.1.2.2.1 x.1.2.2.2.1)
abbrev avN:Shape:= { sl:=[(0,(.c ⟨(.ptr tSV),(.rf 0 [])⟩)),(pv 1 tI),(2,ZZ2)],ob:=oS 2 3 4 [],lo:=2,nx:=5 }
abbrev avO:List Shape:=[{ sl:=[(0,(.v .bool))],ob:=oS 6 7 8 [],lo:=6,nx:=9 }]
def ahw:Con:=kU avN avO fun x=>iJ x.1.2.1 x.1.2.2.1.1 x.1.2.2.1.2.1 x.1.2.2.1.2.2.1 x.1.2.2.1.2.2.2.1 x.1.2.2.1.2.2.2.2.1 x.1.2.2.1.2.2.2.2.2.1.1 x.1.2.2.1.2.2.2.2.2.1.2 x.1.2.2.1.2.2.2.2.2.2.1 x.1.2.2.1.2.2.2.2.2.2.2 x.2
def avP:Cx:=cx [] []
theorem ahx:au Tryz.prog avP:=au.of mixed aA fz fz
theorem a9b:av Tryz.prog 84 ahw:=dO ahx 8 ⟨Tryz.func84,Tryz.call84,ah⟩ 1 _ _ _ (by decide) (fun x=>by rw[oQ]; kernel_rfl)
def ahy:Con:=aP true [(.ptr tSV),tI,tMS] [.bool] fun x=>jw x.1 x.2.1 x.2.2.1
def ahz:Cx:=cx [] []
theorem ahA:au Tryz.prog ahz:=au.of mixed aA fz fz
theorem avQ(s:Z01)(from_:Int)(m:Z0f):bV ahz [] (dU ahz 8) Tryz.f84 (jf [(.ptr tSV),tI,tMS] (s,from_,m,())) [] 0 (jR [.bool])=mD s from_ m:=by cases s<;>kernel_rfl
theorem a9c:av Tryz.prog 84 ahy:=ay ahA 8 ⟨Tryz.func84,Tryz.call84,ah⟩ _ _ _ _ (by decide) (fun x=>by rw[D9]; exact avQ x.1 x.2.1 x.2.2.1)
abbrev avR:Shape:= { sl:=[(0,(.c ⟨(.ptr tSV),(.rf 0 [])⟩)),(pv 1 tI),(2,ZZ2)],ob:=oS 2 3 4 [],lo:=2,nx:=5 }
abbrev avS:List Shape:=[{ sl:=[(0,(.v .bool))],ob:=oS 26 27 28 [],lo:=26,nx:=29 }]
def arf:Con:=kU avR avS fun x=>jV x.1.2.1 x.1.2.2.1.1 x.1.2.2.1.2.1 x.1.2.2.1.2.2.1 x.1.2.2.1.2.2.2.1 x.1.2.2.1.2.2.2.2.1 x.1.2.2.1.2.2.2.2.2.1.1 x.1.2.2.1.2.2.2.2.2.1.2 x.1.2.2.1.2.2.2.2.2.2.1 x.1.2.2.1.2.2.2.2.2.2.2 x.2
def avT:Cx:=cx [(83,agP),(84,kP 0 ahw ahy),(85,agB),(86,agE),(87,kP 0 ah2 ah4)] []
theorem ahB:au Tryz.prog avT:=au.of mixed aA (fc ⟨a8S,fc ⟨dV a9b a9c,fc ⟨a8O,fc ⟨a8R,fc ⟨dV a8Y a8Z,fz⟩⟩⟩⟩⟩) fz
theorem ahC:av Tryz.prog 42 arf:=dO ahB 8 ⟨Tryz.func42,Tryz.call42,ah⟩ 1 _ _ _ (by decide) (fun x=>by rw[tQ]; kernel_rfl)
def arh:Con:=aP true [(.ptr tSV),tI,tMS] [.bool] fun x=>Bb x.1 x.2.1 x.2.2.1
def ahD:Cx:=cx [(83,agP),(84,kP 0 ahw ahy),(85,agB),(86,agE),(87,kP 0 ah2 ah4)] []
theorem ahE:au Tryz.prog ahD:=au.of mixed aA (fc ⟨a8S,fc ⟨dV a9b a9c,fc ⟨a8O,fc ⟨a8R,fc ⟨dV a8Y a8Z,fz⟩⟩⟩⟩⟩) fz
theorem avU(s:Z01)(from_:Int)(m:Z0f):bV ahD [] (dU ahD 8) Tryz.f42 (jf [(.ptr tSV),tI,tMS] (s,from_,m,())) [] 0 (jR [.bool])=ru s from_ m:=by cases s<;>kernel_rfl
theorem ahF:av Tryz.prog 42 arh:=ay ahE 8 ⟨Tryz.func42,Tryz.call42,ah⟩ _ _ _ _ (by decide) (fun x=>by rw[Hl]; exact avU x.1 x.2.1 x.2.2.1)
abbrev avV:Shape:= { sl:=[(0,(.c ⟨(.ptr tSV),(.rf 0 [])⟩)),(pv 1 tI),(2,ZZ2)],ob:=[(0,ZZ1),(1,ZZ0),(2,(.v tVT)),(3,(.v tVT)),(4,ZZ3)],lo:=5,nx:=9 }
abbrev avW:List Shape:=[{ sl:=[],ob:=[(0,(.p (.pz tGR) (.p (.v tI) (.p (.v tI) (.p (.v tI) (.p (.v tI) (.p (.c ⟨(.ptr tSP),(.rf 4 [])⟩) (.p (.bg .str tRC 12 (some 1)) (.w 60 tOU 13))))))))),(1,ZZ0),(2,(.v tVT)),(3,(.v tVT)),(4,(.p (.v tI) (.p (.v tI) (.p (.w 9 .str 14) (.m tI tI 15)))))],lo:=12,nx:=16 }]
def a0I:Con:=kU avV avW fun x=>bI x.1.2.1 x.1.2.2.1.1 x.1.2.2.1.2.1 x.1.2.2.1.2.2.1 x.1.2.2.1.2.2.2.1 x.1.2.2.1.2.2.2.2.1 x.1.2.2.1.2.2.2.2.2.1.1 x.1.2.2.1.2.2.2.2.2.1.2 x.1.2.2.1.2.2.2.2.2.2.1 x.1.2.2.1.2.2.2.2.2.2.2 x.2
def avX:Cx:=cx [] []
theorem ahG:au Tryz.prog avX:=au.of mixed aA fz fz
theorem Lc:av Tryz.prog 80 a0I:=dO ahG 8 ⟨Tryz.func80,Tryz.call80,ah⟩ 0 _ _ _ (by decide) (fun x=>by rw[ql]; kernel_rfl)
def aaR:Con:=aP true [tVA,(.pair tI tI),.str] [.bool] fun x=>fG x.1 x.2.1 x.2.2.1
def avY:Cx:=cx [] []
theorem ahH:au Tryz.prog avY:=au.of mixed aA fz fz
theorem a3f:av Tryz.prog 92 aaR:=ay ahH 8 ⟨Tryz.func92,Tryz.call92,ah⟩ _ _ _ _ (by decide) (fun x=>by rw[xk]; kernel_rfl)
abbrev a9d:Shape:= { sl:=[(1,(.c ⟨(.ptr tRC),(.rf 1 [])⟩)),(2,(.c ⟨.fn,(.mk 81 [((.ptr tSV),9,[]),((.ptr tRC),10,[])])⟩)),(pv 10 tI),(pv 11 tI)],ob:=[(0,(.p (.pz tGR) (.p (.v tI) (.p (.v tI) (.p (.v tI) (.p (.v tI) (.p (.c ⟨(.ptr tSP),(.rf 4 [])⟩) (.p (.bg .str tRC 11 (some 1)) (.w 60 tOU 12))))))))),(1,ZZ0),(2,(.v tVT)),(3,(.v tVT)),(4,(.p (.v tI) (.p (.v tI) (.p (.w 9 .str 13) (.m tI tI 14))))),(9,(.c ⟨(.ptr tSV),(.rf 0 [])⟩)),(10,(.c ⟨(.ptr tRC),(.rf 1 [])⟩))],lo:=11,nx:=15 }
abbrev a9e:List Ex:=[(.normal, { sl:=[],ob:=[(0,(.p (.pz tGR) (.p (.v tI) (.p (.v tI) (.p (.v tI) (.p (.v tI) (.p (.c ⟨(.ptr tSP),(.rf 4 [])⟩) (.p (.bg .str tRC 15 (some 1)) (.w 60 tOU 16))))))))),(1,ZZ0),(2,(.v tVT)),(3,(.v tVT)),(4,(.p (.v tI) (.p (.v tI) (.p (.w 9 .str 17) (.m tI tI 18))))),(9,(.c ⟨(.ptr tSV),(.rf 0 [])⟩)),(10,(.c ⟨(.ptr tRC),(.rf 1 [])⟩))],lo:=15,nx:=19 })]
def a9f:Code:=aY (aV Tryz.f33) 0
def a0J:Lp:=dA a9d a9e 24 bQ
abbrev avZ:Shape:= { sl:=[(0,(.c ⟨(.ptr tSV),(.rf 0 [])⟩)),(1,(.c ⟨(.ptr tRC),(.rf 1 [])⟩))],ob:=[(0,ZZ1),(1,ZZ0),(2,(.v tVT)),(3,(.v tVT)),(4,ZZ3)],lo:=5,nx:=9 }
abbrev aw0:List Shape:=[{ sl:=[],ob:=[(0,(.p (.pz tGR) (.p (.v tI) (.p (.v tI) (.p (.v tI) (.p (.v tI) (.p (.c ⟨(.ptr tSP),(.rf 4 [])⟩) (.p (.bg .str tRC 19 (some 1)) (.w 60 tOU 20))))))))),(1,ZZ0),(2,(.v tVT)),(3,(.v tVT)),(4,(.p (.v tI) (.p (.v tI) (.p (.w 9 .str 21) (.m tI tI 22)))))],lo:=19,nx:=23 }]
def a5z:Con:=kU avZ aw0 fun x=>dw x.2
def aw1:Cx:=cx [(80,a0I)] [(33,Tryz.f33,[(0,a0J)]),(81,Tryz.f81,[]),(43,Tryz.f43,[])]
def Ag:Cx:=cx [(80,a0I)] [(81,Tryz.f81,[]),(43,Tryz.f43,[])]
theorem yS:au Tryz.prog Ag:=au.of mixed aA (fc ⟨Lc,fz⟩) (fc ⟨⟨Tryz.func81,Tryz.call81,ah⟩,fc ⟨⟨Tryz.func43,Tryz.call43,ah⟩,fz⟩⟩)
theorem a9g:bU Tryz.prog 0 (.loop a9f) a0J:=aK yS 8 (ah) _ _ _ _ (by decide) fun _=>by kernel_rfl
theorem ahI:au Tryz.prog aw1:=au.of mixed aA (fc ⟨Lc,fz⟩) (fc ⟨⟨Tryz.func33,Tryz.call33,bA (by kernel_rfl) (aJ a9g (by kernel_rfl) fz)⟩,fc ⟨⟨Tryz.func81,Tryz.call81,ah⟩,fc ⟨⟨Tryz.func43,Tryz.call43,ah⟩,fz⟩⟩⟩)
theorem UC:av Tryz.prog 37 a5z:=dO ahI 8 ⟨Tryz.func37,Tryz.call37,ah⟩ 0 _ _ _ (by decide) (fun x=>by rw[tT]; kernel_rfl)
abbrev aw2:Shape:= { sl:=[(0,(.c ⟨(.ptr tRC),(.rf 0 [])⟩)),(pv 1 (.pair tI tI))],ob:=[(0,ZZ4),(1,(.v tVT)),(2,(.v tVT))],lo:=3,nx:=3 }
abbrev aw3:List Shape:=[{ sl:=[(0,(.v .bool))],ob:=[(0,ZZ4),(1,(.v tVT)),(2,(.v tVT))],lo:=4,nx:=4 }]
def a9h:Con:=kU aw2 aw3 fun x=>bX x.1.2.1 x.2
def aw4:Cx:=cx [(150,ar4)] []
theorem ahJ:au Tryz.prog aw4:=au.of mixed aA (fc ⟨ahj,fz⟩) fz
theorem Zd:av Tryz.prog 93 a9h:=dO ahJ 8 ⟨Tryz.func93,Tryz.call93,ah⟩ 1 _ _ _ (by decide) (fun x=>by rw[qm]; kernel_rfl)
abbrev aw5:Shape:= { sl:=[(0,(.c ⟨(.ptr tRC),(.rf 0 [])⟩)),(pv 1 (.pair tI tI))],ob:=[(0,ZZ4),(1,(.v tVT)),(2,(.v tVT))],lo:=3,nx:=3 }
abbrev aw6:List Shape:=[{ sl:=[(0,(.v .bool))],ob:=[(0,ZZ4),(1,(.v tVT)),(2,(.v tVT))],lo:=4,nx:=4 }]
def aaS:Con:=kU aw5 aw6 fun x=>gY x.1.2.1 x.2
def aw7:Cx:=cx [] []
theorem ahK:au Tryz.prog aw7:=au.of mixed aA fz fz
theorem a3g:av Tryz.prog 95 aaS:=dO ahK 8 ⟨Tryz.func95,Tryz.call95,ah⟩ 1 _ _ _ (by decide) (fun x=>by rw[rU]; kernel_rfl)
abbrev ari:Shape:= { sl:=[(0,(.c ⟨(.ptr tSV),(.rf 0 [])⟩)),(pv 1 tI),(2,(.c ⟨(.ptr tRC),(.rf 1 [])⟩)),(4,(.v .str)),(pc 8 (.pair tI tI) 9),(pv 14 tI),(pv 15 tI)],ob:=[(0,(.p (.pz tGR) (.p (.v tI) (.p (.v tI) (.p (.v tI) (.p (.v tI) (.p (.c ⟨(.ptr tSP),(.rf 4 [])⟩) (.p (.bg .str tRC 10 (some 1)) (.w 60 tOU 11))))))))),(1,ZZ0),(2,(.v tVT)),(3,(.v tVT)),(4,(.p (.v tI) (.p (.v tI) (.p (.w 9 .str 12) (.m tI tI 13))))),(pv 9 (.pair tI tI))],lo:=10,nx:=14 }
abbrev arj:List Ex:=[(.normal, { sl:=[(0,(.c ⟨(.ptr tSV),(.rf 0 [])⟩)),(2,(.c ⟨(.ptr tRC),(.rf 1 [])⟩))],ob:=[(0,(.p (.pz tGR) (.p (.v tI) (.p (.v tI) (.p (.v tI) (.p (.v tI) (.p (.c ⟨(.ptr tSP),(.rf 4 [])⟩) (.p (.bg .str tRC 14 (some 1)) (.w 60 tOU 15))))))))),(1,ZZ0),(2,(.v tVT)),(3,(.v tVT)),(4,(.p (.v tI) (.p (.v tI) (.p (.w 9 .str 16) (.m tI tI 17)))))],lo:=14,nx:=18 })]
def ark:Code:=aY (aV Tryz.f36) 0
def acI:Lp:=dA ari arj 38 bK
abbrev aw8:Shape:= { sl:=[(0,(.c ⟨(.ptr tSV),(.rf 0 [])⟩)),(pv 1 tI),(2,(.c ⟨(.ptr tRC),(.rf 1 [])⟩)),(pv 3 (.pair tI tI)),(4,(.v .str))],ob:=[(0,ZZ1),(1,ZZ0),(2,(.v tVT)),(3,(.v tVT)),(4,ZZ3)],lo:=5,nx:=9 }
abbrev aw9:List Shape:=[{ sl:=[],ob:=[(0,(.p (.pz tGR) (.p (.v tI) (.p (.v tI) (.p (.v tI) (.p (.v tI) (.p (.c ⟨(.ptr tSP),(.rf 4 [])⟩) (.p (.bg .str tRC 18 (some 1)) (.w 60 tOU 19))))))))),(1,ZZ0),(2,(.v tVT)),(3,(.v tVT)),(4,(.p (.v tI) (.p (.v tI) (.p (.w 9 .str 20) (.m tI tI 21)))))],lo:=18,nx:=22 }]
def a9i:Con:=kU aw8 aw9 fun x=>bD x.1.2.1 x.1.2.2.2.1 x.1.2.2.2.2.1 x.2
def awc:Cx:=cx [(80,a0I)] []
theorem a9j:au Tryz.prog awc:=au.of mixed aA (fc ⟨Lc,fz⟩) fz
theorem arl:bU Tryz.prog 0 (.loop ark) acI:=aK a9j 8 (ah) _ _ _ _ (by decide) fun _=>by kernel_rfl
theorem arn:dZ Tryz.prog 36 Tryz.f36 [(0,acI)]:=⟨Tryz.func36,Tryz.call36,bA (by kernel_rfl) (aJ arl (by kernel_rfl) fz)⟩
theorem Ze:av Tryz.prog 36 a9i:=dO a9j 8 arn 0 _ _ _ (by decide) (fun x=>by rw[nO]; kernel_rfl)
abbrev a5A:Shape:= { sl:=[(0,(.c ⟨(.ptr tSV),(.rf 0 [])⟩)),(1,(.c ⟨(.ptr tRC),(.rf 1 [])⟩)),(pv 2 (.pair tI tI)),(3,(.v .str))],ob:=[(0,ZZ1),(1,ZZ0),(2,(.v tVT)),(3,(.v tVT)),(4,ZZ3)],lo:=5,nx:=9 }
abbrev ahL:List Shape:=[{ sl:=[],ob:=[(0,(.p (.pz tGR) (.p (.v tI) (.p (.v tI) (.p (.v tI) (.p (.v tI) (.p (.c ⟨(.ptr tSP),(.rf 4 [])⟩) (.p (.bg .str tRC 9 (some 1)) (.w 60 tOU 10))))))))),(1,ZZ0),(2,(.v tVT)),(3,(.v tVT)),(4,(.p (.v tI) (.p (.v tI) (.p (.w 9 .str 11) (.m tI tI 12)))))],lo:=9,nx:=13 }]
def OO(n:Nat):Con:=kU a5A ahL fun x=>aC n x.1.2.2.1 x.1.2.2.2.1 x.2
abbrev a5B:Shape:= { sl:=[(0,(.c ⟨(.ptr tSV),(.rf 0 [])⟩)),(1,(.c ⟨(.ptr tRC),(.rf 1 [])⟩)),(pv 2 (.pair tI tI)),(3,(.v .str))],ob:=[(0,ZZ1),(1,ZZ0),(2,(.v tVT)),(3,(.v tVT)),(4,ZZ3)],lo:=5,nx:=9 }
abbrev ahM:List Shape:=[{ sl:=[],ob:=[(0,(.p (.pz tGR) (.p (.v tI) (.p (.v tI) (.p (.v tI) (.p (.v tI) (.p (.c ⟨(.ptr tSP),(.rf 4 [])⟩) (.p (.bg .str tRC 41 (some 1)) (.w 60 tOU 42))))))))),(1,ZZ0),(2,(.v tVT)),(3,(.v tVT)),(4,(.p (.v tI) (.p (.v tI) (.p (.w 9 .str 43) (.m tI tI 44)))))],lo:=41,nx:=45 }]
def aaT(n:Nat):Con:=kU a5B ahM fun x=>dS (aC n) x.1.2.2.1 x.1.2.2.2.1 x.2
def ahN(n:Nat):Cx:=cx [(140,ar8),(88,kP 0 a95 a96),(36,a9i),(93,a9h),(141,OO n)] []
theorem ahO(n:Nat)(ih:av Tryz.prog 141 (OO n)):au Tryz.prog (ahN n):=au.of mixed aA (fc ⟨ahp,fc ⟨dV Zb Zc,fc ⟨Ze,fc ⟨Zd,fc ⟨ih,fz⟩⟩⟩⟩⟩) fz
theorem aro(n:Nat)(ih:av Tryz.prog 141 (OO n)):dZ Tryz.prog 89 Tryz.f89 []:=⟨Tryz.func89,Tryz.call89,ah⟩
theorem awd(n)(p)(digest)(o):bV (ahN n) [] (dU (ahN n) 8) Tryz.f89 ((jh a5B.sl (show a5B.X from(((),((),(p,(digest,())))),o)).1).map .v) (Fj a5B (((),((),(p,(digest,())))),o)) a5B.nx (Q8 0 ahM)=iK (aC n) p digest o:=by kernel_rfl
theorem a3h(n:Nat)(ih:av Tryz.prog 141 (OO n)):av Tryz.prog 89 (aaT n):=dO (ahO n ih) 8 (aro n ih) 0 a5B ahM _ (by decide) (fun x=>by rw[qo]; exact awd n x.1.2.2.1 x.1.2.2.2.1 x.2)
abbrev a5C:Shape:= { sl:=[(0,(.c ⟨(.ptr tSV),(.rf 0 [])⟩)),(1,(.c ⟨(.ptr tRC),(.rf 1 [])⟩)),(2,(.v tPR))],ob:=[(0,ZZ1),(1,ZZ0),(2,(.v tVT)),(3,(.v tVT)),(4,ZZ3)],lo:=5,nx:=9 }
abbrev ahP:List Shape:=[{ sl:=[],ob:=[(0,(.p (.pz tGR) (.p (.v tI) (.p (.v tI) (.p (.v tI) (.p (.v tI) (.p (.c ⟨(.ptr tSP),(.rf 4 [])⟩) (.p (.bg .str tRC 68 (some 1)) (.w 60 tOU 69))))))))),(1,ZZ0),(2,(.v tVT)),(3,(.v tVT)),(4,(.p (.v tI) (.p (.v tI) (.p (.w 9 .str 70) (.m tI tI 71)))))],lo:=68,nx:=72 }]
def aaU(n:Nat):Con:=kU a5C ahP fun x=>fU (aC n) x.1.2.2.1 x.2
def ahQ(n:Nat):Cx:=cx [(88,kP 0 a95 a96),(36,a9i),(89,aaT n)] []
theorem ahR(n:Nat)(ih:av Tryz.prog 141 (OO n)):au Tryz.prog (ahQ n):=au.of mixed aA (fc ⟨dV Zb Zc,fc ⟨Ze,fc ⟨(a3h n ih),fz⟩⟩⟩) fz
theorem arp(n:Nat)(ih:av Tryz.prog 141 (OO n)):dZ Tryz.prog 96 Tryz.f96 []:=⟨Tryz.func96,Tryz.call96,ah⟩
theorem awe(n)(p)(o):bV (ahQ n) [] (dU (ahQ n) 8) Tryz.f96 ((jh a5C.sl (show a5C.X from(((),((),(p,()))),o)).1).map .v) (Fj a5C (((),((),(p,()))),o)) a5C.nx (Q8 0 ahP)=iL (aC n) p o:=by kernel_rfl
theorem a3i(n:Nat)(ih:av Tryz.prog 141 (OO n)):av Tryz.prog 96 (aaU n):=dO (ahR n ih) 8 (arp n ih) 0 a5C ahP _ (by decide) (fun x=>by rw[qp]; exact awe n x.1.2.2.1 x.2)
abbrev Da:Shape:= { sl:=[(1,(.c ⟨(.ptr tRC),(.rf 1 [])⟩)),(2,(.c ⟨.fn,(.mk 190 [((.ptr tRC),10,[]),((.ptr tSV),9,[])])⟩)),(pv 10 tI),(pv 11 tI)],ob:=[(0,(.p (.pz tGR) (.p (.v tI) (.p (.v tI) (.p (.v tI) (.p (.v tI) (.p (.c ⟨(.ptr tSP),(.rf 4 [])⟩) (.p (.bg .str tRC 34 (some 1)) (.w 60 tOU 35))))))))),(1,ZZ0),(2,(.v tVT)),(3,(.v tVT)),(4,(.p (.v tI) (.p (.v tI) (.p (.w 9 .str 36) (.m tI tI 37))))),(9,(.c ⟨(.ptr tSV),(.rf 0 [])⟩)),(10,(.c ⟨(.ptr tRC),(.rf 1 [])⟩)),(pv 11 (.pair tI tI))],lo:=34,nx:=38 }
abbrev UD:List Ex:=[(.normal, { sl:=[],ob:=[(0,(.p (.pz tGR) (.p (.v tI) (.p (.v tI) (.p (.v tI) (.p (.v tI) (.p (.c ⟨(.ptr tSP),(.rf 4 [])⟩) (.p (.bg .str tRC 38 (some 1)) (.w 60 tOU 39))))))))),(1,ZZ0),(2,(.v tVT)),(3,(.v tVT)),(4,(.p (.v tI) (.p (.v tI) (.p (.w 9 .str 40) (.m tI tI 41))))),(9,(.c ⟨(.ptr tSV),(.rf 0 [])⟩)),(10,(.c ⟨(.ptr tRC),(.rf 1 [])⟩)),(pv 11 (.pair tI tI))],lo:=38,nx:=42 })]
def a0K:Code:=aY (aV Tryz.f33) 0
def a0L(n:Nat):Lp:=dA Da UD 24 (aR (aC n))
abbrev xu:Shape:= { sl:=[(1,(.c ⟨(.ptr tRC),(.rf 1 [])⟩)),(2,(.c ⟨.fn,(.mk 191 [((.ptr tRC),10,[]),((.ptr tSV),9,[])])⟩)),(pv 10 tI),(pv 11 tI)],ob:=[(0,(.p (.pz tGR) (.p (.v tI) (.p (.v tI) (.p (.v tI) (.p (.v tI) (.p (.c ⟨(.ptr tSP),(.rf 4 [])⟩) (.p (.bg .str tRC 42 (some 1)) (.w 60 tOU 43))))))))),(1,ZZ0),(2,(.v tVT)),(3,(.v tVT)),(4,(.p (.v tI) (.p (.v tI) (.p (.w 9 .str 44) (.m tI tI 45))))),(9,(.c ⟨(.ptr tSV),(.rf 0 [])⟩)),(10,(.c ⟨(.ptr tRC),(.rf 1 [])⟩)),(pv 11 (.pair tI tI))],lo:=42,nx:=46 }
abbrev Hq:List Ex:=[(.normal, { sl:=[],ob:=[(0,(.p (.pz tGR) (.p (.v tI) (.p (.v tI) (.p (.v tI) (.p (.v tI) (.p (.c ⟨(.ptr tSP),(.rf 4 [])⟩) (.p (.bg .str tRC 46 (some 1)) (.w 60 tOU 47))))))))),(1,ZZ0),(2,(.v tVT)),(3,(.v tVT)),(4,(.p (.v tI) (.p (.v tI) (.p (.w 9 .str 48) (.m tI tI 49))))),(9,(.c ⟨(.ptr tSV),(.rf 0 [])⟩)),(10,(.c ⟨(.ptr tRC),(.rf 1 [])⟩)),(pv 11 (.pair tI tI))],lo:=46,nx:=50 })]
def QE:Code:=aY (aV Tryz.f33) 0
def QF(n:Nat):Lp:=dA xu Hq 24 (aL (aC n))
def ahS(n:Nat):Cx:=cx [(92,aaR),(37,a5z),(93,a9h),(80,a0I),(95,aaS),(96,aaU n)] [(33,Tryz.f33,[(0,(adn Da (a0L n) (QF n)))]),(190,Tryz.f190,[]),(94,Tryz.f94,[]),(191,Tryz.f191,[])]
def dD(n:Nat):Cx:=cx [(92,aaR),(37,a5z),(93,a9h),(80,a0I),(95,aaS),(96,aaU n)] [(190,Tryz.f190,[]),(94,Tryz.f94,[]),(191,Tryz.f191,[])]
theorem kQ(n:Nat)(ih:av Tryz.prog 141 (OO n)):au Tryz.prog (dD n):=au.of mixed aA (fc ⟨a3f,fc ⟨UC,fc ⟨Zd,fc ⟨Lc,fc ⟨a3g,fc ⟨(a3i n ih),fz⟩⟩⟩⟩⟩⟩) (fc ⟨⟨Tryz.func190,Tryz.call190,ah⟩,fc ⟨⟨Tryz.func94,Tryz.call94,ah⟩,fc ⟨⟨Tryz.func191,Tryz.call191,ah⟩,fz⟩⟩⟩)
theorem a9k(n:Nat)(x:Da.X):Cj (dD n) [] (dU (dD n) 8) a0K (Da.mkS 24 x) (uP 0 Da UD)=(aR (aC n)) x:=by kernel_rfl
theorem a9l(n:Nat)(ih:av Tryz.prog 141 (OO n)):bU Tryz.prog 0 (.loop a0K) (a0L n):=aK (kQ n ih) 8 (ah) Da UD 24 (aR (aC n)) (by decide) (a9k n)
theorem a0M(n:Nat)(x:xu.X):Cj (dD n) [] (dU (dD n) 8) QE (xu.mkS 24 x) (uP 0 xu Hq)=(aL (aC n)) x:=by kernel_rfl
theorem a0N(n:Nat)(ih:av Tryz.prog 141 (OO n)):bU Tryz.prog 0 (.loop QE) (QF n):=aK (kQ n ih) 8 (ah) xu Hq 24 (aL (aC n)) (by decide) (a0M n)
theorem ahT(n:Nat)(ih:av Tryz.prog 141 (OO n)):au Tryz.prog (ahS n):=au.of mixed aA (fc ⟨a3f,fc ⟨UC,fc ⟨Zd,fc ⟨Lc,fc ⟨a3g,fc ⟨(a3i n ih),fz⟩⟩⟩⟩⟩⟩) (fc ⟨⟨Tryz.func33,Tryz.call33,bA (by kernel_rfl) (aJ (aay (a9l n ih) (a0N n ih)) (by kernel_rfl) fz)⟩,fc ⟨⟨Tryz.func190,Tryz.call190,ah⟩,fc ⟨⟨Tryz.func94,Tryz.call94,ah⟩,fc ⟨⟨Tryz.func191,Tryz.call191,ah⟩,fz⟩⟩⟩⟩)
theorem arq(n:Nat)(ih:av Tryz.prog 141 (OO n)):dZ Tryz.prog 141 Tryz.f141 []:=⟨Tryz.func141,Tryz.call141,ah⟩
theorem awf(n)(p)(digest)(o):bV (ahS n) [] (dU (ahS n) 8) Tryz.f141 ((jh a5A.sl (show a5A.X from(((),((),(p,(digest,())))),o)).1).map .v) (Fj a5A (((),((),(p,(digest,())))),o)) a5A.nx (Q8 0 ahL)=fI (aC n) p digest o:=by kernel_rfl
theorem UE: ∀n,av Tryz.prog 141 (OO n)
  |0=>a5s fun x=>by rw[zN]; exact Eq.refl none
  |n+1=>dO (ahT n (UE n)) 8 (arq n (UE n)) 0 a5A ahL _ (by decide) (fun x=>by rw[nP]; exact awf n x.1.2.2.1 x.1.2.2.2.1 x.2)
abbrev awg:Shape:= { sl:=[(0,(.c ⟨(.ptr tSV),(.rf 0 [])⟩)),(1,(.c ⟨(.ptr tRC),(.rf 1 [])⟩)),(2,(.c ⟨(.ptr tVT),(.rf 2 [])⟩)),(pv 3 tI),(4,ZZ2)],ob:=[(0,ZZ1),(1,ZZ0),(2,(.v tVT)),(3,(.v tVT)),(4,ZZ3)],lo:=5,nx:=9 }
abbrev awh:List Shape:=[{ sl:=[],ob:=[(0,ZZ5),(1,ZZ0),(2,(.v tVT)),(3,(.v tVT)),(4,(.p (.v tI) (.p (.v tI) (.p (.w 9 .str 53) (.m tI tI 54)))))],lo:=51,nx:=55 }]
def ars:Con:=kU awg awh fun x=>j6 x.1.2.2.2.1 x.1.2.2.2.2.1.1 x.1.2.2.2.2.1.2.1 x.1.2.2.2.2.1.2.2.1 x.1.2.2.2.2.1.2.2.2.1 x.1.2.2.2.2.1.2.2.2.2.1 x.1.2.2.2.2.1.2.2.2.2.2.1.1 x.1.2.2.2.2.1.2.2.2.2.2.1.2 x.1.2.2.2.2.1.2.2.2.2.2.2.1 x.1.2.2.2.2.1.2.2.2.2.2.2.2 x.2
def awi:Cx:=cx [(88,kP 0 a95 a96),(89,aaT 5)] []
theorem ahU:au Tryz.prog awi:=au.of mixed aA (fc ⟨dV Zb Zc,fc ⟨(a3h 5 (UE 5)),fz⟩⟩) fz
theorem ahV:av Tryz.prog 44 ars:=dO ahU 8 ⟨Tryz.func44,Tryz.call44,ah⟩ 0 _ _ _ (by decide) (fun x=>by rw[qw]; kernel_rfl)
abbrev awj:Shape:= { sl:=[(0,(.c ⟨(.ptr tSV),(.rf 0 [])⟩)),(1,(.c ⟨(.ptr tRC),(.rf 1 [])⟩)),(2,(.c ⟨(.ptr tVT),(.rf 3 [])⟩)),(pv 3 tI),(4,ZZ2)],ob:=[(0,ZZ1),(1,ZZ0),(2,(.v tVT)),(3,(.v tVT)),(4,ZZ3)],lo:=5,nx:=9 }
abbrev awk:List Shape:=[{ sl:=[],ob:=[(0,ZZ5),(1,ZZ0),(2,(.v tVT)),(3,(.v tVT)),(4,(.p (.v tI) (.p (.v tI) (.p (.w 9 .str 53) (.m tI tI 54)))))],lo:=51,nx:=55 }]
def aru:Con:=kU awj awk fun x=>iM x.1.2.2.2.1 x.1.2.2.2.2.1.1 x.1.2.2.2.2.1.2.1 x.1.2.2.2.2.1.2.2.1 x.1.2.2.2.2.1.2.2.2.1 x.1.2.2.2.2.1.2.2.2.2.1 x.1.2.2.2.2.1.2.2.2.2.2.1.1 x.1.2.2.2.2.1.2.2.2.2.2.1.2 x.1.2.2.2.2.1.2.2.2.2.2.2.1 x.1.2.2.2.2.1.2.2.2.2.2.2.2 x.2
def awl:Cx:=cx [(88,kP 0 a95 a96),(89,aaT 5)] []
theorem ahW:au Tryz.prog awl:=au.of mixed aA (fc ⟨dV Zb Zc,fc ⟨(a3h 5 (UE 5)),fz⟩⟩) fz
theorem ahX:av Tryz.prog 44 aru:=dO ahW 8 ⟨Tryz.func44,Tryz.call44,ah⟩ 0 _ _ _ (by decide) (fun x=>by rw[oU]; kernel_rfl)
abbrev awm:Shape:= { sl:=[(0,(.c ⟨(.ptr tSV),(.rf 0 [])⟩)),(1,(.c ⟨(.ptr tRC),(.rf 1 [])⟩)),(pv 2 tVA)],ob:=[(0,ZZ1),(1,ZZ0),(2,(.v tVT)),(3,(.v tVT)),(4,ZZ3)],lo:=5,nx:=9 }
abbrev awn:List Shape:=[{ sl:=[],ob:=[(0,(.p (.pz tGR) (.p (.v tI) (.p (.v tI) (.p (.v tI) (.p (.v tI) (.p (.c ⟨(.ptr tSP),(.rf 4 [])⟩) (.p (.bg .str tRC 28 (some 1)) (.w 60 tOU 29))))))))),(1,ZZ0),(2,(.v tVT)),(3,(.v tVT)),(4,(.p (.v tI) (.p (.v tI) (.p (.w 9 .str 30) (.m tI tI 31)))))],lo:=28,nx:=32 }]
def ahY:Con:=kU awm awn fun x=>fV x.1.2.2.1 x.2
def awo:Cx:=cx [(92,aaR),(37,a5z)] []
theorem ahZ:au Tryz.prog awo:=au.of mixed aA (fc ⟨a3f,fc ⟨UC,fz⟩⟩) fz
theorem a9m:av Tryz.prog 46 ahY:=dO ahZ 8 ⟨Tryz.func46,Tryz.call46,ah⟩ 0 _ _ _ (by decide) (fun x=>by rw[qx]; kernel_rfl)
abbrev awp:Shape:= { sl:=[(0,(.c ⟨(.ptr tSV),(.rf 0 [])⟩)),(1,(.c ⟨(.ptr tRC),(.rf 1 [])⟩)),(pv 2 tI),(3,(.v tPR))],ob:=[(0,ZZ1),(1,ZZ0),(2,(.v tVT)),(3,(.v tVT)),(4,ZZ3)],lo:=5,nx:=9 }
abbrev awq:List Shape:=[{ sl:=[],ob:=[(0,(.p (.pz tGR) (.p (.v tI) (.p (.v tI) (.p (.v tI) (.p (.v tI) (.p (.c ⟨(.ptr tSP),(.rf 4 [])⟩) (.p (.bg .str tRC 79 (some 1)) (.w 60 tOU 80))))))))),(1,ZZ0),(2,(.v tVT)),(3,(.v tVT)),(4,(.p (.v tI) (.p (.v tI) (.p (.w 9 .str 81) (.m tI tI 82)))))],lo:=79,nx:=83 }]
def arv:Con:=kU awp awq fun x=>gX x.1.2.2.1 x.1.2.2.2.1 x.2
def awr:Cx:=cx [(93,a9h),(46,ahY),(80,a0I),(95,aaS),(96,aaU 5)] [(94,Tryz.f94,[])]
theorem ai0:au Tryz.prog awr:=au.of mixed aA (fc ⟨Zd,fc ⟨a9m,fc ⟨Lc,fc ⟨a3g,fc ⟨(a3i 5 (UE 5)),fz⟩⟩⟩⟩⟩) (fc ⟨⟨Tryz.func94,Tryz.call94,ah⟩,fz⟩)
theorem ai1:av Tryz.prog 47 arv:=dO ai0 8 ⟨Tryz.func47,Tryz.call47,ah⟩ 0 _ _ _ (by decide) (fun x=>by rw[mP]; kernel_rfl)
abbrev a5D:Shape:= { sl:=[(0,(.c ⟨(.ptr tSV),(.rf 0 [])⟩)),(pv 1 tI),(2,ZZ2)],ob:=oS 2 3 4 [],lo:=2,nx:=5 }
abbrev ai2:List Shape:=[{ sl:=[(0,(.sz tOU))],ob:=oS 120 121 122 [],lo:=120,nx:=123 }]
def ai3:Con:=kU a5D ai2 fun x=>aN x.1.2.1 x.1.2.2.1.1 x.1.2.2.1.2.1 x.1.2.2.1.2.2.1 x.1.2.2.1.2.2.2.1 x.1.2.2.1.2.2.2.2.1 x.1.2.2.1.2.2.2.2.2.1.1 x.1.2.2.1.2.2.2.2.2.1.2 x.1.2.2.1.2.2.2.2.2.2.1 x.1.2.2.1.2.2.2.2.2.2.2 x.2
def ai4:Cx:=cx [(42,kP 0 arf arh),(78,aaQ),(80,a0I),(44,a5t 1 2 [.R,.R,.L] ars aru),(45,aqK),(46,ahY),(47,arv)] [(32,Tryz.f32,[]),(43,Tryz.f43,[])]
theorem ai5:au Tryz.prog ai4:=au.of mixed aA (fc ⟨dV ahC ahF,fc ⟨a3e,fc ⟨Lc,fc ⟨aaD ahV ahX,fc ⟨agH,fc ⟨a9m,fc ⟨ai1,fz⟩⟩⟩⟩⟩⟩⟩) (fc ⟨⟨Tryz.func32,Tryz.call32,ah⟩,fc ⟨⟨Tryz.func43,Tryz.call43,ah⟩,fz⟩⟩)
theorem arw:dZ Tryz.prog 13 Tryz.f13 []:=⟨Tryz.func13,Tryz.call13,ah⟩
theorem aws(from_)(m)(m1)(m2)(m3)(m4)(nm)(m5)(nm1)(m6)(o):bV ai4 [] (dU ai4 8) Tryz.f13 ((jh a5D.sl (show a5D.X from(((),(from_,((m,(m1,(m2,(m3,(m4,((nm,m5),(nm1,m6))))))),()))),o)).1).map .v) (Fj a5D (((),(from_,((m,(m1,(m2,(m3,(m4,((nm,m5),(nm1,m6))))))),()))),o)) a5D.nx (Mh (aaC 0 [.R,.R,.R,.R,.R,.R,.R]) 1 ai2)=fZ from_ m m1 m2 m3 m4 nm m5 nm1 m6 o:=by kernel_rfl
theorem a9n:av Tryz.prog 13 ai3:=YE (aaC 0 [.R,.R,.R,.R,.R,.R,.R]) ai5 8 arw 1 a5D ai2 _ (by decide) (fun x=>by rw[kF]; exact aws x.1.2.1 x.1.2.2.1.1 x.1.2.2.1.2.1 x.1.2.2.1.2.2.1 x.1.2.2.1.2.2.2.1 x.1.2.2.1.2.2.2.2.1 x.1.2.2.1.2.2.2.2.2.1.1 x.1.2.2.1.2.2.2.2.2.1.2 x.1.2.2.1.2.2.2.2.2.2.1 x.1.2.2.1.2.2.2.2.2.2.2 x.2)
def ai6:Con:=aP false [(.ptr tSV),tI,tMS] [(.sl tOU)] fun x=>zO x.1 x.2.1 x.2.2.1
def ai7:Cx:=cx [] []
theorem ai8:au Tryz.prog ai7:=au.of mixed aA fz fz
theorem awt(s:Z01)(from_:Int)(m:Z0f):bV ai7 [] (dU ai7 8) Tryz.f13 (jf [(.ptr tSV),tI,tMS] (s,from_,m,())) [] 0 (jR [(.sl tOU)])=pI s from_ m:=by cases s<;>kernel_rfl
theorem a9o:av Tryz.prog 13 ai6:=ay ai8 8 ⟨Tryz.func13,Tryz.call13,ah⟩ _ _ _ _ (by decide) (fun x=>by rw[Fu]; exact awt x.1 x.2.1 x.2.2.1)
abbrev awu:Shape:= { sl:=[(0,(.c ⟨(.ptr tSV),(.rf 0 [])⟩)),(1,(.v .str))],ob:=oS 2 3 4 [],lo:=2,nx:=5 }
abbrev awv:List Shape:=[{ sl:=[(pv 0 (.pair tI tI)),(1,(.v .str)),(2,(.v .bool))],ob:=oS 9 10 11 [],lo:=9,nx:=12 }]
def arx:Con:=kU awu awv fun x=>gZ x.1.2.1 x.2
def aww:Cx:=cx [] []
theorem ai9:au Tryz.prog aww:=au.of mixed aA fz fz
theorem aia:av Tryz.prog 15 arx:=dO ai9 8 ⟨Tryz.func15,Tryz.call15,ah⟩ 3 _ _ _ (by decide) (fun x=>by rw[rV]; kernel_rfl)
def arz:Con:=aP true [(.ptr tSV),.str] [(.pair tI tI),.str,.bool] fun x=>zP x.1 x.2.1
def aib:Cx:=cx [] []
theorem aic:au Tryz.prog aib:=au.of mixed aA fz fz
theorem awx(s:Z01)(key:ByteArray):bV aib [] (dU aib 8) Tryz.f15 (jf [(.ptr tSV),.str] (s,key,())) [] 0 (jR [(.pair tI tI),.str,.bool])=pJ s key:=by cases s<;>kernel_rfl
theorem aie:av Tryz.prog 15 arz:=ay aic 8 ⟨Tryz.func15,Tryz.call15,ah⟩ _ _ _ _ (by decide) (fun x=>by rw[Fv]; exact awx x.1 x.2.1)
abbrev awy:Shape:= { sl:=[(0,(.c ⟨(.ptr tSV),(.rf 0 [])⟩))],ob:=oS 2 3 4 [],lo:=2,nx:=5 }
abbrev awz:List Shape:=[{ sl:=[(0,(.sz .str))],ob:=oS 10 11 12 [],lo:=10,nx:=13 }]
def aif:Con:=kU awy awz fun x=>bS x.2
def awC:Cx:=cx [(31,kP 0 a90 a92)] []
theorem aii:au Tryz.prog awC:=au.of mixed aA (fc ⟨dV Z9 Za,fz⟩) fz
theorem a9p:av Tryz.prog 18 aif:=dO aii 8 ⟨Tryz.func18,Tryz.call18,ah⟩ 1 _ _ _ (by decide) (fun x=>by rw[kG]; kernel_rfl)
def aij:Con:=aP false [(.ptr tSV)] [(.sl .str)] fun x=>zQ x.1
def aik:Cx:=cx [(31,kP 0 a90 a92)] []
theorem ail:au Tryz.prog aik:=au.of mixed aA (fc ⟨dV Z9 Za,fz⟩) fz
theorem awD(s:Z01):bV aik [] (dU aik 8) Tryz.f18 (jf [(.ptr tSV)] (s,())) [] 0 (jR [(.sl .str)])=pK s:=by cases s<;>kernel_rfl
theorem a9q:av Tryz.prog 18 aij:=ay ail 8 ⟨Tryz.func18,Tryz.call18,ah⟩ _ _ _ _ (by decide) (fun x=>by rw[Fw]; exact awD x.1)
abbrev a9r:Shape:= { sl:=[(1,(.c ⟨(.ptr tRC),(.rf 15 [])⟩)),(2,(.c ⟨.fn,(.mk 34 [((.ptr tRC),18,[]),((.ptr tSV),5,[])])⟩)),(pv 10 tI),(pv 11 tI)],ob:=[(0,(.p (.pz tGR) (.p (.v tI) (.p (.v tI) (.p (.v tI) (.p (.v tI) (.p (.c ⟨(.ptr tSP),(.rf 1 [])⟩) (.p (.bg .str tRC 19 (some 15)) (.w 60 tOU 20))))))))),(1,(.p (.v tI) (.p (.v tI) (.p (.w 9 .str 21) (.m tI tI 22))))),(5,(.c ⟨(.ptr tSV),(.rf 0 [])⟩)),(15,ZZ6),(16,(.v tVT)),(17,(.v tVT)),(18,(.c ⟨(.ptr tRC),(.rf 15 [])⟩))],lo:=19,nx:=23 }
abbrev a9s:List Ex:=[(.normal, { sl:=[],ob:=[(0,(.p (.pz tGR) (.p (.v tI) (.p (.v tI) (.p (.v tI) (.p (.v tI) (.p (.c ⟨(.ptr tSP),(.rf 1 [])⟩) (.p (.bg .str tRC 23 (some 15)) (.w 60 tOU 24))))))))),(1,(.p (.v tI) (.p (.v tI) (.p (.w 9 .str 25) (.m tI tI 26))))),(5,(.c ⟨(.ptr tSV),(.rf 0 [])⟩)),(15,ZZ6),(16,(.v tVT)),(17,(.v tVT)),(18,(.c ⟨(.ptr tRC),(.rf 15 [])⟩))],lo:=23,nx:=27 })]
def a9t:Code:=aY (aV Tryz.f33) 0
def a0O:Lp:=dA a9r a9s 24 bL
abbrev arA:Shape:= { sl:=[(0,(.c ⟨(.ptr tSV),(.rf 0 [])⟩)),(1,(.c ⟨(.ptr (.ptr tSV)),(.rf 5 [])⟩)),(22,(.sz .str)),(pv 23 tI),(pv 24 tI)],ob:=oW 11 12 13 14 [(5,(.c ⟨(.ptr tSV),(.rf 0 [])⟩))],lo:=11,nx:=15 }
abbrev arB:List Ex:=[(.normal, { sl:=[(0,(.c ⟨(.ptr tSV),(.rf 0 [])⟩)),(1,(.c ⟨(.ptr (.ptr tSV)),(.rf 5 [])⟩))],ob:=oW 15 16 17 18 [(5,(.c ⟨(.ptr tSV),(.rf 0 [])⟩))],lo:=15,nx:=19 })]
def arC:Code:=aY (aV Tryz.f10) 0
def a9u:Lp:=dA arA arB 43 dn
abbrev a5E:Shape:= { sl:=[(0,(.c ⟨(.ptr tSV),(.rf 0 [])⟩))],ob:=oS 2 3 4 [],lo:=2,nx:=5 }
abbrev ain:List Shape:=[{ sl:=[(0,(.sz tOU))],ob:=oS 19 20 21 [],lo:=19,nx:=22 }]
def arD:Con:=kU a5E ain fun x=>bT x.2
def aio:Cx:=cx [(31,kP 0 a90 a92),(35,ahq),(36,a9i),(37,a5z),(78,aaQ)] [(32,Tryz.f32,[]),(33,Tryz.f33,[(0,a0O)]),(34,Tryz.f34,[])]
def zW:Cx:=cx [(31,kP 0 a90 a92),(35,ahq),(36,a9i),(37,a5z),(78,aaQ)] [(32,Tryz.f32,[]),(34,Tryz.f34,[])]
theorem xS:au Tryz.prog zW:=au.of mixed aA (fc ⟨dV Z9 Za,fc ⟨a99,fc ⟨Ze,fc ⟨UC,fc ⟨a3e,fz⟩⟩⟩⟩⟩) (fc ⟨⟨Tryz.func32,Tryz.call32,ah⟩,fc ⟨⟨Tryz.func34,Tryz.call34,ah⟩,fz⟩⟩)
theorem a9v:bU Tryz.prog 0 (.loop a9t) a0O:=aK xS 8 (ah) _ _ _ _ (by decide) fun _=>by kernel_rfl
theorem a9w:au Tryz.prog aio:=au.of mixed aA (fc ⟨dV Z9 Za,fc ⟨a99,fc ⟨Ze,fc ⟨UC,fc ⟨a3e,fz⟩⟩⟩⟩⟩) (fc ⟨⟨Tryz.func32,Tryz.call32,ah⟩,fc ⟨⟨Tryz.func33,Tryz.call33,bA (by kernel_rfl) (aJ a9v (by kernel_rfl) fz)⟩,fc ⟨⟨Tryz.func34,Tryz.call34,ah⟩,fz⟩⟩⟩)
theorem arE:bU Tryz.prog 0 (.loop arC) a9u:=aK a9w 8 (ah) _ _ _ _ (by decide) fun _=>by kernel_rfl
theorem arF:dZ Tryz.prog 10 Tryz.f10 [(0,a9u)]:=⟨Tryz.func10,Tryz.call10,bA (by kernel_rfl) (aJ arE (by kernel_rfl) fz)⟩
theorem awE(o):bV aio [(0,a9u)] (dU aio 8) Tryz.f10 ((jh a5E.sl (show a5E.X from(((),()),o)).1).map .v) (Fj a5E (((),()),o)) a5E.nx (Mh (aaC 0 [.R,.R,.R,.R,.R,.R,.R]) 1 ain)=jd o:=by kernel_rfl
theorem aip:av Tryz.prog 10 arD:=YE (aaC 0 [.R,.R,.R,.R,.R,.R,.R]) a9w 8 arF 1 a5E ain _ (by decide) (fun x=>by rw[rW]; exact awE x.2)
def arG:Con:=aP false [(.ptr tSV)] [(.sl tOU)] fun x=>zU x.1
def aiq:Cx:=cx [] []
theorem air:au Tryz.prog aiq:=au.of mixed aA fz fz
theorem awF(s:Z01):bV aiq [] (dU aiq 8) Tryz.f10 (jf [(.ptr tSV)] (s,())) [] 0 (jR [(.sl tOU)])=pO s:=by cases s<;>kernel_rfl
theorem ais:av Tryz.prog 10 arG:=ay air 8 ⟨Tryz.func10,Tryz.call10,ah⟩ _ _ _ _ (by decide) (fun x=>by rw[Fy]; exact awF x.1)
end
end Go.Proofs.YtldlihheppdhnaaGreat
