/-
  The functions of a package are the plain ones.
-/
import Derived.Test.YtidodcilgldjoaaGreatEqA
import Derived.Test.YtidodcilgldjoaaGreatPr05
set_option linter.unusedVariables false
set_option linter.unusedSimpArgs false
set_option maxRecDepth 100000
set_option maxHeartbeats 0
namespace Go.Pl
end Go.Pl
open Go Go.Den Go.Pl
namespace Go.Proofs.YtidodcilgldjoaaGreat
abbrev Y2:Shape:= { sl:=[(0,(.v .str)),(3,(.w 5 (.int .u8) 3))],ob:=[],lo:=3,nx:=4 }
abbrev a7s:List Ex:=[(.normal, { sl:=[(0,(.v .str)),(3,(.w 5 (.int .u8) 4))],ob:=[],lo:=4,nx:=5 })]
noncomputable def abE:Code:=aQ (aO Tryz.f44) 0
noncomputable def a7t:Lp:=cB Y2 a7s 32 iL
abbrev Y3:Shape:= { sl:=[(0,(.v .str)),(3,(.w 5 (.int .u8) 5)),(pv 4 tI)],ob:=[],lo:=5,nx:=6 }
abbrev a7u:List Ex:=[(.normal, { sl:=[(3,(.w 5 (.int .u8) 6))],ob:=[],lo:=6,nx:=7 })]
noncomputable def abF:Code:=aQ (aO Tryz.f44) 2
noncomputable def a7v:Lp:=cB Y3 a7u 32 iM
noncomputable def als:Con:=bG false [.str] [(.sl (.int .u8))] fun x=>DZ x.1
noncomputable def a0p:Cx:= { ti:=ti,con:=[],fns:=[],un:=6 }
theorem a0q:ay Tryz.prog a0p:=ay.of mixed aK fz fz
theorem alu(x:Y2.X):bJ a0p [] (denF a0p 8) abE (Y2.mkS 32 x) (aL 0 Y2 a7s)=iL x:=by kernel_rfl
theorem alv:bF Tryz.prog 0 (.loop abE) a7t:=aC a0q 8 (ah) Y2 a7s 32 iL (by decide) alu
theorem alx(x:Y3.X):bJ a0p [] (denF a0p 8) abF (Y3.mkS 32 x) (aL 2 Y3 a7u)=iM x:=by kernel_rfl
theorem aly:bF Tryz.prog 2 (.loop abF) a7v:=aC a0q 8 (ah) Y3 a7u 32 iM (by decide) alx
theorem alz:aY Tryz.prog 44 Tryz.f44 [(0,a7t),(2,a7v)]:=⟨Tryz.func44,Tryz.call44,aU (by kernel_rfl) (aB alv (by kernel_rfl) (aB aly (by kernel_rfl) fz))⟩
theorem apz(s):bodyK a0p [(0,a7t),(2,a7v)] (denF a0p 8) Tryz.f44 (domV [.str] (s,())) [] 0 (bT [(.sl (.int .u8))])=Bc s:=by kernel_rfl
theorem ag7:aD Tryz.prog 44 als:=aN a0q 8 alz false [.str] [(.sl (.int .u8))] _ (by decide) (fun x=>by rw[J6]; exact apz x.1)
noncomputable def alA:Con:=bG true [] [(.arr 8 tI)] fun x=>Hz
noncomputable def ag8:Cx:= { ti:=ti,con:=[],fns:=[],un:=6 }
theorem ag9:ay Tryz.prog ag8:=ay.of mixed aK fz fz
theorem alB:aY Tryz.prog 45 Tryz.f45 []:=⟨Tryz.func45,Tryz.call45,ah⟩
theorem apA:bodyK ag8 [] (denF ag8 8) Tryz.f45 (domV [] (())) [] 0 (bT [(.arr 8 tI)])=JV:=by kernel_rfl
theorem aga:aD Tryz.prog 45 alA:=aN ag9 8 alB true [] [(.arr 8 tI)] _ (by decide) (fun x=>by rw[Lf]; exact apA)
noncomputable def agb:Con:=bG true [tI,tI] [tI] fun x=>kJ x.1 x.2.1
noncomputable def agc:Cx:= { ti:=ti,con:=[],fns:=[],un:=6 }
theorem agd:ay Tryz.prog agc:=ay.of mixed aK fz fz
theorem alC:aY Tryz.prog 93 Tryz.f93 []:=⟨Tryz.func93,Tryz.call93,ah⟩
theorem apB(x)(n):bodyK agc [] (denF agc 8) Tryz.f93 (domV [tI,tI] (x,n,())) [] 0 (bT [tI])=HV x n:=by kernel_rfl
theorem a7w:aD Tryz.prog 93 agb:=aN agd 8 alC true [tI,tI] [tI] _ (by decide) (fun x=>by rw[Oe]; exact apB x.1 x.2.1)
abbrev Y4:Shape:= { sl:=[(0,(.sz (.int .u8))),(pc 2 (.arr 64 tI) 0),(pc 3 (.arr 64 tI) 1),(pv 4 tI)],ob:=[(pv 0 (.arr 64 tI)),(pv 1 (.arr 64 tI))],lo:=2,nx:=2 }
abbrev a7x:List Ex:=[(.normal, { sl:=[(pc 2 (.arr 64 tI) 0),(pc 3 (.arr 64 tI) 1)],ob:=[(pv 0 (.arr 64 tI)),(pv 1 (.arr 64 tI))],lo:=2,nx:=2 })]
noncomputable def abG:Code:=aQ (aO Tryz.f91) 0
noncomputable def a7y:Lp:=cB Y4 a7x 95 eO
abbrev Y5:Shape:= { sl:=[(pc 2 (.arr 64 tI) 0),(pc 3 (.arr 64 tI) 1),(pv 5 tI)],ob:=[(pv 0 (.arr 64 tI)),(pv 1 (.arr 64 tI))],lo:=2,nx:=2 }
abbrev a7z:List Ex:=[(.normal, { sl:=[(pc 2 (.arr 64 tI) 0),(pc 3 (.arr 64 tI) 1)],ob:=[(pv 0 (.arr 64 tI)),(pv 1 (.arr 64 tI))],lo:=2,nx:=2 })]
noncomputable def abH:Code:=aQ (aO Tryz.f91) 2
noncomputable def a7A:Lp:=cB Y5 a7z 95 eP
noncomputable def alD:Con:=bG true [(.sl (.int .u8))] [(.arr 64 tI)] fun x=>yS x.1.1 x.1.2
noncomputable def a0r:Cx:= { ti:=ti,con:=[(93,agb)],fns:=[],un:=6 }
theorem a0s:ay Tryz.prog a0r:=ay.of mixed aK (fc ⟨a7w,fz⟩) fz
theorem alE(x:Y4.X):bJ a0r [] (denF a0r 8) abG (Y4.mkS 95 x) (aL 0 Y4 a7x)=eO x:=by kernel_rfl
theorem alF:bF Tryz.prog 0 (.loop abG) a7y:=aC a0s 8 (ah) Y4 a7x 95 eO (by decide) alE
theorem alG(x:Y5.X):bJ a0r [] (denF a0r 8) abH (Y5.mkS 95 x) (aL 2 Y5 a7z)=eP x:=by kernel_rfl
theorem alH:bF Tryz.prog 2 (.loop abH) a7A:=aC a0s 8 (ah) Y5 a7z 95 eP (by decide) alG
theorem alI:aY Tryz.prog 91 Tryz.f91 [(0,a7y),(2,a7A)]:=⟨Tryz.func91,Tryz.call91,aU (by kernel_rfl) (aB alF (by kernel_rfl) (aB alH (by kernel_rfl) fz))⟩
theorem apC(nb)(b):bodyK a0r [(0,a7y),(2,a7A)] (denF a0r 8) Tryz.f91 (domV [(.sl (.int .u8))] ((nb,b),())) [] 0 (bT [(.arr 64 tI)])=vX nb b:=by kernel_rfl
theorem agf:aD Tryz.prog 91 alD:=aN a0s 8 alI true [(.sl (.int .u8))] [(.arr 64 tI)] _ (by decide) (fun x=>by rw[EO]; exact apC x.1.1 x.1.2)
noncomputable def alJ:Con:=bG true [] [(.arr 64 tI)] fun x=>vY
noncomputable def agh:Cx:= { ti:=ti,con:=[],fns:=[],un:=6 }
theorem agi:ay Tryz.prog agh:=ay.of mixed aK fz fz
theorem alK:aY Tryz.prog 92 Tryz.f92 []:=⟨Tryz.func92,Tryz.call92,ah⟩
theorem apD:bodyK agh [] (denF agh 8) Tryz.f92 (domV [] (())) [] 0 (bT [(.arr 64 tI)])=zN:=by kernel_rfl
theorem agj:aD Tryz.prog 92 alJ:=aN agi 8 alK true [] [(.arr 64 tI)] _ (by decide) (fun x=>by rw[CR]; exact apD)
abbrev Y6:Shape:= { sl:=[(pc 2 (.arr 8 tI) 0),(pc 4 (.arr 8 tI) 1),(pc 5 (.arr 64 tI) 2),(pc 6 (.arr 64 tI) 3),(pc 7 (.arr 8 tI) 4),(pv 8 tI)],ob:=[(pv 0 (.arr 8 tI)),(pv 1 (.arr 8 tI)),(pv 2 (.arr 64 tI)),(pv 3 (.arr 64 tI)),(pv 4 (.arr 8 tI))],lo:=5,nx:=5 }
abbrev a7B:List Ex:=[(.normal, { sl:=[(pc 2 (.arr 8 tI) 0),(pc 4 (.arr 8 tI) 1),(pc 7 (.arr 8 tI) 4)],ob:=[(pv 0 (.arr 8 tI)),(pv 1 (.arr 8 tI)),(pv 4 (.arr 8 tI))],lo:=5,nx:=5 })]
noncomputable def abI:Code:=aQ (aO Tryz.f46) 0
noncomputable def a7C:Lp:=cB Y6 a7B 129 iE
abbrev Y7:Shape:= { sl:=[(pc 2 (.arr 8 tI) 0),(pc 4 (.arr 8 tI) 1),(pc 7 (.arr 8 tI) 4),(pc 14 (.arr 8 tI) 5),(pv 15 tI)],ob:=[(pv 0 (.arr 8 tI)),(pv 1 (.arr 8 tI)),(pv 4 (.arr 8 tI)),(pv 5 (.arr 8 tI))],lo:=6,nx:=6 }
abbrev a7D:List Ex:=[(.normal, { sl:=[(pc 4 (.arr 8 tI) 1),(pc 14 (.arr 8 tI) 5)],ob:=[(pv 1 (.arr 8 tI)),(pv 5 (.arr 8 tI))],lo:=6,nx:=6 })]
noncomputable def abJ:Code:=aQ (aO Tryz.f46) 2
noncomputable def a7E:Lp:=cB Y7 a7D 129 jq
noncomputable def alL:Con:=bG true [(.arr 8 tI),(.sl (.int .u8))] [(.arr 8 tI)] fun x=>HY x.1 x.2.1.1 x.2.1.2
noncomputable def a0t:Cx:= { ti:=ti,con:=[(91,alD),(92,alJ),(93,agb)],fns:=[],un:=6 }
theorem a0u:ay Tryz.prog a0t:=ay.of mixed aK (fc ⟨agf,fc ⟨agj,fc ⟨a7w,fz⟩⟩⟩) fz
theorem alM(x:Y6.X):bJ a0t [] (denF a0t 8) abI (Y6.mkS 129 x) (aL 0 Y6 a7B)=iE x:=by kernel_rfl
theorem alN:bF Tryz.prog 0 (.loop abI) a7C:=aC a0u 8 (ah) Y6 a7B 129 iE (by decide) alM
theorem alO(x:Y7.X):bJ a0t [] (denF a0t 8) abJ (Y7.mkS 129 x) (aL 2 Y7 a7D)=jq x:=by kernel_rfl
theorem alP:bF Tryz.prog 2 (.loop abJ) a7E:=aC a0u 8 (ah) Y7 a7D 129 jq (by decide) alO
theorem alQ:aY Tryz.prog 46 Tryz.f46 [(0,a7C),(2,a7E)]:=⟨Tryz.func46,Tryz.call46,aU (by kernel_rfl) (aB alN (by kernel_rfl) (aB alP (by kernel_rfl) fz))⟩
theorem apE(v)(nb)(b):bodyK a0t [(0,a7C),(2,a7E)] (denF a0t 8) Tryz.f46 (domV [(.arr 8 tI),(.sl (.int .u8))] (v,(nb,b),())) [] 0 (bT [(.arr 8 tI)])=E5 v nb b:=by kernel_rfl
theorem agk:aD Tryz.prog 46 alL:=aN a0u 8 alQ true [(.arr 8 tI),(.sl (.int .u8))] [(.arr 8 tI)] _ (by decide) (fun x=>by rw[Lg]; exact apE x.1 x.2.1.1 x.2.1.2)
abbrev Y8:Shape:= { sl:=[(3,(.sz (.int .u8))),(pc 4 (.arr 8 tI) 0),(pv 5 tI)],ob:=[(pv 0 (.arr 8 tI))],lo:=1,nx:=1 }
abbrev a7F:List Ex:=[(.normal, { sl:=[(pc 4 (.arr 8 tI) 0)],ob:=[(pv 0 (.arr 8 tI))],lo:=1,nx:=1 })]
noncomputable def abK:Code:=aQ (aO Tryz.f16) 0
noncomputable def a7G:Lp:=cB Y8 a7F 46 mE
abbrev Y9:Shape:= { sl:=[(pc 4 (.arr 8 tI) 0),(6,(.w 5 (.int .u8) 1)),(pv 7 tI)],ob:=[(pv 0 (.arr 8 tI))],lo:=1,nx:=2 }
abbrev a7H:List Ex:=[(.normal, { sl:=[(6,(.w 5 (.int .u8) 2))],ob:=[],lo:=2,nx:=3 })]
noncomputable def abL:Code:=aQ (aO Tryz.f16) 2
noncomputable def a7I:Lp:=cB Y9 a7H 46 mF
noncomputable def aaf:Con:=bG true [.str] [.str] fun x=>tY x.1
noncomputable def a0v:Cx:= { ti:=ti,con:=[(44,als),(45,alA),(46,alL)],fns:=[],un:=6 }
theorem a0w:ay Tryz.prog a0v:=ay.of mixed aK (fc ⟨ag7,fc ⟨aga,fc ⟨agk,fz⟩⟩⟩) fz
theorem alR(x:Y8.X):bJ a0v [] (denF a0v 8) abK (Y8.mkS 46 x) (aL 0 Y8 a7F)=mE x:=by kernel_rfl
theorem alS:bF Tryz.prog 0 (.loop abK) a7G:=aC a0w 8 (ah) Y8 a7F 46 mE (by decide) alR
theorem alT(x:Y9.X):bJ a0v [] (denF a0v 8) abL (Y9.mkS 46 x) (aL 2 Y9 a7H)=mF x:=by kernel_rfl
theorem alU:bF Tryz.prog 2 (.loop abL) a7I:=aC a0w 8 (ah) Y9 a7H 46 mF (by decide) alT
theorem alV:aY Tryz.prog 16 Tryz.f16 [(0,a7G),(2,a7I)]:=⟨Tryz.func16,Tryz.call16,aU (by kernel_rfl) (aB alS (by kernel_rfl) (aB alU (by kernel_rfl) fz))⟩
theorem apF(s):bodyK a0v [(0,a7G),(2,a7I)] (denF a0v 8) Tryz.f16 (domV [.str] (s,())) [] 0 (bT [.str])=Lh s:=by kernel_rfl
theorem a0x:aD Tryz.prog 16 aaf:=aN a0w 8 alV true [.str] [.str] _ (by decide) (fun x=>by rw[R7]; exact apF x.1)
end Go.Proofs.YtidodcilgldjoaaGreat
