/-
  The functions of a package are the plain ones.
-/
import Derived.Test.YtidodcilgldjoaaGreatEqA
import Derived.Test.YtidodcilgldjoaaGreatDenM
import Derived.Test.YtidodcilgldjoaaGreatPr16
set_option linter.unusedVariables false
set_option linter.unusedSimpArgs false
set_option maxRecDepth 100000
set_option maxHeartbeats 0
namespace Go.Pl
end Go.Pl
open Go Go.Den Go.Pl
namespace Go.Proofs.YtidodcilgldjoaaGreat
abbrev Ya:Shape:= { sl:=[(0,(.sz (.sl tN))),(pv 1 tI),(pv 5 tI)],ob:=[],lo:=0,nx:=0 }
abbrev a7J:List Ex:=[(.ret, { sl:=[(4,(.v .bool))],ob:=[],lo:=0,nx:=0 }),(.normal, { sl:=[(0,(.sz (.sl tN))),(pv 1 tI)],ob:=[],lo:=0,nx:=0 })]
noncomputable def abM:Code:=aQ (aO Tryz.f71) 0
noncomputable def a7K:Lp:=cB Ya a7J 27 jr
noncomputable def alW:Con:=bG true [(.sl (.sl tN)),tI] [.bool] fun x=>PD x.1.1 x.1.2 x.2.1
noncomputable def a7L:Cx:= { ti:=ti,con:=[],fns:=[],un:=6 }
theorem a7M:ay Tryz.prog a7L:=ay.of mixed aK fz fz
theorem alX(x:Ya.X):bJ a7L [] (denF a7L 8) abM (Ya.mkS 27 x) (aL 0 Ya a7J)=jr x:=by kernel_rfl
theorem alY:bF Tryz.prog 0 (.loop abM) a7K:=aC a7M 8 (ah) Ya a7J 27 jr (by decide) alX
theorem alZ:aY Tryz.prog 71 Tryz.f71 [(0,a7K)]:=⟨Tryz.func71,Tryz.call71,aU (by kernel_rfl) (aB alY (by kernel_rfl) fz)⟩
theorem apG(nm)(m)(most):bodyK a7L [(0,a7K)] (denF a7L 8) Tryz.f71 (domV [(.sl (.sl tN)),tI] ((nm,m),most,())) [] 0 (bT [.bool])=Li nm m most:=by kernel_rfl
theorem agl:aD Tryz.prog 71 alW:=aN a7M 8 alZ true [(.sl (.sl tN)),tI] [.bool] _ (by decide) (fun x=>by rw[R8]; exact apG x.1.1 x.1.2 x.2.1)
abbrev Yb:Shape:= { sl:=[(0,(.sz (.sl tN))),(1,(.sz (.sl tN))),(pv 5 tI)],ob:=[],lo:=0,nx:=0 }
abbrev a7N:List Ex:=[(.ret, { sl:=[(4,(.v .bool))],ob:=[],lo:=0,nx:=0 }),(.normal, { sl:=[],ob:=[],lo:=0,nx:=0 })]
noncomputable def abN:Code:=aQ (aO Tryz.f139) 0
noncomputable def a7O:Lp:=cB Yb a7N 27 jg
noncomputable def am0:Con:=bG true [(.sl (.sl tN)),(.sl (.sl tN))] [.bool] fun x=>Ll x.1.1 x.1.2 x.2.1.1 x.2.1.2
noncomputable def a7P:Cx:= { ti:=ti,con:=[(140,aeI)],fns:=[],un:=6 }
theorem a7Q:ay Tryz.prog a7P:=ay.of mixed aK (fc ⟨a5X,fz⟩) fz
theorem am1(x:Yb.X):bJ a7P [] (denF a7P 8) abN (Yb.mkS 27 x) (aL 0 Yb a7N)=jg x:=by kernel_rfl
theorem am2:bF Tryz.prog 0 (.loop abN) a7O:=aC a7Q 8 (ah) Yb a7N 27 jg (by decide) am1
theorem am3:aY Tryz.prog 139 Tryz.f139 [(0,a7O)]:=⟨Tryz.func139,Tryz.call139,aU (by kernel_rfl) (aB am2 (by kernel_rfl) fz)⟩
theorem apH(na)(a)(nb)(b):bodyK a7P [(0,a7O)] (denF a7P 8) Tryz.f139 (domV [(.sl (.sl tN)),(.sl (.sl tN))] ((na,a),(nb,b),())) [] 0 (bT [.bool])=HZ na a nb b:=by kernel_rfl
theorem agm:aD Tryz.prog 139 am0:=aN a7Q 8 am3 true [(.sl (.sl tN)),(.sl (.sl tN))] [.bool] _ (by decide) (fun x=>by rw[Oj]; exact apH x.1.1 x.1.2 x.2.1.1 x.2.1.2)
abbrev Yc:Shape:= { sl:=[(0,(.sz (.sl tN))),(pv 3 tI)],ob:=[],lo:=0,nx:=0 }
abbrev a7R:List Ex:=[(.ret, { sl:=[(2,(.v .bool))],ob:=[],lo:=0,nx:=0 }),(.normal, { sl:=[(0,(.sz (.sl tN)))],ob:=[],lo:=0,nx:=0 })]
noncomputable def abO:Code:=aQ (aO Tryz.f127) 0
noncomputable def a7S:Lp:=cB Yc a7R 44 gD
noncomputable def am4:Con:=bG true [(.sl (.sl tN))] [.bool] fun x=>Lr x.1.1 x.1.2
noncomputable def a7T:Cx:= { ti:=ti,con:=[],fns:=[],un:=6 }
theorem a7U:ay Tryz.prog a7T:=ay.of mixed aK fz fz
theorem am5(x:Yc.X):bJ a7T [] (denF a7T 8) abO (Yc.mkS 44 x) (aL 0 Yc a7R)=gD x:=by kernel_rfl
theorem am6:bF Tryz.prog 0 (.loop abO) a7S:=aC a7U 8 (ah) Yc a7R 44 gD (by decide) am5
theorem am7:aY Tryz.prog 127 Tryz.f127 [(0,a7S)]:=⟨Tryz.func127,Tryz.call127,aU (by kernel_rfl) (aB am6 (by kernel_rfl) fz)⟩
theorem apI(nm)(m):bodyK a7T [(0,a7S)] (denF a7T 8) Tryz.f127 (domV [(.sl (.sl tN))] ((nm,m),())) [] 0 (bT [.bool])=I4 nm m:=by kernel_rfl
theorem agn:aD Tryz.prog 127 am4:=aN a7U 8 am7 true [(.sl (.sl tN))] [.bool] _ (by decide) (fun x=>by rw[Ol]; exact apI x.1.1 x.1.2)
abbrev Yd:Shape:= { sl:=[(0,(.sz (.sl tN))),(3,(.v .str)),(pv 4 tI),(pv 5 tI)],ob:=[],lo:=1,nx:=1 }
abbrev a7V:List Ex:=[(.normal, { sl:=[(0,(.sz (.sl tN))),(3,(.v .str)),(pv 4 tI)],ob:=[],lo:=1,nx:=1 })]
noncomputable def abP:Code:=aQ (aO Tryz.f76) 2
noncomputable def a1i:Lp:=cB Yd a7V 53 jv
abbrev Ye:Shape:= { sl:=[(0,(.sz (.sl tN))),(3,(.v .str)),(pv 4 tI)],ob:=[],lo:=1,nx:=1 }
abbrev a7W:List Ex:=[(.normal, { sl:=[(3,(.v .str))],ob:=[],lo:=1,nx:=1 })]
noncomputable def abQ:Code:=aQ (aO Tryz.f76) 0
noncomputable def a7X:Lp:=cB Ye a7W 53 jw
noncomputable def agp:Con:=bG true [(.sl (.sl tN))] [.str] fun x=>CS x.1.1 x.1.2
noncomputable def a0y:Cx:= { ti:=ti,con:=[(127,am4),(77,aeD)],fns:=[],un:=6 }
theorem a0z:ay Tryz.prog a0y:=ay.of mixed aK (fc ⟨agn,fc ⟨a5x,fz⟩⟩) fz
theorem am8(x:Yd.X):bJ a0y [] (denF a0y 8) abP (Yd.mkS 53 x) (aL 2 Yd a7V)=jv x:=by kernel_rfl
theorem abR:bF Tryz.prog 2 (.loop abP) a1i:=aC a0z 8 (ah) Yd a7V 53 jv (by decide) am8
theorem am9(x:Ye.X):bJ a0y [(2,a1i)] (denF a0y 8) abQ (Ye.mkS 53 x) (aL 0 Ye a7W)=jw x:=by kernel_rfl
theorem ama:bF Tryz.prog 0 (.loop abQ) a7X:=aC a0z 8 (aU (by kernel_rfl) (aB abR (by kernel_rfl) fz)) Ye a7W 53 jw (by decide) am9
theorem amb:aY Tryz.prog 76 Tryz.f76 [(2,a1i),(0,a7X)]:=⟨Tryz.func76,Tryz.call76,aU (by kernel_rfl) (aB abR (by kernel_rfl) (aB ama (by kernel_rfl) fz))⟩
theorem apJ(nm)(m):bodyK a0y [(2,a1i),(0,a7X)] (denF a0y 8) Tryz.f76 (domV [(.sl (.sl tN))] ((nm,m),())) [] 0 (bT [.str])=Ea nm m:=by kernel_rfl
theorem a7Y:aD Tryz.prog 76 agp:=aN a0z 8 amb true [(.sl (.sl tN))] [.str] _ (by decide) (fun x=>by rw[Ls]; exact apJ x.1.1 x.1.2)
abbrev Yf:Shape:= { sl:=[(0,(.v .str)),(4,(.w 65 (.sl tN) 1)),(pv 5 tI),(pv 6 tI),(7,(.w 42 tN 2)),(pv 8 tI)],ob:=[],lo:=1,nx:=3 }
abbrev a7Z:List Ex:=[(.ret, { sl:=[(2,(.sz (.sl tN))),(pv 3 tI)],ob:=[],lo:=4,nx:=4 }),(.normal, { sl:=[(0,(.v .str)),(4,(.w 65 (.sl tN) 3)),(pv 5 tI),(pv 6 tI),(7,(.w 42 tN 4))],ob:=[],lo:=3,nx:=5 })]
noncomputable def abS:Code:=aQ (aO Tryz.f84) 2
noncomputable def a1j:Lp:=cB Yf a7Z 87 fC
abbrev Yg:Shape:= { sl:=[(0,(.v .str)),(4,(.w 65 (.sl tN) 0)),(pv 5 tI),(pv 6 tI)],ob:=[],lo:=0,nx:=1 }
abbrev a81:List Ex:=[(.ret, { sl:=[(2,(.sz (.sl tN))),(pv 3 tI)],ob:=[],lo:=4,nx:=4 }),(.normal, { sl:=[(0,(.v .str)),(4,(.w 65 (.sl tN) 1))],ob:=[],lo:=1,nx:=2 })]
noncomputable def abT:Code:=aQ (aO Tryz.f84) 0
noncomputable def a88:Lp:=cB Yg a81 87 iF
noncomputable def amc:Con:=bG false [.str] [(.sl (.sl tN)),tI] fun x=>Lx x.1
noncomputable def a0A:Cx:= { ti:=ti,con:=[(85,aeH),(76,agp)],fns:=[],un:=6 }
theorem a0B:ay Tryz.prog a0A:=ay.of mixed aK (fc ⟨a5S,fc ⟨a7Y,fz⟩⟩) fz
theorem amd(x:Yf.X):bJ a0A [] (denF a0A 8) abS (Yf.mkS 87 x) (aL 2 Yf a7Z)=fC x:=by kernel_rfl
theorem abU:bF Tryz.prog 2 (.loop abS) a1j:=aC a0B 8 (ah) Yf a7Z 87 fC (by decide) amd
theorem ame(x:Yg.X):bJ a0A [(2,(ZX 7 a1j))] (denF a0A 8) abT (Yg.mkS 87 x) (aL 0 Yg a81)=iF x:=by kernel_rfl
theorem amf:bF Tryz.prog 0 (.loop abT) a88:=aC a0B 8 (aU (by kernel_rfl) (aB (Pm 7 abU) (by kernel_rfl) fz)) Yg a81 87 iF (by decide) ame
theorem amg:aY Tryz.prog 84 Tryz.f84 [(2,(ZX 7 a1j)),(0,a88)]:=⟨Tryz.func84,Tryz.call84,aU (by kernel_rfl) (aB (Pm 7 abU) (by kernel_rfl) (aB amf (by kernel_rfl) fz))⟩
theorem apK(s):bodyK a0A [(2,(ZX 7 a1j)),(0,a88)] (denF a0A 8) Tryz.f84 (domV [.str] (s,())) [] 0 (bT [(.sl (.sl tN)),tI])=I5 s:=by kernel_rfl
theorem agq:aD Tryz.prog 84 amc:=aN a0B 8 amg false [.str] [(.sl (.sl tN)),tI] _ (by decide) (fun x=>by rw[Om]; exact apK x.1)
end Go.Proofs.YtidodcilgldjoaaGreat
