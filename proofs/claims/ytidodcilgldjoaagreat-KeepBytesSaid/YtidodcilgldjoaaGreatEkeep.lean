/-
  The functions of a package are the plain ones.
-/
import Derived.Test.YtidodcilgldjoaaGreatEqA
import Derived.Test.YtidodcilgldjoaaGreatDenM
import Derived.Test.YtidodcilgldjoaaGreatDenF
import Derived.Test.YtidodcilgldjoaaGreatPkeep
import Derived.Test.YtidodcilgldjoaaGreatEmatrix
import Derived.Test.YtidodcilgldjoaaGreatEsha
import Derived.Test.YtidodcilgldjoaaGreatEstrings
set_option linter.unusedVariables false
set_option linter.unusedSimpArgs false
set_option maxRecDepth 100000
set_option maxHeartbeats 0
namespace Go.Pl
end Go.Pl
open Go Go.Den Go.Pl
namespace Go.Proofs.YtidodcilgldjoaaGreat
abbrev a2s:Shape:= { sl:=[(pc 0 (.pair .str .bool) 0),(1,(.v .bool))],ob:=[(pv 0 (.pair .str .bool))],lo:=1,nx:=1 }
abbrev afj:List Shape:=[{ sl:=[(0,(.v .bool))],ob:=[(pv 0 (.pair .str .bool))],lo:=1,nx:=1 }]
noncomputable def a2t:Con:=nM a2s afj fun x=>bS x.1.2.1 x.2.1
noncomputable def afk:Cx:= { ti:=ti,con:=[],fns:=[],un:=6 }
theorem afl:ay Tryz.prog afk:=ay.of mixed aK fz fz
theorem akR:aY Tryz.prog 37 Tryz.f37 []:=⟨Tryz.func37,Tryz.call37,ah⟩
theorem apf(is_)(r):bodyK afk [] (denF afk 8) Tryz.f37 ((bY a2s.sl (show a2s.X from(((),(is_,())),(r,()))).1).map .v) (mK a2s (((),(is_,())),(r,()))) a2s.nx (iy 1 afj)=kg is_ r:=by kernel_rfl
theorem QY:aD Tryz.prog 37 a2t:=cO afl 8 akR 1 a2s afj _ (by decide) (fun x=>by rw[tH]; exact apf x.1.2.1 x.2.1)
abbrev a2u:Shape:= { sl:=[(pc 0 (.pair .str .bool) 0),(pv 1 tI)],ob:=[(pv 0 (.pair .str .bool))],lo:=1,nx:=1 }
abbrev afm:List Shape:=[{ sl:=[(0,(.v .str))],ob:=[(pv 0 (.pair .str .bool))],lo:=1,nx:=1 }]
noncomputable def afn:Con:=nM a2u afm fun x=>jE x.1.2.1 x.2.1
noncomputable def afo:Cx:= { ti:=ti,con:=[(37,a2t)],fns:=[],un:=6 }
theorem afp:ay Tryz.prog afo:=ay.of mixed aK (fc ⟨QY,fz⟩) fz
theorem akS:aY Tryz.prog 78 Tryz.f78 []:=⟨Tryz.func78,Tryz.call78,ah⟩
theorem apg(n)(r):bodyK afo [] (denF afo 8) Tryz.f78 ((bY a2u.sl (show a2u.X from(((),(n,())),(r,()))).1).map .v) (mK a2u (((),(n,())),(r,()))) a2u.nx (iy 1 afm)=iW n r:=by kernel_rfl
theorem a6D:aD Tryz.prog 78 afn:=cO afp 8 akS 1 a2u afm _ (by decide) (fun x=>by rw[nY]; exact apg x.1.2.1 x.2.1)
abbrev XI:Shape:= { sl:=[(pc 0 (.pair .str .bool) 0),(pv 5 tI),(11,(.w 5 (.int .u8) 2)),(pv 12 tI),(pv 13 tI)],ob:=[(pv 0 (.pair .str .bool))],lo:=2,nx:=3 }
abbrev a6E:List Ex:=[(.normal, { sl:=[(pc 0 (.pair .str .bool) 0),(pv 5 tI)],ob:=[(pv 0 (.pair .str .bool))],lo:=3,nx:=3 })]
noncomputable def abx:Code:=aQ (aO Tryz.f32) 0
noncomputable def a6F:Lp:=cB XI a6E 24 cK
abbrev a2v:Shape:= { sl:=[(pc 0 (.pair .str .bool) 0),(pv 1 tI)],ob:=[(pv 0 (.pair .str .bool))],lo:=1,nx:=1 }
abbrev afq:List Shape:=[{ sl:=[(pv 0 tI)],ob:=[(pv 0 (.pair .str .bool))],lo:=3,nx:=3 }]
noncomputable def QZ:Con:=nM a2v afq fun x=>aF x.1.2.1 x.2.1
noncomputable def a6G:Cx:= { ti:=ti,con:=[(78,afn)],fns:=[],un:=6 }
theorem a6H:ay Tryz.prog a6G:=ay.of mixed aK (fc ⟨a6D,fz⟩) fz
theorem akT(x:XI.X):bJ a6G [] (denF a6G 8) abx (XI.mkS 24 x) (aL 0 XI a6E)=cK x:=by kernel_rfl
theorem akU:bF Tryz.prog 0 (.loop abx) a6F:=aC a6H 8 (ah) XI a6E 24 cK (by decide) akT
theorem akV:aY Tryz.prog 32 Tryz.f32 [(0,a6F)]:=⟨Tryz.func32,Tryz.call32,aU (by kernel_rfl) (aB akU (by kernel_rfl) fz)⟩
theorem aph(bytes)(r):bodyK a6G [(0,a6F)] (denF a6G 8) Tryz.f32 ((bY a2v.sl (show a2v.X from(((),(bytes,())),(r,()))).1).map .v) (mK a2v (((),(bytes,())),(r,()))) a2v.nx (iy 1 afq)=mQ bytes r:=by kernel_rfl
theorem BI:aD Tryz.prog 32 QZ:=cO a6H 8 akV 1 a2v afq _ (by decide) (fun x=>by rw[wK]; exact aph x.1.2.1 x.2.1)
abbrev a2w:Shape:= { sl:=[(pc 0 (.pair .str .bool) 0)],ob:=[(pv 0 (.pair .str .bool))],lo:=1,nx:=1 }
abbrev afr:List Shape:=[{ sl:=[(0,(.v .str))],ob:=[(pv 0 (.pair .str .bool))],lo:=3,nx:=3 }]
noncomputable def a0k:Con:=nM a2w afr fun x=>dW x.2.1
noncomputable def afs:Cx:= { ti:=ti,con:=[(32,QZ),(78,afn)],fns:=[],un:=6 }
theorem aft:ay Tryz.prog afs:=ay.of mixed aK (fc ⟨BI,fc ⟨a6D,fz⟩⟩) fz
theorem akW:aY Tryz.prog 79 Tryz.f79 []:=⟨Tryz.func79,Tryz.call79,ah⟩
theorem apj(r):bodyK afs [] (denF afs 8) Tryz.f79 ((bY a2w.sl (show a2w.X from(((),()),(r,()))).1).map .v) (mK a2w (((),()),(r,()))) a2w.nx (iy 1 afr)=lC r:=by kernel_rfl
theorem MV:aD Tryz.prog 79 a0k:=cO aft 8 akW 1 a2w afr _ (by decide) (fun x=>by rw[uP]; exact apj x.2.1)
abbrev a2x:Shape:= { sl:=[(pc 0 (.pair .str .bool) 0)],ob:=[(pv 0 (.pair .str .bool))],lo:=1,nx:=1 }
abbrev afu:List Shape:=[{ sl:=[(pv 0 (.pair tI tI))],ob:=[(pv 0 (.pair .str .bool))],lo:=6,nx:=6 }]
noncomputable def a6I:Con:=nM a2x afu fun x=>iX x.2.1
noncomputable def afv:Cx:= { ti:=ti,con:=[(32,QZ)],fns:=[],un:=6 }
theorem afw:ay Tryz.prog afv:=ay.of mixed aK (fc ⟨BI,fz⟩) fz
theorem akX:aY Tryz.prog 129 Tryz.f129 []:=⟨Tryz.func129,Tryz.call129,ah⟩
theorem apk(r):bodyK afv [] (denF afv 8) Tryz.f129 ((bY a2x.sl (show a2x.X from(((),()),(r,()))).1).map .v) (mK a2x (((),()),(r,()))) a2x.nx (iy 1 afu)=ko r:=by kernel_rfl
theorem Vf:aD Tryz.prog 129 a6I:=cO afw 8 akX 1 a2x afu _ (by decide) (fun x=>by rw[tJ]; exact apk x.2.1)
abbrev G5:Shape:= { sl:=[(pc 0 (.pair .str .bool) 0),(2,(.c ⟨.fn,(.mk 131 [((.ptr (.pair .str .bool)),1,[]),(tG,10,[])])⟩)),(pv 8 tI),(pv 9 tI)],ob:=[(pv 0 (.pair .str .bool)),(pc 1 (.pair .str .bool) 0),(2,(.p (.v (.pair tI tI)) (.p (.v .str) (.p (.sz (.sl tN)) (.p (.w 42 tN 15) (.v tI)))))),(10,(.p (.v (.pair tI tI)) (.p (.v .str) (.p (.sz (.sl tN)) (.p (.w 42 tN 16) (.v tI))))))],lo:=15,nx:=17 }
abbrev R3:List Ex:=[(.ret, { sl:=[],ob:=[(pv 0 (.pair .str .bool)),(pc 1 (.pair .str .bool) 0),(2,(.p (.v (.pair tI tI)) (.p (.v .str) (.p (.sz (.sl tN)) (.p (.w 42 tN 17) (.v tI)))))),(10,(.p (.v (.pair tI tI)) (.p (.v .str) (.p (.sz (.sl tN)) (.p (.w 42 tN 18) (.v tI))))))],lo:=17,nx:=19 }),(.normal, { sl:=[],ob:=[(pv 0 (.pair .str .bool)),(pc 1 (.pair .str .bool) 0),(2,(.p (.v (.pair tI tI)) (.p (.v .str) (.p (.sz (.sl tN)) (.p (.w 42 tN 17) (.v tI)))))),(10,(.p (.v (.pair tI tI)) (.p (.v .str) (.p (.sz (.sl tN)) (.p (.w 42 tN 18) (.v tI))))))],lo:=17,nx:=19 })]
noncomputable def XJ:Code:=aQ (aO Tryz.f33) 0
noncomputable def XK:Lp:=cB G5 R3 18 aS
abbrev a2y:Shape:= { sl:=[(pc 0 (.pair .str .bool) 0)],ob:=[(pv 0 (.pair .str .bool))],lo:=1,nx:=1 }
abbrev afx:List Shape:=[{ sl:=[(0,(.p (.v (.pair tI tI)) (.p (.v .str) (.p (.sz (.sl tN)) (.p (.sz tN) (.v tI))))))],ob:=[(pv 0 (.pair .str .bool))],lo:=21,nx:=21 }]
noncomputable def afy:Con:=nM a2y afx fun x=>eT x.2.1
noncomputable def afz:Cx:= { ti:=ti,con:=[(129,a6I),(79,a0k),(130,af9),(37,a2t),(32,QZ),(132,aa6)],fns:=[(33,Tryz.f33,[(0,(WX 10 [.R,.R,.R,.L] XK))]),(131,Tryz.f131,[])],un:=6 }
noncomputable def jP:Cx:= { ti:=ti,con:=[(129,a6I),(79,a0k),(130,af9),(37,a2t),(32,QZ),(132,aa6)],fns:=[(131,Tryz.f131,[])],un:=6 }
theorem yQ:ay Tryz.prog jP:=ay.of mixed aK (fc ⟨Vf,fc ⟨MV,fc ⟨a6z,fc ⟨QY,fc ⟨BI,fc ⟨a03,fz⟩⟩⟩⟩⟩⟩) (fc ⟨⟨Tryz.func131,Tryz.call131,ah⟩,fz⟩)
theorem a6J(x:G5.X):bJ jP [] (denF jP 8) XJ (G5.mkS 18 x) (aL 0 G5 R3)=aS x:=by kernel_rfl
theorem a6K:bF Tryz.prog 0 (.loop XJ) XK:=aC yQ 8 (ah) G5 R3 18 aS (by decide) a6J
theorem afA:ay Tryz.prog afz:=ay.of mixed aK (fc ⟨Vf,fc ⟨MV,fc ⟨a6z,fc ⟨QY,fc ⟨BI,fc ⟨a03,fz⟩⟩⟩⟩⟩⟩) (fc ⟨⟨Tryz.func33,Tryz.call33,aU (by kernel_rfl) (aB (Ky 10 [.R,.R,.R,.L] a6K) (by kernel_rfl) fz)⟩,fc ⟨⟨Tryz.func131,Tryz.call131,ah⟩,fz⟩⟩)
theorem akY:aY Tryz.prog 80 Tryz.f80 []:=⟨Tryz.func80,Tryz.call80,ah⟩
theorem apl(r):bodyK afz [] (denF afz 8) Tryz.f80 ((bY a2y.sl (show a2y.X from(((),()),(r,()))).1).map .v) (mK a2y (((),()),(r,()))) a2y.nx (iy 1 afx)=kr r:=by kernel_rfl
theorem a6L:aD Tryz.prog 80 afy:=cO afA 8 akY 1 a2y afx _ (by decide) (fun x=>by rw[tK]; exact apl x.2.1)
abbrev G6:Shape:= { sl:=[(pc 0 (.pair .str .bool) 0),(2,(.c ⟨.fn,(.mk 133 [((.sl tV),2,[]),((.ptr (.pair .str .bool)),1,[])])⟩)),(pv 8 tI),(pv 9 tI)],ob:=[(pv 0 (.pair .str .bool)),(pc 1 (.pair .str .bool) 0),(2,(.w 74 tV 5))],lo:=5,nx:=6 }
abbrev R4:List Ex:=[(.ret, { sl:=[],ob:=[(pv 0 (.pair .str .bool)),(pc 1 (.pair .str .bool) 0),(2,(.w 74 tV 6))],lo:=6,nx:=7 }),(.normal, { sl:=[],ob:=[(pv 0 (.pair .str .bool)),(pc 1 (.pair .str .bool) 0),(2,(.w 74 tV 6))],lo:=6,nx:=7 })]
noncomputable def XL:Code:=aQ (aO Tryz.f33) 0
noncomputable def XM:Lp:=cB G6 R4 18 aW
abbrev a2z:Shape:= { sl:=[(pc 0 (.pair .str .bool) 0)],ob:=[(pv 0 (.pair .str .bool))],lo:=1,nx:=1 }
abbrev afB:List Shape:=[{ sl:=[(0,(.sz tV))],ob:=[(pv 0 (.pair .str .bool))],lo:=7,nx:=7 }]
noncomputable def afC:Con:=nM a2z afB fun x=>iY x.2.1
noncomputable def afD:Cx:= { ti:=ti,con:=[(32,QZ),(129,a6I),(79,a0k)],fns:=[(33,Tryz.f33,[(0,XM)]),(133,Tryz.f133,[])],un:=6 }
noncomputable def jQ:Cx:= { ti:=ti,con:=[(32,QZ),(129,a6I),(79,a0k)],fns:=[(133,Tryz.f133,[])],un:=6 }
theorem yR:ay Tryz.prog jQ:=ay.of mixed aK (fc ⟨BI,fc ⟨Vf,fc ⟨MV,fz⟩⟩⟩) (fc ⟨⟨Tryz.func133,Tryz.call133,ah⟩,fz⟩)
theorem a6M(x:G6.X):bJ jQ [] (denF jQ 8) XL (G6.mkS 18 x) (aL 0 G6 R4)=aW x:=by kernel_rfl
theorem a6N:bF Tryz.prog 0 (.loop XL) XM:=aC yR 8 (ah) G6 R4 18 aW (by decide) a6M
theorem afE:ay Tryz.prog afD:=ay.of mixed aK (fc ⟨BI,fc ⟨Vf,fc ⟨MV,fz⟩⟩⟩) (fc ⟨⟨Tryz.func33,Tryz.call33,aU (by kernel_rfl) (aB a6N (by kernel_rfl) fz)⟩,fc ⟨⟨Tryz.func133,Tryz.call133,ah⟩,fz⟩⟩)
theorem akZ:aY Tryz.prog 81 Tryz.f81 []:=⟨Tryz.func81,Tryz.call81,ah⟩
theorem apm(r):bodyK afD [] (denF afD 8) Tryz.f81 ((bY a2z.sl (show a2z.X from(((),()),(r,()))).1).map .v) (mK a2z (((),()),(r,()))) a2z.nx (iy 1 afB)=ku r:=by kernel_rfl
theorem a6O:aD Tryz.prog 81 afC:=cO afE 8 akZ 1 a2z afB _ (by decide) (fun x=>by rw[tL]; exact apm x.2.1)
abbrev G7:Shape:= { sl:=[(pc 0 (.pair .str .bool) 0),(2,(.c ⟨.fn,(.mk 82 [(tR,37,[]),((.ptr (.pair .str .bool)),1,[])])⟩)),(pv 8 tI),(pv 9 tI)],ob:=[(pv 0 (.pair .str .bool)),(pc 1 (.pair .str .bool) 0),(2,(.p (.v .str) (.p (.p (.v (.pair tI tI)) (.p (.v .str) (.p (.sz (.sl tN)) (.p (.sz tN) (.v tI))))) (.p (.sz tV) (.p (.sz tV) (.w 76 tT 40)))))),(37,(.p (.v .str) (.p (.p (.v (.pair tI tI)) (.p (.v .str) (.p (.sz (.sl tN)) (.p (.sz tN) (.v tI))))) (.p (.sz tV) (.p (.sz tV) (.w 76 tT 41))))))],lo:=40,nx:=42 }
abbrev R5:List Ex:=[(.ret, { sl:=[],ob:=[(pv 0 (.pair .str .bool)),(pc 1 (.pair .str .bool) 0),(2,(.p (.v .str) (.p (.p (.v (.pair tI tI)) (.p (.v .str) (.p (.sz (.sl tN)) (.p (.sz tN) (.v tI))))) (.p (.sz tV) (.p (.sz tV) (.w 76 tT 42)))))),(37,(.p (.v .str) (.p (.p (.v (.pair tI tI)) (.p (.v .str) (.p (.sz (.sl tN)) (.p (.sz tN) (.v tI))))) (.p (.sz tV) (.p (.sz tV) (.w 76 tT 43))))))],lo:=42,nx:=44 }),(.normal, { sl:=[],ob:=[(pv 0 (.pair .str .bool)),(pc 1 (.pair .str .bool) 0),(2,(.p (.v .str) (.p (.p (.v (.pair tI tI)) (.p (.v .str) (.p (.sz (.sl tN)) (.p (.sz tN) (.v tI))))) (.p (.sz tV) (.p (.sz tV) (.w 76 tT 42)))))),(37,(.p (.v .str) (.p (.p (.v (.pair tI tI)) (.p (.v .str) (.p (.sz (.sl tN)) (.p (.sz tN) (.v tI))))) (.p (.sz tV) (.p (.sz tV) (.w 76 tT 43))))))],lo:=42,nx:=44 })]
noncomputable def XO:Code:=aQ (aO Tryz.f33) 0
noncomputable def XP:Lp:=cB G7 R5 18 bf
abbrev a2A:Shape:= { sl:=[(pc 0 (.pair .str .bool) 0)],ob:=[(pv 0 (.pair .str .bool))],lo:=1,nx:=1 }
abbrev afF:List Shape:=[{ sl:=[(0,(.p (.v .str) (.p (.p (.v (.pair tI tI)) (.p (.v .str) (.p (.sz (.sl tN)) (.p (.sz tN) (.v tI))))) (.p (.sz tV) (.p (.sz tV) (.sz tT))))))],ob:=[(pv 0 (.pair .str .bool))],lo:=44,nx:=44 }]
noncomputable def afG:Con:=nM a2A afF fun x=>kC x.2.1
noncomputable def afH:Cx:= { ti:=ti,con:=[(79,a0k),(80,afy),(81,afC),(32,QZ)],fns:=[(33,Tryz.f33,[(0,(WX 37 [.R,.R,.R,.R] XP))]),(82,Tryz.f82,[])],un:=6 }
noncomputable def jH:Cx:= { ti:=ti,con:=[(79,a0k),(80,afy),(81,afC),(32,QZ)],fns:=[(82,Tryz.f82,[])],un:=6 }
theorem xK:ay Tryz.prog jH:=ay.of mixed aK (fc ⟨MV,fc ⟨a6L,fc ⟨a6O,fc ⟨BI,fz⟩⟩⟩⟩) (fc ⟨⟨Tryz.func82,Tryz.call82,ah⟩,fz⟩)
theorem a6P(x:G7.X):bJ jH [] (denF jH 8) XO (G7.mkS 18 x) (aL 0 G7 R5)=bf x:=by kernel_rfl
theorem a6Q:bF Tryz.prog 0 (.loop XO) XP:=aC xK 8 (ah) G7 R5 18 bf (by decide) a6P
theorem afI:ay Tryz.prog afH:=ay.of mixed aK (fc ⟨MV,fc ⟨a6L,fc ⟨a6O,fc ⟨BI,fz⟩⟩⟩⟩) (fc ⟨⟨Tryz.func33,Tryz.call33,aU (by kernel_rfl) (aB (Ky 37 [.R,.R,.R,.R] a6Q) (by kernel_rfl) fz)⟩,fc ⟨⟨Tryz.func82,Tryz.call82,ah⟩,fz⟩⟩)
theorem al0:aY Tryz.prog 36 Tryz.f36 []:=⟨Tryz.func36,Tryz.call36,ah⟩
theorem apn(r):bodyK afH [] (denF afH 8) Tryz.f36 ((bY a2A.sl (show a2A.X from(((),()),(r,()))).1).map .v) (mK a2A (((),()),(r,()))) a2A.nx (iy 1 afF)=jM r:=by kernel_rfl
theorem a6R:aD Tryz.prog 36 afG:=cO afI 8 al0 1 a2A afF _ (by decide) (fun x=>by rw[rY]; exact apn x.2.1)
abbrev CO:Shape:= { sl:=[(pc 0 (.pair .str .bool) 1),(2,(.c ⟨.fn,(.mk 34 [(tM,9,[]),((.ptr (.pair .str .bool)),2,[])])⟩)),(pv 8 tI),(pv 9 tI)],ob:=[(0,(.p (.v tI) (.p (.v tI) (.p (.v tI) (.p (.c ⟨(.sl tI),.nil⟩) (.c ⟨(.sl tR),.nil⟩)))))),(pv 1 (.pair .str .bool)),(pc 2 (.pair .str .bool) 1),(9,(.p (.v tI) (.p (.v tI) (.p (.v tI) (.p (.w 3 tI 12) (.c ⟨(.sl tR),.nil⟩))))))],lo:=12,nx:=13 }
abbrev R6:List Ex:=[(.ret, { sl:=[],ob:=[(0,(.p (.v tI) (.p (.v tI) (.p (.v tI) (.p (.c ⟨(.sl tI),.nil⟩) (.c ⟨(.sl tR),.nil⟩)))))),(pv 1 (.pair .str .bool)),(pc 2 (.pair .str .bool) 1),(9,(.p (.v tI) (.p (.v tI) (.p (.v tI) (.p (.w 3 tI 13) (.c ⟨(.sl tR),.nil⟩))))))],lo:=13,nx:=14 }),(.normal, { sl:=[],ob:=[(0,(.p (.v tI) (.p (.v tI) (.p (.v tI) (.p (.c ⟨(.sl tI),.nil⟩) (.c ⟨(.sl tR),.nil⟩)))))),(pv 1 (.pair .str .bool)),(pc 2 (.pair .str .bool) 1),(9,(.p (.v tI) (.p (.v tI) (.p (.v tI) (.p (.w 3 tI 13) (.c ⟨(.sl tR),.nil⟩))))))],lo:=13,nx:=14 })]
noncomputable def XQ:Code:=aQ (aO Tryz.f33) 0
noncomputable def XR:Lp:=cB CO R6 18 dH
abbrev wM:Shape:= { sl:=[(pc 0 (.pair .str .bool) 1),(2,(.c ⟨.fn,(.mk 35 [(tM,9,[]),((.ptr (.pair .str .bool)),2,[])])⟩)),(pv 8 tI),(pv 9 tI)],ob:=[(0,(.p (.v tI) (.p (.v tI) (.p (.v tI) (.p (.sz tI) (.sz tR)))))),(pv 1 (.pair .str .bool)),(pc 2 (.pair .str .bool) 1),(9,(.p (.v tI) (.p (.v tI) (.p (.v tI) (.p (.w 3 tI 16) (.w 71 tR 17))))))],lo:=16,nx:=18 }
abbrev G8:List Ex:=[(.ret, { sl:=[],ob:=[(0,(.p (.v tI) (.p (.v tI) (.p (.v tI) (.p (.sz tI) (.sz tR)))))),(pv 1 (.pair .str .bool)),(pc 2 (.pair .str .bool) 1),(9,(.p (.v tI) (.p (.v tI) (.p (.v tI) (.p (.w 3 tI 18) (.w 71 tR 19))))))],lo:=18,nx:=20 }),(.normal, { sl:=[],ob:=[(0,(.p (.v tI) (.p (.v tI) (.p (.v tI) (.p (.sz tI) (.sz tR)))))),(pv 1 (.pair .str .bool)),(pc 2 (.pair .str .bool) 1),(9,(.p (.v tI) (.p (.v tI) (.p (.v tI) (.p (.w 3 tI 18) (.w 71 tR 19))))))],lo:=18,nx:=20 })]
noncomputable def Oc:Code:=aQ (aO Tryz.f33) 0
noncomputable def Od:Lp:=cB wM G8 18 bH
noncomputable def afJ:Con:=bG false [.str] [tM,tI] fun x=>qc x.1
noncomputable def afK:Cx:= { ti:=ti,con:=[(32,QZ),(36,afG),(37,a2t)],fns:=[(33,Tryz.f33,[(0,(acU CO XR Od))]),(34,Tryz.f34,[]),(35,Tryz.f35,[])],un:=6 }
noncomputable def nR:Cx:= { ti:=ti,con:=[(32,QZ),(36,afG),(37,a2t)],fns:=[(34,Tryz.f34,[]),(35,Tryz.f35,[])],un:=6 }
theorem Bb:ay Tryz.prog nR:=ay.of mixed aK (fc ⟨BI,fc ⟨a6R,fc ⟨QY,fz⟩⟩⟩) (fc ⟨⟨Tryz.func34,Tryz.call34,ah⟩,fc ⟨⟨Tryz.func35,Tryz.call35,ah⟩,fz⟩⟩)
theorem a6S(x:CO.X):bJ nR [] (denF nR 8) XQ (CO.mkS 18 x) (aL 0 CO R6)=dH x:=by kernel_rfl
theorem a6T:bF Tryz.prog 0 (.loop XQ) XR:=aC Bb 8 (ah) CO R6 18 dH (by decide) a6S
theorem XT(x:wM.X):bJ nR [] (denF nR 8) Oc (wM.mkS 18 x) (aL 0 wM G8)=bH x:=by kernel_rfl
theorem XU:bF Tryz.prog 0 (.loop Oc) Od:=aC Bb 8 (ah) wM G8 18 bH (by decide) XT
theorem afL:ay Tryz.prog afK:=ay.of mixed aK (fc ⟨BI,fc ⟨a6R,fc ⟨QY,fz⟩⟩⟩) (fc ⟨⟨Tryz.func33,Tryz.call33,aU (by kernel_rfl) (aB (aa5 a6T XU) (by kernel_rfl) fz)⟩,fc ⟨⟨Tryz.func34,Tryz.call34,ah⟩,fc ⟨⟨Tryz.func35,Tryz.call35,ah⟩,fz⟩⟩⟩)
theorem al1:aY Tryz.prog 10 Tryz.f10 []:=⟨Tryz.func10,Tryz.call10,ah⟩
theorem apo(s):bodyK afK [] (denF afK 8) Tryz.f10 (domV [.str] (s,())) [] 0 (bT [tM,tI])=DU s:=by kernel_rfl
theorem a6U:aD Tryz.prog 10 afJ:=aN afL 8 al1 false [.str] [tM,tI] _ (by decide) (fun x=>by rw[Lb]; exact apo x.1)
noncomputable def afM:Con:=bG false [.str] [tM,tI] fun x=>nT x.1
noncomputable def afN:Cx:= { ti:=ti,con:=[(42,aad),(10,afJ)],fns:=[],un:=6 }
theorem afO:ay Tryz.prog afN:=ay.of mixed aK (fc ⟨a0f,fc ⟨a6U,fz⟩⟩) fz
theorem al2:aY Tryz.prog 13 Tryz.f13 []:=⟨Tryz.func13,Tryz.call13,ah⟩
theorem apq(s):bodyK afN [] (denF afN 8) Tryz.f13 (domV [.str] (s,())) [] 0 (bT [tM,tI])=zM s:=by kernel_rfl
theorem a6V:aD Tryz.prog 13 afM:=aN afO 8 al2 false [.str] [tM,tI] _ (by decide) (fun x=>by rw[DV]; exact apq x.1)
abbrev XV:Shape:= { sl:=[(pc 0 (.pair (.pair (.sp 82) (.sl (.int .u8))) .bool) 0),(pv 1 tI),(pv 6 tI)],ob:=[(0,(.p (.p (.v (.sp 82)) (.w 5 (.int .u8) 2)) (.v .bool)))],lo:=2,nx:=3 }
abbrev a6W:List Ex:=[(.normal, { sl:=[(pc 0 (.pair (.pair (.sp 82) (.sl (.int .u8))) .bool) 0)],ob:=[(0,(.p (.p (.v (.sp 82)) (.w 5 (.int .u8) 3)) (.v .bool)))],lo:=3,nx:=4 })]
noncomputable def aby:Code:=aQ (aO Tryz.f25) 0
noncomputable def a6X:Lp:=cB XV a6W 40 bA
abbrev a2B:Shape:= { sl:=[(pc 0 (.pair (.pair (.sp 82) (.sl (.int .u8))) .bool) 0),(pv 1 tI),(pv 2 tI)],ob:=[(0,(.p (.p (.v (.sp 82)) (.w 5 (.int .u8) 1)) (.v .bool)))],lo:=1,nx:=2 }
abbrev afP:List Shape:=[{ sl:=[],ob:=[(0,(.p (.p (.v (.sp 82)) (.w 5 (.int .u8) 4)) (.v .bool)))],lo:=4,nx:=5 }]
noncomputable def a0l:Con:=nM a2B afP fun x=>aI x.1.2.1 x.1.2.2.1 x.2.1.1.1 x.2.1.1.2.1 x.2.1.1.2.2 x.2.1.2
noncomputable def a6Y:Cx:= { ti:=ti,con:=[(72,akN)],fns:=[],un:=6 }
theorem a6Z:ay Tryz.prog a6Y:=ay.of mixed aK (fc ⟨afe,fz⟩) fz
theorem al3(x:XV.X):bJ a6Y [] (denF a6Y 8) aby (XV.mkS 40 x) (aL 0 XV a6W)=bA x:=by kernel_rfl
theorem al4:bF Tryz.prog 0 (.loop aby) a6X:=aC a6Z 8 (ah) XV a6W 40 bA (by decide) al3
theorem al5:aY Tryz.prog 25 Tryz.f25 [(0,a6X)]:=⟨Tryz.func25,Tryz.call25,aU (by kernel_rfl) (aB al4 (by kernel_rfl) fz)⟩
theorem apr(n)(bytes)(w)(nw)(w1)(w2):bodyK a6Y [(0,a6X)] (denF a6Y 8) Tryz.f25 ((bY a2B.sl (show a2B.X from(((),(n,(bytes,()))),(((w,(nw,w1)),w2),()))).1).map .v) (mK a2B (((),(n,(bytes,()))),(((w,(nw,w1)),w2),()))) a2B.nx (iy 0 afP)=mR n bytes w nw w1 w2:=by kernel_rfl
theorem MW:aD Tryz.prog 25 a0l:=cO a6Z 8 al5 0 a2B afP _ (by decide) (fun x=>by rw[wL]; exact apr x.1.2.1 x.1.2.2.1 x.2.1.1.1 x.2.1.1.2.1 x.2.1.1.2.2 x.2.1.2)
abbrev a2C:Shape:= { sl:=[(pc 0 (.pair (.pair (.sp 82) (.sl (.int .u8))) .bool) 0),(1,(.v .str))],ob:=[(0,(.p (.p (.v (.sp 82)) (.w 5 (.int .u8) 1)) (.v .bool)))],lo:=1,nx:=2 }
abbrev afQ:List Shape:=[{ sl:=[],ob:=[(0,(.p (.p (.v (.sp 82)) (.w 5 (.int .u8) 9)) (.v .bool)))],lo:=9,nx:=10 }]
noncomputable def aae:Con:=nM a2C afQ fun x=>bg x.1.2.1 x.2.1.1.1 x.2.1.1.2.1 x.2.1.1.2.2 x.2.1.2
noncomputable def afR:Cx:= { ti:=ti,con:=[(25,a0l),(123,akP)],fns:=[],un:=6 }
theorem afS:ay Tryz.prog afR:=ay.of mixed aK (fc ⟨MW,fc ⟨afi,fz⟩⟩) fz
theorem al6:aY Tryz.prog 73 Tryz.f73 []:=⟨Tryz.func73,Tryz.call73,ah⟩
theorem aps(s)(w)(nw)(w1)(w2):bodyK afR [] (denF afR 8) Tryz.f73 ((bY a2C.sl (show a2C.X from(((),(s,())),(((w,(nw,w1)),w2),()))).1).map .v) (mK a2C (((),(s,())),(((w,(nw,w1)),w2),()))) a2C.nx (iy 0 afQ)=lD s w nw w1 w2:=by kernel_rfl
theorem a0m:aD Tryz.prog 73 aae:=cO afS 8 al6 0 a2C afQ _ (by decide) (fun x=>by rw[uR]; exact aps x.1.2.1 x.2.1.1.1 x.2.1.1.2.1 x.2.1.1.2.2 x.2.1.2)
abbrev a2D:Shape:= { sl:=[(pc 0 (.pair (.pair (.sp 82) (.sl (.int .u8))) .bool) 0),(pv 1 (.pair tI tI))],ob:=[(0,(.p (.p (.v (.sp 82)) (.w 5 (.int .u8) 1)) (.v .bool)))],lo:=1,nx:=2 }
abbrev afT:List Shape:=[{ sl:=[],ob:=[(0,(.p (.p (.v (.sp 82)) (.w 5 (.int .u8) 11)) (.v .bool)))],lo:=11,nx:=12 }]
noncomputable def afU:Con:=nM a2D afT fun x=>dI x.1.2.1 x.2.1.1.1 x.2.1.1.2.1 x.2.1.1.2.2 x.2.1.2
noncomputable def afV:Cx:= { ti:=ti,con:=[(25,a0l)],fns:=[],un:=6 }
theorem afW:ay Tryz.prog afV:=ay.of mixed aK (fc ⟨MW,fz⟩) fz
theorem al7:aY Tryz.prog 125 Tryz.f125 []:=⟨Tryz.func125,Tryz.call125,ah⟩
theorem apt(s)(w)(nw)(w1)(w2):bodyK afV [] (denF afV 8) Tryz.f125 ((bY a2D.sl (show a2D.X from(((),(s,())),(((w,(nw,w1)),w2),()))).1).map .v) (mK a2D (((),(s,())),(((w,(nw,w1)),w2),()))) a2D.nx (iy 0 afT)=kD s w nw w1 w2:=by kernel_rfl
theorem a7a:aD Tryz.prog 125 afU:=cO afW 8 al7 0 a2D afT _ (by decide) (fun x=>by rw[tO]; exact apt x.1.2.1 x.2.1.1.1 x.2.1.1.2.1 x.2.1.1.2.2 x.2.1.2)
abbrev XW:Shape:= { sl:=[(pc 0 (.pair (.pair (.sp 82) (.sl (.int .u8))) .bool) 0),(pc 3 tG 2),(44,(.sz tN)),(pv 45 tI),(pv 46 tI)],ob:=[(0,(.p (.p (.v (.sp 82)) (.w 5 (.int .u8) 36)) (.v .bool))),(2,(.p (.v (.pair tI tI)) (.p (.v .str) (.p (.sz (.sl tN)) (.p (.sz tN) (.v tI))))))],lo:=36,nx:=37 }
abbrev a7b:List Ex:=[(.normal, { sl:=[(pc 0 (.pair (.pair (.sp 82) (.sl (.int .u8))) .bool) 0),(pc 3 tG 2)],ob:=[(0,(.p (.p (.v (.sp 82)) (.w 5 (.int .u8) 37)) (.v .bool))),(2,(.p (.v (.pair tI tI)) (.p (.v .str) (.p (.sz (.sl tN)) (.p (.sz tN) (.v tI))))))],lo:=37,nx:=38 })]
noncomputable def abz:Code:=aQ (aO Tryz.f74) 0
noncomputable def a7c:Lp:=cB XW a7b 59 aZ
abbrev a2E:Shape:= { sl:=[(pc 0 (.pair (.pair (.sp 82) (.sl (.int .u8))) .bool) 0),(1,(.p (.v (.pair tI tI)) (.p (.v .str) (.p (.sz (.sl tN)) (.p (.sz tN) (.v tI))))))],ob:=[(0,(.p (.p (.v (.sp 82)) (.w 5 (.int .u8) 1)) (.v .bool)))],lo:=1,nx:=2 }
abbrev afX:List Shape:=[{ sl:=[],ob:=[(0,(.p (.p (.v (.sp 82)) (.w 5 (.int .u8) 42)) (.v .bool)))],lo:=42,nx:=43 }]
noncomputable def al8:Con:=nM a2E afX fun x=>dJ x.1.2.1.1 x.1.2.1.2.1 x.1.2.1.2.2.1.1 x.1.2.1.2.2.1.2 x.1.2.1.2.2.2.1.1 x.1.2.1.2.2.2.1.2 x.1.2.1.2.2.2.2 x.2.1.1.1 x.2.1.1.2.1 x.2.1.1.2.2 x.2.1.2
noncomputable def a7d:Cx:= { ti:=ti,con:=[(124,akI),(125,afU),(73,aae),(25,a0l),(126,ady)],fns:=[],un:=6 }
theorem a7e:ay Tryz.prog a7d:=ay.of mixed aK (fc ⟨afa,fc ⟨a7a,fc ⟨a0m,fc ⟨MW,fc ⟨a4F,fz⟩⟩⟩⟩⟩) fz
theorem al9(x:XW.X):bJ a7d [] (denF a7d 8) abz (XW.mkS 59 x) (aL 0 XW a7b)=aZ x:=by kernel_rfl
theorem ala:bF Tryz.prog 0 (.loop abz) a7c:=aC a7e 8 (ah) XW a7b 59 aZ (by decide) al9
theorem alb:aY Tryz.prog 74 Tryz.f74 [(0,a7c)]:=⟨Tryz.func74,Tryz.call74,aU (by kernel_rfl) (aB ala (by kernel_rfl) fz)⟩
theorem apu(x1)(x2)(nx)(x3)(nx1)(x4)(x5)(w)(nw)(w1)(w2):bodyK a7d [(0,a7c)] (denF a7d 8) Tryz.f74 ((bY a2E.sl (show a2E.X from(((),((x1,(x2,((nx,x3),((nx1,x4),x5)))),())),(((w,(nw,w1)),w2),()))).1).map .v) (mK a2E (((),((x1,(x2,((nx,x3),((nx1,x4),x5)))),())),(((w,(nw,w1)),w2),()))) a2E.nx (iy 0 afX)=kE x1 x2 nx x3 nx1 x4 x5 w nw w1 w2:=by kernel_rfl
theorem afY:aD Tryz.prog 74 al8:=cO a7e 8 alb 0 a2E afX _ (by decide) (fun x=>by rw[tQ]; exact apu x.1.2.1.1 x.1.2.1.2.1 x.1.2.1.2.2.1.1 x.1.2.1.2.2.1.2 x.1.2.1.2.2.2.1.1 x.1.2.1.2.2.2.1.2 x.1.2.1.2.2.2.2 x.2.1.1.1 x.2.1.1.2.1 x.2.1.1.2.2 x.2.1.2)
abbrev XY:Shape:= { sl:=[(pc 0 (.pair (.pair (.sp 82) (.sl (.int .u8))) .bool) 0),(10,(.sz tV)),(pv 11 tI),(pv 12 tI)],ob:=[(0,(.p (.p (.v (.sp 82)) (.w 5 (.int .u8) 6)) (.v .bool)))],lo:=6,nx:=7 }
abbrev a7f:List Ex:=[(.normal, { sl:=[(pc 0 (.pair (.pair (.sp 82) (.sl (.int .u8))) .bool) 0)],ob:=[(0,(.p (.p (.v (.sp 82)) (.w 5 (.int .u8) 7)) (.v .bool)))],lo:=7,nx:=8 })]
noncomputable def abA:Code:=aQ (aO Tryz.f75) 0
noncomputable def a7g:Lp:=cB XY a7f 29 bQ
abbrev a2F:Shape:= { sl:=[(pc 0 (.pair (.pair (.sp 82) (.sl (.int .u8))) .bool) 0),(1,(.sz tV))],ob:=[(0,(.p (.p (.v (.sp 82)) (.w 5 (.int .u8) 1)) (.v .bool)))],lo:=1,nx:=2 }
abbrev afZ:List Shape:=[{ sl:=[],ob:=[(0,(.p (.p (.v (.sp 82)) (.w 5 (.int .u8) 8)) (.v .bool)))],lo:=8,nx:=9 }]
noncomputable def alc:Con:=nM a2F afZ fun x=>iZ x.1.2.1.1 x.1.2.1.2 x.2.1.1.1 x.2.1.1.2.1 x.2.1.1.2.2 x.2.1.2
noncomputable def a7h:Cx:= { ti:=ti,con:=[(25,a0l),(125,afU),(73,aae)],fns:=[],un:=6 }
theorem a7i:ay Tryz.prog a7h:=ay.of mixed aK (fc ⟨MW,fc ⟨a7a,fc ⟨a0m,fz⟩⟩⟩) fz
theorem ald(x:XY.X):bJ a7h [] (denF a7h 8) abA (XY.mkS 29 x) (aL 0 XY a7f)=bQ x:=by kernel_rfl
theorem ale:bF Tryz.prog 0 (.loop abA) a7g:=aC a7i 8 (ah) XY a7f 29 bQ (by decide) ald
theorem alf:aY Tryz.prog 75 Tryz.f75 [(0,a7g)]:=⟨Tryz.func75,Tryz.call75,aU (by kernel_rfl) (aB ale (by kernel_rfl) fz)⟩
theorem apv(nl)(l)(w)(nw)(w1)(w2):bodyK a7h [(0,a7g)] (denF a7h 8) Tryz.f75 ((bY a2F.sl (show a2F.X from(((),((nl,l),())),(((w,(nw,w1)),w2),()))).1).map .v) (mK a2F (((),((nl,l),())),(((w,(nw,w1)),w2),()))) a2F.nx (iy 0 afZ)=kF nl l w nw w1 w2:=by kernel_rfl
theorem ag0:aD Tryz.prog 75 alc:=cO a7i 8 alf 0 a2F afZ _ (by decide) (fun x=>by rw[tX]; exact apv x.1.2.1.1 x.1.2.1.2 x.2.1.1.1 x.2.1.1.2.1 x.2.1.1.2.2 x.2.1.2)
abbrev XZ:Shape:= { sl:=[(pc 0 (.pair (.pair (.sp 82) (.sl (.int .u8))) .bool) 0),(30,(.sz tT)),(pv 31 tI),(pv 32 tI)],ob:=[(0,(.p (.p (.v (.sp 82)) (.w 5 (.int .u8) 74)) (.v .bool)))],lo:=74,nx:=75 }
abbrev a7j:List Ex:=[(.normal, { sl:=[(pc 0 (.pair (.pair (.sp 82) (.sl (.int .u8))) .bool) 0)],ob:=[(0,(.p (.p (.v (.sp 82)) (.w 5 (.int .u8) 75)) (.v .bool)))],lo:=75,nx:=76 })]
noncomputable def abB:Code:=aQ (aO Tryz.f26) 0
noncomputable def a7k:Lp:=cB XZ a7j 61 bK
abbrev a2G:Shape:= { sl:=[(pc 0 (.pair (.pair (.sp 82) (.sl (.int .u8))) .bool) 0),(1,(.p (.v .str) (.p (.p (.v (.pair tI tI)) (.p (.v .str) (.p (.sz (.sl tN)) (.p (.sz tN) (.v tI))))) (.p (.sz tV) (.p (.sz tV) (.sz tT))))))],ob:=[(0,(.p (.p (.v (.sp 82)) (.w 5 (.int .u8) 1)) (.v .bool)))],lo:=1,nx:=2 }
abbrev ag1:List Shape:=[{ sl:=[],ob:=[(0,(.p (.p (.v (.sp 82)) (.w 5 (.int .u8) 76)) (.v .bool)))],lo:=76,nx:=77 }]
noncomputable def alg:Con:=nM a2G ag1 fun x=>kG x.1.2.1.1 x.1.2.1.2.1.1 x.1.2.1.2.1.2.1 x.1.2.1.2.1.2.2.1.1 x.1.2.1.2.1.2.2.1.2 x.1.2.1.2.1.2.2.2.1.1 x.1.2.1.2.1.2.2.2.1.2 x.1.2.1.2.1.2.2.2.2 x.1.2.1.2.2.1.1 x.1.2.1.2.2.1.2 x.1.2.1.2.2.2.1.1 x.1.2.1.2.2.2.1.2 x.1.2.1.2.2.2.2.1 x.1.2.1.2.2.2.2.2 x.2.1.1.1 x.2.1.1.2.1 x.2.1.1.2.2 x.2.1.2
noncomputable def a7l:Cx:= { ti:=ti,con:=[(73,aae),(74,al8),(75,alc),(25,a0l)],fns:=[],un:=6 }
theorem a7m:ay Tryz.prog a7l:=ay.of mixed aK (fc ⟨a0m,fc ⟨afY,fc ⟨ag0,fc ⟨MW,fz⟩⟩⟩⟩) fz
theorem alh(x:XZ.X):bJ a7l [] (denF a7l 8) abB (XZ.mkS 61 x) (aL 0 XZ a7j)=bK x:=by kernel_rfl
theorem ali:bF Tryz.prog 0 (.loop abB) a7k:=aC a7m 8 (ah) XZ a7j 61 bK (by decide) alh
theorem alj:aY Tryz.prog 26 Tryz.f26 [(0,a7k)]:=⟨Tryz.func26,Tryz.call26,aU (by kernel_rfl) (aB ali (by kernel_rfl) fz)⟩
theorem apw(r:ByteArray)(r1:(Int×Int))(r2:ByteArray)(nr:Nat)(r3:Nat→(SlV NI))(nr1:Nat)(r4:Nat→NI)(r5:Int)(nr2:Nat)(r6:Nat→(Int×((Int×Int)×ByteArray)))(nr3:Nat)(r7:Nat→(Int×((Int×Int)×ByteArray)))(nr4:Nat)(r8:Nat→(((Int×Int)×(ByteArray×((SlV (SlV NI))×((SlV NI)×Int))))×(((Int×Int)×(ByteArray×((SlV (SlV NI))×((SlV NI)×Int))))×(((Int×Int)×(ByteArray×((SlV (SlV NI))×((SlV NI)×Int))))×(Int×Int)))))(w:Unit)(nw:Nat)(w1:Nat→Int)(w2:Bool):bodyK a7l [(0,a7k)] (denF a7l 8) Tryz.f26 ((bY a2G.sl (show a2G.X from(((),((r,((r1,(r2,((nr,r3),((nr1,r4),r5)))),((nr2,r6),((nr3,r7),(nr4,r8))))),())),(((w,(nw,w1)),w2),()))).1).map .v) (mK a2G (((),((r,((r1,(r2,((nr,r3),((nr1,r4),r5)))),((nr2,r6),((nr3,r7),(nr4,r8))))),())),(((w,(nw,w1)),w2),()))) a2G.nx (iy 0 ag1)=jO r r1 r2 nr r3 nr1 r4 r5 nr2 r6 nr3 r7 nr4 r8 w nw w1 w2:=by kernel_rfl
theorem ag2:aD Tryz.prog 26 alg:=cO a7m 8 alj 0 a2G ag1 _ (by decide) (fun x=>by rw[sF]; exact apw x.1.2.1.1 x.1.2.1.2.1.1 x.1.2.1.2.1.2.1 x.1.2.1.2.1.2.2.1.1 x.1.2.1.2.1.2.2.1.2 x.1.2.1.2.1.2.2.2.1.1 x.1.2.1.2.1.2.2.2.1.2 x.1.2.1.2.1.2.2.2.2 x.1.2.1.2.2.1.1 x.1.2.1.2.2.1.2 x.1.2.1.2.2.2.1.1 x.1.2.1.2.2.2.1.2 x.1.2.1.2.2.2.2.1 x.1.2.1.2.2.2.2.2 x.2.1.1.1 x.2.1.1.2.1 x.2.1.1.2.2 x.2.1.2)
abbrev Y0:Shape:= { sl:=[(1,(.c ⟨(.ptr tM),(.rf 0 [])⟩)),(pc 4 (.pair (.pair (.sp 82) (.sl (.int .u8))) .bool) 1),(33,(.sz tI)),(pv 34 tI),(pv 35 tI)],ob:=[(0,(.p (.v tI) (.p (.v tI) (.p (.v tI) (.p (.sz tI) (.sz tR)))))),(1,(.p (.p (.v (.sp 82)) (.w 5 (.int .u8) 19)) (.v .bool)))],lo:=19,nx:=20 }
abbrev a7n:List Ex:=[(.normal, { sl:=[(1,(.c ⟨(.ptr tM),(.rf 0 [])⟩)),(pc 4 (.pair (.pair (.sp 82) (.sl (.int .u8))) .bool) 1)],ob:=[(0,(.p (.v tI) (.p (.v tI) (.p (.v tI) (.p (.sz tI) (.sz tR)))))),(1,(.p (.p (.v (.sp 82)) (.w 5 (.int .u8) 20)) (.v .bool)))],lo:=20,nx:=21 })]
noncomputable def abC:Code:=aQ (aO Tryz.f8) 2
noncomputable def a7o:Lp:=cB Y0 a7n 67 kH
abbrev Y1:Shape:= { sl:=[(pc 4 (.pair (.pair (.sp 82) (.sl (.int .u8))) .bool) 1),(49,(.sz tR)),(pv 50 tI),(pv 51 tI)],ob:=[(1,(.p (.p (.v (.sp 82)) (.w 5 (.int .u8) 25)) (.v .bool)))],lo:=25,nx:=26 }
abbrev a7p:List Ex:=[(.normal, { sl:=[(pc 4 (.pair (.pair (.sp 82) (.sl (.int .u8))) .bool) 1)],ob:=[(1,(.p (.p (.v (.sp 82)) (.w 5 (.int .u8) 26)) (.v .bool)))],lo:=26,nx:=27 })]
noncomputable def abD:Code:=aQ (aO Tryz.f8) 4
noncomputable def a7q:Lp:=cB Y1 a7p 67 kI
noncomputable def ag3:Con:=bG true [tM] [.str,tI] fun x=>oZ x.1
noncomputable def a0n:Cx:= { ti:=ti,con:=[(25,a0l),(26,alg)],fns:=[(27,Tryz.f27,[])],un:=6 }
theorem a0o:ay Tryz.prog a0n:=ay.of mixed aK (fc ⟨MW,fc ⟨ag2,fz⟩⟩) (fc ⟨⟨Tryz.func27,Tryz.call27,ah⟩,fz⟩)
theorem alk(x:Y0.X):bJ a0n [] (denF a0n 8) abC (Y0.mkS 67 x) (aL 2 Y0 a7n)=kH x:=by kernel_rfl
theorem alm:bF Tryz.prog 2 (.loop abC) a7o:=aC a0o 8 (ah) Y0 a7n 67 kH (by decide) alk
theorem aln(x:Y1.X):bJ a0n [] (denF a0n 8) abD (Y1.mkS 67 x) (aL 4 Y1 a7p)=kI x:=by kernel_rfl
theorem alo:bF Tryz.prog 4 (.loop abD) a7q:=aC a0o 8 (ah) Y1 a7p 67 kI (by decide) aln
theorem alp:aY Tryz.prog 8 Tryz.f8 [(2,a7o),(4,a7q)]:=⟨Tryz.func8,Tryz.call8,aU (by kernel_rfl) (aB alm (by kernel_rfl) (aB alo (by kernel_rfl) fz))⟩
theorem apx(x:(Int×(Int×(Int×((Nat×NI)×(Nat×(Nat→(ByteArray×(((Int×Int)×(ByteArray×((SlV (SlV NI))×((SlV NI)×Int))))×((SlV (Int×((Int×Int)×ByteArray)))×((SlV (Int×((Int×Int)×ByteArray)))×(SlV (((Int×Int)×(ByteArray×((SlV (SlV NI))×((SlV NI)×Int))))×(((Int×Int)×(ByteArray×((SlV (SlV NI))×((SlV NI)×Int))))×(((Int×Int)×(ByteArray×((SlV (SlV NI))×((SlV NI)×Int))))×(Int×Int)))))))))))))))):bodyK a0n [(2,a7o),(4,a7q)] (denF a0n 8) Tryz.f8 (domV [tM] (x,())) [] 0 (bT [.str,tI])=Hy x:=by kernel_rfl
theorem a7r:aD Tryz.prog 8 ag3:=aN a0o 8 alp true [tM] [.str,tI] _ (by decide) (fun x=>by rw[Ob]; exact apx x.1)
noncomputable def alq:Con:=bG true [tM] [.str,tI] fun x=>CK x.1
noncomputable def ag4:Cx:= { ti:=ti,con:=[(8,ag3),(42,aad)],fns:=[],un:=6 }
theorem ag5:ay Tryz.prog ag4:=ay.of mixed aK (fc ⟨a7r,fc ⟨a0f,fz⟩⟩) fz
theorem alr:aY Tryz.prog 12 Tryz.f12 []:=⟨Tryz.func12,Tryz.call12,ah⟩
theorem apy(x:(Int×(Int×(Int×((Nat×NI)×(Nat×(Nat→(ByteArray×(((Int×Int)×(ByteArray×((SlV (SlV NI))×((SlV NI)×Int))))×((SlV (Int×((Int×Int)×ByteArray)))×((SlV (Int×((Int×Int)×ByteArray)))×(SlV (((Int×Int)×(ByteArray×((SlV (SlV NI))×((SlV NI)×Int))))×(((Int×Int)×(ByteArray×((SlV (SlV NI))×((SlV NI)×Int))))×(((Int×Int)×(ByteArray×((SlV (SlV NI))×((SlV NI)×Int))))×(Int×Int)))))))))))))))):bodyK ag4 [] (denF ag4 8) Tryz.f12 (domV [tM] (x,())) [] 0 (bT [.str,tI])=DY x:=by kernel_rfl
theorem ag6:aD Tryz.prog 12 alq:=aN ag5 8 alr true [tM] [.str,tI] _ (by decide) (fun x=>by rw[Le]; exact apy x.1)
end Go.Proofs.YtidodcilgldjoaaGreat
