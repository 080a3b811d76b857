/-
  The functions of a package are the plain ones.
-/
import Derived.Test.YtidodcilgldjoaaGreatEqA
import Derived.Test.YtidodcilgldjoaaGreatDenF
import Derived.Test.YtidodcilgldjoaaGreatPsha
set_option linter.unusedVariables false
set_option linter.unusedSimpArgs false
set_option maxRecDepth 100000
set_option maxHeartbeats 0
namespace Go.Pl
end Go.Pl
open Go Go.Den Go.Pl
namespace Go.Proofs.YtidodcilgldjoaaGreat
noncomputable def ak7:Con:=bG true [] [(.arr 8 (.int .u32))] fun x=>Ct
noncomputable def aeL:Cx:= { ti:=ti,con:=[],fns:=[],un:=6 }
theorem aeM:ay Tryz.prog aeL:=ay.of mixed aK fz fz
theorem ak8:aY Tryz.prog 137 Tryz.f137 []:=⟨Tryz.func137,Tryz.call137,ah⟩
theorem ap1:bodyK aeL [] (denF aeL 8) Tryz.f137 (domV [] (())) [] 0 (bT [(.arr 8 (.int .u32))])=JU:=by kernel_rfl
theorem aeN:aD Tryz.prog 137 ak7:=aN aeM 8 ak8 true [] [(.arr 8 (.int .u32))] _ (by decide) (fun x=>by rw[DN]; exact ap1)
abbrev a2o:Shape:= { sl:=[],ob:=[],lo:=0,nx:=0 }
abbrev aeO:List Shape:=[{ sl:=[(pc 0 (.pair .bool (.pair (.arr 8 (.int .u32)) (.pair (.arr 64 (.int .u8)) tI))) 0)],ob:=[(pv 0 (.pair .bool (.pair (.arr 8 (.int .u32)) (.pair (.arr 64 (.int .u8)) tI))))],lo:=1,nx:=1 }]
noncomputable def ak9:Con:=nM a2o aeO fun x=>MS
noncomputable def aeP:Cx:= { ti:=ti,con:=[(137,ak7)],fns:=[],un:=6 }
theorem aeQ:ay Tryz.prog aeP:=ay.of mixed aK (fc ⟨aeN,fz⟩) fz
theorem akb:aY Tryz.prog 86 Tryz.f86 []:=⟨Tryz.func86,Tryz.call86,ah⟩
theorem ap2:bodyK aeP [] (denF aeP 8) Tryz.f86 ((bY a2o.sl (show a2o.X from((),())).1).map .v) (mK a2o ((),())) a2o.nx (iy 1 aeO)=DR:=by kernel_rfl
theorem aeR:aD Tryz.prog 86 ak9:=cO aeQ 8 akb 1 a2o aeO _ (by decide) (fun x=>by rw[L6]; exact ap2)
noncomputable def akc:Con:=bG true [] [(.arr 64 (.int .u32))] fun x=>qB
noncomputable def aeS:Cx:= { ti:=ti,con:=[],fns:=[],un:=6 }
theorem aeT:ay Tryz.prog aeS:=ay.of mixed aK fz fz
theorem akd:aY Tryz.prog 165 Tryz.f165 []:=⟨Tryz.func165,Tryz.call165,ah⟩
theorem ap3:bodyK aeS [] (denF aeS 8) Tryz.f165 (domV [] (())) [] 0 (bT [(.arr 64 (.int .u32))])=zF:=by kernel_rfl
theorem aeU:aD Tryz.prog 165 akc:=aN aeT 8 akd true [] [(.arr 64 (.int .u32))] _ (by decide) (fun x=>by rw[vE]; exact ap3)
noncomputable def aeV:Con:=bG true [(.int .u32),tI] [(.int .u32)] fun x=>gB x.1 x.2.1
noncomputable def aeW:Cx:= { ti:=ti,con:=[(187,ai2)],fns:=[],un:=6 }
theorem aeX:ay Tryz.prog aeW:=ay.of mixed aK (fc ⟨ad1,fz⟩) fz
theorem ake:aY Tryz.prog 167 Tryz.f167 []:=⟨Tryz.func167,Tryz.call167,ah⟩
theorem ap4(x)(n):bodyK aeW [] (denF aeW 8) Tryz.f167 (domV [(.int .u32),tI] (x,n,())) [] 0 (bT [(.int .u32)])=AU x n:=by kernel_rfl
theorem a5Z:aD Tryz.prog 167 aeV:=aN aeX 8 ake true [(.int .u32),tI] [(.int .u32)] _ (by decide) (fun x=>by rw[J3]; exact ap4 x.1 x.2.1)
abbrev Xu:Shape:= { sl:=[(pc 1 (.arr 64 (.int .u8)) 0),(pc 2 (.arr 64 (.int .u32)) 1),(pc 3 (.arr 64 (.int .u32)) 2),(pv 10 tI)],ob:=[(pv 0 (.arr 64 (.int .u8))),(pv 1 (.arr 64 (.int .u32))),(pv 2 (.arr 64 (.int .u32)))],lo:=3,nx:=3 }
abbrev a6a:List Ex:=[(.normal, { sl:=[(pc 2 (.arr 64 (.int .u32)) 1),(pc 3 (.arr 64 (.int .u32)) 2)],ob:=[(pv 1 (.arr 64 (.int .u32))),(pv 2 (.arr 64 (.int .u32)))],lo:=3,nx:=3 })]
noncomputable def abh:Code:=aQ (aO Tryz.f166) 0
noncomputable def a6b:Lp:=cB Xu a6a 89 eF
abbrev Xv:Shape:= { sl:=[(pc 2 (.arr 64 (.int .u32)) 1),(pc 3 (.arr 64 (.int .u32)) 2),(pv 5 tI)],ob:=[(pv 1 (.arr 64 (.int .u32))),(pv 2 (.arr 64 (.int .u32)))],lo:=3,nx:=3 }
abbrev a6c:List Ex:=[(.normal, { sl:=[(pc 2 (.arr 64 (.int .u32)) 1),(pc 3 (.arr 64 (.int .u32)) 2)],ob:=[(pv 1 (.arr 64 (.int .u32))),(pv 2 (.arr 64 (.int .u32)))],lo:=3,nx:=3 })]
noncomputable def abj:Code:=aQ (aO Tryz.f166) 2
noncomputable def a6d:Lp:=cB Xv a6c 89 eG
noncomputable def akf:Con:=bG true [(.arr 64 (.int .u8))] [(.arr 64 (.int .u32))] fun x=>yJ x.1
noncomputable def a0b:Cx:= { ti:=ti,con:=[(167,aeV)],fns:=[],un:=6 }
theorem a0c:ay Tryz.prog a0b:=ay.of mixed aK (fc ⟨a5Z,fz⟩) fz
theorem akg(x:Xu.X):bJ a0b [] (denF a0b 8) abh (Xu.mkS 89 x) (aL 0 Xu a6a)=eF x:=by kernel_rfl
theorem akh:bF Tryz.prog 0 (.loop abh) a6b:=aC a0c 8 (ah) Xu a6a 89 eF (by decide) akg
theorem aki(x:Xv.X):bJ a0b [] (denF a0b 8) abj (Xv.mkS 89 x) (aL 2 Xv a6c)=eG x:=by kernel_rfl
theorem akj:bF Tryz.prog 2 (.loop abj) a6d:=aC a0c 8 (ah) Xv a6c 89 eG (by decide) aki
theorem akk:aY Tryz.prog 166 Tryz.f166 [(0,a6b),(2,a6d)]:=⟨Tryz.func166,Tryz.call166,aU (by kernel_rfl) (aB akh (by kernel_rfl) (aB akj (by kernel_rfl) fz))⟩
theorem ap5(b):bodyK a0b [(0,a6b),(2,a6d)] (denF a0b 8) Tryz.f166 (domV [(.arr 64 (.int .u8))] (b,())) [] 0 (bT [(.arr 64 (.int .u32))])=vU b:=by kernel_rfl
theorem aeY:aD Tryz.prog 166 akf:=aN a0c 8 akk true [(.arr 64 (.int .u8))] [(.arr 64 (.int .u32))] _ (by decide) (fun x=>by rw[EJ]; exact ap5 x.1)
abbrev Xw:Shape:= { sl:=[(pc 2 (.arr 8 (.int .u32)) 0),(pc 4 (.arr 8 (.int .u32)) 2),(pc 5 (.arr 64 (.int .u32)) 3),(pc 6 (.arr 64 (.int .u32)) 4),(pc 7 (.arr 8 (.int .u32)) 5),(pv 18 tI)],ob:=[(pv 0 (.arr 8 (.int .u32))),(pv 2 (.arr 8 (.int .u32))),(pv 3 (.arr 64 (.int .u32))),(pv 4 (.arr 64 (.int .u32))),(pv 5 (.arr 8 (.int .u32)))],lo:=6,nx:=6 }
abbrev a6e:List Ex:=[(.normal, { sl:=[(pc 2 (.arr 8 (.int .u32)) 0),(pc 4 (.arr 8 (.int .u32)) 2),(pc 7 (.arr 8 (.int .u32)) 5)],ob:=[(pv 0 (.arr 8 (.int .u32))),(pv 2 (.arr 8 (.int .u32))),(pv 5 (.arr 8 (.int .u32)))],lo:=6,nx:=6 })]
noncomputable def abk:Code:=aQ (aO Tryz.f138) 0
noncomputable def a6f:Lp:=cB Xw a6e 109 iD
abbrev Xx:Shape:= { sl:=[(pc 2 (.arr 8 (.int .u32)) 0),(pc 4 (.arr 8 (.int .u32)) 2),(pc 7 (.arr 8 (.int .u32)) 5),(pv 96 tI)],ob:=[(pv 0 (.arr 8 (.int .u32))),(pv 2 (.arr 8 (.int .u32))),(pv 5 (.arr 8 (.int .u32)))],lo:=6,nx:=6 }
abbrev a6g:List Ex:=[(.normal, { sl:=[(pc 4 (.arr 8 (.int .u32)) 2),(pc 7 (.arr 8 (.int .u32)) 5)],ob:=[(pv 2 (.arr 8 (.int .u32))),(pv 5 (.arr 8 (.int .u32)))],lo:=6,nx:=6 })]
noncomputable def abl:Code:=aQ (aO Tryz.f138) 2
noncomputable def a6h:Lp:=cB Xx a6g 109 jo
noncomputable def akl:Con:=bG true [(.arr 8 (.int .u32)),(.arr 64 (.int .u8))] [(.arr 8 (.int .u32))] fun x=>Cw x.1 x.2.1
noncomputable def a0d:Cx:= { ti:=ti,con:=[(165,akc),(166,akf),(167,aeV)],fns:=[],un:=6 }
theorem a0e:ay Tryz.prog a0d:=ay.of mixed aK (fc ⟨aeU,fc ⟨aeY,fc ⟨a5Z,fz⟩⟩⟩) fz
theorem akm(x:Xw.X):bJ a0d [] (denF a0d 8) abk (Xw.mkS 109 x) (aL 0 Xw a6e)=iD x:=by kernel_rfl
theorem akn:bF Tryz.prog 0 (.loop abk) a6f:=aC a0e 8 (ah) Xw a6e 109 iD (by decide) akm
theorem ako(x:Xx.X):bJ a0d [] (denF a0d 8) abl (Xx.mkS 109 x) (aL 2 Xx a6g)=jo x:=by kernel_rfl
theorem akp:bF Tryz.prog 2 (.loop abl) a6h:=aC a0e 8 (ah) Xx a6g 109 jo (by decide) ako
theorem akq:aY Tryz.prog 138 Tryz.f138 [(0,a6f),(2,a6h)]:=⟨Tryz.func138,Tryz.call138,aU (by kernel_rfl) (aB akn (by kernel_rfl) (aB akp (by kernel_rfl) fz))⟩
theorem ap6(v)(b):bodyK a0d [(0,a6f),(2,a6h)] (denF a0d 8) Tryz.f138 (domV [(.arr 8 (.int .u32)),(.arr 64 (.int .u8))] (v,b,())) [] 0 (bT [(.arr 8 (.int .u32))])=DT v b:=by kernel_rfl
theorem aeZ:aD Tryz.prog 138 akl:=aN a0e 8 akq true [(.arr 8 (.int .u32)),(.arr 64 (.int .u8))] [(.arr 8 (.int .u32))] _ (by decide) (fun x=>by rw[L8]; exact ap6 x.1 x.2.1)
abbrev Xy:Shape:= { sl:=[(pc 0 (.pair .bool (.pair (.arr 8 (.int .u32)) (.pair (.arr 64 (.int .u8)) tI))) 0),(1,(.v .str))],ob:=[(pv 0 (.pair .bool (.pair (.arr 8 (.int .u32)) (.pair (.arr 64 (.int .u8)) tI))))],lo:=1,nx:=1 }
abbrev a6i:List Ex:=[(.normal, { sl:=[(pc 0 (.pair .bool (.pair (.arr 8 (.int .u32)) (.pair (.arr 64 (.int .u8)) tI))) 0)],ob:=[(pv 0 (.pair .bool (.pair (.arr 8 (.int .u32)) (.pair (.arr 64 (.int .u8)) tI))))],lo:=1,nx:=1 })]
noncomputable def abm:Code:=aQ (aO Tryz.f87) 0
noncomputable def a6j:Lp:=cB Xy a6i 56 cu
abbrev a2p:Shape:= { sl:=[(pc 0 (.pair .bool (.pair (.arr 8 (.int .u32)) (.pair (.arr 64 (.int .u8)) tI))) 0),(1,(.v .str))],ob:=[(pv 0 (.pair .bool (.pair (.arr 8 (.int .u32)) (.pair (.arr 64 (.int .u8)) tI))))],lo:=1,nx:=1 }
abbrev af0:List Shape:=[{ sl:=[],ob:=[(pv 0 (.pair .bool (.pair (.arr 8 (.int .u32)) (.pair (.arr 64 (.int .u8)) tI))))],lo:=1,nx:=1 }]
noncomputable def af2:Con:=nM a2p af0 fun x=>jD x.1.2.1 x.2.1
noncomputable def a6k:Cx:= { ti:=ti,con:=[(138,akl)],fns:=[],un:=6 }
theorem a6l:ay Tryz.prog a6k:=ay.of mixed aK (fc ⟨aeZ,fz⟩) fz
theorem akr(x:Xy.X):bJ a6k [] (denF a6k 8) abm (Xy.mkS 56 x) (aL 0 Xy a6i)=cu x:=by kernel_rfl
theorem aks:bF Tryz.prog 0 (.loop abm) a6j:=aC a6l 8 (ah) Xy a6i 56 cu (by decide) akr
theorem akt:aY Tryz.prog 87 Tryz.f87 [(0,a6j)]:=⟨Tryz.func87,Tryz.call87,aU (by kernel_rfl) (aB aks (by kernel_rfl) fz)⟩
theorem ap7(s)(h):bodyK a6k [(0,a6j)] (denF a6k 8) Tryz.f87 ((bY a2p.sl (show a2p.X from(((),(s,())),(h,()))).1).map .v) (mK a2p (((),(s,())),(h,()))) a2p.nx (iy 0 af0)=qR s h:=by kernel_rfl
theorem a6m:aD Tryz.prog 87 af2:=cO a6l 8 akt 0 a2p af0 _ (by decide) (fun x=>by rw[AV]; exact ap7 x.1.2.1 x.2.1)
abbrev Xz:Shape:= { sl:=[(0,(.pz (.pair .bool (.pair (.arr 8 (.int .u32)) (.pair (.arr 64 (.int .u8)) tI))))),(pc 3 (.pair .bool (.pair (.arr 8 (.int .u32)) (.pair (.arr 64 (.int .u8)) tI))) 0)],ob:=[(pv 0 (.pair .bool (.pair (.arr 8 (.int .u32)) (.pair (.arr 64 (.int .u8)) tI))))],lo:=1,nx:=1 }
abbrev a6n:List Ex:=[(.normal, { sl:=[(0,(.pz (.pair .bool (.pair (.arr 8 (.int .u32)) (.pair (.arr 64 (.int .u8)) tI))))),(pc 3 (.pair .bool (.pair (.arr 8 (.int .u32)) (.pair (.arr 64 (.int .u8)) tI))) 0)],ob:=[(pv 0 (.pair .bool (.pair (.arr 8 (.int .u32)) (.pair (.arr 64 (.int .u8)) tI))))],lo:=1,nx:=1 })]
noncomputable def abn:Code:=aQ (aO Tryz.f88) 0
noncomputable def a6o:Lp:=cB Xz a6n 69 fI
abbrev XA:Shape:= { sl:=[(0,(.pz (.pair .bool (.pair (.arr 8 (.int .u32)) (.pair (.arr 64 (.int .u8)) tI))))),(pc 3 (.pair .bool (.pair (.arr 8 (.int .u32)) (.pair (.arr 64 (.int .u8)) tI))) 0),(pc 4 (.arr 8 (.int .u8)) 1),(pv 27 tI)],ob:=[(pv 0 (.pair .bool (.pair (.arr 8 (.int .u32)) (.pair (.arr 64 (.int .u8)) tI)))),(pv 1 (.arr 8 (.int .u8)))],lo:=2,nx:=2 }
abbrev a6p:List Ex:=[(.normal, { sl:=[(pc 3 (.pair .bool (.pair (.arr 8 (.int .u32)) (.pair (.arr 64 (.int .u8)) tI))) 0),(pc 4 (.arr 8 (.int .u8)) 1)],ob:=[(pv 0 (.pair .bool (.pair (.arr 8 (.int .u32)) (.pair (.arr 64 (.int .u8)) tI)))),(pv 1 (.arr 8 (.int .u8)))],lo:=2,nx:=2 })]
noncomputable def abo:Code:=aQ (aO Tryz.f88) 2
noncomputable def a6q:Lp:=cB XA a6p 69 fJ
abbrev XB:Shape:= { sl:=[(6,(.w 5 (.int .u8) 3)),(pv 48 (.arr 8 (.int .u32))),(pv 49 tI)],ob:=[],lo:=3,nx:=4 }
abbrev a6r:List Ex:=[(.normal, { sl:=[(6,(.w 5 (.int .u8) 4))],ob:=[],lo:=4,nx:=5 })]
noncomputable def abp:Code:=aQ (aO Tryz.f88) 4
noncomputable def a6s:Lp:=cB XB a6r 69 fK
noncomputable def aku:Con:=bG true [(.ptr (.pair .bool (.pair (.arr 8 (.int .u32)) (.pair (.arr 64 (.int .u8)) tI))))] [.str] fun x=>yK x.1
noncomputable def Vd:Cx:= { ti:=ti,con:=[(87,af2)],fns:=[],un:=6 }
theorem Ve:ay Tryz.prog Vd:=ay.of mixed aK (fc ⟨a6m,fz⟩) fz
theorem akv(x:Xz.X):bJ Vd [] (denF Vd 8) abn (Xz.mkS 69 x) (aL 0 Xz a6n)=fI x:=by kernel_rfl
theorem akw:bF Tryz.prog 0 (.loop abn) a6o:=aC Ve 8 (ah) Xz a6n 69 fI (by decide) akv
theorem akx(x:XA.X):bJ Vd [] (denF Vd 8) abo (XA.mkS 69 x) (aL 2 XA a6p)=fJ x:=by kernel_rfl
theorem aky:bF Tryz.prog 2 (.loop abo) a6q:=aC Ve 8 (ah) XA a6p 69 fJ (by decide) akx
theorem akz(x:XB.X):bJ Vd [] (denF Vd 8) abp (XB.mkS 69 x) (aL 4 XB a6r)=fK x:=by kernel_rfl
theorem akA:bF Tryz.prog 4 (.loop abp) a6s:=aC Ve 8 (ah) XB a6r 69 fK (by decide) akz
theorem akB:aY Tryz.prog 88 Tryz.f88 [(0,a6o),(2,a6q),(4,a6s)]:=⟨Tryz.func88,Tryz.call88,aU (by kernel_rfl) (aB akw (by kernel_rfl) (aB aky (by kernel_rfl) (aB akA (by kernel_rfl) fz)))⟩
theorem ap8(h):bodyK Vd [(0,a6o),(2,a6q),(4,a6s)] (denF Vd 8) Tryz.f88 (domV [(.ptr (.pair .bool (.pair (.arr 8 (.int .u32)) (.pair (.arr 64 (.int .u8)) tI))))] (h,())) [] 0 (bT [.str])=vV h:=by cases h<;>kernel_rfl
theorem af3:aD Tryz.prog 88 aku:=aN Ve 8 akB true [(.ptr (.pair .bool (.pair (.arr 8 (.int .u32)) (.pair (.arr 64 (.int .u8)) tI))))] [.str] _ (by decide) (fun x=>by rw[EK]; exact ap8 x.1)
noncomputable def aad:Con:=bG true [.str] [.str] fun x=>yL x.1
noncomputable def af4:Cx:= { ti:=ti,con:=[(86,ak9),(87,af2),(88,aku)],fns:=[],un:=6 }
theorem af5:ay Tryz.prog af4:=ay.of mixed aK (fc ⟨aeR,fc ⟨a6m,fc ⟨af3,fz⟩⟩⟩) fz
theorem akC:aY Tryz.prog 42 Tryz.f42 []:=⟨Tryz.func42,Tryz.call42,ah⟩
theorem ap9(s):bodyK af4 [] (denF af4 8) Tryz.f42 (domV [.str] (s,())) [] 0 (bT [.str])=L9 s:=by kernel_rfl
theorem a0f:aD Tryz.prog 42 aad:=aN af5 8 akC true [.str] [.str] _ (by decide) (fun x=>by rw[QW]; exact ap9 x.1)
end Go.Proofs.YtidodcilgldjoaaGreat
