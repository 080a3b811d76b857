/-
  The functions of a package are the plain ones.
-/
import Derived.Test.YtidodcilgldjoaaGreatEqA
import Derived.Test.YtidodcilgldjoaaGreatDenM
import Derived.Test.YtidodcilgldjoaaGreatDenF
import Derived.Test.YtidodcilgldjoaaGreatPr38
import Derived.Test.YtidodcilgldjoaaGreatEr05
import Derived.Test.YtidodcilgldjoaaGreatEr16
set_option linter.unusedVariables false
set_option linter.unusedSimpArgs false
set_option maxRecDepth 100000
set_option maxHeartbeats 0
namespace Go.Pl
end Go.Pl
open Go Go.Den Go.Pl
namespace Go.Proofs.YtidodcilgldjoaaGreat
noncomputable def amh:Con:=bG true [tG] [.bool] fun x=>mV x.1
noncomputable def agr:Cx:= { ti:=ti,con:=[(71,alW)],fns:=[],un:=6 }
theorem ags:ay Tryz.prog agr:=ay.of mixed aK (fc ⟨agl,fz⟩) fz
theorem ami:aY Tryz.prog 23 Tryz.f23 []:=⟨Tryz.func23,Tryz.call23,ah⟩
theorem apL(x):bodyK agr [] (denF agr 8) Tryz.f23 (domV [tG] (x,())) [] 0 (bT [.bool])=vZ x:=by kernel_rfl
theorem agt:aD Tryz.prog 23 amh:=aN ags 8 ami true [tG] [.bool] _ (by decide) (fun x=>by rw[ES]; exact apL x.1)
abbrev Yh:Shape:= { sl:=[(1,(.c ⟨(.ptr tM),(.rf 0 [])⟩)),(pv 3 tI),(4,(.c ⟨(.ptr tR),(.rf 1 [])⟩)),(pv 5 tI)],ob:=[(0,(.p (.v tI) (.p (.v tI) (.p (.v tI) (.p (.sz tI) (.sz tR)))))),(1,(.p (.v .str) (.p (.p (.v (.pair tI tI)) (.p (.v .str) (.p (.sz (.sl tN)) (.p (.sz tN) (.v tI))))) (.p (.sz tV) (.p (.sz tV) (.sz tT))))))],lo:=2,nx:=2 }
abbrev a8a:List Ex:=[(.ret, { sl:=[(2,(.v .bool))],ob:=[],lo:=2,nx:=2 }),(.normal, { sl:=[(1,(.c ⟨(.ptr tM),(.rf 0 [])⟩)),(pv 3 tI),(4,(.c ⟨(.ptr tR),(.rf 1 [])⟩))],ob:=[(0,(.p (.v tI) (.p (.v tI) (.p (.v tI) (.p (.sz tI) (.sz tR)))))),(1,(.p (.v .str) (.p (.p (.v (.pair tI tI)) (.p (.v .str) (.p (.sz (.sl tN)) (.p (.sz tN) (.v tI))))) (.p (.sz tV) (.p (.sz tV) (.sz tT))))))],lo:=2,nx:=2 })]
noncomputable def abV:Code:=aQ (aO Tryz.f6) 2
noncomputable def a1k:Lp:=cB Yh a8a 123 kK
abbrev Yi:Shape:= { sl:=[(1,(.c ⟨(.ptr tM),(.rf 0 [])⟩)),(pv 3 tI),(4,(.c ⟨(.ptr tR),(.rf 1 [])⟩)),(pv 6 tI)],ob:=[(0,(.p (.v tI) (.p (.v tI) (.p (.v tI) (.p (.sz tI) (.sz tR)))))),(1,(.p (.v .str) (.p (.p (.v (.pair tI tI)) (.p (.v .str) (.p (.sz (.sl tN)) (.p (.sz tN) (.v tI))))) (.p (.sz tV) (.p (.sz tV) (.sz tT))))))],lo:=2,nx:=2 }
abbrev a8b:List Ex:=[(.ret, { sl:=[(2,(.v .bool))],ob:=[],lo:=2,nx:=2 }),(.normal, { sl:=[(1,(.c ⟨(.ptr tM),(.rf 0 [])⟩)),(pv 3 tI),(4,(.c ⟨(.ptr tR),(.rf 1 [])⟩))],ob:=[(0,(.p (.v tI) (.p (.v tI) (.p (.v tI) (.p (.sz tI) (.sz tR)))))),(1,(.p (.v .str) (.p (.p (.v (.pair tI tI)) (.p (.v .str) (.p (.sz (.sl tN)) (.p (.sz tN) (.v tI))))) (.p (.sz tV) (.p (.sz tV) (.sz tT))))))],lo:=2,nx:=2 })]
noncomputable def abW:Code:=aQ (aO Tryz.f6) 4
noncomputable def a1l:Lp:=cB Yi a8b 123 kL
abbrev Yj:Shape:= { sl:=[(1,(.c ⟨(.ptr tM),(.rf 0 [])⟩)),(pv 3 tI),(4,(.c ⟨(.ptr tR),(.rf 1 [])⟩)),(pv 7 tI)],ob:=[(0,(.p (.v tI) (.p (.v tI) (.p (.v tI) (.p (.sz tI) (.sz tR)))))),(1,(.p (.v .str) (.p (.p (.v (.pair tI tI)) (.p (.v .str) (.p (.sz (.sl tN)) (.p (.sz tN) (.v tI))))) (.p (.sz tV) (.p (.sz tV) (.sz tT))))))],lo:=2,nx:=2 }
abbrev a8c:List Ex:=[(.ret, { sl:=[(2,(.v .bool))],ob:=[],lo:=2,nx:=2 }),(.normal, { sl:=[(1,(.c ⟨(.ptr tM),(.rf 0 [])⟩)),(pv 3 tI)],ob:=[(0,(.p (.v tI) (.p (.v tI) (.p (.v tI) (.p (.sz tI) (.sz tR))))))],lo:=2,nx:=2 })]
noncomputable def abX:Code:=aQ (aO Tryz.f6) 6
noncomputable def a1m:Lp:=cB Yj a8c 123 iN
abbrev Yk:Shape:= { sl:=[(1,(.c ⟨(.ptr tM),(.rf 0 [])⟩)),(pv 3 tI)],ob:=[(0,(.p (.v tI) (.p (.v tI) (.p (.v tI) (.p (.sz tI) (.sz tR))))))],lo:=1,nx:=1 }
abbrev a8d:List Ex:=[(.ret, { sl:=[(2,(.v .bool))],ob:=[],lo:=2,nx:=2 }),(.normal, { sl:=[],ob:=[],lo:=1,nx:=1 })]
noncomputable def abY:Code:=aQ (aO Tryz.f6) 0
noncomputable def a8e:Lp:=cB Yk a8d 123 dK
noncomputable def amj:Con:=bG true [tM] [.bool] fun x=>PE x.1
noncomputable def Rj:Cx:= { ti:=ti,con:=[(23,amh)],fns:=[],un:=6 }
theorem Rk:ay Tryz.prog Rj:=ay.of mixed aK (fc ⟨agt,fz⟩) fz
theorem amk(x:Yh.X):bJ Rj [] (denF Rj 8) abV (Yh.mkS 123 x) (aL 2 Yh a8a)=kK x:=by kernel_rfl
theorem abZ:bF Tryz.prog 2 (.loop abV) a1k:=aC Rk 8 (ah) Yh a8a 123 kK (by decide) amk
theorem aml(x:Yi.X):bJ Rj [] (denF Rj 8) abW (Yi.mkS 123 x) (aL 4 Yi a8b)=kL x:=by kernel_rfl
theorem ac0:bF Tryz.prog 4 (.loop abW) a1l:=aC Rk 8 (ah) Yi a8b 123 kL (by decide) aml
theorem amm(x:Yj.X):bJ Rj [] (denF Rj 8) abX (Yj.mkS 123 x) (aL 6 Yj a8c)=iN x:=by kernel_rfl
theorem ac1:bF Tryz.prog 6 (.loop abX) a1m:=aC Rk 8 (ah) Yj a8c 123 iN (by decide) amm
theorem amn(x:Yk.X):bJ Rj [(2,a1k),(4,a1l),(6,a1m)] (denF Rj 8) abY (Yk.mkS 123 x) (aL 0 Yk a8d)=dK x:=by kernel_rfl
theorem amo:bF Tryz.prog 0 (.loop abY) a8e:=aC Rk 8 (aU (by kernel_rfl) (aB abZ (by kernel_rfl) (aB ac0 (by kernel_rfl) (aB ac1 (by kernel_rfl) fz)))) Yk a8d 123 dK (by decide) amn
theorem amq:aY Tryz.prog 6 Tryz.f6 [(2,a1k),(4,a1l),(6,a1m),(0,a8e)]:=⟨Tryz.func6,Tryz.call6,aU (by kernel_rfl) (aB abZ (by kernel_rfl) (aB ac0 (by kernel_rfl) (aB ac1 (by kernel_rfl) (aB amo (by kernel_rfl) fz))))⟩
theorem apM(x:(Int×(Int×(Int×((Nat×NI)×(Nat×(Nat→(ByteArray×(((Int×Int)×(ByteArray×((SlV (SlV NI))×((SlV NI)×Int))))×((SlV (Int×((Int×Int)×ByteArray)))×((SlV (Int×((Int×Int)×ByteArray)))×(SlV (((Int×Int)×(ByteArray×((SlV (SlV NI))×((SlV NI)×Int))))×(((Int×Int)×(ByteArray×((SlV (SlV NI))×((SlV NI)×Int))))×(((Int×Int)×(ByteArray×((SlV (SlV NI))×((SlV NI)×Int))))×(Int×Int)))))))))))))))):bodyK Rj [(2,a1k),(4,a1l),(6,a1m),(0,a8e)] (denF Rj 8) Tryz.f6 (domV [tM] (x,())) [] 0 (bT [.bool])=LA x:=by kernel_rfl
theorem agu:aD Tryz.prog 6 amj:=aN Rk 8 amq true [tM] [.bool] _ (by decide) (fun x=>by rw[Rf]; exact apM x.1)
noncomputable def amr:Con:=bG true [tG,tG] [.bool] fun x=>jy x.1 x.2.1
noncomputable def agv:Cx:= { ti:=ti,con:=[(139,am0),(140,aeI)],fns:=[],un:=6 }
theorem agw:ay Tryz.prog agv:=ay.of mixed aK (fc ⟨agm,fc ⟨a5X,fz⟩⟩) fz
theorem ams:aY Tryz.prog 89 Tryz.f89 []:=⟨Tryz.func89,Tryz.call89,ah⟩
theorem apN(a)(b):bodyK agv [] (denF agv 8) Tryz.f89 (domV [tG,tG] (a,b,())) [] 0 (bT [.bool])=u6 a b:=by kernel_rfl
theorem agx:aD Tryz.prog 89 amr:=aN agw 8 ams true [tG,tG] [.bool] _ (by decide) (fun x=>by rw[CU]; exact apN x.1 x.2.1)
abbrev Yl:Shape:= { sl:=[(0,(.sz tV)),(1,(.sz tV)),(pv 5 tI)],ob:=[],lo:=0,nx:=0 }
abbrev a8f:List Ex:=[(.ret, { sl:=[(4,(.v .bool))],ob:=[],lo:=0,nx:=0 }),(.normal, { sl:=[],ob:=[],lo:=0,nx:=0 })]
noncomputable def ac2:Code:=aQ (aO Tryz.f90) 0
noncomputable def a8g:Lp:=cB Yl a8f 26 dN
noncomputable def amt:Con:=bG true [(.sl tV),(.sl tV)] [.bool] fun x=>qG x.1.1 x.1.2 x.2.1.1 x.2.1.2
noncomputable def a8h:Cx:= { ti:=ti,con:=[],fns:=[],un:=6 }
theorem a8i:ay Tryz.prog a8h:=ay.of mixed aK fz fz
theorem amu(x:Yl.X):bJ a8h [] (denF a8h 8) ac2 (Yl.mkS 26 x) (aL 0 Yl a8f)=dN x:=by kernel_rfl
theorem amv:bF Tryz.prog 0 (.loop ac2) a8g:=aC a8i 8 (ah) Yl a8f 26 dN (by decide) amu
theorem amw:aY Tryz.prog 90 Tryz.f90 [(0,a8g)]:=⟨Tryz.func90,Tryz.call90,aU (by kernel_rfl) (aB amv (by kernel_rfl) fz)⟩
theorem apO(na)(a)(nb)(b):bodyK a8h [(0,a8g)] (denF a8h 8) Tryz.f90 (domV [(.sl tV),(.sl tV)] ((na,a),(nb,b),())) [] 0 (bT [.bool])=uf na a nb b:=by kernel_rfl
theorem agy:aD Tryz.prog 90 amt:=aN a8i 8 amw true [(.sl tV),(.sl tV)] [.bool] _ (by decide) (fun x=>by rw[CV]; exact apO x.1.1 x.1.2 x.2.1.1 x.2.1.2)
abbrev Ym:Shape:= { sl:=[(2,(.c ⟨(.ptr tR),(.rf 0 [])⟩)),(3,(.c ⟨(.ptr tR),(.rf 1 [])⟩)),(pv 5 tI)],ob:=[(0,(.p (.v .str) (.p (.p (.v (.pair tI tI)) (.p (.v .str) (.p (.sz (.sl tN)) (.p (.sz tN) (.v tI))))) (.p (.sz tV) (.p (.sz tV) (.sz tT)))))),(1,(.p (.v .str) (.p (.p (.v (.pair tI tI)) (.p (.v .str) (.p (.sz (.sl tN)) (.p (.sz tN) (.v tI))))) (.p (.sz tV) (.p (.sz tV) (.sz tT))))))],lo:=2,nx:=2 }
abbrev a8j:List Ex:=[(.ret, { sl:=[(4,(.v .bool))],ob:=[],lo:=4,nx:=4 }),(.normal, { sl:=[],ob:=[],lo:=2,nx:=2 })]
noncomputable def ac3:Code:=aQ (aO Tryz.f43) 0
noncomputable def a8k:Lp:=cB Ym a8j 99 fE
noncomputable def amx:Con:=bG true [tR,tR] [.bool] fun x=>ug x.1 x.2.1
noncomputable def a8l:Cx:= { ti:=ti,con:=[(89,amr),(90,amt)],fns:=[],un:=6 }
theorem a8m:ay Tryz.prog a8l:=ay.of mixed aK (fc ⟨agx,fc ⟨agy,fz⟩⟩) fz
theorem amy(x:Ym.X):bJ a8l [] (denF a8l 8) ac3 (Ym.mkS 99 x) (aL 0 Ym a8j)=fE x:=by kernel_rfl
theorem amz:bF Tryz.prog 0 (.loop ac3) a8k:=aC a8m 8 (ah) Ym a8j 99 fE (by decide) amy
theorem amA:aY Tryz.prog 43 Tryz.f43 [(0,a8k)]:=⟨Tryz.func43,Tryz.call43,aU (by kernel_rfl) (aB amz (by kernel_rfl) fz)⟩
theorem apP(a:(ByteArray×(((Int×Int)×(ByteArray×((Nat×(Nat→(SlV NI)))×((Nat×(Nat→NI))×Int))))×((Nat×(Nat→(Int×((Int×Int)×ByteArray))))×((Nat×(Nat→(Int×((Int×Int)×ByteArray))))×(Nat×(Nat→(((Int×Int)×(ByteArray×((SlV (SlV NI))×((SlV NI)×Int))))×(((Int×Int)×(ByteArray×((SlV (SlV NI))×((SlV NI)×Int))))×(((Int×Int)×(ByteArray×((SlV (SlV NI))×((SlV NI)×Int))))×(Int×Int)))))))))))(b:(ByteArray×(((Int×Int)×(ByteArray×((Nat×(Nat→(SlV NI)))×((Nat×(Nat→NI))×Int))))×((Nat×(Nat→(Int×((Int×Int)×ByteArray))))×((Nat×(Nat→(Int×((Int×Int)×ByteArray))))×(Nat×(Nat→(((Int×Int)×(ByteArray×((SlV (SlV NI))×((SlV NI)×Int))))×(((Int×Int)×(ByteArray×((SlV (SlV NI))×((SlV NI)×Int))))×(((Int×Int)×(ByteArray×((SlV (SlV NI))×((SlV NI)×Int))))×(Int×Int))))))))))):bodyK a8l [(0,a8k)] (denF a8l 8) Tryz.f43 (domV [tR,tR] (a,b,())) [] 0 (bT [.bool])=qU a b:=by kernel_rfl
theorem agz:aD Tryz.prog 43 amx:=aN a8m 8 amA true [tR,tR] [.bool] _ (by decide) (fun x=>by rw[Bf]; exact apP x.1 x.2.1)
abbrev Yn:Shape:= { sl:=[(2,(.c ⟨(.ptr tM),(.rf 0 [])⟩)),(3,(.c ⟨(.ptr tM),(.rf 1 [])⟩)),(pv 5 tI)],ob:=[(0,(.p (.v tI) (.p (.v tI) (.p (.v tI) (.p (.sz tI) (.sz tR)))))),(1,(.p (.v tI) (.p (.v tI) (.p (.v tI) (.p (.sz tI) (.sz tR))))))],lo:=2,nx:=2 }
abbrev a8n:List Ex:=[(.ret, { sl:=[(4,(.v .bool))],ob:=[],lo:=2,nx:=2 }),(.normal, { sl:=[(2,(.c ⟨(.ptr tM),(.rf 0 [])⟩)),(3,(.c ⟨(.ptr tM),(.rf 1 [])⟩))],ob:=[(0,(.p (.v tI) (.p (.v tI) (.p (.v tI) (.p (.sz tI) (.sz tR)))))),(1,(.p (.v tI) (.p (.v tI) (.p (.v tI) (.p (.sz tI) (.sz tR))))))],lo:=2,nx:=2 })]
noncomputable def ac4:Code:=aQ (aO Tryz.f15) 0
noncomputable def a8o:Lp:=cB Yn a8n 81 fD
abbrev Yo:Shape:= { sl:=[(2,(.c ⟨(.ptr tM),(.rf 0 [])⟩)),(3,(.c ⟨(.ptr tM),(.rf 1 [])⟩)),(pv 6 tI)],ob:=[(0,(.p (.v tI) (.p (.v tI) (.p (.v tI) (.p (.sz tI) (.sz tR)))))),(1,(.p (.v tI) (.p (.v tI) (.p (.v tI) (.p (.sz tI) (.sz tR))))))],lo:=2,nx:=2 }
abbrev a8p:List Ex:=[(.ret, { sl:=[(4,(.v .bool))],ob:=[],lo:=2,nx:=2 }),(.normal, { sl:=[],ob:=[],lo:=2,nx:=2 })]
noncomputable def ac5:Code:=aQ (aO Tryz.f15) 2
noncomputable def a8q:Lp:=cB Yo a8p 81 gF
noncomputable def agA:Con:=bG true [tM,tM] [.bool] fun x=>bV x.1 x.2.1
noncomputable def a0C:Cx:= { ti:=ti,con:=[(43,amx)],fns:=[],un:=6 }
theorem a0D:ay Tryz.prog a0C:=ay.of mixed aK (fc ⟨agz,fz⟩) fz
theorem amB(x:Yn.X):bJ a0C [] (denF a0C 8) ac4 (Yn.mkS 81 x) (aL 0 Yn a8n)=fD x:=by kernel_rfl
theorem amC:bF Tryz.prog 0 (.loop ac4) a8o:=aC a0D 8 (ah) Yn a8n 81 fD (by decide) amB
theorem amD(x:Yo.X):bJ a0C [] (denF a0C 8) ac5 (Yo.mkS 81 x) (aL 2 Yo a8p)=gF x:=by kernel_rfl
theorem amE:bF Tryz.prog 2 (.loop ac5) a8q:=aC a0D 8 (ah) Yo a8p 81 gF (by decide) amD
theorem amF:aY Tryz.prog 15 Tryz.f15 [(0,a8o),(2,a8q)]:=⟨Tryz.func15,Tryz.call15,aU (by kernel_rfl) (aB amC (by kernel_rfl) (aB amE (by kernel_rfl) fz))⟩
theorem apQ(a:(Int×(Int×(Int×((Nat×NI)×(Nat×(Nat→(ByteArray×(((Int×Int)×(ByteArray×((SlV (SlV NI))×((SlV NI)×Int))))×((SlV (Int×((Int×Int)×ByteArray)))×((SlV (Int×((Int×Int)×ByteArray)))×(SlV (((Int×Int)×(ByteArray×((SlV (SlV NI))×((SlV NI)×Int))))×(((Int×Int)×(ByteArray×((SlV (SlV NI))×((SlV NI)×Int))))×(((Int×Int)×(ByteArray×((SlV (SlV NI))×((SlV NI)×Int))))×(Int×Int))))))))))))))))(b:(Int×(Int×(Int×((Nat×NI)×(Nat×(Nat→(ByteArray×(((Int×Int)×(ByteArray×((SlV (SlV NI))×((SlV NI)×Int))))×((SlV (Int×((Int×Int)×ByteArray)))×((SlV (Int×((Int×Int)×ByteArray)))×(SlV (((Int×Int)×(ByteArray×((SlV (SlV NI))×((SlV NI)×Int))))×(((Int×Int)×(ByteArray×((SlV (SlV NI))×((SlV NI)×Int))))×(((Int×Int)×(ByteArray×((SlV (SlV NI))×((SlV NI)×Int))))×(Int×Int)))))))))))))))):bodyK a0C [(0,a8o),(2,a8q)] (denF a0C 8) Tryz.f15 (domV [tM,tM] (a,b,())) [] 0 (bT [.bool])=CW a b:=by kernel_rfl
theorem a8r:aD Tryz.prog 15 agA:=aN a0D 8 amF true [tM,tM] [.bool] _ (by decide) (fun x=>by rw[Gs]; exact apQ x.1 x.2.1)
abbrev Yp:Shape:= { sl:=[(pc 0 (.pair .str .bool) 0),(pv 1 tI),(pv 6 tI)],ob:=[(pv 0 (.pair .str .bool))],lo:=1,nx:=1 }
abbrev a8s:List Ex:=[(.normal, { sl:=[(pc 0 (.pair .str .bool) 0)],ob:=[(pv 0 (.pair .str .bool))],lo:=1,nx:=1 })]
noncomputable def ac6:Code:=aQ (aO Tryz.f28) 0
noncomputable def a8t:Lp:=cB Yp a8s 41 bL
abbrev a2H:Shape:= { sl:=[(pc 0 (.pair .str .bool) 0),(pv 1 tI),(pv 2 tI)],ob:=[(pv 0 (.pair .str .bool))],lo:=1,nx:=1 }
abbrev agB:List Shape:=[{ sl:=[],ob:=[(pv 0 (.pair .str .bool))],lo:=1,nx:=1 }]
noncomputable def a8u:Con:=nM a2H agB fun x=>au x.1.2.1 x.1.2.2.1 x.2.1
noncomputable def a8v:Cx:= { ti:=ti,con:=[],fns:=[],un:=6 }
theorem a8w:ay Tryz.prog a8v:=ay.of mixed aK fz fz
theorem amG(x:Yp.X):bJ a8v [] (denF a8v 8) ac6 (Yp.mkS 41 x) (aL 0 Yp a8s)=bL x:=by kernel_rfl
theorem amH:bF Tryz.prog 0 (.loop ac6) a8t:=aC a8w 8 (ah) Yp a8s 41 bL (by decide) amG
theorem amI:aY Tryz.prog 28 Tryz.f28 [(0,a8t)]:=⟨Tryz.func28,Tryz.call28,aU (by kernel_rfl) (aB amH (by kernel_rfl) fz)⟩
theorem apR(n)(bytes)(w):bodyK a8v [(0,a8t)] (denF a8v 8) Tryz.f28 ((bY a2H.sl (show a2H.X from(((),(n,(bytes,()))),(w,()))).1).map .v) (mK a2H (((),(n,(bytes,()))),(w,()))) a2H.nx (iy 0 agB)=oG n bytes w:=by kernel_rfl
theorem Vg:aD Tryz.prog 28 a8u:=cO a8w 8 amI 0 a2H agB _ (by decide) (fun x=>by rw[xX]; exact apR x.1.2.1 x.1.2.2.1 x.2.1)
abbrev a2I:Shape:= { sl:=[(pc 0 (.pair .str .bool) 0),(1,(.v .str))],ob:=[(pv 0 (.pair .str .bool))],lo:=1,nx:=1 }
abbrev agC:List Shape:=[{ sl:=[],ob:=[(pv 0 (.pair .str .bool))],lo:=1,nx:=1 }]
noncomputable def aag:Con:=nM a2I agC fun x=>bC x.1.2.1 x.2.1
noncomputable def agD:Cx:= { ti:=ti,con:=[(28,a8u)],fns:=[],un:=6 }
theorem agE:ay Tryz.prog agD:=ay.of mixed aK (fc ⟨Vg,fz⟩) fz
theorem amJ:aY Tryz.prog 29 Tryz.f29 []:=⟨Tryz.func29,Tryz.call29,ah⟩
theorem apS(s)(w):bodyK agD [] (denF agD 8) Tryz.f29 ((bY a2I.sl (show a2I.X from(((),(s,())),(w,()))).1).map .v) (mK a2I (((),(s,())),(w,()))) a2I.nx (iy 0 agC)=mY s w:=by kernel_rfl
theorem a0E:aD Tryz.prog 29 aag:=cO agE 8 amJ 0 a2I agC _ (by decide) (fun x=>by rw[wR]; exact apS x.1.2.1 x.2.1)
abbrev Yq:Shape:= { sl:=[(pc 0 (.pair .str .bool) 0),(pc 3 tG 1),(pv 5 tI)],ob:=[(pv 0 (.pair .str .bool)),(1,(.p (.v (.pair tI tI)) (.p (.v .str) (.p (.sz (.sl tN)) (.p (.sz tN) (.v tI))))))],lo:=2,nx:=2 }
abbrev a8x:List Ex:=[(.normal, { sl:=[(pc 0 (.pair .str .bool) 0),(pc 3 tG 1)],ob:=[(pv 0 (.pair .str .bool)),(1,(.p (.v (.pair tI tI)) (.p (.v .str) (.p (.sz (.sl tN)) (.p (.sz tN) (.v tI))))))],lo:=2,nx:=2 })]
noncomputable def ac7:Code:=aQ (aO Tryz.f30) 0
noncomputable def a8y:Lp:=cB Yq a8x 61 bn
abbrev a2J:Shape:= { sl:=[(pc 0 (.pair .str .bool) 0),(1,(.p (.v (.pair tI tI)) (.p (.v .str) (.p (.sz (.sl tN)) (.p (.sz tN) (.v tI))))))],ob:=[(pv 0 (.pair .str .bool))],lo:=1,nx:=1 }
abbrev agF:List Shape:=[{ sl:=[],ob:=[(pv 0 (.pair .str .bool))],lo:=2,nx:=2 }]
noncomputable def amK:Con:=nM a2J agF fun x=>bP x.1.2.1.1 x.1.2.1.2.1 x.1.2.1.2.2.1.1 x.1.2.1.2.2.1.2 x.1.2.1.2.2.2.1.1 x.1.2.1.2.2.2.1.2 x.1.2.1.2.2.2.2 x.2.1
noncomputable def a8z:Cx:= { ti:=ti,con:=[(76,agp),(28,a8u),(29,aag),(77,aeD)],fns:=[],un:=6 }
theorem a8A:ay Tryz.prog a8z:=ay.of mixed aK (fc ⟨a7Y,fc ⟨Vg,fc ⟨a0E,fc ⟨a5x,fz⟩⟩⟩⟩) fz
theorem amL(x:Yq.X):bJ a8z [] (denF a8z 8) ac7 (Yq.mkS 61 x) (aL 0 Yq a8x)=bn x:=by kernel_rfl
theorem amM:bF Tryz.prog 0 (.loop ac7) a8y:=aC a8A 8 (ah) Yq a8x 61 bn (by decide) amL
theorem amN:aY Tryz.prog 30 Tryz.f30 [(0,a8y)]:=⟨Tryz.func30,Tryz.call30,aU (by kernel_rfl) (aB amM (by kernel_rfl) fz)⟩
theorem apT(x1)(x2)(nx)(x3)(nx1)(x4)(x5)(w):bodyK a8z [(0,a8y)] (denF a8z 8) Tryz.f30 ((bY a2J.sl (show a2J.X from(((),((x1,(x2,((nx,x3),((nx1,x4),x5)))),())),(w,()))).1).map .v) (mK a2J (((),((x1,(x2,((nx,x3),((nx1,x4),x5)))),())),(w,()))) a2J.nx (iy 0 agF)=lF x1 x2 nx x3 nx1 x4 x5 w:=by kernel_rfl
theorem agG:aD Tryz.prog 30 amK:=cO a8A 8 amN 0 a2J agF _ (by decide) (fun x=>by rw[uS]; exact apT x.1.2.1.1 x.1.2.1.2.1 x.1.2.1.2.2.1.1 x.1.2.1.2.2.1.2 x.1.2.1.2.2.2.1.1 x.1.2.1.2.2.2.1.2 x.1.2.1.2.2.2.2 x.2.1)
abbrev Yr:Shape:= { sl:=[(pc 0 (.pair .str .bool) 0),(1,(.sz tV)),(pv 4 tI)],ob:=[(pv 0 (.pair .str .bool))],lo:=1,nx:=1 }
abbrev a8B:List Ex:=[(.normal, { sl:=[(pc 0 (.pair .str .bool) 0)],ob:=[(pv 0 (.pair .str .bool))],lo:=1,nx:=1 })]
noncomputable def ac8:Code:=aQ (aO Tryz.f31) 0
noncomputable def a8C:Lp:=cB Yr a8B 45 bW
abbrev a2K:Shape:= { sl:=[(pc 0 (.pair .str .bool) 0),(1,(.sz tV))],ob:=[(pv 0 (.pair .str .bool))],lo:=1,nx:=1 }
abbrev agH:List Shape:=[{ sl:=[],ob:=[(pv 0 (.pair .str .bool))],lo:=1,nx:=1 }]
noncomputable def amO:Con:=nM a2K agH fun x=>jI x.1.2.1.1 x.1.2.1.2 x.2.1
noncomputable def a8D:Cx:= { ti:=ti,con:=[(28,a8u),(29,aag)],fns:=[],un:=6 }
theorem a8E:ay Tryz.prog a8D:=ay.of mixed aK (fc ⟨Vg,fc ⟨a0E,fz⟩⟩) fz
theorem amP(x:Yr.X):bJ a8D [] (denF a8D 8) ac8 (Yr.mkS 45 x) (aL 0 Yr a8B)=bW x:=by kernel_rfl
theorem amQ:bF Tryz.prog 0 (.loop ac8) a8C:=aC a8E 8 (ah) Yr a8B 45 bW (by decide) amP
theorem amR:aY Tryz.prog 31 Tryz.f31 [(0,a8C)]:=⟨Tryz.func31,Tryz.call31,aU (by kernel_rfl) (aB amQ (by kernel_rfl) fz)⟩
theorem apU(nl)(l)(w):bodyK a8D [(0,a8C)] (denF a8D 8) Tryz.f31 ((bY a2K.sl (show a2K.X from(((),((nl,l),())),(w,()))).1).map .v) (mK a2K (((),((nl,l),())),(w,()))) a2K.nx (iy 0 agH)=lG nl l w:=by kernel_rfl
theorem agI:aD Tryz.prog 31 amO:=cO a8E 8 amR 0 a2K agH _ (by decide) (fun x=>by rw[uT]; exact apU x.1.2.1.1 x.1.2.1.2 x.2.1)
abbrev Yt:Shape:= { sl:=[(1,(.c ⟨(.ptr tM),(.rf 0 [])⟩)),(pc 4 (.pair .str .bool) 1),(pv 5 tI)],ob:=[(0,(.p (.v tI) (.p (.v tI) (.p (.v tI) (.p (.sz tI) (.sz tR)))))),(pv 1 (.pair .str .bool))],lo:=2,nx:=2 }
abbrev a8F:List Ex:=[(.normal, { sl:=[(1,(.c ⟨(.ptr tM),(.rf 0 [])⟩)),(pc 4 (.pair .str .bool) 1)],ob:=[(0,(.p (.v tI) (.p (.v tI) (.p (.v tI) (.p (.sz tI) (.sz tR)))))),(pv 1 (.pair .str .bool))],lo:=2,nx:=2 })]
noncomputable def ac9:Code:=aQ (aO Tryz.f9) 0
noncomputable def a8G:Lp:=cB Yt a8F 121 mG
abbrev Yu:Shape:= { sl:=[(1,(.c ⟨(.ptr tM),(.rf 0 [])⟩)),(pc 4 (.pair .str .bool) 1),(pv 6 tI),(7,(.c ⟨(.ptr tR),(.rf 2 [])⟩)),(pv 8 tI)],ob:=[(0,(.p (.v tI) (.p (.v tI) (.p (.v tI) (.p (.sz tI) (.sz tR)))))),(pv 1 (.pair .str .bool)),(2,(.p (.v .str) (.p (.p (.v (.pair tI tI)) (.p (.v .str) (.p (.sz (.sl tN)) (.p (.sz tN) (.v tI))))) (.p (.sz tV) (.p (.sz tV) (.sz tT))))))],lo:=4,nx:=4 }
abbrev a8H:List Ex:=[(.normal, { sl:=[(1,(.c ⟨(.ptr tM),(.rf 0 [])⟩)),(pc 4 (.pair .str .bool) 1),(pv 6 tI)],ob:=[(0,(.p (.v tI) (.p (.v tI) (.p (.v tI) (.p (.sz tI) (.sz tR)))))),(pv 1 (.pair .str .bool))],lo:=4,nx:=4 })]
noncomputable def acd:Code:=aQ (aO Tryz.f9) 4
noncomputable def a1n:Lp:=cB Yu a8H 121 mH
abbrev Yv:Shape:= { sl:=[(1,(.c ⟨(.ptr tM),(.rf 0 [])⟩)),(pc 4 (.pair .str .bool) 1),(pv 6 tI)],ob:=[(0,(.p (.v tI) (.p (.v tI) (.p (.v tI) (.p (.sz tI) (.sz tR)))))),(pv 1 (.pair .str .bool))],lo:=2,nx:=2 }
abbrev a8I:List Ex:=[(.normal, { sl:=[(pc 4 (.pair .str .bool) 1)],ob:=[(pv 1 (.pair .str .bool))],lo:=2,nx:=2 })]
noncomputable def ace:Code:=aQ (aO Tryz.f9) 2
noncomputable def a8J:Lp:=cB Yv a8I 121 mI
noncomputable def amS:Con:=bG true [tM] [.str,tI] fun x=>LG x.1
noncomputable def Vh:Cx:= { ti:=ti,con:=[(28,a8u),(29,aag),(30,amK),(31,amO)],fns:=[],un:=6 }
theorem Vi:ay Tryz.prog Vh:=ay.of mixed aK (fc ⟨Vg,fc ⟨a0E,fc ⟨agG,fc ⟨agI,fz⟩⟩⟩⟩) fz
theorem amT(x:Yt.X):bJ Vh [] (denF Vh 8) ac9 (Yt.mkS 121 x) (aL 0 Yt a8F)=mG x:=by kernel_rfl
theorem amU:bF Tryz.prog 0 (.loop ac9) a8G:=aC Vi 8 (ah) Yt a8F 121 mG (by decide) amT
theorem amV(x:Yu.X):bJ Vh [] (denF Vh 8) acd (Yu.mkS 121 x) (aL 4 Yu a8H)=mH x:=by kernel_rfl
theorem acf:bF Tryz.prog 4 (.loop acd) a1n:=aC Vi 8 (ah) Yu a8H 121 mH (by decide) amV
theorem amW(x:Yv.X):bJ Vh [(4,a1n)] (denF Vh 8) ace (Yv.mkS 121 x) (aL 2 Yv a8I)=mI x:=by kernel_rfl
theorem amX:bF Tryz.prog 2 (.loop ace) a8J:=aC Vi 8 (aU (by kernel_rfl) (aB acf (by kernel_rfl) fz)) Yv a8I 121 mI (by decide) amW
theorem amY:aY Tryz.prog 9 Tryz.f9 [(0,a8G),(4,a1n),(2,a8J)]:=⟨Tryz.func9,Tryz.call9,aU (by kernel_rfl) (aB amU (by kernel_rfl) (aB acf (by kernel_rfl) (aB amX (by kernel_rfl) fz)))⟩
theorem apV(x:(Int×(Int×(Int×((Nat×NI)×(Nat×(Nat→(ByteArray×(((Int×Int)×(ByteArray×((SlV (SlV NI))×((SlV NI)×Int))))×((SlV (Int×((Int×Int)×ByteArray)))×((SlV (Int×((Int×Int)×ByteArray)))×(SlV (((Int×Int)×(ByteArray×((SlV (SlV NI))×((SlV NI)×Int))))×(((Int×Int)×(ByteArray×((SlV (SlV NI))×((SlV NI)×Int))))×(((Int×Int)×(ByteArray×((SlV (SlV NI))×((SlV NI)×Int))))×(Int×Int)))))))))))))))):bodyK Vh [(0,a8G),(4,a1n),(2,a8J)] (denF Vh 8) Tryz.f9 (domV [tM] (x,())) [] 0 (bT [.str,tI])=LD x:=by kernel_rfl
theorem agJ:aD Tryz.prog 9 amS:=aN Vi 8 amY true [tM] [.str,tI] _ (by decide) (fun x=>by rw[Ri]; exact apV x.1)
abbrev a2L:Shape:= { sl:=[(pc 0 (.pair .str (.pair tI .bool)) 0),(pv 1 tI)],ob:=[(pv 0 (.pair .str (.pair tI .bool)))],lo:=1,nx:=1 }
abbrev agK:List Shape:=[{ sl:=[(0,(.v .str))],ob:=[(pv 0 (.pair .str (.pair tI .bool)))],lo:=1,nx:=1 }]
noncomputable def agL:Con:=nM a2L agK fun x=>kQ x.1.2.1 x.2.1
noncomputable def agM:Cx:= { ti:=ti,con:=[],fns:=[],un:=6 }
theorem agN:ay Tryz.prog agM:=ay.of mixed aK fz fz
theorem amZ:aY Tryz.prog 83 Tryz.f83 []:=⟨Tryz.func83,Tryz.call83,ah⟩
theorem apW(n)(r):bodyK agM [] (denF agM 8) Tryz.f83 ((bY a2L.sl (show a2L.X from(((),(n,())),(r,()))).1).map .v) (mK a2L (((),(n,())),(r,()))) a2L.nx (iy 1 agK)=ni n r:=by kernel_rfl
theorem a8K:aD Tryz.prog 83 agL:=cO agN 8 amZ 1 a2L agK _ (by decide) (fun x=>by rw[wT]; exact apW x.1.2.1 x.2.1)
abbrev Yw:Shape:= { sl:=[(pc 0 (.pair .str (.pair tI .bool)) 0),(5,(.v .str)),(pv 6 tI),(pv 7 tI)],ob:=[(pv 0 (.pair .str (.pair tI .bool)))],lo:=1,nx:=1 }
abbrev a8L:List Ex:=[(.normal, { sl:=[(pc 0 (.pair .str (.pair tI .bool)) 0),(pv 6 tI)],ob:=[(pv 0 (.pair .str (.pair tI .bool)))],lo:=1,nx:=1 })]
noncomputable def acg:Code:=aQ (aO Tryz.f38) 0
noncomputable def a8M:Lp:=cB Yw a8L 25 dB
abbrev a2M:Shape:= { sl:=[(pc 0 (.pair .str (.pair tI .bool)) 0),(pv 1 tI)],ob:=[(pv 0 (.pair .str (.pair tI .bool)))],lo:=1,nx:=1 }
abbrev agO:List Shape:=[{ sl:=[(pv 0 tI)],ob:=[(pv 0 (.pair .str (.pair tI .bool)))],lo:=1,nx:=1 }]
noncomputable def a8N:Con:=nM a2M agO fun x=>aH x.1.2.1 x.2.1
noncomputable def a8O:Cx:= { ti:=ti,con:=[(83,agL)],fns:=[],un:=6 }
theorem a8P:ay Tryz.prog a8O:=ay.of mixed aK (fc ⟨a8K,fz⟩) fz
theorem an0(x:Yw.X):bJ a8O [] (denF a8O 8) acg (Yw.mkS 25 x) (aL 0 Yw a8L)=dB x:=by kernel_rfl
theorem an1:bF Tryz.prog 0 (.loop acg) a8M:=aC a8P 8 (ah) Yw a8L 25 dB (by decide) an0
theorem an2:aY Tryz.prog 38 Tryz.f38 [(0,a8M)]:=⟨Tryz.func38,Tryz.call38,aU (by kernel_rfl) (aB an1 (by kernel_rfl) fz)⟩
theorem apX(bytes)(r):bodyK a8O [(0,a8M)] (denF a8O 8) Tryz.f38 ((bY a2M.sl (show a2M.X from(((),(bytes,())),(r,()))).1).map .v) (mK a2M (((),(bytes,())),(r,()))) a2M.nx (iy 1 agO)=oH bytes r:=by kernel_rfl
theorem Vj:aD Tryz.prog 38 a8N:=cO a8P 8 an2 1 a2M agO _ (by decide) (fun x=>by rw[xY]; exact apX x.1.2.1 x.2.1)
abbrev a2N:Shape:= { sl:=[(pc 0 (.pair .str (.pair tI .bool)) 0)],ob:=[(pv 0 (.pair .str (.pair tI .bool)))],lo:=1,nx:=1 }
abbrev agP:List Shape:=[{ sl:=[(0,(.v .str))],ob:=[(pv 0 (.pair .str (.pair tI .bool)))],lo:=1,nx:=1 }]
noncomputable def aah:Con:=nM a2N agP fun x=>eY x.2.1
noncomputable def agQ:Cx:= { ti:=ti,con:=[(38,a8N),(83,agL)],fns:=[],un:=6 }
theorem agR:ay Tryz.prog agQ:=ay.of mixed aK (fc ⟨Vj,fc ⟨a8K,fz⟩⟩) fz
theorem an3:aY Tryz.prog 39 Tryz.f39 []:=⟨Tryz.func39,Tryz.call39,ah⟩
theorem apY(r):bodyK agQ [] (denF agQ 8) Tryz.f39 ((bY a2N.sl (show a2N.X from(((),()),(r,()))).1).map .v) (mK a2N (((),()),(r,()))) a2N.nx (iy 1 agP)=nk r:=by kernel_rfl
theorem a0F:aD Tryz.prog 39 aah:=cO agR 8 an3 1 a2N agP _ (by decide) (fun x=>by rw[wV]; exact apY x.2.1)
abbrev Yx:Shape:= { sl:=[(pc 0 (.pair .str (.pair tI .bool)) 0),(pc 2 tG 1),(pc 3 tG 2),(pv 7 tI),(pv 8 tI)],ob:=[(pv 0 (.pair .str (.pair tI .bool))),(1,(.p (.v (.pair tI tI)) (.p (.v .str) (.p (.sz (.sl tN)) (.p (.w 42 tN 3) (.v tI)))))),(2,(.p (.v (.pair tI tI)) (.p (.v .str) (.p (.sz (.sl tN)) (.p (.w 42 tN 4) (.v tI))))))],lo:=3,nx:=5 }
abbrev a8Q:List Ex:=[(.normal, { sl:=[(pc 0 (.pair .str (.pair tI .bool)) 0),(pc 2 tG 1),(pc 3 tG 2)],ob:=[(pv 0 (.pair .str (.pair tI .bool))),(1,(.p (.v (.pair tI tI)) (.p (.v .str) (.p (.sz (.sl tN)) (.p (.w 42 tN 5) (.v tI)))))),(2,(.p (.v (.pair tI tI)) (.p (.v .str) (.p (.sz (.sl tN)) (.p (.w 42 tN 6) (.v tI))))))],lo:=5,nx:=7 })]
noncomputable def ach:Code:=aQ (aO Tryz.f40) 0
noncomputable def a8R:Lp:=cB Yx a8Q 86 aX
abbrev a2O:Shape:= { sl:=[(pc 0 (.pair .str (.pair tI .bool)) 0)],ob:=[(pv 0 (.pair .str (.pair tI .bool)))],lo:=1,nx:=1 }
abbrev agS:List Shape:=[{ sl:=[(0,(.p (.v (.pair tI tI)) (.p (.v .str) (.p (.sz (.sl tN)) (.p (.sz tN) (.v tI))))))],ob:=[(pv 0 (.pair .str (.pair tI .bool)))],lo:=7,nx:=7 }]
noncomputable def an4:Con:=nM a2O agS fun x=>fF x.2.1
noncomputable def a8S:Cx:= { ti:=ti,con:=[(38,a8N),(39,aah),(84,amc),(85,aeH)],fns:=[],un:=6 }
theorem a8T:ay Tryz.prog a8S:=ay.of mixed aK (fc ⟨Vj,fc ⟨a0F,fc ⟨agq,fc ⟨a5S,fz⟩⟩⟩⟩) fz
theorem an5(x:Yx.X):bJ a8S [] (denF a8S 8) ach (Yx.mkS 86 x) (aL 0 Yx a8Q)=aX x:=by kernel_rfl
theorem an6:bF Tryz.prog 0 (.loop ach) a8R:=aC a8T 8 (ah) Yx a8Q 86 aX (by decide) an5
theorem an7:aY Tryz.prog 40 Tryz.f40 [(0,(WX 2 [.R,.R,.R,.L] a8R))]:=⟨Tryz.func40,Tryz.call40,aU (by kernel_rfl) (aB (Ky 2 [.R,.R,.R,.L] an6) (by kernel_rfl) fz)⟩
theorem apZ(r):bodyK a8S [(0,(WX 2 [.R,.R,.R,.L] a8R))] (denF a8S 8) Tryz.f40 ((bY a2O.sl (show a2O.X from(((),()),(r,()))).1).map .v) (mK a2O (((),()),(r,()))) a2O.nx (iy 1 agS)=lH r:=by kernel_rfl
theorem agT:aD Tryz.prog 40 an4:=cO a8T 8 an7 1 a2O agS _ (by decide) (fun x=>by rw[uU]; exact apZ x.2.1)
abbrev Yy:Shape:= { sl:=[(pc 0 (.pair .str (.pair tI .bool)) 0),(3,(.w 74 tV 1)),(pv 4 tI),(pv 5 tI)],ob:=[(pv 0 (.pair .str (.pair tI .bool)))],lo:=1,nx:=2 }
abbrev a8U:List Ex:=[(.normal, { sl:=[(pc 0 (.pair .str (.pair tI .bool)) 0),(3,(.w 74 tV 2))],ob:=[(pv 0 (.pair .str (.pair tI .bool)))],lo:=2,nx:=3 })]
noncomputable def aci:Code:=aQ (aO Tryz.f41) 0
noncomputable def a8V:Lp:=cB Yy a8U 40 bD
abbrev a2P:Shape:= { sl:=[(pc 0 (.pair .str (.pair tI .bool)) 0)],ob:=[(pv 0 (.pair .str (.pair tI .bool)))],lo:=1,nx:=1 }
abbrev agU:List Shape:=[{ sl:=[(0,(.sz tV))],ob:=[(pv 0 (.pair .str (.pair tI .bool)))],lo:=3,nx:=3 }]
noncomputable def an8:Con:=nM a2P agU fun x=>jJ x.2.1
noncomputable def a8W:Cx:= { ti:=ti,con:=[(38,a8N),(39,aah)],fns:=[],un:=6 }
theorem a8X:ay Tryz.prog a8W:=ay.of mixed aK (fc ⟨Vj,fc ⟨a0F,fz⟩⟩) fz
theorem an9(x:Yy.X):bJ a8W [] (denF a8W 8) aci (Yy.mkS 40 x) (aL 0 Yy a8U)=bD x:=by kernel_rfl
theorem ana:bF Tryz.prog 0 (.loop aci) a8V:=aC a8X 8 (ah) Yy a8U 40 bD (by decide) an9
theorem anb:aY Tryz.prog 41 Tryz.f41 [(0,a8V)]:=⟨Tryz.func41,Tryz.call41,aU (by kernel_rfl) (aB ana (by kernel_rfl) fz)⟩
theorem aq0(r):bodyK a8W [(0,a8V)] (denF a8W 8) Tryz.f41 ((bY a2P.sl (show a2P.X from(((),()),(r,()))).1).map .v) (mK a2P (((),()),(r,()))) a2P.nx (iy 1 agU)=lI r:=by kernel_rfl
theorem agV:aD Tryz.prog 41 an8:=cO a8X 8 anb 1 a2P agU _ (by decide) (fun x=>by rw[uV]; exact aq0 x.2.1)
abbrev Yz:Shape:= { sl:=[(0,(.v .str)),(2,(.c ⟨(.ptr tM),(.rf 0 [])⟩)),(pc 4 (.pair .str (.pair tI .bool)) 1),(5,(.c ⟨(.ptr tM),(.rf 2 [])⟩)),(pv 6 tI),(pv 7 tI)],ob:=[(0,(.p (.v tI) (.p (.v tI) (.p (.v tI) (.p (.c ⟨(.sl tI),.nil⟩) (.c ⟨(.sl tR),.nil⟩)))))),(pv 1 (.pair .str (.pair tI .bool))),(2,(.p (.v tI) (.p (.v tI) (.p (.v tI) (.p (.w 3 tI 3) (.c ⟨(.sl tR),.nil⟩))))))],lo:=3,nx:=4 }
abbrev a8Y:List Ex:=[(.normal, { sl:=[(0,(.v .str)),(2,(.c ⟨(.ptr tM),(.rf 0 [])⟩)),(pc 4 (.pair .str (.pair tI .bool)) 1),(5,(.c ⟨(.ptr tM),(.rf 2 [])⟩))],ob:=[(0,(.p (.v tI) (.p (.v tI) (.p (.v tI) (.p (.c ⟨(.sl tI),.nil⟩) (.c ⟨(.sl tR),.nil⟩)))))),(pv 1 (.pair .str (.pair tI .bool))),(2,(.p (.v tI) (.p (.v tI) (.p (.v tI) (.p (.w 3 tI 4) (.c ⟨(.sl tR),.nil⟩))))))],lo:=4,nx:=5 })]
noncomputable def acj:Code:=aQ (aO Tryz.f11) 0
noncomputable def a8Z:Lp:=cB Yz a8Y 129 iG
abbrev YA:Shape:= { sl:=[(0,(.v .str)),(2,(.c ⟨(.ptr tM),(.rf 0 [])⟩)),(pc 4 (.pair .str (.pair tI .bool)) 1),(5,(.c ⟨(.ptr tM),(.rf 2 [])⟩)),(pv 8 tI),(pv 9 tI),(10,(.c ⟨(.ptr tR),(.rf 7 [])⟩)),(pv 11 tI),(pv 12 tI)],ob:=[(0,(.p (.v tI) (.p (.v tI) (.p (.v tI) (.p (.sz tI) (.sz tR)))))),(pv 1 (.pair .str (.pair tI .bool))),(2,(.p (.v tI) (.p (.v tI) (.p (.v tI) (.p (.w 3 tI 18) (.w 71 tR 19)))))),(7,(.p (.v .str) (.p (.p (.v (.pair tI tI)) (.p (.v .str) (.p (.sz (.sl tN)) (.p (.sz tN) (.v tI))))) (.p (.sz tV) (.p (.sz tV) (.w 76 tT 20))))))],lo:=18,nx:=21 }
abbrev a90:List Ex:=[(.normal, { sl:=[(0,(.v .str)),(2,(.c ⟨(.ptr tM),(.rf 0 [])⟩)),(pc 4 (.pair .str (.pair tI .bool)) 1),(5,(.c ⟨(.ptr tM),(.rf 2 [])⟩)),(pv 8 tI),(pv 9 tI),(10,(.c ⟨(.ptr tR),(.rf 7 [])⟩))],ob:=[(0,(.p (.v tI) (.p (.v tI) (.p (.v tI) (.p (.sz tI) (.sz tR)))))),(pv 1 (.pair .str (.pair tI .bool))),(2,(.p (.v tI) (.p (.v tI) (.p (.v tI) (.p (.w 3 tI 21) (.w 71 tR 22)))))),(7,(.p (.v .str) (.p (.p (.v (.pair tI tI)) (.p (.v .str) (.p (.sz (.sl tN)) (.p (.sz tN) (.v tI))))) (.p (.sz tV) (.p (.sz tV) (.w 76 tT 23))))))],lo:=21,nx:=24 })]
noncomputable def acn:Code:=aQ (aO Tryz.f11) 4
noncomputable def a1o:Lp:=cB YA a90 129 iH
abbrev YB:Shape:= { sl:=[(0,(.v .str)),(2,(.c ⟨(.ptr tM),(.rf 0 [])⟩)),(pc 4 (.pair .str (.pair tI .bool)) 1),(5,(.c ⟨(.ptr tM),(.rf 2 [])⟩)),(pv 8 tI),(pv 9 tI)],ob:=[(0,(.p (.v tI) (.p (.v tI) (.p (.v tI) (.p (.sz tI) (.sz tR)))))),(pv 1 (.pair .str (.pair tI .bool))),(2,(.p (.v tI) (.p (.v tI) (.p (.v tI) (.p (.w 3 tI 5) (.w 71 tR 6))))))],lo:=5,nx:=7 }
abbrev a92:List Ex:=[(.normal, { sl:=[(0,(.v .str)),(2,(.c ⟨(.ptr tM),(.rf 0 [])⟩)),(pc 4 (.pair .str (.pair tI .bool)) 1),(5,(.c ⟨(.ptr tM),(.rf 2 [])⟩))],ob:=[(0,(.p (.v tI) (.p (.v tI) (.p (.v tI) (.p (.sz tI) (.sz tR)))))),(pv 1 (.pair .str (.pair tI .bool))),(2,(.p (.v tI) (.p (.v tI) (.p (.v tI) (.p (.w 3 tI 7) (.w 71 tR 8))))))],lo:=7,nx:=9 })]
noncomputable def aco:Code:=aQ (aO Tryz.f11) 2
noncomputable def a94:Lp:=cB YB a92 129 iI
noncomputable def agW:Con:=bG false [.str] [tM,tI] fun x=>Gw x.1
noncomputable def Vk:Cx:= { ti:=ti,con:=[(38,a8N),(39,aah),(40,an4),(41,an8)],fns:=[],un:=6 }
theorem Vl:ay Tryz.prog Vk:=ay.of mixed aK (fc ⟨Vj,fc ⟨a0F,fc ⟨agT,fc ⟨agV,fz⟩⟩⟩⟩) fz
theorem anc(x:Yz.X):bJ Vk [] (denF Vk 8) acj (Yz.mkS 129 x) (aL 0 Yz a8Y)=iG x:=by kernel_rfl
theorem ane:bF Tryz.prog 0 (.loop acj) a8Z:=aC Vl 8 (ah) Yz a8Y 129 iG (by decide) anc
theorem anf(x:YA.X):bJ Vk [] (denF Vk 8) acn (YA.mkS 129 x) (aL 4 YA a90)=iH x:=by kernel_rfl
theorem acp:bF Tryz.prog 4 (.loop acn) a1o:=aC Vl 8 (ah) YA a90 129 iH (by decide) anf
theorem ang(x:YB.X):bJ Vk [(4,(WX 7 [.R,.R,.R,.R] a1o))] (denF Vk 8) aco (YB.mkS 129 x) (aL 2 YB a92)=iI x:=by kernel_rfl
theorem anh:bF Tryz.prog 2 (.loop aco) a94:=aC Vl 8 (aU (by kernel_rfl) (aB (Ky 7 [.R,.R,.R,.R] acp) (by kernel_rfl) fz)) YB a92 129 iI (by decide) ang
theorem ani:aY Tryz.prog 11 Tryz.f11 [(0,a8Z),(4,(WX 7 [.R,.R,.R,.R] a1o)),(2,a94)]:=⟨Tryz.func11,Tryz.call11,aU (by kernel_rfl) (aB ane (by kernel_rfl) (aB (Ky 7 [.R,.R,.R,.R] acp) (by kernel_rfl) (aB anh (by kernel_rfl) fz)))⟩
theorem aq1(s):bodyK Vk [(0,a8Z),(4,(WX 7 [.R,.R,.R,.R] a1o)),(2,a94)] (denF Vk 8) Tryz.f11 (domV [.str] (s,())) [] 0 (bT [tM,tI])=I6 s:=by kernel_rfl
theorem a95:aD Tryz.prog 11 agW:=aN Vl 8 ani false [.str] [tM,tI] _ (by decide) (fun x=>by rw[Oy]; exact aq1 x.1)
noncomputable def anj:Con:=bG false [.str] [tM,tI] fun x=>LM x.1
noncomputable def agX:Cx:= { ti:=ti,con:=[(16,aaf),(11,agW)],fns:=[],un:=6 }
theorem agY:ay Tryz.prog agX:=ay.of mixed aK (fc ⟨a0x,fc ⟨a95,fz⟩⟩) fz
theorem ank:aY Tryz.prog 14 Tryz.f14 []:=⟨Tryz.func14,Tryz.call14,ah⟩
theorem aq2(s):bodyK agX [] (denF agX 8) Tryz.f14 (domV [.str] (s,())) [] 0 (bT [tM,tI])=I7 s:=by kernel_rfl
theorem agZ:aD Tryz.prog 14 anj:=aN agY 8 ank false [.str] [tM,tI] _ (by decide) (fun x=>by rw[Oz]; exact aq2 x.1)
end Go.Proofs.YtidodcilgldjoaaGreat
