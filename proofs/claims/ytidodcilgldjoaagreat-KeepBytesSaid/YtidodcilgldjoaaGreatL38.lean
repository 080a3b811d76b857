/-
 What the statements of a layer share.
-/
import Derived.Test.YtidodcilgldjoaaGreatDenI
import Derived.Test.YtidodcilgldjoaaGreatPlA
import Derived.Test.YtidodcilgldjoaaGreatPkeep
import Derived.Test.YtidodcilgldjoaaGreatPr05
import Derived.Test.YtidodcilgldjoaaGreatPr38
import Derived.Test.YtidodcilgldjoaaGreatPsha
import Derived.Test.YtidodcilgldjoaaGreatEqA
import Derived.Test.YtidodcilgldjoaaGreatDenM
import Derived.Test.YtidodcilgldjoaaGreatLib
import Derived.Test.YtidodcilgldjoaaGreatDenF
import Derived.Test.YtidodcilgldjoaaGreatEkeep
import Derived.Test.YtidodcilgldjoaaGreatEr05
import Derived.Test.YtidodcilgldjoaaGreatEr38
import Derived.Test.YtidodcilgldjoaaGreatEsha
import Derived.Test.YtidodcilgldjoaaGreatMA
import Derived.Test.YtidodcilgldjoaaGreatMD
import Derived.Test.YtidodcilgldjoaaGreatMF
set_option linter.unusedVariables false
set_option linter.unusedSimpArgs false
set_option maxRecDepth 100000
set_option maxHeartbeats 0
namespace Go.Pl
end Go.Pl
open Go Go.Den Go.Pl
namespace Go.Pl
open Go.IntKind (i64 u64 u32 u8)
noncomputable def Et:Option (Bool):=
 match(yL (ByteArray.mk #[1,2,1,5,0,0,0,0,0,0,0,0,0,0,0,0]))with
 |none=>none
 |some r=>(
 bif (decide ((((16+(ByteArray.size r)):Nat):Int)>IntKind.i64.max))then(
 none)
 else(
 bif (decide (((((ByteArray.size ((ByteArray.mk #[1,2,1,5,0,0,0,0,0,0,0,0,0,0,0,0])++r))+1):Nat):Int)>IntKind.i64.max))then(
 none)
 else(
 match(nT (((ByteArray.mk #[1,2,1,5,0,0,0,0,0,0,0,0,0,0,0,0])++r)++(ByteArray.mk #[120])))with
 |none=>none
 |some r1=>(
 match Hu with
 |none=>none
 |some r2=>(
 match(vD ((r2.1.1,r2.1.2),r2.2))with
 |none=>none
 |some r3=>(
 match r3.1 with
 |none=>(
 match(eU none)with
 |none=>none
 |some r10=>(
 match r10 with
 |none=>(
 match(bV (1,(2,(1,((5,(upd (upd (upd (upd (upd (fun _=>0) 0 0) 1 0) 2 0) 3 0) 4 0)),(0,(fun _=>(ByteArray.empty,(((0,0),(ByteArray.empty,(.nil,(.nil,0)))),(.nil,(.nil,.nil)))))))))) (1,(2,(1,((5,(fun j=>(glue 4 (glue 3 (glue 2 (glue 1 (glue 0 (fun _=>0) (upd (fun _=>0) 0 0)) (upd (fun _=>0) 0 0)) (upd (fun _=>0) 0 0)) (upd (fun _=>0) 0 0)) (upd (fun _=>0) 0 0)) (0+j))),(0,(fun _=>(ByteArray.empty,(((0,0),(ByteArray.empty,(.nil,(.nil,0)))),(.nil,(.nil,.nil)))))))))))with
 |none=>none
 |some r14=>(
 bif r14 then(
 match(tY (ByteArray.mk #[1,2,1,5,0,0,0,0,0,0,0,0,0,0,0,0]))with
 |none=>none
 |some r15=>(
 bif (decide ((((16+(ByteArray.size r15)):Nat):Int)>IntKind.i64.max))then(
 none)
 else(
 bif (sEq ((ByteArray.mk #[1,2,1,5,0,0,0,0,0,0,0,0,0,0,0,0])++r) ((ByteArray.mk #[1,2,1,5,0,0,0,0,0,0,0,0,0,0,0,0])++r15))then(
 bif (r1.2==4)then(
 bif (r3.2==0)then(
 some false)
 else(
 some false))
 else(
 some false))
 else(
 some false))))
 else(
 some false)))
 |some p2=>(
 match(bV (1,(2,(1,((5,(upd (upd (upd (upd (upd (fun _=>0) 0 0) 1 0) 2 0) 3 0) 4 0)),(0,(fun _=>(ByteArray.empty,(((0,0),(ByteArray.empty,(.nil,(.nil,0)))),(.nil,(.nil,.nil)))))))))) (1,(2,(1,((5,(fun j=>(glue 4 (glue 3 (glue 2 (glue 1 (glue 0 (fun _=>0) (upd (fun _=>0) 0 0)) (upd (fun _=>0) 0 0)) (upd (fun _=>0) 0 0)) (upd (fun _=>0) 0 0)) (upd (fun _=>0) 0 0)) (0+j))),(0,(fun _=>(ByteArray.empty,(((0,0),(ByteArray.empty,(.nil,(.nil,0)))),(.nil,(.nil,.nil)))))))))))with
 |none=>none
 |some r11=>(
 bif r11 then(
 match(tY (ByteArray.mk #[1,2,1,5,0,0,0,0,0,0,0,0,0,0,0,0]))with
 |none=>none
 |some r12=>(
 bif (decide ((((16+(ByteArray.size r12)):Nat):Int)>IntKind.i64.max))then(
 none)
 else(
 bif (sEq ((ByteArray.mk #[1,2,1,5,0,0,0,0,0,0,0,0,0,0,0,0])++r) ((ByteArray.mk #[1,2,1,5,0,0,0,0,0,0,0,0,0,0,0,0])++r12))then(
 bif (r1.2==4)then(
 bif (r3.2==0)then(
 let t5:=(Option.getD (lK (.int .i64) (.int .i64) (gN (.int .i64) (.int .i64) (gN (.int .i64) (.int .i64) (gN (.int .i64) (.int .i64) (gN (.int .i64) (.int .i64) (gN (.int .i64) (.int .i64) ([]:List (Int×Int)) 1 0) 2 0) 3 0) 4 0) 5 0) 1) (0:Int))
 let t6:=(Option.getD (lK (.int .i64) (.int .i64) (gN (.int .i64) (.int .i64) (gN (.int .i64) (.int .i64) (gN (.int .i64) (.int .i64) (gN (.int .i64) (.int .i64) (gN (.int .i64) (.int .i64) ([]:List (Int×Int)) 1 0) 2 0) 3 0) 4 0) 5 0) 2) (0:Int))
 let t7:=(Option.getD (lK (.int .i64) (.int .i64) (gN (.int .i64) (.int .i64) (gN (.int .i64) (.int .i64) (gN (.int .i64) (.int .i64) (gN (.int .i64) (.int .i64) (gN (.int .i64) (.int .i64) ([]:List (Int×Int)) 1 0) 2 0) 3 0) 4 0) 5 0) 3) (0:Int))
 let t8:=(Option.getD (lK (.int .i64) (.int .i64) (gN (.int .i64) (.int .i64) (gN (.int .i64) (.int .i64) (gN (.int .i64) (.int .i64) (gN (.int .i64) (.int .i64) (gN (.int .i64) (.int .i64) ([]:List (Int×Int)) 1 0) 2 0) 3 0) 4 0) 5 0) 4) (0:Int))
 let t9:=(Option.getD (lK (.int .i64) (.int .i64) (gN (.int .i64) (.int .i64) (gN (.int .i64) (.int .i64) (gN (.int .i64) (.int .i64) (gN (.int .i64) (.int .i64) (gN (.int .i64) (.int .i64) ([]:List (Int×Int)) 1 0) 2 0) 3 0) 4 0) 5 0) 5) (0:Int))
 match(bV (1,(2,(1,((5,(fun j=>(glue 4 (glue 3 (glue 2 (glue 1 (glue 0 (fun _=>0) (upd (fun _=>0) 0 t5)) (upd (fun _=>0) 0 t6)) (upd (fun _=>0) 0 t7)) (upd (fun _=>0) 0 t8)) (upd (fun _=>0) 0 t9)) (0+j))),(0,(fun _=>(ByteArray.empty,(((0,0),(ByteArray.empty,(.nil,(.nil,0)))),(.nil,(.nil,.nil)))))))))) (1,(2,(1,((5,(upd (upd (upd (upd (upd (fun _=>0) 0 0) 1 0) 2 0) 3 0) 4 0)),(0,(fun _=>(ByteArray.empty,(((0,0),(ByteArray.empty,(.nil,(.nil,0)))),(.nil,(.nil,.nil)))))))))))with
 |none=>none
 |some r13=>(
 some r13))
 else(
 some false))
 else(
 some false))
 else(
 some false))))
 else(
 some false)))))
 |some p=>(
 match(eU (some p))with
 |none=>none
 |some r4=>(
 match r4 with
 |none=>(
 match(bV (1,(2,(1,((5,(upd (upd (upd (upd (upd (fun _=>0) 0 0) 1 0) 2 0) 3 0) 4 0)),(0,(fun _=>(ByteArray.empty,(((0,0),(ByteArray.empty,(.nil,(.nil,0)))),(.nil,(.nil,.nil)))))))))) (1,(2,(1,((5,(fun j=>(glue 4 (glue 3 (glue 2 (glue 1 (glue 0 (fun _=>0) (upd (fun _=>0) 0 0)) (upd (fun _=>0) 0 0)) (upd (fun _=>0) 0 0)) (upd (fun _=>0) 0 0)) (upd (fun _=>0) 0 0)) (0+j))),(0,(fun _=>(ByteArray.empty,(((0,0),(ByteArray.empty,(.nil,(.nil,0)))),(.nil,(.nil,.nil)))))))))))with
 |none=>none
 |some r8=>(
 bif r8 then(
 match(tY (ByteArray.mk #[1,2,1,5,0,0,0,0,0,0,0,0,0,0,0,0]))with
 |none=>none
 |some r9=>(
 bif (decide ((((16+(ByteArray.size r9)):Nat):Int)>IntKind.i64.max))then(
 none)
 else(
 bif (sEq ((ByteArray.mk #[1,2,1,5,0,0,0,0,0,0,0,0,0,0,0,0])++r) ((ByteArray.mk #[1,2,1,5,0,0,0,0,0,0,0,0,0,0,0,0])++r9))then(
 bif (r1.2==4)then(
 bif (r3.2==0)then(
 some false)
 else(
 some false))
 else(
 some false))
 else(
 some false))))
 else(
 some false)))
 |some p1=>(
 match(bV (1,(2,(1,((5,(upd (upd (upd (upd (upd (fun _=>0) 0 0) 1 0) 2 0) 3 0) 4 0)),(0,(fun _=>(ByteArray.empty,(((0,0),(ByteArray.empty,(.nil,(.nil,0)))),(.nil,(.nil,.nil)))))))))) (1,(2,(1,((5,(fun j=>(glue 4 (glue 3 (glue 2 (glue 1 (glue 0 (fun _=>0) (upd (fun _=>0) 0 0)) (upd (fun _=>0) 0 0)) (upd (fun _=>0) 0 0)) (upd (fun _=>0) 0 0)) (upd (fun _=>0) 0 0)) (0+j))),(0,(fun _=>(ByteArray.empty,(((0,0),(ByteArray.empty,(.nil,(.nil,0)))),(.nil,(.nil,.nil)))))))))))with
 |none=>none
 |some r5=>(
 bif r5 then(
 match(tY (ByteArray.mk #[1,2,1,5,0,0,0,0,0,0,0,0,0,0,0,0]))with
 |none=>none
 |some r6=>(
 bif (decide ((((16+(ByteArray.size r6)):Nat):Int)>IntKind.i64.max))then(
 none)
 else(
 bif (sEq ((ByteArray.mk #[1,2,1,5,0,0,0,0,0,0,0,0,0,0,0,0])++r) ((ByteArray.mk #[1,2,1,5,0,0,0,0,0,0,0,0,0,0,0,0])++r6))then(
 bif (r1.2==4)then(
 bif (r3.2==0)then(
 let t:=(Option.getD (lK (.int .i64) (.int .i64) (gN (.int .i64) (.int .i64) (gN (.int .i64) (.int .i64) (gN (.int .i64) (.int .i64) (gN (.int .i64) (.int .i64) (gN (.int .i64) (.int .i64) ([]:List (Int×Int)) 1 0) 2 0) 3 0) 4 0) 5 0) 1) (0:Int))
 let t1:=(Option.getD (lK (.int .i64) (.int .i64) (gN (.int .i64) (.int .i64) (gN (.int .i64) (.int .i64) (gN (.int .i64) (.int .i64) (gN (.int .i64) (.int .i64) (gN (.int .i64) (.int .i64) ([]:List (Int×Int)) 1 0) 2 0) 3 0) 4 0) 5 0) 2) (0:Int))
 let t2:=(Option.getD (lK (.int .i64) (.int .i64) (gN (.int .i64) (.int .i64) (gN (.int .i64) (.int .i64) (gN (.int .i64) (.int .i64) (gN (.int .i64) (.int .i64) (gN (.int .i64) (.int .i64) ([]:List (Int×Int)) 1 0) 2 0) 3 0) 4 0) 5 0) 3) (0:Int))
 let t3:=(Option.getD (lK (.int .i64) (.int .i64) (gN (.int .i64) (.int .i64) (gN (.int .i64) (.int .i64) (gN (.int .i64) (.int .i64) (gN (.int .i64) (.int .i64) (gN (.int .i64) (.int .i64) ([]:List (Int×Int)) 1 0) 2 0) 3 0) 4 0) 5 0) 4) (0:Int))
 let t4:=(Option.getD (lK (.int .i64) (.int .i64) (gN (.int .i64) (.int .i64) (gN (.int .i64) (.int .i64) (gN (.int .i64) (.int .i64) (gN (.int .i64) (.int .i64) (gN (.int .i64) (.int .i64) ([]:List (Int×Int)) 1 0) 2 0) 3 0) 4 0) 5 0) 5) (0:Int))
 match(bV (1,(2,(1,((5,(fun j=>(glue 4 (glue 3 (glue 2 (glue 1 (glue 0 (fun _=>0) (upd (fun _=>0) 0 t)) (upd (fun _=>0) 0 t1)) (upd (fun _=>0) 0 t2)) (upd (fun _=>0) 0 t3)) (upd (fun _=>0) 0 t4)) (0+j))),(0,(fun _=>(ByteArray.empty,(((0,0),(ByteArray.empty,(.nil,(.nil,0)))),(.nil,(.nil,.nil)))))))))) (1,(2,(1,((5,(upd (upd (upd (upd (upd (fun _=>0) 0 0) 1 0) 2 0) 3 0) 4 0)),(0,(fun _=>(ByteArray.empty,(((0,0),(ByteArray.empty,(.nil,(.nil,0)))),(.nil,(.nil,.nil)))))))))))with
 |none=>none
 |some r7=>(
 some r7))
 else(
 some false))
 else(
 some false))
 else(
 some false))))
 else(
 some false)))))))))))
noncomputable def jB:=veil Et
theorem Mr:jB=Et:=ak _
end Go.Pl
namespace Go.Proofs.YtidodcilgldjoaaGreat
abbrev dx:Shape:= { sl:=[(0,(.c ⟨(.ptr (.pair (.sp 82) (.sl (.int .u8)))),(.rf 0 [.L])⟩)),(pv 1 (.int .u8))],ob:=[(0,(.p (.p (.v (.sp 82)) (.w 5 (.int .u8) 1)) (.v .bool)))],lo:=1,nx:=2 }
abbrev iq:List Shape:=[{ sl:=[(pv 0 (.sp 0))],ob:=[(0,(.p (.p (.v (.sp 82)) (.w 5 (.int .u8) 4)) (.v .bool)))],lo:=4,nx:=5 }]
noncomputable def iw:Cx:= { ti:=ti,con:=[(122,wG)],fns:=[],un:=6,frz:=[22] }
theorem uJ:ay Tryz.prog iw:=ay.of mixed aK (fc ⟨vS,fz⟩) fz
theorem uM:aY Tryz.prog 72 Tryz.f72 []:=⟨Tryz.func72,Tryz.call72,ah⟩
noncomputable def mo:Con:=nM dx iq fun x=>bodyK iw [] (denF iw 8) Tryz.f72 ((bY dx.sl x.1).map .v) (mK dx x) dx.nx (iy 1 iq)
theorem uK:aD Tryz.prog 72 mo:=cO uJ 8 uM 1 dx iq _ (by decide) (fun _=>rfl)
abbrev gJ:Shape:= { sl:=[(pc 0 (.pair .str .bool) 0),(1,(.v .bool))],ob:=[(pv 0 (.pair .str .bool))],lo:=1,nx:=1 }
abbrev nI:List Shape:=[{ sl:=[(0,(.v .bool))],ob:=[(pv 0 (.pair .str .bool))],lo:=1,nx:=1 }]
noncomputable def nJ:Cx:= { ti:=ti,con:=[],fns:=[],un:=6,frz:=[22] }
theorem BU:ay Tryz.prog nJ:=ay.of mixed aK fz fz
theorem Db:aY Tryz.prog 37 Tryz.f37 []:=⟨Tryz.func37,Tryz.call37,ah⟩
noncomputable def nK:Con:=nM gJ nI fun x=>bodyK nJ [] (denF nJ 8) Tryz.f37 ((bY gJ.sl x.1).map .v) (mK gJ x) gJ.nx (iy 1 nI)
theorem qK:aD Tryz.prog 37 nK:=cO BU 8 Db 1 gJ nI _ (by decide) (fun _=>rfl)
abbrev iP:Shape:= { sl:=[(pc 0 (.pair .str .bool) 0),(pv 1 tI)],ob:=[(pv 0 (.pair .str .bool))],lo:=1,nx:=1 }
abbrev pQ:List Shape:=[{ sl:=[(pv 0 tI)],ob:=[(pv 0 (.pair .str .bool))],lo:=2,nx:=2 }]
noncomputable def pR:Cx:= { ti:=ti,con:=[(37,nK)],fns:=[(78,Tryz.f78,[])],un:=6,frz:=[22] }
theorem Eu:ay Tryz.prog pR:=ay.of mixed aK (fc ⟨qK,fz⟩) (fc ⟨⟨Tryz.func78,Tryz.call78,ah⟩,fz⟩)
theorem EY:aY Tryz.prog 32 Tryz.f32 []:=⟨Tryz.func32,Tryz.call32,ah⟩
noncomputable def xg:Con:=nM iP pQ fun x=>bodyK pR [] (denF pR 8) Tryz.f32 ((bY iP.sl x.1).map .v) (mK iP x) iP.nx (iy 1 pQ)
theorem Ev:aD Tryz.prog 32 xg:=cO Eu 8 EY 1 iP pQ _ (by decide) (fun _=>rfl)
abbrev qL:Shape:= { sl:=[(pv 0 tI),(pv 1 tI),(2,(.sz .str)),(3,(.sz tI))],ob:=[],lo:=0,nx:=0 }
abbrev BX:List Shape:=[{ sl:=[(pc 0 (.pair tI (.pair tI (.pair (.sl .str) .mp))) 1),(pv 1 tI)],ob:=[(1,(.p (.v tI) (.p (.v tI) (.p (.w 9 .str 3) (.m tI tI 4)))))],lo:=3,nx:=5 }]
noncomputable def BZ:Cx:= { ti:=ti,con:=[(105,Xt),(107,QU)],fns:=[(104,Tryz.f104,[])],un:=6,frz:=[22] }
theorem Pe:ay Tryz.prog BZ:=ay.of mixed aK (fc ⟨a0a,fc ⟨QV,fz⟩⟩) (fc ⟨⟨Tryz.func104,Tryz.call104,ah⟩,fz⟩)
theorem Sr:aY Tryz.prog 55 Tryz.f55 []:=⟨Tryz.func55,Tryz.call55,ah⟩
noncomputable def Jy:Con:=nM qL BX fun x=>bodyK BZ [] (denF BZ 8) Tryz.f55 ((bY qL.sl x.1).map .v) (mK qL x) qL.nx (iy 2 BX)
theorem Pf:aD Tryz.prog 55 Jy:=cO Pe 8 Sr 2 qL BX _ (by decide) (fun _=>rfl)
abbrev gT:Shape:= { sl:=[(pc 0 (.pair tI (.pair tI (.pair (.sl .str) .mp))) 0),(pv 1 tI)],ob:=[(0,(.p (.v tI) (.p (.v tI) (.p (.w 9 .str 1) (.m tI tI 2)))))],lo:=1,nx:=3 }
abbrev oq:List Shape:=[{ sl:=[(pv 0 tI)],ob:=[(0,(.p (.v tI) (.p (.v tI) (.p (.w 9 .str 3) (.m tI tI 4)))))],lo:=3,nx:=5 }]
noncomputable def ou:Cx:= { ti:=ti,con:=[],fns:=[],un:=6,frz:=[22] }
theorem Dc:ay Tryz.prog ou:=ay.of mixed aK fz fz
theorem Ew:aY Tryz.prog 64 Tryz.f64 []:=⟨Tryz.func64,Tryz.call64,ah⟩
noncomputable def uY:Con:=nM gT oq fun x=>bodyK ou [] (denF ou 8) Tryz.f64 ((bY gT.sl x.1).map .v) (mK gT x) gT.nx (iy 1 oq)
theorem Df:aD Tryz.prog 64 uY:=cO Dc 8 Ew 1 gT oq _ (by decide) (fun _=>rfl)
abbrev fA:Shape:= { sl:=[(0,(.c ⟨(.ptr (.pair (.ptr (.pair (.pair (.ptr (.pair tN (.pair tU (.pair tN tN)))) (.ptr (.pair tN (.pair tU (.pair tN tN))))) tN)) (.pair tI (.pair tI (.pair tI (.pair tI (.pair (.ptr (.pair tI (.pair tI (.pair (.sl .str) .mp)))) (.pair .mp (.sl (.pair tI (.pair tI (.pair tI (.pair .str (.pair (.pair tI tI) (.pair .str (.pair (.sl (.sl tN)) (.sl tN))))))))))))))))),(.rf 0 [])⟩))],ob:=[(0,(.p (.po (.pair (.pair (.ptr (.pair tN (.pair tU (.pair tN tN)))) (.ptr (.pair tN (.pair tU (.pair tN tN))))) tN)) (.p (.v tI) (.p (.v tI) (.p (.v tI) (.p (.v tI) (.p (.c ⟨(.ptr (.pair tI (.pair tI (.pair (.sl .str) .mp)))),(.rf 1 [])⟩) (.p (.m .str (.ptr (.pair (.pair (.pair tI tI) (.pair .str (.pair (.sl (.sl tN)) (.sl tN)))) (.pair .str (.pair (.ptr (.pair tI (.arr 7 (.arr 4 (.arr 2 (.pair (.pair tI tI) .str)))))) (.pair (.ptr (.pair tI (.arr 7 (.arr 4 (.arr 2 (.pair (.pair tI tI) .str)))))) (.arr 4 (.pair (.arr 2 (.pair (.pair (.pair tI tI) (.pair .str (.pair (.sl (.sl tN)) (.sl tN)))) tI)) (.pair (.pair (.pair (.pair tI tI) (.pair .str (.pair (.sl (.sl tN)) (.sl tN)))) tI) (.pair tI tI))))))))) 2) (.sz (.pair tI (.pair tI (.pair tI (.pair .str (.pair (.pair tI tI) (.pair .str (.pair (.sl (.sl tN)) (.sl tN))))))))))))))))),(1,(.p (.v tI) (.p (.v tI) (.p (.w 9 .str 3) (.m tI tI 4)))))],lo:=2,nx:=5 }
abbrev l9:List Shape:=[{ sl:=[(0,(.p (.v tI) (.p (.v tI) (.p (.v tI) (.p (.w 3 tI 38) (.sz tR))))))],ob:=[(0,(.p (.po (.pair (.pair (.ptr (.pair tN (.pair tU (.pair tN tN)))) (.ptr (.pair tN (.pair tU (.pair tN tN))))) tN)) (.p (.v tI) (.p (.v tI) (.p (.v tI) (.p (.v tI) (.p (.c ⟨(.ptr (.pair tI (.pair tI (.pair (.sl .str) .mp)))),(.rf 1 [])⟩) (.p (.m .str (.ptr (.pair (.pair (.pair tI tI) (.pair .str (.pair (.sl (.sl tN)) (.sl tN)))) (.pair .str (.pair (.ptr (.pair tI (.arr 7 (.arr 4 (.arr 2 (.pair (.pair tI tI) .str)))))) (.pair (.ptr (.pair tI (.arr 7 (.arr 4 (.arr 2 (.pair (.pair tI tI) .str)))))) (.arr 4 (.pair (.arr 2 (.pair (.pair (.pair tI tI) (.pair .str (.pair (.sl (.sl tN)) (.sl tN)))) tI)) (.pair (.pair (.pair (.pair tI tI) (.pair .str (.pair (.sl (.sl tN)) (.sl tN)))) tI) (.pair tI tI))))))))) 39) (.sz (.pair tI (.pair tI (.pair tI (.pair .str (.pair (.pair tI tI) (.pair .str (.pair (.sl (.sl tN)) (.sl tN))))))))))))))))),(1,(.p (.v tI) (.p (.v tI) (.p (.w 9 .str 40) (.m tI tI 41)))))],lo:=38,nx:=42 }]
noncomputable def lg:Cx:= { ti:=ti,con:=[(64,uY),(107,QU)],fns:=[(65,Tryz.f65,[])],un:=6,frz:=[22] }
theorem Ae:ay Tryz.prog lg:=ay.of mixed aK (fc ⟨Df,fc ⟨QV,fz⟩⟩) (fc ⟨⟨Tryz.func65,Tryz.call65,ah⟩,fz⟩)
theorem Ai:aY Tryz.prog 22 Tryz.f22 []:=⟨Tryz.func22,Tryz.call22,ah⟩
noncomputable def qM:Con:=nM fA l9 fun x=>bodyK lg [] (denF lg 8) Tryz.f22 ((bY fA.sl x.1).map .v) (mK fA x) fA.nx (iy 1 l9)
theorem Af:aD Tryz.prog 22 qM:=cO Ae 8 Ai 1 fA l9 _ (by decide) (fun _=>rfl)
noncomputable def OI:Con:=bG true [] [.bool] fun x=>jB
noncomputable def GV:Cx:= { ti:=ti,con:=[(72,mo),(32,xg),(37,nK),(42,aad),(13,afM),(24,ajx),(17,ajt),(103,ajv),(55,Jy),(15,agA),(16,aaf),(22,qM)],fns:=[(8,Tryz.f8,[]),(25,Tryz.f25,[]),(27,Tryz.f27,[]),(10,Tryz.f10,[]),(33,Tryz.f33,[]),(34,Tryz.f34,[]),(12,Tryz.f12,[]),(19,Tryz.f19,[]),(54,Tryz.f54,[]),(104,Tryz.f104,[])],un:=6,frz:=[22] }
theorem TK:ay Tryz.prog GV:=ay.of mixed aK (fc ⟨uK,fc ⟨Ev,fc ⟨qK,fc ⟨a0f,fc ⟨a6V,fc ⟨aey,fc ⟨aer,fc ⟨aev,fc ⟨Pf,fc ⟨a8r,fc ⟨a0x,fc ⟨Af,fz⟩⟩⟩⟩⟩⟩⟩⟩⟩⟩⟩⟩) (fc ⟨⟨Tryz.func8,Tryz.call8,ah⟩,fc ⟨⟨Tryz.func25,Tryz.call25,ah⟩,fc ⟨⟨Tryz.func27,Tryz.call27,ah⟩,fc ⟨⟨Tryz.func10,Tryz.call10,ah⟩,fc ⟨⟨Tryz.func33,Tryz.call33,ah⟩,fc ⟨⟨Tryz.func34,Tryz.call34,ah⟩,fc ⟨⟨Tryz.func12,Tryz.call12,ah⟩,fc ⟨⟨Tryz.func19,Tryz.call19,ah⟩,fc ⟨⟨Tryz.func54,Tryz.call54,ah⟩,fc ⟨⟨Tryz.func104,Tryz.call104,ah⟩,fz⟩⟩⟩⟩⟩⟩⟩⟩⟩⟩)
theorem VH:aY Tryz.prog 7 Tryz.f7 []:=⟨Tryz.func7,Tryz.call7,ah⟩
theorem Zn:bodyK GV [] (denF GV 8) Tryz.f7 (domV [] (())) [] 0 (bT [.bool])=Et:=by kernel_rfl
theorem TL:aD Tryz.prog 7 OI:=aN TK 8 VH true [] [.bool] _ (by decide) (fun x=>by rw[Mr]; exact Zn)
end Go.Proofs.YtidodcilgldjoaaGreat
namespace Go.Pl
open Go Go.Den Go.Num
abbrev Zo:Type:=(Int×Int)×(ByteArray×((SlV (SlV (Nat→Int)))×((SlV (Nat→Int))×Int)))
abbrev a1J:Type:=Int×((Int×Int)×ByteArray)
abbrev a9T:Type:=Zo×(Zo×(Zo×(Int×Int)))
abbrev a10:Type:=ByteArray×(Zo×((SlV a1J)×((SlV a1J)×(SlV a9T))))
def a11:Ty:=.pair (.pair (.int .i64) (.int .i64)) (.pair .str (.pair (.sl (.sl (.arr 4 (.int .u64)))) (.pair (.sl (.arr 4 (.int .u64))) (.int .i64))))
def Ut:Ty:=.pair (.int .i64) (.pair (.pair (.int .i64) (.int .i64)) .str)
def Zp:Ty:=.pair a11 (.pair a11 (.pair a11 (.pair (.int .i64) (.int .i64))))
def a13:Ty:=.pair .str (.pair a11 (.pair (.sl Ut) (.pair (.sl Ut) (.sl Zp))))
theorem qX {t:Ty} {x:SlV t.den}(h:Go.Den.Good (.sl t) x)(d:t.den):x.isMs=false∧x.len<9223372036854775808∧ ∀i,i<x.len→Go.Den.Good t (SlV.fn d x i):=by
 cases x with
 |nil=>exact⟨rfl,by simp[SlV.len],fun i hi=>absurd hi (Nat.not_lt_zero _)⟩
 |fz n f=>exact⟨rfl,by have:=h.1; simp only[SlV.len]; omega,fun i hi=>h.2 i hi⟩
 |ms _ _ _ _=>exact h.elim
structure Ms(x:Zo):Prop where
 m:x.2.2.1.isMs=false
 y:x.2.2.2.1.isMs=false
 n:x.2.2.1.len<9223372036854775808
 k:x.2.2.2.1.len<9223372036854775808
 r: ∀i,i<x.2.2.1.len→(SlV.fn .nil x.2.2.1 i).isMs=false
theorem Mt {x:Zo}(h:Go.Den.Good a11 x):Ms x:=by
 obtain⟨_,_,h1,h2,_⟩:=h
 obtain⟨a,b,c⟩:=qX (t:=.sl (.arr 4 (.int .u64))) h1 .nil
 obtain⟨a',b',_⟩:=qX (t:=.arr 4 (.int .u64)) h2 (fun _=>(0:Int))
 exact⟨a,a',b,b',fun i hi=>(qX (t:=.arr 4 (.int .u64)) (c i hi) (fun _=>(0:Int))).1⟩
abbrev Jz:a9T:=((((0,0),(ByteArray.empty,(.nil,(.nil,0)))),(((0,0),(ByteArray.empty,(.nil,(.nil,0)))),(((0,0),(ByteArray.empty,(.nil,(.nil,0)))),(0,0)))))
structure a9U(r:a10):Prop where
 g:Ms r.2.1
 e:r.2.2.1.isMs=false
 d:r.2.2.2.1.isMs=false
 c:r.2.2.2.2.isMs=false
 en:r.2.2.1.len<9223372036854775808
 dn:r.2.2.2.1.len<9223372036854775808
 cn:r.2.2.2.2.len<9223372036854775808
 t: ∀k,k<r.2.2.2.2.len→Ms (SlV.fn Jz r.2.2.2.2 k).1∧Ms (SlV.fn Jz r.2.2.2.2 k).2.1∧Ms (SlV.fn Jz r.2.2.2.2 k).2.2.1
theorem a9V {r:a10}(h:Go.Den.Good a13 r):a9U r:=by
 obtain⟨_,h0,h1,h2,h3⟩:=h
 obtain⟨a,b,_⟩:=qX (t:=Ut) h1 (0,((0,0),ByteArray.empty))
 obtain⟨a',b',_⟩:=qX (t:=Ut) h2 (0,((0,0),ByteArray.empty))
 obtain⟨a2,b2,c2⟩:=qX (t:=Zp) h3 Jz
 exact⟨Mt h0,a,a',a2,b,b',b2,fun k hk=>⟨Mt (c2 k hk).1,Mt (c2 k hk).2.1,Mt (c2 k hk).2.2.1⟩⟩
theorem Zq(n:Nat)(m:Nat→SlV (Nat→Int))(hn:n<9223372036854775808)(hm: ∀i,i<n→(m i).isMs=false): ∃b,PD n m 4=some b:=by
 obtain⟨y,h1,h2⟩:=gK (R:=jr) (S:=Unit) (fun i _=>wN n m 4 (i:Int)) (fun _ _=>True) (fun y=>y=Te false∨y=Tf n m 4) (min n 4)
  (fun i hi _ _=>by
   have hms:=hm i (by omega)
   by_cases hs:(((SlV.len (m i)):Nat):Int)>8
   ·refine .inr ⟨_,?_,.inl rfl⟩
    simp(disch:=omega) only[jr,wN,WW,CC,hms,bB hs]
   ·refine .inl ⟨(),?_,trivial⟩
    simp(disch:=omega) only[jr,wN,WW,CC,hms,aM hs])
  (fun _ _=>by
   refine⟨_,?_,.inr rfl⟩
   by_cases h:n≤4
   ·rw[Nat.min_eq_left h]; simp(disch:=omega) only[jr,wN,WW]
   ·rw[Nat.min_eq_right (by omega)]; simp(disch:=omega) only[jr,wN,WW]) () trivial
 have h1':aj jr (((n,m),(4,(0,()))),())=some y:=h1
 rw[R8,Li,h1']
 rcases h2 with rfl|rfl
 ·exact⟨_,rfl⟩
 ·exact⟨_,rfl⟩
theorem z8(x:Zo)(h:Ms x): ∃b,mV (x.1,(x.2.1,(((SlV.len x.2.2.1),(SlV.fn (.nil:(SlV (Nat→Int))) x.2.2.1)),(((SlV.len x.2.2.2.1),(SlV.fn ((fun _=>0):Nat→Int) x.2.2.2.1)),x.2.2.2.2))))=some b∧(b=true→x.2.1.size≤40∧x.2.2.2.1.len≤6):=by
 obtain⟨b,hb⟩:=Zq x.2.2.1.len (SlV.fn .nil x.2.2.1) h.n h.r
 rw[ES]; unfold vZ
 simp only[hb]
 by_cases c:((x.2.1.size:Nat):Int)≤40
 ·rw[bB c]
  cases b
  ·exact⟨_,rfl,fun h=>Bool.noConfusion h⟩
  ·exact⟨_,rfl,fun h=>⟨by omega,by have:=of_decide_eq_true h; omega⟩⟩
 ·rw[aM c]
  exact⟨_,rfl,fun h=>Bool.noConfusion h⟩
def Sv(x:Zo):Prop:=x.2.1.size≤40∧x.2.2.2.1.len≤6
section
variable (i x1 x2 x3:Int) (nx:Nat) (x4:Nat→Int) (nx1:Nat) (x5:Nat→a10) (r:ByteArray) (r1:Int×Int) (r2:ByteArray) (nr:Nat) (r3:Nat→SlV (Nat→Int)) (nr1:Nat) (r4:Nat→(Nat→Int)) (r5:Int) (nr2:Nat) (r6:Nat→a1J) (nr3:Nat) (r7:Nat→a1J) (nr4:Nat) (r8:Nat→a9T)
theorem aq6(h:nr2<9223372036854775808): ∃y,aj kK (wO i 0 x1 x2 x3 nx x4 nx1 x5 r r1 r2 nr r3 nr1 r4 r5 nr2 r6 nr3 r7 nr4 r8)=some y∧(y=Jd false∨y=wh i x1 x2 x3 nx x4 nx1 x5 r r1 r2 nr r3 nr1 r4 r5 nr2 r6 nr3 r7 nr4 r8∧ ∀k,k<nr2→(r6 k).2.2.size≤40):=by
 exact gK (R:=kK) (S:=Unit) (fun k _=>wO i (k:Int) x1 x2 x3 nx x4 nx1 x5 r r1 r2 nr r3 nr1 r4 r5 nr2 r6 nr3 r7 nr4 r8) (fun j _=> ∀k,k<j→(r6 k).2.2.size≤40) _ nr2
  (fun k hk _ hp=>by
   by_cases hs:(((r6 k).2.2.size:Nat):Int)>40
   ·refine .inr ⟨_,?_,.inl rfl⟩
    simp(disch:=omega) only[kK,wO,WW,CC,bB hs]
   ·refine .inl ⟨(),?_,fun j hj=>?_⟩
    ·simp(disch:=omega) only[kK,wO,WW,CC,aM hs]
    ·by_cases e:j=k
     ·subst e; omega
     ·exact hp j (by omega))
  (fun _ hp=>⟨_,by simp(disch:=omega) only[kK,wO,WW],.inr ⟨rfl,hp⟩⟩) () (fun k hk=>absurd hk (Nat.not_lt_zero _))
theorem aq7(h:nr3<9223372036854775808): ∃y,aj kL (wP i 0 x1 x2 x3 nx x4 nx1 x5 r r1 r2 nr r3 nr1 r4 r5 nr2 r6 nr3 r7 nr4 r8)=some y∧(y=Je false∨y=BL i x1 x2 x3 nx x4 nx1 x5 r r1 r2 nr r3 nr1 r4 r5 nr2 r6 nr3 r7 nr4 r8∧ ∀k,k<nr3→(r7 k).2.2.size≤40):=by
 exact gK (R:=kL) (S:=Unit) (fun k _=>wP i (k:Int) x1 x2 x3 nx x4 nx1 x5 r r1 r2 nr r3 nr1 r4 r5 nr2 r6 nr3 r7 nr4 r8) (fun j _=> ∀k,k<j→(r7 k).2.2.size≤40) _ nr3
  (fun k hk _ hp=>by
   by_cases hs:(((r7 k).2.2.size:Nat):Int)>40
   ·refine .inr ⟨_,?_,.inl rfl⟩
    simp(disch:=omega) only[kL,wP,WW,CC,bB hs]
   ·refine .inl ⟨(),?_,fun j hj=>?_⟩
    ·simp(disch:=omega) only[kL,wP,WW,CC,aM hs]
    ·by_cases e:j=k
     ·subst e; omega
     ·exact hp j (by omega))
  (fun _ hp=>⟨_,by simp(disch:=omega) only[kL,wP,WW],.inr ⟨rfl,hp⟩⟩) () (fun k hk=>absurd hk (Nat.not_lt_zero _))
theorem aq8(h:nr4<9223372036854775808)(hg: ∀k,k<nr4→Ms (r8 k).1∧Ms (r8 k).2.1∧Ms (r8 k).2.2.1): ∃y,aj iN (pE i 0 x1 x2 x3 nx x4 nx1 x5 r r1 r2 nr r3 nr1 r4 r5 nr2 r6 nr3 r7 nr4 r8)=some y∧(y=Jf false∨y=Jg i x1 x2 x3 nx x4 nx1 x5∧ ∀k,k<nr4→Sv (r8 k).1∧Sv (r8 k).2.1∧Sv (r8 k).2.2.1):=by
 exact gK (R:=iN) (S:=Unit) (fun k _=>pE i (k:Int) x1 x2 x3 nx x4 nx1 x5 r r1 r2 nr r3 nr1 r4 r5 nr2 r6 nr3 r7 nr4 r8) (fun j _=> ∀k,k<j→Sv (r8 k).1∧Sv (r8 k).2.1∧Sv (r8 k).2.2.1) _ nr4
  (fun k hk _ hp=>by
   obtain⟨g1,g2,g3⟩:=hg k hk
   obtain⟨b1,e1,q1⟩:=z8 _ g1
   obtain⟨b2,e2,q2⟩:=z8 _ g2
   obtain⟨b3,e3,q3⟩:=z8 _ g3
   have m1:=g1.m; have m2:=g1.y; have m3:=g2.m; have m4:=g2.y; have m5:=g3.m; have m6:=g3.y
   cases b1
   ·refine .inr ⟨_,?_,.inl rfl⟩
    simp(disch:=omega) only[iN,pE,WW,CC,m1,m2,e1]
   cases b2
   ·refine .inr ⟨_,?_,.inl rfl⟩
    simp(disch:=omega) only[iN,pE,WW,CC,m1,m2,e1,m3,m4,e2]
   cases b3
   ·refine .inr ⟨_,?_,.inl rfl⟩
    simp(disch:=omega) only[iN,pE,WW,CC,m1,m2,e1,m3,m4,e2,m5,m6,e3]
   ·refine .inl ⟨(),?_,fun j hj=>?_⟩
    ·simp(disch:=omega) only[iN,pE,WW,CC,m1,m2,e1,m3,m4,e2,m5,m6,e3]
    ·by_cases e:j=k
     ·subst e; exact⟨q1 rfl,q2 rfl,q3 rfl⟩
     ·exact hp j (by omega))
  (fun _ hp=>⟨_,by simp(disch:=omega) only[iN,pE,WW],.inr ⟨rfl,hp⟩⟩) () (fun k hk=>absurd hk (Nat.not_lt_zero _))
end
structure Sw(r:a10):Prop where
 k:r.1.size≤20
 e:r.2.2.1.len≤20
 d:r.2.2.2.1.len≤20
 c:r.2.2.2.2.len≤5
 g:Sv r.2.1
 e1: ∀k,k<r.2.2.1.len→(SlV.fn (0,((0,0),ByteArray.empty)) r.2.2.1 k).2.2.size≤40
 d1: ∀k,k<r.2.2.2.1.len→(SlV.fn (0,((0,0),ByteArray.empty)) r.2.2.2.1 k).2.2.size≤40
 c1: ∀k,k<r.2.2.2.2.len→Sv (SlV.fn Jz r.2.2.2.2 k).1∧Sv (SlV.fn Jz r.2.2.2.2 k).2.1∧Sv (SlV.fn Jz r.2.2.2.2 k).2.2.1
theorem aq9(x1 x2 x3:Int)(nx:Nat)(x4:Nat→Int)(n:Nat)(x5:Nat→a10)(hn:n<9223372036854775808)(hr: ∀k,k<n→a9U (x5 k)):
  ∃y,aj dK (gM 0 x1 x2 x3 nx x4 n x5)=some y∧(y=Tg false∨y=Ti∧ ∀k,k<n→Sw (x5 k)):=by
 exact gK (R:=dK) (S:=Unit) (fun k _=>gM (k:Int) x1 x2 x3 nx x4 n x5) (fun j _=> ∀k,k<j→Sw (x5 k)) _ n
  (fun k hk _ hp=>by
   have h:=hr k hk
   have m1:=h.g.m; have m2:=h.g.y; have m3:=h.e; have m4:=h.d; have m5:=h.c
   by_cases c1:(((x5 k).1.size:Nat):Int)>20
   ·refine .inr ⟨_,?_,.inl rfl⟩
    simp(disch:=omega) only[dK,gM,WW,CC,m1,m2,m3,m4,m5,bB c1]
   by_cases c2:(((SlV.len (x5 k).2.2.1):Nat):Int)>20
   ·refine .inr ⟨_,?_,.inl rfl⟩
    simp(disch:=omega) only[dK,gM,WW,CC,m1,m2,m3,m4,m5,aM c1,bB c2]
   by_cases c3:(((SlV.len (x5 k).2.2.2.1):Nat):Int)>20
   ·refine .inr ⟨_,?_,.inl rfl⟩
    simp(disch:=omega) only[dK,gM,WW,CC,m1,m2,m3,m4,m5,aM c1,aM c2,bB c3]
   by_cases c4:(((SlV.len (x5 k).2.2.2.2):Nat):Int)>5
   ·refine .inr ⟨_,?_,.inl rfl⟩
    simp(disch:=omega) only[dK,gM,WW,CC,m1,m2,m3,m4,m5,aM c1,aM c2,aM c3,bB c4]
   obtain⟨b,e,q⟩:=z8 _ h.g
   cases b
   ·refine .inr ⟨_,?_,.inl rfl⟩
    simp(disch:=omega) only[dK,gM,WW,CC,m1,m2,m3,m4,m5,aM c1,aM c2,aM c3,aM c4,e]
   obtain⟨y2,e2,d2⟩:=aq6 (k:Int) x1 x2 x3 nx x4 n x5 (x5 k).1 (x5 k).2.1.1 (x5 k).2.1.2.1 (SlV.len (x5 k).2.1.2.2.1) (SlV.fn .nil (x5 k).2.1.2.2.1) (SlV.len (x5 k).2.1.2.2.2.1) (SlV.fn (fun _=>0) (x5 k).2.1.2.2.2.1) (x5 k).2.1.2.2.2.2
    (SlV.len (x5 k).2.2.1) (SlV.fn (0,((0,0),ByteArray.empty)) (x5 k).2.2.1) (SlV.len (x5 k).2.2.2.1) (SlV.fn (0,((0,0),ByteArray.empty)) (x5 k).2.2.2.1) (SlV.len (x5 k).2.2.2.2) (SlV.fn Jz (x5 k).2.2.2.2) h.en
   obtain⟨y4,e4,d4⟩:=aq7 (k:Int) x1 x2 x3 nx x4 n x5 (x5 k).1 (x5 k).2.1.1 (x5 k).2.1.2.1 (SlV.len (x5 k).2.1.2.2.1) (SlV.fn .nil (x5 k).2.1.2.2.1) (SlV.len (x5 k).2.1.2.2.2.1) (SlV.fn (fun _=>0) (x5 k).2.1.2.2.2.1) (x5 k).2.1.2.2.2.2
    (SlV.len (x5 k).2.2.1) (SlV.fn (0,((0,0),ByteArray.empty)) (x5 k).2.2.1) (SlV.len (x5 k).2.2.2.1) (SlV.fn (0,((0,0),ByteArray.empty)) (x5 k).2.2.2.1) (SlV.len (x5 k).2.2.2.2) (SlV.fn Jz (x5 k).2.2.2.2) h.dn
   obtain⟨y6,e6,d6⟩:=aq8 (k:Int) x1 x2 x3 nx x4 n x5 (x5 k).1 (x5 k).2.1.1 (x5 k).2.1.2.1 (SlV.len (x5 k).2.1.2.2.1) (SlV.fn .nil (x5 k).2.1.2.2.1) (SlV.len (x5 k).2.1.2.2.2.1) (SlV.fn (fun _=>0) (x5 k).2.1.2.2.2.1) (x5 k).2.1.2.2.2.2
    (SlV.len (x5 k).2.2.1) (SlV.fn (0,((0,0),ByteArray.empty)) (x5 k).2.2.1) (SlV.len (x5 k).2.2.2.1) (SlV.fn (0,((0,0),ByteArray.empty)) (x5 k).2.2.2.1) (SlV.len (x5 k).2.2.2.2) (SlV.fn Jz (x5 k).2.2.2.2) h.cn h.t
   rcases d2 with rfl|⟨rfl,p2⟩
   ·refine .inr ⟨_,?_,.inl rfl⟩
    simp(disch:=omega) only[dK,gM,WW,CC,m1,m2,m3,m4,m5,aM c1,aM c2,aM c3,aM c4,e,e2,Jd]
   rcases d4 with rfl|⟨rfl,p4⟩
   ·refine .inr ⟨_,?_,.inl rfl⟩
    simp(disch:=omega) only[dK,gM,WW,CC,m1,m2,m3,m4,m5,aM c1,aM c2,aM c3,aM c4,e,e2,wh,e4,Je]
   rcases d6 with rfl|⟨rfl,p6⟩
   ·refine .inr ⟨_,?_,.inl rfl⟩
    simp(disch:=omega) only[dK,gM,WW,CC,m1,m2,m3,m4,m5,aM c1,aM c2,aM c3,aM c4,e,e2,wh,e4,BL,e6,Jf]
   ·refine .inl ⟨(),?_,fun j hj=>?_⟩
    ·simp(disch:=omega) only[dK,gM,WW,CC,m1,m2,m3,m4,m5,aM c1,aM c2,aM c3,aM c4,e,e2,wh,e4,BL,e6,Jg]
    ·by_cases e:j=k
     ·subst e; exact⟨by omega,by omega,by omega,by omega,q rfl,p2,p4,p6⟩
     ·exact hp j (by omega))
  (fun _ hp=>⟨_,by simp(disch:=omega) only[dK,gM,WW],.inr ⟨rfl,hp⟩⟩) () (fun k hk=>absurd hk (Nat.not_lt_zero _))
theorem VI(x1 x2 x3:Int)(nx:Nat)(x4:Nat→Int)(n:Nat)(x5:Nat→a10)(hn:n<9223372036854775808)(hr: ∀k,k<n→a9U (x5 k)):
  ∃b,PE (x1,(x2,(x3,((nx,x4),(n,x5)))))=some b∧(b=true→nx≤12∧n≤3∧ ∀k,k<n→Sw (x5 k)):=by
 obtain⟨y,h1,h2⟩:=aq9 x1 x2 x3 nx x4 n x5 hn hr
 rw[Rf]; unfold LA
 simp only[h1]
 by_cases c1:((nx:Nat):Int)>12
 ·rw[bB c1]; exact⟨_,rfl,fun h=>Bool.noConfusion h⟩
 by_cases c2:((n:Nat):Int)>3
 ·rw[aM c1,bB c2]; exact⟨_,rfl,fun h=>Bool.noConfusion h⟩
 rw[aM c1,aM c2]
 rcases h2 with rfl|⟨rfl,h3⟩
 ·exact⟨_,rfl,fun h=>Bool.noConfusion h⟩
 ·exact⟨_,rfl,fun _=>⟨by omega,by omega,h3⟩⟩
theorem GX(a1 a2 a3:Int)(n:Nat)(u v:Nat→Int)(q p:Nat→a10)(hn:n<9223372036854775808)(h: ∀k,k<n→u k=v k):
  bV (a1,(a2,(a3,((n,u),(0,q))))) (a1,(a2,(a3,((n,v),(0,p)))))=some true:=by
 obtain⟨_,h1,_⟩:=aR (R:=fD) (S:=Unit) (fun k _=>kM (k:Int) a1 a2 a3 n u 0 q a1 a2 a3 n v 0 p) (fun _=>uh a1 a2 a3 n u 0 q a1 a2 a3 n v 0 p) (fun _ _=>True) n
  (fun k hk _ _=>⟨(),by
   have e:=h k hk
   have e2:(v k !=v k)=false:=by simp
   simp(disch:=omega) only[fD,kM,WW,CC,e,e2],trivial⟩)
  (fun _ _=>by simp(disch:=omega) only[fD,kM,WW]) () trivial
 have h2:aj gF (mX 0 a1 a2 a3 n u 0 q a1 a2 a3 n v 0 p)=some zP:=gu (by simp(disch:=omega) only[gF,mX,WW])
 have h1':aj fD (((),((),(0,()))),((a1,(a2,(a3,((n,u),(0,q))))),((a1,(a2,(a3,((n,v),(0,p))))),())))=some _:=h1
 have h2':aj gF (((),((),(0,()))),((a1,(a2,(a3,((n,u),(0,q))))),((a1,(a2,(a3,((n,v),(0,p))))),())))=some _:=h2
 rw[Gs]; unfold CW
 have e: ∀z:Int,(z !=z)=false:=fun z=>by simp
 simp only[e,aG,h1',uh,h2',zP]
end Go.Pl
namespace Go.Pl
open Go Go.Den Go.Num
def s38:ByteArray:=ByteArray.mk #[1,2,1,5,0,0,0,0,0,0,0,0,0,0,0,0]
def d38:ByteArray:=ByteArray.mk #[139,194,125,75,209,181,99,149,211,121,197,44,186,182,12,234,34,239,55,50,139,16,18,16,118,0,32,247,136,116,166,41]
def z38:ByteArray:=ByteArray.mk #[1,2,1,5,0,0,0,0,0,0,0,0,0,0,0,0,139,194,125,75,209,181,99,149,211,121,197,44,186,182,12,234,34,239,55,50,139,16,18,16,118,0,32,247,136,116,166,41,120]
def e38:ByteArray:=ByteArray.mk #[1,2,1,5,0,0,0,0,0,0,0,0,0,0,0,0,139]
def f38:ByteArray:=ByteArray.mk #[58,20,245,101,198,27,42,192,103,125,213,224,236,98,88,168,229,132,12,246,133,160,60,58,253,157,219,217,234,150,154,148]
def t38:ByteArray:=ByteArray.mk #[194,125,75,209,181,99,149,211,121,197,44,186,182,12,234,34,239,55,50,139,16,18,16,118,0,32,247,136,116,166,41,120]
theorem a1K:yV (bl s38)=d38:=xO (by decide+kernel)
theorem aaL:yV (bl e38)=f38:=xO (by decide+kernel)
theorem ahs:(s38++d38)++ByteArray.mk #[120]=z38:=xO (by decide+kernel)
theorem anD:z38.extract 0 17=e38:=xO (by decide+kernel)
theorem anE:z38.extract 17 49=t38:=xO (by decide+kernel)
theorem aaM:yL (ByteArray.mk #[1,2,1,5,0,0,0,0,0,0,0,0,0,0,0,0])=some d38:=by
 show yL s38=_
 rw[yX (by decide),a1K]
theorem aaN:tY (ByteArray.mk #[1,2,1,5,0,0,0,0,0,0,0,0,0,0,0,0])=some d38:=by
 show tY s38=_
 rw[Eo (by decide),a1K]
theorem a9W: ∃y,nT ((ByteArray.mk #[1,2,1,5,0,0,0,0,0,0,0,0,0,0,0,0]++d38)++ByteArray.mk #[120])=some (y,4):=by
 have hz:(ByteArray.mk #[1,2,1,5,0,0,0,0,0,0,0,0,0,0,0,0]++d38)++ByteArray.mk #[120]=z38:=ahs
 rw[hz,DV]; unfold zM
 have e1:IntKind.i64.wrap (((49:Nat):Int)-32)=17:=by decide
 have e2:((17:Int)).toNat=17:=rfl
 have e3:z38.size=49:=rfl
 have e4:yL e38=some f38:=by rw[yX (by decide),aaL]
 have e5:sEq f38 t38=false:=by
  cases h:sEq f38 t38 with
  |false=>rfl
  |true=>exact absurd (nC.1 h) (by decide+kernel)
 have d1:decide ((17:Int)<0)=false:=rfl
 have d2:(decide ((0:Int)≤17)&&decide ((17:Int)≤((49:Nat):Int)))=true:=by decide
 simp only[e3,e1,d1,aG,d2,aJ,e2,anD,e4,anE,e5,Bool.not_false]
 exact⟨_,rfl⟩
theorem Q5:jB=some true:=by
 obtain⟨g,hg⟩:=a0N
 obtain⟨fr,f1,_⟩:=Ni hg.group
 obtain⟨y,hy⟩:=a9W
 rw[Mr]; unfold Et
 have d1:decide ((((16+d38.size):Nat):Int)>IntKind.i64.max)=false:=by decide
 have d2:decide (((((ByteArray.size ((ByteArray.mk #[1,2,1,5,0,0,0,0,0,0,0,0,0,0,0,0])++d38))+1):Nat):Int)>IntKind.i64.max)=false:=by decide
 have d3:((4:Int)==4)=true:=rfl
 have d4:((0:Int)==0)=true:=rfl
 simp only[aaM,d1,aG,d2,hy,Tq,hg.made,f1,aaN,CY,aJ,d3,d4]
 rw[GX _ _ _ 5 _ _ _ _ (by decide) (fun k hk=>by
  match k,hk with
  |0,_=>rfl
  |1,_=>rfl
  |2,_=>rfl
  |3,_=>rfl
  |4,_=>rfl)]
 simp only[aJ]
 rw[GX _ _ _ 5 _ _ _ _ (by decide) (fun k hk=>by
  match k,hk with
  |0,_=>rfl
  |1,_=>rfl
  |2,_=>rfl
  |3,_=>rfl
  |4,_=>rfl)]
end Go.Pl
