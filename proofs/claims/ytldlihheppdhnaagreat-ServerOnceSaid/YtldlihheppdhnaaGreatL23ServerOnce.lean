/-
 One statement, plainly.
-/
import Derived.Test.YtldlihheppdhnaaGreatDenM
import Derived.Test.YtldlihheppdhnaaGreatDenI
import Derived.Test.YtldlihheppdhnaaGreatL23
import Derived.Test.YtldlihheppdhnaaGreatPlB
import Derived.Test.YtldlihheppdhnaaGreatEqA
import Derived.Test.YtldlihheppdhnaaGreatDenF
import Derived.Test.YtldlihheppdhnaaGreatEqB
set_option linter.unusedVariables false
set_option linter.unusedSimpArgs false
set_option maxRecDepth 100000
set_option maxHeartbeats 0
namespace Go.Pl
end Go.Pl
open Go Go.Den Go.Pl
namespace Go.Pl
noncomputable section
open Go.IntKind (i64 u64 u32 u8)
abbrev dR(nl:Nat)(l:Nat->Z08)(r:Z01)(nsaid:Nat)(said:Nat->Z05)(i:Int)(nout:Nat)(out:Nat->(Int×Z05))(k:Int)(j:Int)(o:Z07):=(((nl,l),((),(r,((),((nsaid,said),(i,((nout,out),((),(k,((),(j,()))))))))))),o)
abbrev sF:Type:=((((Nat×(Nat->Z08))×(Unit×(Z01×(Unit×((Nat×(Nat->Z05))×(Int×((Nat×(Nat->(Int×Z05)))×(Unit×(Int×Z09)))))))))×Z07)⊕Z0d)
abbrev jS(nl:Nat)(l:Nat->Z08)(r:Z01)(nsaid:Nat)(said:Nat->Z05)(i:Int)(nout:Nat)(out:Nat->(Int×Z05))(k:Int)(o:Z07):sF:=(.inl (((nl,l),((),(r,((),((nsaid,said),(i,((nout,out),((),(k,((),())))))))))),o))
abbrev sG:Type:=(((Nat×(Nat->Z08))×(Unit×(Z01×(Unit×((Nat×(Nat->Z05))×(Int×((Nat×(Nat->(Int×Z05)))×(Unit×(Int×Z0z)))))))))×Z07)
def bY:sG->Option (sG⊕sF):=λx=>let nl:=x.1.1.1;let l:=x.1.1.2;let r:=x.1.2.2.1;let nsaid:=x.1.2.2.2.2.1.1;let said:=x.1.2.2.2.2.1.2;let i:=x.1.2.2.2.2.2.1;let nout:=x.1.2.2.2.2.2.2.1.1;let out:=x.1.2.2.2.2.2.2.1.2;let k:=x.1.2.2.2.2.2.2.2.2.1;let j:=x.1.2.2.2.2.2.2.2.2.2.2.1;bif (decide (j<((nsaid:Nat):Int)))then(bif (inb j nsaid)then(bif (sEq (said (0+(Int.toNat j))).2.2.1 x.2.2.2.2.2.1.2.2.1)then(bif (inb j nsaid)then(bif (eqF (.pair (.int .i64) (.int .i64)) (said (0+(Int.toNat j))).2.2.2.1 x.2.2.2.2.2.1.2.2.2.1)then(bif (inb j nsaid)then(let t:=(!(sEq (said (0+(Int.toNat j))).2.2.2.2.1 x.2.2.2.2.2.1.2.2.2.2.1));bif t then(some (.inr (.inr ((false,()),()))))else(some (.inl (((nl,l),((),(r,((),((nsaid,said),(i,((nout,out),((),(k,((),((i64.wrap (j+1)),()))))))))))),x.2))))else(none))else(some (.inl (((nl,l),((),(r,((),((nsaid,said),(i,((nout,out),((),(k,((),((i64.wrap (j+1)),()))))))))))),x.2))))else(none))else(some (.inl (((nl,l),((),(r,((),((nsaid,said),(i,((nout,out),((),(k,((),((i64.wrap (j+1)),()))))))))))),x.2))))else(none))else(some (.inr (.inl (((nl,l),((),(r,((),((nsaid,said),(i,((nout,out),((),(k,((),())))))))))),x.2))))
abbrev dS(nl:Nat)(l:Nat->Z08)(r:Z01)(nsaid:Nat)(said:Nat->Z05)(i:Int)(nout:Nat)(out:Nat->(Int×Z05))(k:Int)(o:(Z0s×(Z00×(Z0k×Z0O)))):=(((nl,l),((),(r,((),((nsaid,said),(i,((nout,out),((),(k,()))))))))),o)
abbrev sH:Type:=(Z0E⊕Z0d)
abbrev jT(nl:Nat)(l:Nat->Z08)(r:Z01)(nsaid:Nat)(said:Nat->Z05)(i:Int)(o:(Z0s×(Z00×(Z0k×Unit)))):sH:=(.inl (((nl,l),((),(r,((),((nsaid,said),(i,())))))),o))
abbrev sI:Type:=(((Nat×(Nat->Z08))×(Unit×(Z01×(Unit×((Nat×(Nat->Z05))×(Int×((Nat×(Nat->(Int×Z05)))×Z0z)))))))×(Z0s×(Z00×(Z0k×Z0O))))
def bS:sI->Option (sI⊕sH):=λx=>let nl:=x.1.1.1;let l:=x.1.1.2;let r:=x.1.2.2.1;let nsaid:=x.1.2.2.2.2.1.1;let said:=x.1.2.2.2.2.1.2;let i:=x.1.2.2.2.2.2.1;let nout:=x.1.2.2.2.2.2.2.1.1;let out:=x.1.2.2.2.2.2.2.1.2;let k:=x.1.2.2.2.2.2.2.2.2.1;bif (decide (k<((nout:Nat):Int)))then(bif (inb k nout)then(bif (SlV.isMs (out (Int.toNat k)).2.2.2.2.2.2.1)then(none)else(bif (SlV.isMs (out (Int.toNat k)).2.2.2.2.2.2.2)then(none)else(match(Oe ((out (Int.toNat k)).2.1,((out (Int.toNat k)).2.2.1,((out (Int.toNat k)).2.2.2.1,((out (Int.toNat k)).2.2.2.2.1,((out (Int.toNat k)).2.2.2.2.2.1,(((SlV.len (out (Int.toNat k)).2.2.2.2.2.2.1),(SlV.fn (.nil:(SlV NI)) (out (Int.toNat k)).2.2.2.2.2.2.1)),((SlV.len (out (Int.toNat k)).2.2.2.2.2.2.2),(SlV.fn ((λ_=>0):NI) (out (Int.toNat k)).2.2.2.2.2.2.2)))))))))with|none=>none|some r1=>(bif (!r1)then(some (.inr (.inr ((false,()),()))))else(bif (inb k nout)then(let t:=((out (Int.toNat k)).1==r.2.2.1);bif t then(some (.inr (.inr ((false,()),()))))else(bif ((out (Int.toNat k)).2.1 !=5)then(some (.inl (((nl,l),((),(r,((),((nsaid,said),(i,((nout,out),((),((i64.wrap (k+1)),()))))))))),x.2)))else(bif (inb i nl)then(bif ((l (Int.toNat i)).2.1 !=9)then(let t1:=(decide ((out (Int.toNat k)).2.2.2.2.1.1>(i64.wrap (x.2.2.2.2.1.1+1))));bif t1 then(some (.inr (.inr ((false,()),()))))else(match(aB bY (((nl,l),((),(r,((),((nsaid,said),(i,((nout,out),((),(k,((),(0,()))))))))))),(x.2.1,(x.2.2.1,(x.2.2.2.1,(x.2.2.2.2.1,(((out (Int.toNat k)).2.1,((out (Int.toNat k)).2.2.1,((out (Int.toNat k)).2.2.2.1,((out (Int.toNat k)).2.2.2.2.1,((out (Int.toNat k)).2.2.2.2.2.1,(((SlV.len (out (Int.toNat k)).2.2.2.2.2.2.1),(SlV.fn (.nil:(SlV NI)) (out (Int.toNat k)).2.2.2.2.2.2.1)),((SlV.len (out (Int.toNat k)).2.2.2.2.2.2.2),(SlV.fn ((λ_=>0):NI) (out (Int.toNat k)).2.2.2.2.2.2.2)))))))),())))))))with|none=>none|some y=>(match y with| .inl y1=>(bif ((Nat.ble ((y1.1.2.2.2.2.1.1+1)*112) 140737488355328)&&(Nat.ble (y1.1.2.2.2.2.1.1+1) 9223372036854775807))then(some (.inl (((y1.1.1.1,y1.1.1.2),((),(y1.1.2.2.1,((),(((y1.1.2.2.2.2.1.1+1),(glue y1.1.2.2.2.2.1.1 y1.1.2.2.2.2.1.2 (λj=>(upd (λ_=>(0,(0,(ByteArray.empty,((0,0),(ByteArray.empty,(.nil,.nil))))))) 0 (y1.2.2.2.2.2.1.1,(y1.2.2.2.2.2.1.2.1,(y1.2.2.2.2.2.1.2.2.1,(y1.2.2.2.2.2.1.2.2.2.1,(y1.2.2.2.2.2.1.2.2.2.2.1,((.fz y1.2.2.2.2.2.1.2.2.2.2.2.1.1 y1.2.2.2.2.2.1.2.2.2.2.2.1.2),(.fz y1.2.2.2.2.2.1.2.2.2.2.2.2.1 y1.2.2.2.2.2.1.2.2.2.2.2.2.2)))))))) (0+j)))),(y1.1.2.2.2.2.2.1,((y1.1.2.2.2.2.2.2.1.1,y1.1.2.2.2.2.2.2.1.2),((),((i64.wrap (y1.1.2.2.2.2.2.2.2.2.1+1)),()))))))))),((y1.2.1.1,(y1.2.1.2.1,((y1.2.1.2.2.1.1,y1.2.1.2.2.1.2),y1.2.1.2.2.2))),((y1.2.2.1.1,(y1.2.2.1.2.1,(y1.2.2.1.2.2.1,(y1.2.2.1.2.2.2.1,(y1.2.2.1.2.2.2.2.1,((),(y1.2.2.1.2.2.2.2.2.2.1,(y1.2.2.1.2.2.2.2.2.2.2.1,y1.2.2.1.2.2.2.2.2.2.2.2)))))))),(y1.2.2.2.1,(y1.2.2.2.2.1,())))))))else(none))| .inr y1=>(some (.inr (.inr ((y1.1.1,()),())))))))else(match(aB bY (((nl,l),((),(r,((),((nsaid,said),(i,((nout,out),((),(k,((),(0,()))))))))))),(x.2.1,(x.2.2.1,(x.2.2.2.1,(x.2.2.2.2.1,(((out (Int.toNat k)).2.1,((out (Int.toNat k)).2.2.1,((out (Int.toNat k)).2.2.2.1,((out (Int.toNat k)).2.2.2.2.1,((out (Int.toNat k)).2.2.2.2.2.1,(((SlV.len (out (Int.toNat k)).2.2.2.2.2.2.1),(SlV.fn (.nil:(SlV NI)) (out (Int.toNat k)).2.2.2.2.2.2.1)),((SlV.len (out (Int.toNat k)).2.2.2.2.2.2.2),(SlV.fn ((λ_=>0):NI) (out (Int.toNat k)).2.2.2.2.2.2.2)))))))),())))))))with|none=>none|some y2=>(match y2 with| .inl y3=>(bif ((Nat.ble ((y3.1.2.2.2.2.1.1+1)*112) 140737488355328)&&(Nat.ble (y3.1.2.2.2.2.1.1+1) 9223372036854775807))then(some (.inl (((y3.1.1.1,y3.1.1.2),((),(y3.1.2.2.1,((),(((y3.1.2.2.2.2.1.1+1),(glue y3.1.2.2.2.2.1.1 y3.1.2.2.2.2.1.2 (λj=>(upd (λ_=>(0,(0,(ByteArray.empty,((0,0),(ByteArray.empty,(.nil,.nil))))))) 0 (y3.2.2.2.2.2.1.1,(y3.2.2.2.2.2.1.2.1,(y3.2.2.2.2.2.1.2.2.1,(y3.2.2.2.2.2.1.2.2.2.1,(y3.2.2.2.2.2.1.2.2.2.2.1,((.fz y3.2.2.2.2.2.1.2.2.2.2.2.1.1 y3.2.2.2.2.2.1.2.2.2.2.2.1.2),(.fz y3.2.2.2.2.2.1.2.2.2.2.2.2.1 y3.2.2.2.2.2.1.2.2.2.2.2.2.2)))))))) (0+j)))),(y3.1.2.2.2.2.2.1,((y3.1.2.2.2.2.2.2.1.1,y3.1.2.2.2.2.2.2.1.2),((),((i64.wrap (y3.1.2.2.2.2.2.2.2.2.1+1)),()))))))))),((y3.2.1.1,(y3.2.1.2.1,((y3.2.1.2.2.1.1,y3.2.1.2.2.1.2),y3.2.1.2.2.2))),((y3.2.2.1.1,(y3.2.2.1.2.1,(y3.2.2.1.2.2.1,(y3.2.2.1.2.2.2.1,(y3.2.2.1.2.2.2.2.1,((),(y3.2.2.1.2.2.2.2.2.2.1,(y3.2.2.1.2.2.2.2.2.2.2.1,y3.2.2.1.2.2.2.2.2.2.2.2)))))))),(y3.2.2.2.1,(y3.2.2.2.2.1,())))))))else(none))| .inr y3=>(some (.inr (.inr ((y3.1.1,()),())))))))else(none))))else(none))))))else(none))else(some (.inr (.inl (((nl,l),((),(r,((),((nsaid,said),(i,())))))),(x.2.1,(x.2.2.1,(x.2.2.2.1,())))))))
abbrev Gu:Type:=sF
abbrev vG:Type:=sG
def Gw:vG->Option (vG⊕Gu):=bY
abbrev Gx:Type:=sH
abbrev vH:Type:=sI
def jw:vH->Option (vH⊕Gx):=bS
abbrev iE(nl:Nat)(l:Nat->Z08)(r:Z01)(nsaid:Nat)(said:Nat->Z05)(i:Int)(o:(Z0s×(Z00×(Z0k×Unit)))):=(((nl,l),((),(r,((),((nsaid,said),(i,())))))),o)
abbrev Ba:Type:=(Z09⊕Z0d)
abbrev oP(o:Unit):Ba:=(.inl ((),o))
abbrev Bb:Type:=Z0E
def dU:Bb->Option (Bb⊕Ba):=λx=>let nl:=x.1.1.1;let l:=x.1.1.2;let r:=x.1.2.2.1;let nsaid:=x.1.2.2.2.2.1.1;let said:=x.1.2.2.2.2.1.2;let i:=x.1.2.2.2.2.2.1;bif (decide (i<((nl:Nat):Int)))then(bif (inb i nl)then(match(iK x.2.2.2.1 r.2.1 r.2.2.1 (l (Int.toNat i)))with|none=>none|some r1=>(match(bW r1.2.2.1 (x.2.2.1,(x.2.1,())))with|none=>none|some y=>(let r2:=y.1.1;let r3:=y.1.2.1;let r4:=y.1.2.2.1;bif (inb i nl)then(bif ((l (Int.toNat i)).2.1==9)then(match(fA y.2)with|none=>none|some y1=>(let nr:=y1.1.1.1;let r5:=y1.1.1.2;match(bW r1.2.2.1 y1.2)with|none=>none|some y3=>(let r7:=y3.1.1;let r8:=y3.1.2.1;let r9:=y3.1.2.2.1;match(yh r7 r2)with|none=>none|some r10=>(bif (decide (r10<0))then(some (.inr (.inr ((false,()),()))))else(match(aB bS (((nl,l),((),(r,((),((nsaid,said),(i,((nr,r5),((),(0,()))))))))),(y3.2.2.1,(y3.2.1,(x.2.2.2.1,(r7,()))))))with|none=>none|some y4=>(match y4 with| .inl y5=>(let nl1:=y5.1.1.1;let l1:=y5.1.1.2;let r11:=y5.1.2.2.1;let nsaid1:=y5.1.2.2.2.2.1.1;let said1:=y5.1.2.2.2.2.1.2;let i1:=y5.1.2.2.2.2.2.1;some (.inl (((nl1,l1),((),(r11,((),((nsaid1,said1),((i64.wrap (i1+1)),())))))),((y5.2.1.1,(y5.2.1.2.1,((y5.2.1.2.2.1.1,y5.2.1.2.2.1.2),y5.2.1.2.2.2))),((y5.2.2.1.1,(y5.2.2.1.2.1,(y5.2.2.1.2.2.1,(y5.2.2.1.2.2.2.1,(y5.2.2.1.2.2.2.2.1,((),(y5.2.2.1.2.2.2.2.2.2.1,(y5.2.2.1.2.2.2.2.2.2.2.1,y5.2.2.1.2.2.2.2.2.2.2.2)))))))),(y5.2.2.2.1,()))))))| .inr y5=>(let t:=y5.1.1;some (.inr (.inr ((t,()),()))))))))))else(bif (inb i nl)then(match(bC (l (Int.toNat i)).1 r1.1 r1.2.1 r1.2.2.1 r1.2.2.2.1 r1.2.2.2.2.1 r1.2.2.2.2.2.1.1 r1.2.2.2.2.2.1.2 r1.2.2.2.2.2.2.1 r1.2.2.2.2.2.2.2 y.2)with|none=>none|some y2=>(let nr1:=y2.1.1.1;let r6:=y2.1.1.2;match(bW r1.2.2.1 y2.2)with|none=>none|some y6=>(let r12:=y6.1.1;let r13:=y6.1.2.1;let r14:=y6.1.2.2.1;match(yh r12 r2)with|none=>none|some r15=>(bif (decide (r15<0))then(some (.inr (.inr ((false,()),()))))else(match(aB jw (((nl,l),((),(r,((),((nsaid,said),(i,((nr1,r6),((),(0,()))))))))),(y6.2.2.1,(y6.2.1,(x.2.2.2.1,(r12,()))))))with|none=>none|some y7=>(match y7 with| .inl y8=>(let nl2:=y8.1.1.1;let l2:=y8.1.1.2;let r16:=y8.1.2.2.1;let nsaid2:=y8.1.2.2.2.2.1.1;let said2:=y8.1.2.2.2.2.1.2;let i2:=y8.1.2.2.2.2.2.1;some (.inl (((nl2,l2),((),(r16,((),((nsaid2,said2),((i64.wrap (i2+1)),())))))),((y8.2.1.1,(y8.2.1.2.1,((y8.2.1.2.2.1.1,y8.2.1.2.2.1.2),y8.2.1.2.2.2))),((y8.2.2.1.1,(y8.2.2.1.2.1,(y8.2.2.1.2.2.1,(y8.2.2.1.2.2.2.1,(y8.2.2.1.2.2.2.2.1,((),(y8.2.2.1.2.2.2.2.2.2.1,(y8.2.2.1.2.2.2.2.2.2.2.1,y8.2.2.1.2.2.2.2.2.2.2.2)))))))),(y8.2.2.2.1,()))))))| .inr y8=>(let t1:=y8.1.1;some (.inr (.inr ((t1,()),()))))))))))else(none)))else(none))))else(none))else(some (.inr (.inl ((),()))))
def yU(which:Int)(nl:Nat)(l:Nat->Z08):Option (Unit):=match(uZ which)with|none=>none|some y=>(let r:=y.1.2.1;let r1:=y.1.2.2.1;let r2:=y.1.2.2.2.1;bif (!r2)then(bif r2 then(match wS with|none=>none|some r3=>(bif r3 then(some ())else(none)))else(none))else(let t:=(decide (((nl:Nat):Int)>30));bif t then(bif r2 then(match wS with|none=>none|some r3=>(bif r3 then(some ())else(none)))else(none))else(match(aB dU (((nl,l),((),(r,((),((0,(λ_=>(0,(0,(ByteArray.empty,((0,0),(ByteArray.empty,(.nil,.nil)))))))),(0,())))))),(y.2.1,(y.2.2.1,(r1,())))))with|none=>none|some y1=>(match y1 with| .inl y2=>(match wS with|none=>none|some r4=>(bif r4 then(some ())else(none)))| .inr y2=>(bif y2.1.1 then(some ())else(none))))))
end
end Go.Pl
namespace Go.Proofs.YtldlihheppdhnaaGreat
noncomputable section
abbrev sJ:Shape:= { sl:=[(1,(.sz (.pair tI (.pair tI (.pair tI (.pair tI (.pair (.pair tI tI) (.pair tI tI)))))))),(5,(.c ⟨(.ptr tSV),(.rf 7 [])⟩)),(6,(.pz (.pair (.pair tI (.pair tI tI)) (.pair tI (.pair tI (.pair tI (.pair tI (.pair (.pair tI (.pair tI (.pair (.sl .str) (.sl tI)))) (.pair (.sl (.pair .str (.pair tG (.pair (.sl tV) (.pair (.sl tV) (.arr 4 (.pair (.arr 2 tG) (.pair tG (.pair tI tI))))))))) (.sl tOU)))))))))),(pc 7 (.pair tI (.pair tI tI)) 15),(9,(.w 41 tMS 68)),(pv 10 tI),(15,(.sz tOU)),(pc 16 (.pair tI tI) 62),(pv 19 tI),(20,(.c ⟨(.ptr tMS),(.rf 67 [])⟩)),(pv 21 tI)],ob:=[(3,(.p (.v tI) (.p (.v tI) (.p (.w 9 .str 69) (.m tI tI 70))))),(7,(.p (.pz tGR) (.p (.v tI) (.p (.v tI) (.p (.v tI) (.p (.v tI) (.p (.c ⟨(.ptr tSP),(.rf 3 [])⟩) (.p (.bg .str tRC 71 none) (.sz tOU))))))))),(pv 15 (.pair tI (.pair tI tI))),(pv 62 (.pair tI tI)),(67,ZZ2)],lo:=68,nx:=72 }
abbrev MF:List Ex:=[(.normal, { sl:=[(1,(.sz (.pair tI (.pair tI (.pair tI (.pair tI (.pair (.pair tI tI) (.pair tI tI)))))))),(5,(.c ⟨(.ptr tSV),(.rf 7 [])⟩)),(6,(.pz (.pair (.pair tI (.pair tI tI)) (.pair tI (.pair tI (.pair tI (.pair tI (.pair (.pair tI (.pair tI (.pair (.sl .str) (.sl tI)))) (.pair (.sl (.pair .str (.pair tG (.pair (.sl tV) (.pair (.sl tV) (.arr 4 (.pair (.arr 2 tG) (.pair tG (.pair tI tI))))))))) (.sl tOU)))))))))),(pc 7 (.pair tI (.pair tI tI)) 15),(9,(.w 41 tMS 72)),(pv 10 tI),(15,(.sz tOU)),(pc 16 (.pair tI tI) 62),(pv 19 tI),(20,(.c ⟨(.ptr tMS),(.rf 67 [])⟩))],ob:=[(3,(.p (.v tI) (.p (.v tI) (.p (.w 9 .str 73) (.m tI tI 74))))),(7,(.p (.pz tGR) (.p (.v tI) (.p (.v tI) (.p (.v tI) (.p (.v tI) (.p (.c ⟨(.ptr tSP),(.rf 3 [])⟩) (.p (.bg .str tRC 75 none) (.sz tOU))))))))),(pv 15 (.pair tI (.pair tI tI))),(pv 62 (.pair tI tI)),(67,ZZ2)],lo:=72,nx:=76 }),(.ret, { sl:=[(4,(.v .bool))],ob:=[],lo:=72,nx:=72 })]
def MG:Code:=aW (aU Tryz.f4) 4
def mE:Lp:=dA sJ MF 179 bY
abbrev eY:Shape:= { sl:=[(1,(.sz (.pair tI (.pair tI (.pair tI (.pair tI (.pair (.pair tI tI) (.pair tI tI)))))))),(5,(.c ⟨(.ptr tSV),(.rf 7 [])⟩)),(6,(.pz (.pair (.pair tI (.pair tI tI)) (.pair tI (.pair tI (.pair tI (.pair tI (.pair (.pair tI (.pair tI (.pair (.sl .str) (.sl tI)))) (.pair (.sl (.pair .str (.pair tG (.pair (.sl tV) (.pair (.sl tV) (.arr 4 (.pair (.arr 2 tG) (.pair tG (.pair tI tI))))))))) (.sl tOU)))))))))),(pc 7 (.pair tI (.pair tI tI)) 15),(9,(.w 41 tMS 63)),(pv 10 tI),(15,(.sz tOU)),(pc 16 (.pair tI tI) 62),(pv 19 tI)],ob:=[(3,(.p (.v tI) (.p (.v tI) (.p (.w 9 .str 64) (.m tI tI 65))))),(7,(.p (.pz tGR) (.p (.v tI) (.p (.v tI) (.p (.v tI) (.p (.v tI) (.p (.c ⟨(.ptr tSP),(.rf 3 [])⟩) (.p (.bg .str tRC 66 none) (.sz tOU))))))))),(pv 15 (.pair tI (.pair tI tI))),(pv 62 (.pair tI tI))],lo:=63,nx:=67 }
abbrev Bc:List Ex:=[(.normal, { sl:=[(1,(.sz (.pair tI (.pair tI (.pair tI (.pair tI (.pair (.pair tI tI) (.pair tI tI)))))))),(5,(.c ⟨(.ptr tSV),(.rf 7 [])⟩)),(6,(.pz (.pair (.pair tI (.pair tI tI)) (.pair tI (.pair tI (.pair tI (.pair tI (.pair (.pair tI (.pair tI (.pair (.sl .str) (.sl tI)))) (.pair (.sl (.pair .str (.pair tG (.pair (.sl tV) (.pair (.sl tV) (.arr 4 (.pair (.arr 2 tG) (.pair tG (.pair tI tI))))))))) (.sl tOU)))))))))),(pc 7 (.pair tI (.pair tI tI)) 15),(9,(.w 41 tMS 67)),(pv 10 tI)],ob:=[(3,(.p (.v tI) (.p (.v tI) (.p (.w 9 .str 68) (.m tI tI 69))))),(7,(.p (.pz tGR) (.p (.v tI) (.p (.v tI) (.p (.v tI) (.p (.v tI) (.p (.c ⟨(.ptr tSP),(.rf 3 [])⟩) (.p (.bg .str tRC 70 none) (.sz tOU))))))))),(pv 15 (.pair tI (.pair tI tI)))],lo:=67,nx:=71 }),(.ret, { sl:=[(4,(.v .bool))],ob:=[],lo:=72,nx:=72 })]
def Bd:Code:=aW (aU Tryz.f4) 2
def mF:Lp:=dA eY Bc 179 bS
abbrev Gy:Shape:= { sl:=[(1,(.sz (.pair tI (.pair tI (.pair tI (.pair tI (.pair (.pair tI tI) (.pair tI tI)))))))),(5,(.c ⟨(.ptr tSV),(.rf 7 [])⟩)),(6,(.pz (.pair (.pair tI (.pair tI tI)) (.pair tI (.pair tI (.pair tI (.pair tI (.pair (.pair tI (.pair tI (.pair (.sl .str) (.sl tI)))) (.pair (.sl (.pair .str (.pair tG (.pair (.sl tV) (.pair (.sl tV) (.arr 4 (.pair (.arr 2 tG) (.pair tG (.pair tI tI))))))))) (.sl tOU)))))))))),(pc 7 (.pair tI (.pair tI tI)) 15),(9,(.w 41 tMS 169)),(pv 10 tI),(15,(.sz tOU)),(pc 16 (.pair tI tI) 163),(pv 19 tI),(20,(.c ⟨(.ptr tMS),(.rf 168 [])⟩)),(pv 21 tI)],ob:=[(3,(.p (.v tI) (.p (.v tI) (.p (.w 9 .str 170) (.m tI tI 171))))),(7,(.p (.pz tGR) (.p (.v tI) (.p (.v tI) (.p (.v tI) (.p (.v tI) (.p (.c ⟨(.ptr tSP),(.rf 3 [])⟩) (.p (.bg .str tRC 172 none) (.sz tOU))))))))),(pv 15 (.pair tI (.pair tI tI))),(pv 163 (.pair tI tI)),(168,ZZ2)],lo:=169,nx:=173 }
abbrev Gz:List Ex:=[(.normal, { sl:=[(1,(.sz (.pair tI (.pair tI (.pair tI (.pair tI (.pair (.pair tI tI) (.pair tI tI)))))))),(5,(.c ⟨(.ptr tSV),(.rf 7 [])⟩)),(6,(.pz (.pair (.pair tI (.pair tI tI)) (.pair tI (.pair tI (.pair tI (.pair tI (.pair (.pair tI (.pair tI (.pair (.sl .str) (.sl tI)))) (.pair (.sl (.pair .str (.pair tG (.pair (.sl tV) (.pair (.sl tV) (.arr 4 (.pair (.arr 2 tG) (.pair tG (.pair tI tI))))))))) (.sl tOU)))))))))),(pc 7 (.pair tI (.pair tI tI)) 15),(9,(.w 41 tMS 173)),(pv 10 tI),(15,(.sz tOU)),(pc 16 (.pair tI tI) 163),(pv 19 tI),(20,(.c ⟨(.ptr tMS),(.rf 168 [])⟩))],ob:=[(3,(.p (.v tI) (.p (.v tI) (.p (.w 9 .str 174) (.m tI tI 175))))),(7,(.p (.pz tGR) (.p (.v tI) (.p (.v tI) (.p (.v tI) (.p (.v tI) (.p (.c ⟨(.ptr tSP),(.rf 3 [])⟩) (.p (.bg .str tRC 176 none) (.sz tOU))))))))),(pv 15 (.pair tI (.pair tI tI))),(pv 163 (.pair tI tI)),(168,ZZ2)],lo:=173,nx:=177 }),(.ret, { sl:=[(4,(.v .bool))],ob:=[],lo:=173,nx:=173 })]
def GD:Code:=aW (aU Tryz.f4) 4
def jy:Lp:=dA Gy Gz 179 Gw
abbrev jA:Shape:= { sl:=[(1,(.sz (.pair tI (.pair tI (.pair tI (.pair tI (.pair (.pair tI tI) (.pair tI tI)))))))),(5,(.c ⟨(.ptr tSV),(.rf 7 [])⟩)),(6,(.pz (.pair (.pair tI (.pair tI tI)) (.pair tI (.pair tI (.pair tI (.pair tI (.pair (.pair tI (.pair tI (.pair (.sl .str) (.sl tI)))) (.pair (.sl (.pair .str (.pair tG (.pair (.sl tV) (.pair (.sl tV) (.arr 4 (.pair (.arr 2 tG) (.pair tG (.pair tI tI))))))))) (.sl tOU)))))))))),(pc 7 (.pair tI (.pair tI tI)) 15),(9,(.w 41 tMS 164)),(pv 10 tI),(15,(.sz tOU)),(pc 16 (.pair tI tI) 163),(pv 19 tI)],ob:=[(3,(.p (.v tI) (.p (.v tI) (.p (.w 9 .str 165) (.m tI tI 166))))),(7,(.p (.pz tGR) (.p (.v tI) (.p (.v tI) (.p (.v tI) (.p (.v tI) (.p (.c ⟨(.ptr tSP),(.rf 3 [])⟩) (.p (.bg .str tRC 167 none) (.sz tOU))))))))),(pv 15 (.pair tI (.pair tI tI))),(pv 163 (.pair tI tI))],lo:=164,nx:=168 }
abbrev vI:List Ex:=[(.normal, { sl:=[(1,(.sz (.pair tI (.pair tI (.pair tI (.pair tI (.pair (.pair tI tI) (.pair tI tI)))))))),(5,(.c ⟨(.ptr tSV),(.rf 7 [])⟩)),(6,(.pz (.pair (.pair tI (.pair tI tI)) (.pair tI (.pair tI (.pair tI (.pair tI (.pair (.pair tI (.pair tI (.pair (.sl .str) (.sl tI)))) (.pair (.sl (.pair .str (.pair tG (.pair (.sl tV) (.pair (.sl tV) (.arr 4 (.pair (.arr 2 tG) (.pair tG (.pair tI tI))))))))) (.sl tOU)))))))))),(pc 7 (.pair tI (.pair tI tI)) 15),(9,(.w 41 tMS 168)),(pv 10 tI)],ob:=[(3,(.p (.v tI) (.p (.v tI) (.p (.w 9 .str 169) (.m tI tI 170))))),(7,(.p (.pz tGR) (.p (.v tI) (.p (.v tI) (.p (.v tI) (.p (.v tI) (.p (.c ⟨(.ptr tSP),(.rf 3 [])⟩) (.p (.bg .str tRC 171 none) (.sz tOU))))))))),(pv 15 (.pair tI (.pair tI tI)))],lo:=168,nx:=172 }),(.ret, { sl:=[(4,(.v .bool))],ob:=[],lo:=173,nx:=173 })]
def vJ:Code:=aW (aU Tryz.f4) 2
def jB:Lp:=dA jA vI 179 jw
abbrev mG:Shape:= { sl:=[(1,(.sz (.pair tI (.pair tI (.pair tI (.pair tI (.pair (.pair tI tI) (.pair tI tI)))))))),(5,(.c ⟨(.ptr tSV),(.rf 7 [])⟩)),(6,(.pz (.pair (.pair tI (.pair tI tI)) (.pair tI (.pair tI (.pair tI (.pair tI (.pair (.pair tI (.pair tI (.pair (.sl .str) (.sl tI)))) (.pair (.sl (.pair .str (.pair tG (.pair (.sl tV) (.pair (.sl tV) (.arr 4 (.pair (.arr 2 tG) (.pair tG (.pair tI tI))))))))) (.sl tOU)))))))))),(pc 7 (.pair tI (.pair tI tI)) 15),(9,(.w 41 tMS 16)),(pv 10 tI)],ob:=[(3,(.p (.v tI) (.p (.v tI) (.p (.w 9 .str 17) (.m tI tI 18))))),(7,(.p (.pz tGR) (.p (.v tI) (.p (.v tI) (.p (.v tI) (.p (.v tI) (.p (.c ⟨(.ptr tSP),(.rf 3 [])⟩) (.p (.bg .str tRC 19 none) (.sz tOU))))))))),(pv 15 (.pair tI (.pair tI tI)))],lo:=16,nx:=20 }
abbrev Bf:List Ex:=[(.normal, { sl:=[],ob:=[],lo:=20,nx:=20 }),(.ret, { sl:=[(4,(.v .bool))],ob:=[],lo:=173,nx:=173 })]
def Bg:Code:=aW (aU Tryz.f4) 0
def sM:Lp:=dA mG Bf 179 dU
def dY:Cx:=cx [(7,AY),(8,RZ),(12,D9),(15,lI 0 ajs aju),(10,lI 0 asM asP),(13,lI 0 ajm ajp),(20,asQ),(21,aqL)] []
theorem jq:au Tryz.prog dY:=au.of mixed aA (fc ⟨Eh,fc ⟨Y2,fc ⟨Gg,fc ⟨eF aaz aaA,fc ⟨eF ajE ajH,fc ⟨eF aax aay,fc ⟨ajJ,fc ⟨ahl,fz⟩⟩⟩⟩⟩⟩⟩⟩) fz
theorem Bh:bV Tryz.prog 4 (.loop MG) mE:=aK jq 8 (ah) _ _ _ _ (by decide) λ_=>by kernel_rfl
theorem MH(x:eY.X):zX dY [(4,mE)] (dZ dY 8) Bd (eY.mkS 179 x) (qg 2 eY Bc)=bS x:=by kernel_rfl
theorem Bj:bV Tryz.prog 2 (.loop Bd) mF:=aK jq 8 (bB (by kernel_rfl) (aJ Bh (by kernel_rfl) fz)) _ _ _ _ (by decide) MH
theorem vK:bV Tryz.prog 4 (.loop GD) jy:=aK jq 8 (ah) _ _ _ _ (by decide) λ_=>by kernel_rfl
theorem GH(x:jA.X):zX dY [(4,jy)] (dZ dY 8) vJ (jA.mkS 179 x) (qg 2 jA vI)=jw x:=by kernel_rfl
theorem vL:bV Tryz.prog 2 (.loop vJ) jB:=aK jq 8 (bB (by kernel_rfl) (aJ vK (by kernel_rfl) fz)) _ _ _ _ (by decide) GH
theorem MI(x:mG.X):zX dY [(2,(a1m eY mF jB))] (dZ dY 8) Bg (mG.mkS 179 x) (qg 0 mG Bf)=dU x:=by kernel_rfl
theorem MJ:bV Tryz.prog 0 (.loop Bg) sM:=aK jq 8 (bB (by kernel_rfl) (aJ (Te Bj vL) (by kernel_rfl) fz)) _ _ _ _ (by decide) MI
theorem a5Y:fE Tryz.prog 4 Tryz.f4 [(4,(a1m sJ mE jy)),(2,(a1m eY mF jB)),(0,sM)]:=⟨Tryz.func4,Tryz.call4,bB (by kernel_rfl) (aJ (Te Bh vK) (by kernel_rfl) (aJ (Te Bj vL) (by kernel_rfl) (aJ MJ (by kernel_rfl) fz)))⟩
theorem a7O(which)(nl)(l):bX dY [(4,(a1m sJ mE jy)),(2,(a1m eY mF jB)),(0,sM)] (dZ dY 8) Tryz.f4 (jC [tI,(.sl (.pair tI (.pair tI (.pair tI (.pair tI (.pair (.pair tI tI) (.pair tI tI)))))))] (which,(nl,l),())) [] 0 a8l=yU which nl l:=by kernel_rfl
end
end Go.Proofs.YtldlihheppdhnaaGreat
namespace Go.Pl
open Go Go.Den Go.Num
abbrev axT:Ty:=.pair (.int .i64) (.pair (.int .i64) (.pair (.int .i64) (.pair (.int .i64) (.pair (.pair (.int .i64) (.int .i64)) (.pair (.int .i64) (.int .i64))))))
theorem a3c:(match wS with|none=>none|some r6=>(bif r6 then(some ())else none):Option Unit)=some ():=by rw[Jg];rfl
theorem a7P {x:Int}(h:Go.Den.Good (.int .i64) x): -9223372036854775808<=x/\x<9223372036854775808:=by have h1:IntKind.min .i64<=x:=h.1;have h2:x<=IntKind.max .i64:=h.2;have e1:IntKind.min .i64= -9223372036854775808:=rfl;have e2:IntKind.max .i64=9223372036854775807:=rfl;omega
abbrev spO(h:Hd)(s:Sv):SP:=h.sp s.n s.ks s.u
abbrev snO(h:Hd)(s:Sv):SN:=h.sn (tT h.N s.l) s.o
abbrev smO(h:Hd):Int×(Int×Int):=((h.P:Int),((h.Q:Int),(h.G:Int)))
theorem R2v:jw=bS:=rfl
theorem acT {h:Hd}{s:Sv}{nl:Nat}{l:Nat->QE}{ns:Nat}{said:Nat->MS}{i:Int}{nout:Nat}{out:Nat->OU}{k:Int}{now:aC}(x:Int×(Int×(ByteArray×VA)))(hn:ns<1000000000)
  (hq: ∀j,j<ns->(said j).2.2.1=x.2.2.1->(said j).2.2.2.1=x.2.2.2.1->(said j).2.2.2.2.1=x.2.2.2.2.1):
  aB bY (dR nl l (yT h) ns said i nout out k 0 (spO h s,(snO h s,(smO h,(now,(x,()))))))=some (jS nl l (yT h) ns said i nout out k (spO h s,(snO h s,(smO h,(now,(x,())))))):=by
 obtain⟨_,y1,rfl⟩:=aO (R:=bY) (S:=Unit) (λj _=>dR nl l (yT h) ns said i nout out k (j:Int) (spO h s,(snO h s,(smO h,(now,(x,())))))) (λ_=>jS nl l (yT h) ns said i nout out k (spO h s,(snO h s,(smO h,(now,(x,())))))) (λ_ s=>s=()) ns
  (λj hj _ _=>by
   refine⟨(),?_,rfl⟩;cases c1:sEq (said j).2.2.1 x.2.2.1
   ·simp(disch:=omega) only[bY,dR,WW,CC,ay8,aye,c1,bH]
   ·by_cases c2:(said j).2.2.2.1=x.2.2.2.1
    ·have e2:eqF (.pair (.int .i64) (.int .i64)) (said j).2.2.2.1 x.2.2.2.1=true:=by rw[c2];exact YG _
     have e3:sEq (said j).2.2.2.2.1 x.2.2.2.2.1=true:=(nN _ _).2 (hq j hj ((nN _ _).1 c1) c2);simp(disch:=omega) only[bY,dR,WW,CC,ay8,aye,c1,e2,e3,bA,bH,ayK]
    ·have e2:eqF (.pair (.int .i64) (.int .i64)) (said j).2.2.2.1 x.2.2.2.1=false:=YH c2;simp(disch:=omega) only[bY,dR,WW,CC,ay8,aye,c1,e2,bA,bH])
  (λ_ _=>by simp(disch:=omega) only[bY,dR,WW,CC]) () rfl
 exact y1
theorem a3d {h:Hd}{s:Sv}{nl:Nat}{l:Nat->QE}{i:Nat}(hi:i<nl)(hnl:nl<=30){nout:Nat}{out:Nat->OU}{ol:List OU}(ho:a5X h (nout,out) ol)(hlen:ol.length<=10000){now:aC}(hnow:0<=now.1/\now.1<=1099511627776)
  (hnear:(l i).2.1≠9-> ∀m∈ol,oKd m=5->(oSt m).1<=now.1+1) (hS: ∀m∈ol,oKd m=5->Jh h s m.2)
  (hU: ∀m∈ol,∀m'∈ol,oKd m=5->oKd m'=5->Jf m=Jf m'->oSt m=oSt m'->oDg m=oDg m')
  {n0:Nat} {said0:Nat->MS} (hn0:n0<=10000*i) (hs0: ∀j,j<n0->Jh h s (said0 j)) (hO: ∀j,j<n0-> ∀m∈ol,oKd m=5->(said0 j).2.2.1=Jf m->(said0 j).2.2.2.1=oSt m->(said0 j).2.2.2.2.1=oDg m):
  ∃n1 said1,aB bS (dS nl l (yT h) n0 said0 (i:Int) nout out 0 (spO h s,(snO h s,(smO h,(now,())))))=some (jT nl l (yT h) n1 said1 (i:Int) (spO h s,(snO h s,(smO h,()))))/\n1<=10000*(i+1)/\ ∀j,j<n1->Jh h s (said1 j):=by
 obtain⟨hnout,hrow,hok⟩:=ho;simp only at hnout hrow;subst hnout;obtain⟨z,y1,y2,y3⟩:=aO (R:=bS) (S:=Nat×(Nat->MS))
  (λk z=>dS nl l (yT h) z.1 z.2 (i:Int) ol.length out (k:Int) (spO h s,(snO h s,(smO h,(now,())))))
  (λz=>jT nl l (yT h) z.1 z.2 (i:Int) (spO h s,(snO h s,(smO h,()))))
  (λk z=>z.1<=n0+k/\ ∀j,j<z.1->Jh h s (z.2 j)/\ ∀m∈ol,oKd m=5->(z.2 j).2.2.1=Jf m->(z.2 j).2.2.2.1=oSt m->(z.2 j).2.2.2.2.1=oDg m) ol.length
  (λk hk z hz=>by
   obtain⟨z1,z2⟩:=hz;have hmem:ol[k]∈ol:=aAF hk;obtain⟨key,hto,nm,m,ny,y,M,L,he,hm,hy,⟨s1,s2,s3⟩,hmsg⟩:=hok _ hmem;have hS':=hS _ hmem;have hN':=λc=>hnear c _ hmem
   have hU':=hU _ hmem;have hz':=λj hj=>(z2 j hj).2 _ hmem
   have hrk:=hrow k hk;obtain⟨x1,x2,x3,x4,x5,x6,hx⟩: ∃x1 x2 x3 x4 x5 x6,ol[k]=(x1,(x2,(x3,(x4,(x5,(x6,((SlV.fz nm m),(SlV.fz ny y)))))))):=by generalize ol[k]=x at*;obtain⟨x1,x2,x3,x4,x5,x6,x7,x8⟩:=x;simp only[aAr]at he;obtain⟨rfl,rfl⟩:=he;exact⟨x1,x2,x3,x4,x5,x6,rfl⟩
   rw[hx]at hmsg hto hrk hS' hN' hU' hz';simp only[oKd,oSt,Jf,oDg]at hS' hN' hU' hz';have hMay':Oe (x2,(x3,(x4,(x5,(x6,(((SlV.fz nm m).len,SlV.fn SlV.nil (SlV.fz nm m)),((SlV.fz ny y).len,SlV.fn (λ_=>0) (SlV.fz ny y))))))))=some true:=a3a hm hy s1 hmsg;have eI:(x1==(h.I:Int))=false:=gN hto;have i1:(SlV.fz nm m).isMs=false:=rfl;have i2:(SlV.fz ny y).isMs=false:=rfl;by_cases c5:x2=5
   case neg=>
    have e5:(x2 !=5)=true:=RJ c5;refine⟨z,?_,by omega,z2⟩;simp(disch:=omega) only[bS,dS,WW,CC,ay8,hrk,i1,i2,hMay',eI,e5,bA,bH,ayK]
   subst c5;have hL:=acT (h:=h) (s:=s) (nl:=nl) (l:=l) (ns:=z.1) (said:=z.2) (i:=(i:Int)) (nout:=ol.length) (out:=out) (k:=(k:Int)) (now:=now) (5,(x3,(x4,(x5,(x6,(((SlV.fz nm m).len,SlV.fn SlV.nil (SlV.fz nm m)),((SlV.fz ny y).len,SlV.fn (λ_=>0) (SlV.fz ny y)))))))) (by omega) (λj hj=>hz' j hj rfl);have b1:Nat.ble ((z.1+1)*112) 140737488355328=true:=ay6 (by omega);have b2:Nat.ble (z.1+1) 9223372036854775807=true:=ay6 (by omega);have fin: ∀q:Nat->MS,(∀j,j<z.1->q j=z.2 j)->q z.1=(5,(x3,(x4,(x5,(x6,((SlV.fz nm m),(SlV.fz ny y)))))))-> ∀j,j<z.1+1->Jh h s (q j)/\ ∀m∈ol,oKd m=5->(q j).2.2.1=Jf m->(q j).2.2.2.1=oSt m->(q j).2.2.2.2.1=oDg m:=λq q1 q2 j hj=>by
    by_cases c:j=z.1
    ·subst c;rw[q2];exact⟨hS' rfl,λm' hm' k'=>hU' m' hm' rfl k'⟩
    ·rw[q1 j (by omega)];exact z2 j (by omega)
   have hq: ∀g:Nat->MS,g 0=(5,(x3,(x4,(x5,(x6,((SlV.fz nm m),(SlV.fz ny y)))))))-> ∀j,j<z.1+1->Jh h s (glue z.1 z.2 g j)/\ ∀m∈ol,oKd m=5->(glue z.1 z.2 g j).2.2.1=Jf m->(glue z.1 z.2 g j).2.2.2.1=oSt m->(glue z.1 z.2 g j).2.2.2.2.1=oDg m:=λg hg=>
    fin _ (λj hj=>YN hj) (by rw[YO (ay7 _),azz];exact hg)
   refine⟨(z.1+1,glue z.1 z.2 (λj=>(upd (λ_=>((0,(0,(ByteArray.empty,((0,0),(ByteArray.empty,(.nil,.nil)))))):MS)) 0 (5,(x3,(x4,(x5,(x6,((SlV.fz nm m),(SlV.fz ny y)))))))) (0+j))),?_,by simp only;omega,hq _ rfl⟩;by_cases c9:(l i).2.1=9
   ·have e9:((l i).2.1 !=9)=false:=by rw[c9];rfl
    simp(disch:=omega) only[bS,dS,WW,CC,ay8,hrk,i1,i2,hMay',eI,e9,bA,bH,ayK,az7];simp only[dR]at hL;simp(disch:=omega) only[hL,jS,b1,b2,aAD,bA,WW,CC];rfl
   ·have e9:((l i).2.1 !=9)=true:=RJ c9;have e6:decide (x5.1>IntKind.i64.wrap (now.1+1))=false:=by rw[wrap_i64 (by omega)];exact bq (by have:=hN' c9 rfl;omega)
    simp(disch:=omega) only[bS,dS,WW,CC,ay8,hrk,i1,i2,hMay',eI,e9,e6,bA,bH,ayK,az7];simp only[dR]at hL;simp(disch:=omega) only[hL,jS,b1,b2,aAD,bA,WW,CC];rfl)
  (λz _=>by simp(disch:=omega) only[bS,dS,WW,CC]) (n0,said0) ⟨ay7 _,λj hj=>⟨hs0 j hj,hO j hj⟩⟩
 exact⟨z.1,z.2,y1,by omega,λj hj=>(y3 j hj).1⟩
theorem QI {h:Hd}(s:Sv)(key:ByteArray): ∃d b,bW key (snO h s,(spO h s,()))=some (((gu s.l key).v.1,(d,(b,()))),(snO h s,(spO h s,()))):=by rw[<-acS];exact⟨_,_,YR (h:=h) s key⟩
theorem abD {x:Rc}(h:jG x):0<=x.v.1.1/\x.v.1.1<=1099511627776:=by
 obtain⟨M,L,_,_,_,h4⟩:=h.v;rcases h4 with h4|h4
 ·rw[h4.1];decide
 ·have:=h4.1;unfold j5 at this;omega
theorem a7Q {h:Hd}(hh:h.Ok3){nl:Nat}(hn:nl<=30){l:Nat->QE}(hl: ∀i,i<nl-> -9223372036854775808<=(l i).1/\(l i).1<9223372036854775808)(said:Nat->MS):
  aB dU (iE nl l (yT h) 0 said 0 (spO h zS,(snO h zS,(smO h,()))))=some (oP ()):=by
 obtain⟨s,h1,_⟩:=aO (R:=dU) (S:=Sv×(Nat×(Nat->MS)))
  (λi s=>iE nl l (yT h) s.2.1 s.2.2 (i:Int) (spO h s.1,(snO h s.1,(smO h,()))))
  (λ_=>oP ()) (λi s=>Good h s.1 i/\(∀k,Plc h.I (gu s.1.l k))/\s.2.1<=10000*i/\ ∀j,j<s.2.1->Jh h s.1 (s.2.2 j)) nl
  (λi hi s hs=>by
   obtain⟨g,hp,hn0,hs0⟩:=hs;obtain⟨op,st,dg,nm,m,ny,y,q1,q2⟩:=abC hh (hl i hi) g (by omega) hp;obtain⟨d0,b0,e0⟩:=QI (h:=h) s.1 (zM (l i).2.2.2.1);by_cases c9:(l i).2.1=9
   ·obtain⟨out,ol,t1,t2,t3,t4⟩:=a7N hh g (by omega) hp;obtain⟨d1,b1,e1⟩:=QI (h:=h) { s.1 with o:=out } (zM (l i).2.2.2.1);obtain⟨r,r1,r2⟩:=Ei (gu s.1.l (zM (l i).2.2.2.1)).v.1 (gu s.1.l (zM (l i).2.2.2.1)).v.1;have r3:decide (r<0)=false:=bq λhr=>bK _ (r2.1 hr)
    obtain⟨n1,said1,w1,w2,w3⟩:=a3d (h:=h) (s:= { s.1 with o:=out }) (l:=l) hi hn (out:=out.2) t2 t3 (abD (g.get (zM (l i).2.2.2.1))) (λc=>absurd c9 c) t4.says t4.uni hn0 (λj hj=>t4.up _ (hs0 j hj)) (λj hj=>t4.old _ (hs0 j hj));have t1':fA (snO h s.1,(spO h s.1,()))=some ((out,()),(snO h { s.1 with o:=out },(spO h { s.1 with o:=out },()))):=t1;refine⟨({ s.1 with o:=out },(n1,said1)),?_,g.mono.out out,t4.pl,w2,w3⟩;have e9:((l i).2.1==9)=true:=G8 c9;simp only[dS]at w1;simp(disch:=omega) only[dU,iE,WW,CC,ay8,q1,e0,e9,t1',e1,r1,r3,w1,bA,bH,jT]
   ·obtain⟨out,s',ol,t1,g',t2,t3,t4,t5,t6⟩:=q2;obtain⟨d1,b1,e1⟩:=QI (h:=h) s' (zM (l i).2.2.2.1);obtain⟨r,r1,r2⟩:=Ei (gu s'.l (zM (l i).2.2.2.1)).v.1 (gu s.1.l (zM (l i).2.2.2.1)).v.1;have r3:decide (r<0)=false:=bq λhr=>t5 (r2.1 hr)
    obtain⟨n1,said1,w1,w2,w3⟩:=a3d (h:=h) (s:=s') (l:=l) hi hn (out:=out.2) t2 t3 (abD (g'.get (zM (l i).2.2.2.1))) (λ_=>t6) t4.says t4.uni hn0 (λj hj=>t4.up _ (hs0 j hj)) (λj hj=>t4.old _ (hs0 j hj));have t1':bC (l i).1 (l i).2.1 op (zM (l i).2.2.2.1) st dg nm m ny y (snO h s.1,(spO h s.1,()))=some ((out,()),(snO h s',(spO h s',()))):=t1;refine⟨(s',(n1,said1)),?_,g',t4.pl,w2,w3⟩;have e9:((l i).2.1==9)=false:=gN c9;simp only[dS]at w1;simp(disch:=omega) only[dU,iE,R2v,WW,CC,ay8,q1,e0,e9,t1',e1,r1,r3,w1,bA,bH,jT])
  (λs _=>by simp(disch:=omega) only[dU,iE,WW,CC]) (zS,(0,said)) ⟨a0L h,λk=>acQ _,ay7 _,λj hj=>absurd hj (ayz _)⟩
 exact h1
theorem a3e {which:Int}{nl:Nat}{l:Nat->QE}(hw:Go.Den.Good (.int .i64) which)(hl:Go.Den.Good (.sl axT) (.fz nl l)):yU which nl l=some ():=by
 obtain⟨h,hh,_,hW⟩:=X7 which;unfold yU;simp only[hW,ayK,bA,bH];by_cases hn:(nl:Int)>30
 ·rw[dH hn,bA];exact a3c
 ·rw[bq hn,bH];have hL:=a7Q hh (nl:=nl) (by omega) (l:=l) (λi hi=>a7P (hl.2 i hi).1) (λ_=>(0,(0,(ByteArray.empty,((0,0),(ByteArray.empty,(.nil,.nil)))))));simp only[iE,spO,snO,smO,zS,tT,aAb]at hL;simp only[hL,oP,Jg,bA]
end Go.Pl
