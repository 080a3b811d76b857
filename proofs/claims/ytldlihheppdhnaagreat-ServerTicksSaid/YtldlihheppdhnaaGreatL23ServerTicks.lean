/-
 One statement, plainly.
-/
import Derived.Test.YtldlihheppdhnaaGreatDenM
import Derived.Test.YtldlihheppdhnaaGreatDenI
import Derived.Test.YtldlihheppdhnaaGreatL23
import Derived.Test.YtldlihheppdhnaaGreatPlB
import Derived.Test.YtldlihheppdhnaaGreatPlA
import Derived.Test.YtldlihheppdhnaaGreatEqA
import Derived.Test.YtldlihheppdhnaaGreatDenF
import Derived.Test.YtldlihheppdhnaaGreatEqB
set_option linter.unusedVariables false
set_option linter.unusedSimpArgs false
set_option maxRecDepth 100000
set_option maxHeartbeats 0
namespace Go.Pl
end Go.Pl
open Go Go.Den Go.Pl
namespace Go.Pl
noncomputable section
open Go.IntKind (i64 u64 u32 u8)
abbrev iR(nl:Nat)(l:Nat->(Int×Z0o))(r:Z0n)(i:Int)(o:Z0y):=(((nl,l),((),(r,((),((),(i,())))))),o)
abbrev yV:Type:=(Z07⊕Z01)
abbrev nE(o:Unit):yV:=(.inl ((),o))
abbrev yX:Type:=(((Nat×(Nat->(Int×Z0o)))×(Unit×(Z0n×Z0c)))×Z0y)
def fM:yX->Option (yX⊕yV):=λx=>let nl:=x.1.1.1;let l:=x.1.1.2;let r:=x.1.2.2.1;let i:=x.1.2.2.2.2.2.1;bif (decide (i<((nl:Nat):Int)))then(bif (inb i nl)then(match(iE x.2.2.2.1 r.2.1 r.2.2.1 (l (Int.toNat i)))with|none=>none|some r1=>(bif (inb i nl)then(match(bn (l (Int.toNat i)).1 r1.1 r1.2.1 r1.2.2.1 r1.2.2.2.1 r1.2.2.2.2.1 r1.2.2.2.2.2.1.1 r1.2.2.2.2.2.1.2 r1.2.2.2.2.2.2.1 r1.2.2.2.2.2.2.2 (x.2.2.1,(x.2.1,())))with|none=>none|some y=>(let nr:=y.1.1.1;let r2:=y.1.1.2;bif (inb i nl)then(match(bn (l (Int.toNat i)).1 r1.1 r1.2.1 r1.2.2.1 r1.2.2.2.1 r1.2.2.2.2.1 r1.2.2.2.2.2.1.1 r1.2.2.2.2.2.1.2 r1.2.2.2.2.2.2.1 r1.2.2.2.2.2.2.2 (x.2.2.2.2.2.1,(x.2.2.2.2.1,())))with|none=>none|some y1=>(let nr1:=y1.1.1.1;let r3:=y1.1.1.2;match(uq nr r2 nr1 r3)with|none=>none|some r4=>(bif (!r4)then(some (.inr (.inr ((false,()),()))))else(match(dn y.2)with|none=>none|some y2=>(let nr2:=y2.1.1.1;let r5:=y2.1.1.2;match(dn y2.2)with|none=>none|some y3=>(let nr3:=y3.1.1.1;let r6:=y3.1.1.2;match(uq nr2 r5 nr3 r6)with|none=>none|some r7=>(bif (!r7)then(some (.inr (.inr ((false,()),()))))else(some (.inl (((nl,l),((),(r,((),((),((i64.wrap (i+1)),())))))),(y3.2.2.1,(y3.2.1,(x.2.2.2.1,(y1.2.2.1,(y1.2.1,())))))))))))))))else(none)))else(none)))else(none))else(some (.inr (.inl ((),()))))
abbrev bA(small:Z02)(e:Int)(i:Int)(o:Unit):=((small,(e,(i,()))),o)
abbrev ah:Type:=(Z0H⊕Z01)
abbrev nG(e:Int)(o:Unit):ah:=(.inl ((e,()),o))
abbrev aj:Type:=((Z02×(Int×Z05))×Unit)
def bB:aj->Option (aj⊕ah):=λx=>
 let small:=x.1.1;let e:=x.1.2.1;let i:=x.1.2.2.1
 bif (decide (i<9))then(
 match(bD (some small) 2 i 3)with
 |none=>none
 |some y=>(
 match y with
 | .inl y1=>(
 let r:=y1.1.2.1
 match(bD (some small) i 1 3)with
 |none=>none
 |some y2=>(
 match y2 with
 | .inl y3=>(
 let r2:=y3.1.2.1
 match(bD (some small) 1 1 i)with
 |none=>none
 |some y4=>(
 match y4 with
 | .inl y5=>(
 let r4:=y5.1.2.1
 match(bD none 1 1 1)with
 |none=>none
 |some y6=>(
 match y6 with
 | .inl y7=>(
 let r6:=y7.1.2.1;let k:Z01->Option (aj⊕ah):=λx1=>(
 let t:=x1.1.1;let k2:Z01->Option (aj⊕ah):=λx3=>(
 let t2:=x3.1.1;let k4:Z01->Option (aj⊕ah):=λx5=>(
 let t4:=x5.1.1;let k5:Z01->Option (aj⊕ah):=λx6=>(
 let t5:=x6.1.1;let k6:Z01->Option (aj⊕ah):=λx7=>(
 let t6:=x7.1.1
 bif t6 then(
 some (.inr (.inr ((false,()),()))))
 else(
 let t7:=(!(true==(r4 !=0)))
 bif t7 then(
 some (.inr (.inr ((false,()),()))))
 else(
 let t9:=(r6 !=1)
 bif t9 then(
 some (.inr (.inr ((false,()),()))))
 else(
 some (.inl ((small,(e,((i64.wrap (i+1)),()))),()))))))
 bif t5 then(
 k6 ((true,()),()))
 else(
 k6 (((!(true==(r2 !=0))),()),())))
 bif t4 then(
 k5 ((true,()),()))
 else(
 k5 (((!(true==(r !=0))),()),())))
 bif t2 then(
 k4 ((true,()),()))
 else(
 bif (decide (i>=1))then(
 let t3:=(decide (i<=4))
 k4 (((!((r4==0)==t3)),()),()))
 else(
 k4 (((!((r4==0)==false)),()),()))))
 bif (!((r==0)==t))then(
 k2 ((true,()),()))
 else(
 bif (i==1)then(
 k2 (((!((r2==0)==true)),()),()))
 else(
 let t1:=(i==2)
 k2 (((!((r2==0)==t1)),()),()))))
 bif (decide (i>=1))then(
 k (((decide (i<=7)),()),()))
 else(
 k ((false,()),())))
 | .inr y7=>(
 let k10:Z01->Option (aj⊕ah):=λx11=>(
 let t10:=x11.1.1;let k12:Z01->Option (aj⊕ah):=λx13=>(
 let t12:=x13.1.1;let k14:Z01->Option (aj⊕ah):=λx15=>(
 let t14:=x15.1.1;let k15:Z01->Option (aj⊕ah):=λx16=>(
 let t15:=x16.1.1;let k16:Z01->Option (aj⊕ah):=λx17=>(
 let t16:=x17.1.1
 bif t16 then(
 some (.inr (.inr ((false,()),()))))
 else(
 let t17:=(!(true==(r4 !=0)))
 bif t17 then(
 some (.inr (.inr ((false,()),()))))
 else(
 some (.inr (.inr ((false,()),()))))))
 bif t15 then(
 k16 ((true,()),()))
 else(
 k16 (((!(true==(r2 !=0))),()),())))
 bif t14 then(
 k15 ((true,()),()))
 else(
 k15 (((!(true==(r !=0))),()),())))
 bif t12 then(
 k14 ((true,()),()))
 else(
 bif (decide (i>=1))then(
 let t13:=(decide (i<=4))
 k14 (((!((r4==0)==t13)),()),()))
 else(
 k14 (((!((r4==0)==false)),()),()))))
 bif (!((r==0)==t10))then(
 k12 ((true,()),()))
 else(
 bif (i==1)then(
 k12 (((!((r2==0)==true)),()),()))
 else(
 let t11:=(i==2)
 k12 (((!((r2==0)==t11)),()),()))))
 bif (decide (i>=1))then(
 k10 (((decide (i<=7)),()),()))
 else(
 k10 ((false,()),())))))
 | .inr y5=>(
 let r5:=y5.1.2.1
 match(bD none 1 1 1)with
 |none=>none
 |some y8=>(
 match y8 with
 | .inl y9=>(
 let r8:=y9.1.2.1;let k19:Z01->Option (aj⊕ah):=λx20=>(
 let t18:=x20.1.1;let k21:Z01->Option (aj⊕ah):=λx22=>(
 let t20:=x22.1.1;let k23:Z01->Option (aj⊕ah):=λx24=>(
 let t22:=x24.1.1;let k24:Z01->Option (aj⊕ah):=λx25=>(
 let t23:=x25.1.1;let k25:Z01->Option (aj⊕ah):=λx26=>(
 let t24:=x26.1.1
 bif t24 then(
 some (.inr (.inr ((false,()),()))))
 else(
 let t25:=(!(false==(r5 !=0)))
 bif t25 then(
 some (.inr (.inr ((false,()),()))))
 else(
 let t27:=(r8 !=1)
 bif t27 then(
 some (.inr (.inr ((false,()),()))))
 else(
 some (.inl ((small,(e,((i64.wrap (i+1)),()))),()))))))
 bif t23 then(
 k25 ((true,()),()))
 else(
 k25 (((!(true==(r2 !=0))),()),())))
 bif t22 then(
 k24 ((true,()),()))
 else(
 k24 (((!(true==(r !=0))),()),())))
 bif t20 then(
 k23 ((true,()),()))
 else(
 bif (decide (i>=1))then(
 let t21:=(decide (i<=4))
 k23 (((!((r5==0)==t21)),()),()))
 else(
 k23 (((!((r5==0)==false)),()),()))))
 bif (!((r==0)==t18))then(
 k21 ((true,()),()))
 else(
 bif (i==1)then(
 k21 (((!((r2==0)==true)),()),()))
 else(
 let t19:=(i==2)
 k21 (((!((r2==0)==t19)),()),()))))
 bif (decide (i>=1))then(
 k19 (((decide (i<=7)),()),()))
 else(
 k19 ((false,()),())))
 | .inr y9=>(
 let k29:Z01->Option (aj⊕ah):=λx30=>(
 let t28:=x30.1.1;let k31:Z01->Option (aj⊕ah):=λx32=>(
 let t30:=x32.1.1;let k33:Z01->Option (aj⊕ah):=λx34=>(
 let t32:=x34.1.1;let k34:Z01->Option (aj⊕ah):=λx35=>(
 let t33:=x35.1.1;let k35:Z01->Option (aj⊕ah):=λx36=>(
 let t34:=x36.1.1
 bif t34 then(
 some (.inr (.inr ((false,()),()))))
 else(
 let t35:=(!(false==(r5 !=0)))
 bif t35 then(
 some (.inr (.inr ((false,()),()))))
 else(
 some (.inr (.inr ((false,()),()))))))
 bif t33 then(
 k35 ((true,()),()))
 else(
 k35 (((!(true==(r2 !=0))),()),())))
 bif t32 then(
 k34 ((true,()),()))
 else(
 k34 (((!(true==(r !=0))),()),())))
 bif t30 then(
 k33 ((true,()),()))
 else(
 bif (decide (i>=1))then(
 let t31:=(decide (i<=4))
 k33 (((!((r5==0)==t31)),()),()))
 else(
 k33 (((!((r5==0)==false)),()),()))))
 bif (!((r==0)==t28))then(
 k31 ((true,()),()))
 else(
 bif (i==1)then(
 k31 (((!((r2==0)==true)),()),()))
 else(
 let t29:=(i==2)
 k31 (((!((r2==0)==t29)),()),()))))
 bif (decide (i>=1))then(
 k29 (((decide (i<=7)),()),()))
 else(
 k29 ((false,()),())))))))
 | .inr y3=>(
 let r3:=y3.1.2.1
 match(bD (some small) 1 1 i)with
 |none=>none
 |some y10=>(
 match y10 with
 | .inl y11=>(
 let r10:=y11.1.2.1
 match(bD none 1 1 1)with
 |none=>none
 |some y12=>(
 match y12 with
 | .inl y13=>(
 let r12:=y13.1.2.1;let k38:Z01->Option (aj⊕ah):=λx39=>(
 let t36:=x39.1.1;let k40:Z01->Option (aj⊕ah):=λx41=>(
 let t38:=x41.1.1;let k42:Z01->Option (aj⊕ah):=λx43=>(
 let t40:=x43.1.1;let k43:Z01->Option (aj⊕ah):=λx44=>(
 let t41:=x44.1.1;let k44:Z01->Option (aj⊕ah):=λx45=>(
 let t42:=x45.1.1
 bif t42 then(
 some (.inr (.inr ((false,()),()))))
 else(
 let t43:=(!(true==(r10 !=0)))
 bif t43 then(
 some (.inr (.inr ((false,()),()))))
 else(
 let t45:=(r12 !=1)
 bif t45 then(
 some (.inr (.inr ((false,()),()))))
 else(
 some (.inl ((small,(e,((i64.wrap (i+1)),()))),()))))))
 bif t41 then(
 k44 ((true,()),()))
 else(
 k44 (((!(false==(r3 !=0))),()),())))
 bif t40 then(
 k43 ((true,()),()))
 else(
 k43 (((!(true==(r !=0))),()),())))
 bif t38 then(
 k42 ((true,()),()))
 else(
 bif (decide (i>=1))then(
 let t39:=(decide (i<=4))
 k42 (((!((r10==0)==t39)),()),()))
 else(
 k42 (((!((r10==0)==false)),()),()))))
 bif (!((r==0)==t36))then(
 k40 ((true,()),()))
 else(
 bif (i==1)then(
 k40 (((!((r3==0)==true)),()),()))
 else(
 let t37:=(i==2)
 k40 (((!((r3==0)==t37)),()),()))))
 bif (decide (i>=1))then(
 k38 (((decide (i<=7)),()),()))
 else(
 k38 ((false,()),())))
 | .inr y13=>(
 let k48:Z01->Option (aj⊕ah):=λx49=>(
 let t46:=x49.1.1;let k50:Z01->Option (aj⊕ah):=λx51=>(
 let t48:=x51.1.1;let k52:Z01->Option (aj⊕ah):=λx53=>(
 let t50:=x53.1.1;let k53:Z01->Option (aj⊕ah):=λx54=>(
 let t51:=x54.1.1;let k54:Z01->Option (aj⊕ah):=λx55=>(
 let t52:=x55.1.1
 bif t52 then(
 some (.inr (.inr ((false,()),()))))
 else(
 let t53:=(!(true==(r10 !=0)))
 bif t53 then(
 some (.inr (.inr ((false,()),()))))
 else(
 some (.inr (.inr ((false,()),()))))))
 bif t51 then(
 k54 ((true,()),()))
 else(
 k54 (((!(false==(r3 !=0))),()),())))
 bif t50 then(
 k53 ((true,()),()))
 else(
 k53 (((!(true==(r !=0))),()),())))
 bif t48 then(
 k52 ((true,()),()))
 else(
 bif (decide (i>=1))then(
 let t49:=(decide (i<=4))
 k52 (((!((r10==0)==t49)),()),()))
 else(
 k52 (((!((r10==0)==false)),()),()))))
 bif (!((r==0)==t46))then(
 k50 ((true,()),()))
 else(
 bif (i==1)then(
 k50 (((!((r3==0)==true)),()),()))
 else(
 let t47:=(i==2)
 k50 (((!((r3==0)==t47)),()),()))))
 bif (decide (i>=1))then(
 k48 (((decide (i<=7)),()),()))
 else(
 k48 ((false,()),())))))
 | .inr y11=>(
 let r11:=y11.1.2.1
 match(bD none 1 1 1)with
 |none=>none
 |some y14=>(
 match y14 with
 | .inl y15=>(
 let r14:=y15.1.2.1;let k57:Z01->Option (aj⊕ah):=λx58=>(
 let t54:=x58.1.1;let k59:Z01->Option (aj⊕ah):=λx60=>(
 let t56:=x60.1.1;let k61:Z01->Option (aj⊕ah):=λx62=>(
 let t58:=x62.1.1;let k62:Z01->Option (aj⊕ah):=λx63=>(
 let t59:=x63.1.1;let k63:Z01->Option (aj⊕ah):=λx64=>(
 let t60:=x64.1.1
 bif t60 then(
 some (.inr (.inr ((false,()),()))))
 else(
 let t61:=(!(false==(r11 !=0)))
 bif t61 then(
 some (.inr (.inr ((false,()),()))))
 else(
 let t63:=(r14 !=1)
 bif t63 then(
 some (.inr (.inr ((false,()),()))))
 else(
 some (.inl ((small,(e,((i64.wrap (i+1)),()))),()))))))
 bif t59 then(
 k63 ((true,()),()))
 else(
 k63 (((!(false==(r3 !=0))),()),())))
 bif t58 then(
 k62 ((true,()),()))
 else(
 k62 (((!(true==(r !=0))),()),())))
 bif t56 then(
 k61 ((true,()),()))
 else(
 bif (decide (i>=1))then(
 let t57:=(decide (i<=4))
 k61 (((!((r11==0)==t57)),()),()))
 else(
 k61 (((!((r11==0)==false)),()),()))))
 bif (!((r==0)==t54))then(
 k59 ((true,()),()))
 else(
 bif (i==1)then(
 k59 (((!((r3==0)==true)),()),()))
 else(
 let t55:=(i==2)
 k59 (((!((r3==0)==t55)),()),()))))
 bif (decide (i>=1))then(
 k57 (((decide (i<=7)),()),()))
 else(
 k57 ((false,()),())))
 | .inr y15=>(
 let k67:Z01->Option (aj⊕ah):=λx68=>(
 let t64:=x68.1.1;let k69:Z01->Option (aj⊕ah):=λx70=>(
 let t66:=x70.1.1;let k71:Z01->Option (aj⊕ah):=λx72=>(
 let t68:=x72.1.1;let k72:Z01->Option (aj⊕ah):=λx73=>(
 let t69:=x73.1.1;let k73:Z01->Option (aj⊕ah):=λx74=>(
 let t70:=x74.1.1
 bif t70 then(
 some (.inr (.inr ((false,()),()))))
 else(
 let t71:=(!(false==(r11 !=0)))
 bif t71 then(
 some (.inr (.inr ((false,()),()))))
 else(
 some (.inr (.inr ((false,()),()))))))
 bif t69 then(
 k73 ((true,()),()))
 else(
 k73 (((!(false==(r3 !=0))),()),())))
 bif t68 then(
 k72 ((true,()),()))
 else(
 k72 (((!(true==(r !=0))),()),())))
 bif t66 then(
 k71 ((true,()),()))
 else(
 bif (decide (i>=1))then(
 let t67:=(decide (i<=4))
 k71 (((!((r11==0)==t67)),()),()))
 else(
 k71 (((!((r11==0)==false)),()),()))))
 bif (!((r==0)==t64))then(
 k69 ((true,()),()))
 else(
 bif (i==1)then(
 k69 (((!((r3==0)==true)),()),()))
 else(
 let t65:=(i==2)
 k69 (((!((r3==0)==t65)),()),()))))
 bif (decide (i>=1))then(
 k67 (((decide (i<=7)),()),()))
 else(
 k67 ((false,()),())))))))))
 | .inr y1=>(
 let r1:=y1.1.2.1
 match(bD (some small) i 1 3)with
 |none=>none
 |some y16=>(
 match y16 with
 | .inl y17=>(
 let r16:=y17.1.2.1
 match(bD (some small) 1 1 i)with
 |none=>none
 |some y18=>(
 match y18 with
 | .inl y19=>(
 let r18:=y19.1.2.1
 match(bD none 1 1 1)with
 |none=>none
 |some y20=>(
 match y20 with
 | .inl y21=>(
 let r20:=y21.1.2.1;let k76:Z01->Option (aj⊕ah):=λx77=>(
 let t72:=x77.1.1;let k78:Z01->Option (aj⊕ah):=λx79=>(
 let t74:=x79.1.1;let k80:Z01->Option (aj⊕ah):=λx81=>(
 let t76:=x81.1.1;let k81:Z01->Option (aj⊕ah):=λx82=>(
 let t77:=x82.1.1;let k82:Z01->Option (aj⊕ah):=λx83=>(
 let t78:=x83.1.1
 bif t78 then(
 some (.inr (.inr ((false,()),()))))
 else(
 let t79:=(!(true==(r18 !=0)))
 bif t79 then(
 some (.inr (.inr ((false,()),()))))
 else(
 let t81:=(r20 !=1)
 bif t81 then(
 some (.inr (.inr ((false,()),()))))
 else(
 some (.inl ((small,(e,((i64.wrap (i+1)),()))),()))))))
 bif t77 then(
 k82 ((true,()),()))
 else(
 k82 (((!(true==(r16 !=0))),()),())))
 bif t76 then(
 k81 ((true,()),()))
 else(
 k81 (((!(false==(r1 !=0))),()),())))
 bif t74 then(
 k80 ((true,()),()))
 else(
 bif (decide (i>=1))then(
 let t75:=(decide (i<=4))
 k80 (((!((r18==0)==t75)),()),()))
 else(
 k80 (((!((r18==0)==false)),()),()))))
 bif (!((r1==0)==t72))then(
 k78 ((true,()),()))
 else(
 bif (i==1)then(
 k78 (((!((r16==0)==true)),()),()))
 else(
 let t73:=(i==2)
 k78 (((!((r16==0)==t73)),()),()))))
 bif (decide (i>=1))then(
 k76 (((decide (i<=7)),()),()))
 else(
 k76 ((false,()),())))
 | .inr y21=>(
 let k86:Z01->Option (aj⊕ah):=λx87=>(
 let t82:=x87.1.1;let k88:Z01->Option (aj⊕ah):=λx89=>(
 let t84:=x89.1.1;let k90:Z01->Option (aj⊕ah):=λx91=>(
 let t86:=x91.1.1;let k91:Z01->Option (aj⊕ah):=λx92=>(
 let t87:=x92.1.1;let k92:Z01->Option (aj⊕ah):=λx93=>(
 let t88:=x93.1.1
 bif t88 then(
 some (.inr (.inr ((false,()),()))))
 else(
 let t89:=(!(true==(r18 !=0)))
 bif t89 then(
 some (.inr (.inr ((false,()),()))))
 else(
 some (.inr (.inr ((false,()),()))))))
 bif t87 then(
 k92 ((true,()),()))
 else(
 k92 (((!(true==(r16 !=0))),()),())))
 bif t86 then(
 k91 ((true,()),()))
 else(
 k91 (((!(false==(r1 !=0))),()),())))
 bif t84 then(
 k90 ((true,()),()))
 else(
 bif (decide (i>=1))then(
 let t85:=(decide (i<=4))
 k90 (((!((r18==0)==t85)),()),()))
 else(
 k90 (((!((r18==0)==false)),()),()))))
 bif (!((r1==0)==t82))then(
 k88 ((true,()),()))
 else(
 bif (i==1)then(
 k88 (((!((r16==0)==true)),()),()))
 else(
 let t83:=(i==2)
 k88 (((!((r16==0)==t83)),()),()))))
 bif (decide (i>=1))then(
 k86 (((decide (i<=7)),()),()))
 else(
 k86 ((false,()),())))))
 | .inr y19=>(
 let r19:=y19.1.2.1
 match(bD none 1 1 1)with
 |none=>none
 |some y22=>(
 match y22 with
 | .inl y23=>(
 let r22:=y23.1.2.1;let k95:Z01->Option (aj⊕ah):=λx96=>(
 let t90:=x96.1.1;let k97:Z01->Option (aj⊕ah):=λx98=>(
 let t92:=x98.1.1;let k99:Z01->Option (aj⊕ah):=λx100=>(
 let t94:=x100.1.1;let k100:Z01->Option (aj⊕ah):=λx101=>(
 let t95:=x101.1.1;let k101:Z01->Option (aj⊕ah):=λx102=>(
 let t96:=x102.1.1
 bif t96 then(
 some (.inr (.inr ((false,()),()))))
 else(
 let t97:=(!(false==(r19 !=0)))
 bif t97 then(
 some (.inr (.inr ((false,()),()))))
 else(
 let t99:=(r22 !=1)
 bif t99 then(
 some (.inr (.inr ((false,()),()))))
 else(
 some (.inl ((small,(e,((i64.wrap (i+1)),()))),()))))))
 bif t95 then(
 k101 ((true,()),()))
 else(
 k101 (((!(true==(r16 !=0))),()),())))
 bif t94 then(
 k100 ((true,()),()))
 else(
 k100 (((!(false==(r1 !=0))),()),())))
 bif t92 then(
 k99 ((true,()),()))
 else(
 bif (decide (i>=1))then(
 let t93:=(decide (i<=4))
 k99 (((!((r19==0)==t93)),()),()))
 else(
 k99 (((!((r19==0)==false)),()),()))))
 bif (!((r1==0)==t90))then(
 k97 ((true,()),()))
 else(
 bif (i==1)then(
 k97 (((!((r16==0)==true)),()),()))
 else(
 let t91:=(i==2)
 k97 (((!((r16==0)==t91)),()),()))))
 bif (decide (i>=1))then(
 k95 (((decide (i<=7)),()),()))
 else(
 k95 ((false,()),())))
 | .inr y23=>(
 let k105:Z01->Option (aj⊕ah):=λx106=>(
 let t100:=x106.1.1;let k107:Z01->Option (aj⊕ah):=λx108=>(
 let t102:=x108.1.1;let k109:Z01->Option (aj⊕ah):=λx110=>(
 let t104:=x110.1.1;let k110:Z01->Option (aj⊕ah):=λx111=>(
 let t105:=x111.1.1;let k111:Z01->Option (aj⊕ah):=λx112=>(
 let t106:=x112.1.1
 bif t106 then(
 some (.inr (.inr ((false,()),()))))
 else(
 let t107:=(!(false==(r19 !=0)))
 bif t107 then(
 some (.inr (.inr ((false,()),()))))
 else(
 some (.inr (.inr ((false,()),()))))))
 bif t105 then(
 k111 ((true,()),()))
 else(
 k111 (((!(true==(r16 !=0))),()),())))
 bif t104 then(
 k110 ((true,()),()))
 else(
 k110 (((!(false==(r1 !=0))),()),())))
 bif t102 then(
 k109 ((true,()),()))
 else(
 bif (decide (i>=1))then(
 let t103:=(decide (i<=4))
 k109 (((!((r19==0)==t103)),()),()))
 else(
 k109 (((!((r19==0)==false)),()),()))))
 bif (!((r1==0)==t100))then(
 k107 ((true,()),()))
 else(
 bif (i==1)then(
 k107 (((!((r16==0)==true)),()),()))
 else(
 let t101:=(i==2)
 k107 (((!((r16==0)==t101)),()),()))))
 bif (decide (i>=1))then(
 k105 (((decide (i<=7)),()),()))
 else(
 k105 ((false,()),())))))))
 | .inr y17=>(
 let r17:=y17.1.2.1
 match(bD (some small) 1 1 i)with
 |none=>none
 |some y24=>(
 match y24 with
 | .inl y25=>(
 let r24:=y25.1.2.1
 match(bD none 1 1 1)with
 |none=>none
 |some y26=>(
 match y26 with
 | .inl y27=>(
 let r26:=y27.1.2.1;let k114:Z01->Option (aj⊕ah):=λx115=>(
 let t108:=x115.1.1;let k116:Z01->Option (aj⊕ah):=λx117=>(
 let t110:=x117.1.1;let k118:Z01->Option (aj⊕ah):=λx119=>(
 let t112:=x119.1.1;let k119:Z01->Option (aj⊕ah):=λx120=>(
 let t113:=x120.1.1;let k120:Z01->Option (aj⊕ah):=λx121=>(
 let t114:=x121.1.1
 bif t114 then(
 some (.inr (.inr ((false,()),()))))
 else(
 let t115:=(!(true==(r24 !=0)))
 bif t115 then(
 some (.inr (.inr ((false,()),()))))
 else(
 let t117:=(r26 !=1)
 bif t117 then(
 some (.inr (.inr ((false,()),()))))
 else(
 some (.inl ((small,(e,((i64.wrap (i+1)),()))),()))))))
 bif t113 then(
 k120 ((true,()),()))
 else(
 k120 (((!(false==(r17 !=0))),()),())))
 bif t112 then(
 k119 ((true,()),()))
 else(
 k119 (((!(false==(r1 !=0))),()),())))
 bif t110 then(
 k118 ((true,()),()))
 else(
 bif (decide (i>=1))then(
 let t111:=(decide (i<=4))
 k118 (((!((r24==0)==t111)),()),()))
 else(
 k118 (((!((r24==0)==false)),()),()))))
 bif (!((r1==0)==t108))then(
 k116 ((true,()),()))
 else(
 bif (i==1)then(
 k116 (((!((r17==0)==true)),()),()))
 else(
 let t109:=(i==2)
 k116 (((!((r17==0)==t109)),()),()))))
 bif (decide (i>=1))then(
 k114 (((decide (i<=7)),()),()))
 else(
 k114 ((false,()),())))
 | .inr y27=>(
 let k124:Z01->Option (aj⊕ah):=λx125=>(
 let t118:=x125.1.1;let k126:Z01->Option (aj⊕ah):=λx127=>(
 let t120:=x127.1.1;let k128:Z01->Option (aj⊕ah):=λx129=>(
 let t122:=x129.1.1;let k129:Z01->Option (aj⊕ah):=λx130=>(
 let t123:=x130.1.1;let k130:Z01->Option (aj⊕ah):=λx131=>(
 let t124:=x131.1.1
 bif t124 then(
 some (.inr (.inr ((false,()),()))))
 else(
 let t125:=(!(true==(r24 !=0)))
 bif t125 then(
 some (.inr (.inr ((false,()),()))))
 else(
 some (.inr (.inr ((false,()),()))))))
 bif t123 then(
 k130 ((true,()),()))
 else(
 k130 (((!(false==(r17 !=0))),()),())))
 bif t122 then(
 k129 ((true,()),()))
 else(
 k129 (((!(false==(r1 !=0))),()),())))
 bif t120 then(
 k128 ((true,()),()))
 else(
 bif (decide (i>=1))then(
 let t121:=(decide (i<=4))
 k128 (((!((r24==0)==t121)),()),()))
 else(
 k128 (((!((r24==0)==false)),()),()))))
 bif (!((r1==0)==t118))then(
 k126 ((true,()),()))
 else(
 bif (i==1)then(
 k126 (((!((r17==0)==true)),()),()))
 else(
 let t119:=(i==2)
 k126 (((!((r17==0)==t119)),()),()))))
 bif (decide (i>=1))then(
 k124 (((decide (i<=7)),()),()))
 else(
 k124 ((false,()),())))))
 | .inr y25=>(
 let r25:=y25.1.2.1
 match(bD none 1 1 1)with
 |none=>none
 |some y28=>(
 match y28 with
 | .inl y29=>(
 let r28:=y29.1.2.1;let k133:Z01->Option (aj⊕ah):=λx134=>(
 let t126:=x134.1.1;let k135:Z01->Option (aj⊕ah):=λx136=>(
 let t128:=x136.1.1;let k137:Z01->Option (aj⊕ah):=λx138=>(
 let t130:=x138.1.1;let k138:Z01->Option (aj⊕ah):=λx139=>(
 let t131:=x139.1.1;let k139:Z01->Option (aj⊕ah):=λx140=>(
 let t132:=x140.1.1
 bif t132 then(
 some (.inr (.inr ((false,()),()))))
 else(
 let t133:=(!(false==(r25 !=0)))
 bif t133 then(
 some (.inr (.inr ((false,()),()))))
 else(
 let t135:=(r28 !=1)
 bif t135 then(
 some (.inr (.inr ((false,()),()))))
 else(
 some (.inl ((small,(e,((i64.wrap (i+1)),()))),()))))))
 bif t131 then(
 k139 ((true,()),()))
 else(
 k139 (((!(false==(r17 !=0))),()),())))
 bif t130 then(
 k138 ((true,()),()))
 else(
 k138 (((!(false==(r1 !=0))),()),())))
 bif t128 then(
 k137 ((true,()),()))
 else(
 bif (decide (i>=1))then(
 let t129:=(decide (i<=4))
 k137 (((!((r25==0)==t129)),()),()))
 else(
 k137 (((!((r25==0)==false)),()),()))))
 bif (!((r1==0)==t126))then(
 k135 ((true,()),()))
 else(
 bif (i==1)then(
 k135 (((!((r17==0)==true)),()),()))
 else(
 let t127:=(i==2)
 k135 (((!((r17==0)==t127)),()),()))))
 bif (decide (i>=1))then(
 k133 (((decide (i<=7)),()),()))
 else(
 k133 ((false,()),())))
 | .inr y29=>(
 let k143:Z01->Option (aj⊕ah):=λx144=>(
 let t136:=x144.1.1;let k145:Z01->Option (aj⊕ah):=λx146=>(
 let t138:=x146.1.1;let k147:Z01->Option (aj⊕ah):=λx148=>(
 let t140:=x148.1.1;let k148:Z01->Option (aj⊕ah):=λx149=>(
 let t141:=x149.1.1;let k149:Z01->Option (aj⊕ah):=λx150=>(
 let t142:=x150.1.1
 bif t142 then(
 some (.inr (.inr ((false,()),()))))
 else(
 let t143:=(!(false==(r25 !=0)))
 bif t143 then(
 some (.inr (.inr ((false,()),()))))
 else(
 some (.inr (.inr ((false,()),()))))))
 bif t141 then(
 k149 ((true,()),()))
 else(
 k149 (((!(false==(r17 !=0))),()),())))
 bif t140 then(
 k148 ((true,()),()))
 else(
 k148 (((!(false==(r1 !=0))),()),())))
 bif t138 then(
 k147 ((true,()),()))
 else(
 bif (decide (i>=1))then(
 let t139:=(decide (i<=4))
 k147 (((!((r25==0)==t139)),()),()))
 else(
 k147 (((!((r25==0)==false)),()),()))))
 bif (!((r1==0)==t136))then(
 k145 ((true,()),()))
 else(
 bif (i==1)then(
 k145 (((!((r17==0)==true)),()),()))
 else(
 let t137:=(i==2)
 k145 (((!((r17==0)==t137)),()),()))))
 bif (decide (i>=1))then(
 k143 (((decide (i<=7)),()),()))
 else(
 k143 ((false,()),())))))))))))
 else(
 some (.inr (.inl ((e,()),()))))
def wS(which:Int)(nl:Nat)(l:Nat->(Int×Z0o)):Option (Unit):=
 match(qb which)with
 |none=>none
 |some y=>(
 let r:=y.1.2.1;let r1:=y.1.2.2.1;let r2:=y.1.2.2.2.1
 match(qb which)with
 |none=>none
 |some y1=>(
 let r5:=y1.1.2.2.2.1;let k1:Z01->Option (Unit):=λx1=>(
 let t1:=x1.1.1
 bif t1 then(
 bif r2 then(
 bif r5 then(
 match DL with
 |none=>none
 |some r6=>(
 bif r6 then(
 some ())
 else(
 none)))
 else(
 none))
 else(
 none))
 else(
 match(aD fM (((nl,l),((),(r,((),((),(0,())))))),(y.2.1,(y.2.2.1,(r1,y1.2)))))with
 |none=>none
 |some y2=>(
 match y2 with
 | .inl y3=>(
 match(iq none (ByteArray.mk #[107]))with
 |none=>none
 |some r7=>(
 match(ig none 5 (1,(1,((ByteArray.mk #[107]),((0,0),(ByteArray.empty,((0,(λ_=>.nil)),(0,(λ_=>(λ_=>0))))))))))with
 |none=>none
 |some r8=>(
 let k4:Z01->Option (Unit):=λx4=>(
 let t5:=x4.1.1;let k5:Z01->Option (Unit):=λx5=>(
 let t6:=x5.1.1;let k6:Z01->Option (Unit):=λx6=>(
 let t7:=x6.1.1
 bif t7 then(
 none)
 else(
 bif r7.2.2 then(
 none)
 else(
 match(iw none)with
 |none=>none
 |some r10=>(
 let t9:=(decide (((r10.1:Nat):Int)>0))
 bif t9 then(
 none)
 else(
 match(iq (some (.nil,(0,(0,(0,(0,(.nil,(none,.nil)))))))) (ByteArray.mk #[107]))with
 |none=>none
 |some r11=>(
 match(ig (some (.nil,(0,(0,(0,(0,(.nil,(none,.nil)))))))) 5 (1,(1,((ByteArray.mk #[107]),((0,0),(ByteArray.empty,((0,(λ_=>.nil)),(0,(λ_=>(λ_=>0))))))))))with
 |none=>none
 |some r12=>(
 let k9:Z01->Option (Unit):=λx9=>(
 let k10:Z01->Option (Unit):=λx10=>(
 let k11:Z01->Option (Unit):=λx11=>(
 bif x11.1.1 then(
 none)
 else(
 bif r11.2.2 then(
 none)
 else(
 match(iw (some (.nil,(0,(0,(0,(0,(.nil,(none,.nil)))))))))with
 |none=>none
 |some r14=>(
 let t14:=(decide (((r14.1:Nat):Int)>0))
 bif t14 then(
 none)
 else(
 match D9 with
 |none=>none
 |some r15=>(
 match(pI ((r15.1.1,r15.1.2),r15.2))with
 |none=>none
 |some r16=>(
 match r16.1 with
 |none=>(
 none)
 |some p=>(
 match(aD bB ((p,(r16.2,((-1),()))),()))with
 |none=>none
 |some y4=>(
 match y4 with
 | .inl y5=>(
 bif (y5.1.1==0)then(
 match DL with
 |none=>none
 |some r17=>(
 bif r17 then(
 some ())
 else(
 none)))
 else(
 none))
 | .inr y5=>(
 bif y5.1.1 then(
 some ())
 else(
 none)))))))))))
 bif x10.1.1 then(
 k11 ((true,()),()))
 else(
 k11 (((!(sEq r11.2.1 (ByteArray.mk #[]))),()),())))
 bif x9.1.1 then(
 k10 ((true,()),()))
 else(
 k10 (((!(eqF (.pair (.int .i64) (.int .i64)) r11.1 (0,0))),()),())))
 bif (decide (((r12.1:Nat):Int)>0))then(
 k9 ((true,()),()))
 else(
 match(iy (some (.nil,(0,(0,(0,(0,(.nil,(none,.nil)))))))))with
 |none=>none
 |some r13=>(
 k9 (((decide (((r13.1:Nat):Int)>0)),()),()))))))))))
 bif t6 then(
 k6 ((true,()),()))
 else(
 k6 (((!(sEq r7.2.1 (ByteArray.mk #[]))),()),())))
 bif t5 then(
 k5 ((true,()),()))
 else(
 k5 (((!(eqF (.pair (.int .i64) (.int .i64)) r7.1 (0,0))),()),())))
 bif (decide (((r8.1:Nat):Int)>0))then(
 k4 ((true,()),()))
 else(
 match(iy none)with
 |none=>none
 |some r9=>(
 k4 (((decide (((r9.1:Nat):Int)>0)),()),()))))))
 | .inr y3=>(
 let t4:=y3.1.1
 bif t4 then(
 some ())
 else(
 none)))))
 bif (!r2)then(
 k1 ((true,()),()))
 else(
 let t:=(!r5)
 bif t then(
 k1 ((true,()),()))
 else(
 k1 (((decide (((nl:Nat):Int)>24)),()),())))))
end
end Go.Pl
namespace Go.Proofs.YtldlihheppdhnaaGreat
noncomputable section
abbrev Jt:Shape:= { sl:=[(1,(.sz (.pair tI (.pair tI (.pair tI (.pair tI (.pair (.pair tI tI) (.pair tI tI)))))))),(5,(.c ⟨(.ptr tSV),(.rf 7 [])⟩)),(6,(.pz (.pair (.pair tI (.pair tI tI)) (.pair tI (.pair tI (.pair tI (.pair tI (.pair (.pair tI (.pair tI (.pair (.sl .str) (.sl tI)))) (.pair (.sl (.pair .str (.pair tG (.pair (.sl tV) (.pair (.sl tV) (.arr 4 (.pair (.arr 2 tG) (.pair tG (.pair tI tI))))))))) (.sl tOU)))))))))),(pc 7 (.pair tI (.pair tI tI)) 15),(9,(.c ⟨(.ptr tSV),(.rf 23 [])⟩)),(pv 13 tI)],ob:=[(3,(.p (.v tI) (.p (.v tI) (.p (.w 9 .str 32) (.m tI tI 33))))),(7,(.p (.pz tGR) (.p (.v tI) (.p (.v tI) (.p (.v tI) (.p (.v tI) (.p (.c ⟨(.ptr tSP),(.rf 3 [])⟩) (.p (.bg .str tRC 34 none) (.sz tOU))))))))),(pv 15 (.pair tI (.pair tI tI))),(19,(.p (.v tI) (.p (.v tI) (.p (.w 9 .str 35) (.m tI tI 36))))),(23,(.p (.pz tGR) (.p (.v tI) (.p (.v tI) (.p (.v tI) (.p (.v tI) (.p (.c ⟨(.ptr tSP),(.rf 19 [])⟩) (.p (.bg .str tRC 37 none) (.sz tOU)))))))))],lo:=32,nx:=38 }
abbrev Ju:List Ex:=[(.normal, { sl:=[],ob:=[],lo:=38,nx:=38 }),(.ret, { sl:=[(4,(.v .bool))],ob:=[],lo:=321,nx:=321 })]
def Jv:Code:=aY (aW Tryz.f6) 0
def qE:Lp:=dF Jt Ju 259 fM
abbrev Jw:Shape:= { sl:=[(20,(.pz tGR)),(pv 21 tI),(pv 22 tI)],ob:=[],lo:=42,nx:=42 }
abbrev Jy:List Ex:=[(.normal, { sl:=[(pv 21 tI)],ob:=[],lo:=42,nx:=42 }),(.ret, { sl:=[(4,(.v .bool))],ob:=[],lo:=78,nx:=78 })]
def Jz:Code:=aY (aW Tryz.f6) 4
def qF:Lp:=dF Jw Jy 259 bB
def uY:Cx:= { ti:=ti,con:=[(7,AB),(8,Rn),(12,CJ),(13,kM 0 aiA aiD),(9,aqa),(10,kM 0 as4 as7),(15,kM 0 aiG aiI),(18,kM 0 aiL aiN),(23,afk),(22,aeY),(24,ahW)],fns:=[],un:=6,frz:=[67] }
theorem yY:ay Tryz.prog uY:=ay.of mixed aC (fc ⟨DN,fc ⟨Xy,fc ⟨FM,fc ⟨dU a9T a9U,fc ⟨agB,fc ⟨dU aiS aiV,fc ⟨dU a9V a9W,fc ⟨dU a9X a9Y,fc ⟨a8z,fc ⟨a8o,fc ⟨a9G,fz⟩⟩⟩⟩⟩⟩⟩⟩⟩⟩⟩) fz
theorem JA:bY Tryz.prog 0 (.loop Jv) qE:=aM yY 8 (ak) _ _ _ _ (by decide) λ_=>by kernel_rfl
theorem JB:bY Tryz.prog 4 (.loop Jz) qF:=aM yY 8 (ak) _ _ _ _ (by decide) λ_=>by kernel_rfl
theorem a4x:eD Tryz.prog 6 Tryz.f6 [(0,qE),(4,qF)]:=⟨Tryz.func6,Tryz.call6,bG (by kernel_rfl) (aL JA (by kernel_rfl) (aL JB (by kernel_rfl) fz))⟩
theorem a5m(which)(nl)(l):cu uY [(0,qE),(4,qF)] (dX uY 8) Tryz.f6 (jv [tI,(.sl (.pair tI (.pair tI (.pair tI (.pair tI (.pair (.pair tI tI) (.pair tI tI)))))))] (which,(nl,l),())) [] 0 a7w=wS which nl l:=by kernel_rfl
end
end Go.Proofs.YtldlihheppdhnaaGreat
namespace Go.Pl
open Go Go.Den Go.Num
abbrev axc:Ty:=.pair (.int .i64) (.pair (.int .i64) (.pair (.int .i64) (.pair (.int .i64) (.pair (.pair (.int .i64) (.int .i64)) (.pair (.int .i64) (.int .i64))))))
theorem a6X {x:Int}(h:Go.Den.Good (.int .i64) x): -9223372036854775808<=x/\x<9223372036854775808:=by have h1:IntKind.min .i64<=x:=h.1;have h2:x<=IntKind.max .i64:=h.2;have e1:IntKind.min .i64= -9223372036854775808:=rfl;have e2:IntKind.max .i64=9223372036854775807:=rfl;omega
abbrev spT(h:Hd)(s:Sv):SP:=h.sp s.n s.ks s.u
abbrev snT(h:Hd)(s:Sv):SN:=h.sn (tL h.N s.l) s.o
def AJ(s:Sv)(o:fO):Sv:= { s with o:=o }
theorem abZ {h:Hd}(hh:h.Ok3){a:Wy}(hf: -9223372036854775808<=a.1/\a.1<9223372036854775808){s:Sv}{j:Nat}(g:Good h s j)(hj:j<1000)(o2:fO):
  ∃op st dg nm m ny y out s' o',iE ((h.P:Int),((h.Q:Int),(h.G:Int))) (h.T:Int) (h.I:Int) a=some (FY a.2.1 op (Q7 a.2.2.2.1) st dg nm m ny y)/\
   bn a.1 a.2.1 op (Q7 a.2.2.2.1) st dg nm m ny y (h.mk' s)=some ((out,()),h.mk' s')/\bn a.1 a.2.1 op (Q7 a.2.2.2.1) st dg nm m ny y (h.mk' (AJ s o2))=some ((out,()),h.mk' (AJ s' o'))/\Good h s' (j+1)/\Iq (h.fr kK) out/\out.1<9223372036854775808:=by
 have hT:=hh.T;have hN:=hh.N;obtain⟨op,st,dg,nm,m,ny,y,M,L,q1,q2,q3,q4⟩:=EP (P:=h.P) (Q:=h.Q) (G:=h.G) hh.p1 hh.p62 hh.q512 hh.q31 (t:=h.T) (I:=h.I) (by omega) (by have:=hh.I;omega) a;have hin:=a0f hh q2 q3 q4;have hS:=DR hh.toOk hf (k:=a.2.1) (op:=op) (key:=Q7 a.2.2.2.1) (st:=st) (dg:=dg) hin g hj;have hS2:=DR hh.toOk hf (k:=a.2.1) (op:=op) (key:=Q7 a.2.2.2.1) (st:=st) (dg:=dg) hin (g.out o2) hj;by_cases c:ER h a.1 a.2.1 op (Q7 a.2.2.2.1) st dg M L s
 ·rw[axp c]at hS;rw[axp (show ER h a.1 a.2.1 op (Q7 a.2.2.2.1) st dg M L { s with o:=o2 } from c)]at hS2;have hg:=Q9 hh.toOk hin g c;refine⟨op,st,dg,nm,m,ny,y,_,_,_,q1,hS,hS2,hg.1,Sg λx hx=>⟨Q7 a.2.2.2.1,hg.2 x hx⟩,?_⟩;rw[SE];exact axB (a6W hh.toOk _ _ _ _ _ _ _ _) (by decide)
 ·rw[axi c]at hS;rw[axi (show¬ER h a.1 a.2.1 op (Q7 a.2.2.2.1) st dg M L { s with o:=o2 } from c)]at hS2;exact⟨op,st,dg,nm,m,ny,y,_,_,_,q1,hS,hS2,g.mono,a6R _,by decide⟩
theorem Yx(h:Hd)(s:Sv)(o:fO): ∀n,vF h { s with o:=o } n=vF h s n
 |0=>rfl
 |n+1=>by rw[vF,vF,Yx h s o n]
theorem a6Y(h:Hd)(s:Sv)(o:fO):Yp h { s with o:=o } =Yp h s:=Yx h s o s.n
theorem a4y {h:Hd}(hh:h.Ok3){nl:Nat}(hn:nl<=24){l:Nat->Wy}(hl: ∀i,i<nl-> -9223372036854775808<=(l i).1/\(l i).1<9223372036854775808):
  aD fM (iR nl l (a0e h) 0 (spT h zS,(snT h zS,(((h.P:Int),((h.Q:Int),(h.G:Int))),(spT h zS,(snT h zS,()))))))=some (nE ()):=by
 obtain⟨s,h1,h2⟩:=aP (R:=fM) (S:=Sv×fO)
  (λi s=>iR nl l (a0e h) (i:Int) (spT h s.1,(snT h s.1,(((h.P:Int),((h.Q:Int),(h.G:Int))),(spT h (AJ s.1 s.2),(snT h (AJ s.1 s.2),()))))))
  (λ_=>nE ()) (λi s=>Good h s.1 i) nl
  (λi hi s g=>by
   obtain⟨op,st,dg,nm,mm,ny,y,out,s',o',q1,q2,q2b,q3,q4,q5⟩:=abZ hh (hl i hi) g (by omega) s.2;have hsame:=Yu q4 q5;obtain⟨ou,t1,t2,t3,t4⟩:=a2t hh q3 (by omega);obtain⟨ou2,u1,u2,u3,u4⟩:=a2t hh (q3.out ou) (by omega);have e:ou2=ou:=by rw[u4,t4,a6Y]
   subst e;have hsame2:=Yu t2 t3;have q2':bn (l i).1 (l i).2.1 op (Q7 (l i).2.2.2.1) st dg nm mm ny y (snT h s.1,(spT h s.1,()))=some ((out,()),(snT h s',(spT h s',()))):=q2;have q2b':bn (l i).1 (l i).2.1 op (Q7 (l i).2.2.2.1) st dg nm mm ny y (snT h (AJ s.1 s.2),(spT h (AJ s.1 s.2),()))=some ((out,()),(snT h (AJ s' o'),(spT h (AJ s' o'),()))):=q2b;have t1':dn (snT h s',(spT h s',()))=some ((ou2,()),(snT h (AJ s' ou2),(spT h (AJ s' ou2),()))):=t1;have u1':dn (snT h (AJ s' ou2),(spT h (AJ s' ou2),()))=some ((ou2,()),(snT h (AJ s' ou2),(spT h (AJ s' ou2),()))):=u1;refine⟨(AJ s' ou2,o'),?_,q3.out ou2⟩;simp(disch:=omega) only[fM,iR,WW,CC,axE,q1,q2',q2b',hsame,t1',u1',hsame2,bO,bM,aym]
   try rfl)
  (λs _=>by simp(disch:=omega) only[fM,iR,WW,CC]) (zS,zNO) (a0g h)
 exact h1
def a2u(t n c:Int):Prop:=(1<=t/\t<=2)/\(1<=n/\n<=3*t+1)/\1<=c/\c<=4
theorem ac0 {g:iY}{P Q G:Nat}(hg:cO g P Q G){t n c:Int}(h:a2u t n c): ∃o,bD (some g) t n c=some (.inr (((),(0,())),o)):=by
 obtain⟨fr,f1,_⟩:=lu hg;obtain⟨h1,h2,h3⟩:=h;have w2:IntKind.i64.wrap (IntKind.i64.wrap (3*t)+1)=3*t+1:=by rw[wrap_i64 (x:=3*t) (by omega),wrap_i64 (by omega)]
 have e:bD (some g) t n c=some (kX 0 (3*t+1) c 0 (λ_=>ByteArray.empty) [] g t n (3*t+1) c [] 0 (λi=>(zNO:fO).2 i)):=by rw[mF];unfold jY;simp only[f1,w2,bF (show¬t<1 by omega),bF (show¬t>2 by omega),bF (show¬n<1 by omega),bF (show¬n>3*t+1 by omega),bO,a2p (a:=3*t+1) (b:=c) (by omega),ayJ,yG,kX]
 exact⟨_,e⟩
theorem ajl {g:iY}{P Q G:Nat}(hg:cO g P Q G){t n c:Int}(h: ¬a2u t n c):bD (some g) t n c=some (.inl (((),(1,())),())):=by
 obtain⟨fr,f1,_⟩:=lu hg;rw[mF];unfold jY;simp only[f1];by_cases h1:t<1
 ·simp only[dJ h1,bM]
 by_cases h2:t>2
 ·simp only[bF h1,dJ h2,bM,bO]
 have w2:IntKind.i64.wrap (IntKind.i64.wrap (3*t)+1)=3*t+1:=by rw[wrap_i64 (x:=3*t) (by omega),wrap_i64 (by omega)]
 by_cases h3:n<1
 ·simp only[bF h1,bF h2,dJ h3,bM,bO]
 by_cases h4:n>3*t+1
 ·simp only[w2,bF h1,bF h2,bF h3,dJ h4,bM,bO]
 have hb: ¬(1<=3*t+1/\3*t+1<=7/\1<=c/\c<=4):=λhh=>h ⟨by omega,by omega,by omega⟩
 simp only[w2,bF h1,bF h2,bF h3,bF h4,bO,a6T hb,FB];rfl
theorem rz:bD none 1 1 1=some (.inl (((),(1,())),())):=by
 have f1:bZ none=some none:=by rw[jF];rfl
 rw[mF];unfold jY;simp only[f1]
theorem a4z {g:iY}{P Q G:Nat}(hg:cO g P Q G)(e i:Int)(hi: -1<=i/\i<=8):bB (bA g e i ())=some (.inl (bA g e (i+1) ())):=by
 have hv:i= -1\/i=0\/i=1\/i=2\/i=3\/i=4\/i=5\/i=6\/i=7\/i=8:=by omega
 have yes: ∀t n c,a2u t n c-> ∃o,bD (some g) t n c=some (.inr (((),(0,())),o)):=λt n c=>ac0 hg
 have no: ∀t n c,¬a2u t n c->bD (some g) t n c=some (.inl (((),(1,())),())):=λt n c=>ajl hg
 unfold a2u at yes no;rcases hv with rfl|rfl|rfl|rfl|rfl|rfl|rfl|rfl|rfl|rfl
 ·simp only[bB,bA,no 2 (-1) 3 (by decide),no (-1) 1 3 (by decide),no 1 1 (-1) (by decide),rz];rfl
 ·simp only[bB,bA,no 2 0 3 (by decide),no 0 1 3 (by decide),no 1 1 0 (by decide),rz];rfl
 ·obtain⟨o1,e1⟩:=yes 2 1 3 (by decide);obtain⟨o2,e2⟩:=yes 1 1 3 (by decide);obtain⟨o3,e3⟩:=yes 1 1 1 (by decide);simp only[bB,bA,e1,e2,e3,rz];rfl
 ·obtain⟨o1,e1⟩:=yes 2 2 3 (by decide);obtain⟨o2,e2⟩:=yes 2 1 3 (by decide);obtain⟨o3,e3⟩:=yes 1 1 2 (by decide);simp only[bB,bA,e1,e2,e3,rz];rfl
 ·obtain⟨o1,e1⟩:=yes 2 3 3 (by decide);obtain⟨o3,e3⟩:=yes 1 1 3 (by decide);simp only[bB,bA,e1,no 3 1 3 (by decide),e3,rz];rfl
 ·obtain⟨o1,e1⟩:=yes 2 4 3 (by decide);obtain⟨o3,e3⟩:=yes 1 1 4 (by decide);simp only[bB,bA,e1,no 4 1 3 (by decide),e3,rz];rfl
 ·obtain⟨o1,e1⟩:=yes 2 5 3 (by decide);simp only[bB,bA,e1,no 5 1 3 (by decide),no 1 1 5 (by decide),rz];rfl
 ·obtain⟨o1,e1⟩:=yes 2 6 3 (by decide);simp only[bB,bA,e1,no 6 1 3 (by decide),no 1 1 6 (by decide),rz];rfl
 ·obtain⟨o1,e1⟩:=yes 2 7 3 (by decide);simp only[bB,bA,e1,no 7 1 3 (by decide),no 1 1 7 (by decide),rz];rfl
 ·simp only[bB,bA,no 2 8 3 (by decide),no 8 1 3 (by decide),no 1 1 8 (by decide),rz];rfl
theorem a6Z {g:iY}{P Q G:Nat}(hg:cO g P Q G)(e:Int):aD bB (bA g e (-1) ())=some (nG e ()):=by
 obtain⟨_,y1,_⟩:=aP (R:=bB) (S:=Unit) (λk _=>bA g e ((k:Int)-1) ()) (λ_=>nG e ()) (λ_ _=>True) 10
  (λk hk _ _=>⟨(),by
   have:=a4z hg e ((k:Int)-1) (by omega);rw[this,show(k:Int)-1+1=((k+1:Nat):Int)-1 by omega],trivial⟩)
  (λ_ _=>by rfl) () trivial
 exact y1
theorem a2v {which:Int}{nl:Nat}{l:Nat->Wy}(hw:Go.Den.Good (.int .i64) which)(hl:Go.Den.Good (.sl axc) (.fz nl l)):wS which nl l=some ():=by
 obtain⟨h,hh,_,hW⟩:=WA which;obtain⟨g,hg⟩:=Vu;have a1: ∀key,iq none key=some ((0,0),(ByteArray.mk #[]),false):=λkey=>by rw[ni];rfl
 have a2: ∀f m,ig none f m=some zNO:=λf m=>by rw[mZ];rfl
 have a3:iy none=some zNO:=by rw[nA];rfl
 have a4:iw none=some (0,(λ_=>ByteArray.empty)):=by rw[nu];rfl
 have b1: ∀key,iq (some (.nil,(0,(0,(0,(0,(.nil,(none,.nil)))))))) key=some ((0,0),(ByteArray.mk #[]),false):=λkey=>by rw[ni];rfl
 have b2: ∀f m,ig (some (.nil,(0,(0,(0,(0,(.nil,(none,.nil)))))))) f m=some zNO:=λf m=>by rw[mZ];rfl
 have b3:iy (some (.nil,(0,(0,(0,(0,(.nil,(none,.nil))))))))=some zNO:=by rw[nA];rfl
 have b4:iw (some (.nil,(0,(0,(0,(0,(.nil,(none,.nil))))))))=some (0,(λ_=>ByteArray.empty)):=by
  have k4:kV none=some (0,(λ_=>ByteArray.empty)):=by rw[yT];rfl
  rw[nu];unfold kH;simp only[k4];rfl
 have z0:decide ((((zNO:fO).1:Nat):Int)>0)=false:=rfl;have z1:decide (((0:Nat):Int)>0)=false:=rfl;have z2:eqF (.pair (.int .i64) (.int .i64)) ((0,0):aH) (0,0)=true:=Yg _;have z3:sEq (ByteArray.mk #[]) (ByteArray.mk #[])=true:=(uT _ _).2 rfl;unfold wS;simp only[hW,aym,bM,bO];by_cases hn:(nl:Int)>24
 ·simp only[dJ hn,bM,Ir]
 ·have hL:=a4y hh (nl:=nl) (by omega) (l:=l) (λi hi=>a6X (hl.2 i hi).1);have hN:=a6Z hg.group 0;simp only[iR,spT,snT,zS,tL,azu]at hL;simp only[bA]at hN;simp only[bF hn,bO,hL,nE,a1,a2,a3,a4,b1,b2,b3,b4,z0,z1,z2,z3,aym,bM,KA,hg.made,hN,nG,Ir,ayA]
end Go.Pl
