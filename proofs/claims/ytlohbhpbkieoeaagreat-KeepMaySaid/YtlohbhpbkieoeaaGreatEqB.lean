/-
  The functions of more packages are the plain ones.
-/
import Derived.Test.YtlohbhpbkieoeaaGreatEqA
import Derived.Test.YtlohbhpbkieoeaaGreatDenF
import Derived.Test.YtlohbhpbkieoeaaGreatPlB
import Derived.Test.YtlohbhpbkieoeaaGreatDenM
import Derived.Test.YtlohbhpbkieoeaaGreatLib
set_option linter.unusedVariables false
set_option linter.unusedSimpArgs false
set_option maxRecDepth 100000
set_option maxHeartbeats 0
namespace Go.Pl
end Go.Pl
open Go Go.Den Go.Pl
namespace Go.Proofs.YtlohbhpbkieoeaaGreat
noncomputable section
def ant:Con:=aO true [] [(.arr 8 (.int .u32))] λx=>CS
def auD:Cx:=cx [] []
theorem afY:av Tryz.prog auD:=av.of mixed aD fz fz
theorem afZ:aA Tryz.prog 138 ant:=aB afY 8 ⟨Tryz.func138,Tryz.call138,ah⟩ _ _ _ _ (by decide) (λx=>by rw[DY];kernel_rfl)
abbrev auE:Shape:= { sl:=[],ob:=[],lo:=0,nx:=0 }
abbrev auF:List Shape:=[{ sl:=[(pc 0 (.pair .bool (.pair (.arr 8 (.int .u32)) (.pair (.arr 64 (.int .u8)) tI))) 0)],ob:=[(pv 0 (.pair .bool (.pair (.arr 8 (.int .u32)) (.pair (.arr 64 (.int .u8)) tI))))],lo:=1,nx:=1 }]
def anu:Con:=nV auE auF λx=>Pf
def auG:Cx:=cx [(138,ant)] []
theorem ag0:av Tryz.prog auG:=av.of mixed aD (fc ⟨afZ,fz⟩) fz
theorem ag1:aA Tryz.prog 98 anu:=jB ag0 8 ⟨Tryz.func98,Tryz.call98,ah⟩ 1 _ _ _ (by decide) (λx=>by rw[Nl];kernel_rfl)
def anv:Con:=aO true [] [(.arr 64 (.int .u32))] λx=>qI
def auH:Cx:=cx [] []
theorem ag2:av Tryz.prog auH:=av.of mixed aD fz fz
theorem ag3:aA Tryz.prog 162 anv:=aB ag2 8 ⟨Tryz.func162,Tryz.call162,ah⟩ _ _ _ _ (by decide) (λx=>by rw[vC];kernel_rfl)
def ag4:Con:=aO true [(.int .u32),tI] [(.int .u32)] λx=>eY x.1 x.2.1
def auI:Cx:=cx [(180,akz)] []
theorem ag5:av Tryz.prog auI:=av.of mixed aD (fc ⟨adR,fz⟩) fz
theorem a7S:aA Tryz.prog 164 ag4:=aB ag5 8 ⟨Tryz.func164,Tryz.call164,ah⟩ _ _ _ _ (by decide) (λx=>by rw[JW];kernel_rfl)
abbrev anw:Shape:= { sl:=[(pc 1 (.arr 64 (.int .u8)) 0),(pc 2 (.arr 64 (.int .u32)) 1),(pc 3 (.arr 64 (.int .u32)) 2),(pv 10 tI)],ob:=[(pv 0 (.arr 64 (.int .u8))),(pv 1 (.arr 64 (.int .u32))),(pv 2 (.arr 64 (.int .u32)))],lo:=3,nx:=3 }
abbrev anx:List Ex:=[(.normal, { sl:=[(pc 2 (.arr 64 (.int .u32)) 1),(pc 3 (.arr 64 (.int .u32)) 2)],ob:=[(pv 1 (.arr 64 (.int .u32))),(pv 2 (.arr 64 (.int .u32)))],lo:=3,nx:=3 })]
def anz:Code:=aK (aI Tryz.f163) 0
def acd:Lp:=bF anw anx 89 gD
abbrev anA:Shape:= { sl:=[(pc 2 (.arr 64 (.int .u32)) 1),(pc 3 (.arr 64 (.int .u32)) 2),(pv 5 tI)],ob:=[(pv 1 (.arr 64 (.int .u32))),(pv 2 (.arr 64 (.int .u32)))],lo:=3,nx:=3 }
abbrev anB:List Ex:=[(.normal, { sl:=[(pc 2 (.arr 64 (.int .u32)) 1),(pc 3 (.arr 64 (.int .u32)) 2)],ob:=[(pv 1 (.arr 64 (.int .u32))),(pv 2 (.arr 64 (.int .u32)))],lo:=3,nx:=3 })]
def anC:Code:=aK (aI Tryz.f163) 2
def ace:Lp:=bF anA anB 89 gG
def anD:Con:=aO true [(.arr 64 (.int .u8))] [(.arr 64 (.int .u32))] λx=>yM x.1
def auJ:Cx:=cx [(164,ag4)] []
theorem a2Z:av Tryz.prog auJ:=av.of mixed aD (fc ⟨a7S,fz⟩) fz
theorem anE:aX Tryz.prog 0 (.loop anz) acd:=aF a2Z 8 (ah) _ _ _ _ (by decide) λ_=>by kernel_rfl
theorem anF:aX Tryz.prog 2 (.loop anC) ace:=aF a2Z 8 (ah) _ _ _ _ (by decide) λ_=>by kernel_rfl
theorem anG:dU Tryz.prog 163 Tryz.f163 [(0,acd),(2,ace)]:=⟨Tryz.func163,Tryz.call163,aR (by kernel_rfl) (aC anE (by kernel_rfl) (aC anF (by kernel_rfl) fz))⟩
theorem ag6:aA Tryz.prog 163 anD:=aB a2Z 8 anG _ _ _ _ (by decide) (λx=>by rw[ER];kernel_rfl)
abbrev anH:Shape:= { sl:=[(pc 2 (.arr 8 (.int .u32)) 0),(pc 4 (.arr 8 (.int .u32)) 2),(pc 5 (.arr 64 (.int .u32)) 3),(pc 6 (.arr 64 (.int .u32)) 4),(pc 7 (.arr 8 (.int .u32)) 5),(pv 18 tI)],ob:=[(pv 0 (.arr 8 (.int .u32))),(pv 2 (.arr 8 (.int .u32))),(pv 3 (.arr 64 (.int .u32))),(pv 4 (.arr 64 (.int .u32))),(pv 5 (.arr 8 (.int .u32)))],lo:=6,nx:=6 }
abbrev anI:List Ex:=[(.normal, { sl:=[(pc 2 (.arr 8 (.int .u32)) 0),(pc 4 (.arr 8 (.int .u32)) 2),(pc 7 (.arr 8 (.int .u32)) 5)],ob:=[(pv 0 (.arr 8 (.int .u32))),(pv 2 (.arr 8 (.int .u32))),(pv 5 (.arr 8 (.int .u32)))],lo:=6,nx:=6 })]
def anJ:Code:=aK (aI Tryz.f139) 0
def acf:Lp:=bF anH anI 109 ku
abbrev anK:Shape:= { sl:=[(pc 2 (.arr 8 (.int .u32)) 0),(pc 4 (.arr 8 (.int .u32)) 2),(pc 7 (.arr 8 (.int .u32)) 5),(pv 96 tI)],ob:=[(pv 0 (.arr 8 (.int .u32))),(pv 2 (.arr 8 (.int .u32))),(pv 5 (.arr 8 (.int .u32)))],lo:=6,nx:=6 }
abbrev anL:List Ex:=[(.normal, { sl:=[(pc 4 (.arr 8 (.int .u32)) 2),(pc 7 (.arr 8 (.int .u32)) 5)],ob:=[(pv 2 (.arr 8 (.int .u32))),(pv 5 (.arr 8 (.int .u32)))],lo:=6,nx:=6 })]
def anM:Code:=aK (aI Tryz.f139) 2
def acg:Lp:=bF anK anL 109 mX
def anN:Con:=aO true [(.arr 8 (.int .u32)),(.arr 64 (.int .u8))] [(.arr 8 (.int .u32))] λx=>CW x.1 x.2.1
def auK:Cx:=cx [(162,anv),(163,anD),(164,ag4)] []
theorem a3a:av Tryz.prog auK:=av.of mixed aD (fc ⟨ag3,fc ⟨ag6,fc ⟨a7S,fz⟩⟩⟩) fz
theorem anO:aX Tryz.prog 0 (.loop anJ) acf:=aF a3a 8 (ah) _ _ _ _ (by decide) λ_=>by kernel_rfl
theorem anP:aX Tryz.prog 2 (.loop anM) acg:=aF a3a 8 (ah) _ _ _ _ (by decide) λ_=>by kernel_rfl
theorem anQ:dU Tryz.prog 139 Tryz.f139 [(0,acf),(2,acg)]:=⟨Tryz.func139,Tryz.call139,aR (by kernel_rfl) (aC anO (by kernel_rfl) (aC anP (by kernel_rfl) fz))⟩
theorem ag7:aA Tryz.prog 139 anN:=aB a3a 8 anQ _ _ _ _ (by decide) (λx=>by rw[Nn];kernel_rfl)
abbrev anR:Shape:= { sl:=[(pc 0 (.pair .bool (.pair (.arr 8 (.int .u32)) (.pair (.arr 64 (.int .u8)) tI))) 0),(1,(.v .str))],ob:=[(pv 0 (.pair .bool (.pair (.arr 8 (.int .u32)) (.pair (.arr 64 (.int .u8)) tI))))],lo:=1,nx:=1 }
abbrev anS:List Ex:=[(.normal, { sl:=[(pc 0 (.pair .bool (.pair (.arr 8 (.int .u32)) (.pair (.arr 64 (.int .u8)) tI))) 0)],ob:=[(pv 0 (.pair .bool (.pair (.arr 8 (.int .u32)) (.pair (.arr 64 (.int .u8)) tI))))],lo:=1,nx:=1 })]
def anT:Code:=aK (aI Tryz.f99) 0
def ach:Lp:=bF anR anS 56 dx
abbrev auL:Shape:= { sl:=[(pc 0 (.pair .bool (.pair (.arr 8 (.int .u32)) (.pair (.arr 64 (.int .u8)) tI))) 0),(1,(.v .str))],ob:=[(pv 0 (.pair .bool (.pair (.arr 8 (.int .u32)) (.pair (.arr 64 (.int .u8)) tI))))],lo:=1,nx:=1 }
abbrev auM:List Shape:=[{ sl:=[],ob:=[(pv 0 (.pair .bool (.pair (.arr 8 (.int .u32)) (.pair (.arr 64 (.int .u8)) tI))))],lo:=1,nx:=1 }]
def ag8:Con:=nV auL auM λx=>jq x.1.2.1 x.2.1
def auN:Cx:=cx [(139,anN)] []
theorem a7T:av Tryz.prog auN:=av.of mixed aD (fc ⟨ag7,fz⟩) fz
theorem anU:aX Tryz.prog 0 (.loop anT) ach:=aF a7T 8 (ah) _ _ _ _ (by decide) λ_=>by kernel_rfl
theorem anV:dU Tryz.prog 99 Tryz.f99 [(0,ach)]:=⟨Tryz.func99,Tryz.call99,aR (by kernel_rfl) (aC anU (by kernel_rfl) fz)⟩
theorem a7U:aA Tryz.prog 99 ag8:=jB a7T 8 anV 0 _ _ _ (by decide) (λx=>by rw[AR];kernel_rfl)
abbrev anW:Shape:= { sl:=[(0,(.pz (.pair .bool (.pair (.arr 8 (.int .u32)) (.pair (.arr 64 (.int .u8)) tI))))),(pc 3 (.pair .bool (.pair (.arr 8 (.int .u32)) (.pair (.arr 64 (.int .u8)) tI))) 0)],ob:=[(pv 0 (.pair .bool (.pair (.arr 8 (.int .u32)) (.pair (.arr 64 (.int .u8)) tI))))],lo:=1,nx:=1 }
abbrev anX:List Ex:=[(.normal, { sl:=[(0,(.pz (.pair .bool (.pair (.arr 8 (.int .u32)) (.pair (.arr 64 (.int .u8)) tI))))),(pc 3 (.pair .bool (.pair (.arr 8 (.int .u32)) (.pair (.arr 64 (.int .u8)) tI))) 0)],ob:=[(pv 0 (.pair .bool (.pair (.arr 8 (.int .u32)) (.pair (.arr 64 (.int .u8)) tI))))],lo:=1,nx:=1 })]
def anY:Code:=aK (aI Tryz.f100) 0
def a7V:Lp:=bF anW anX 69 jg
abbrev anZ:Shape:= { sl:=[(0,(.pz (.pair .bool (.pair (.arr 8 (.int .u32)) (.pair (.arr 64 (.int .u8)) tI))))),(pc 3 (.pair .bool (.pair (.arr 8 (.int .u32)) (.pair (.arr 64 (.int .u8)) tI))) 0),(pc 4 (.arr 8 (.int .u8)) 1),(pv 27 tI)],ob:=[(pv 0 (.pair .bool (.pair (.arr 8 (.int .u32)) (.pair (.arr 64 (.int .u8)) tI)))),(pv 1 (.arr 8 (.int .u8)))],lo:=2,nx:=2 }
abbrev ao0:List Ex:=[(.normal, { sl:=[(pc 3 (.pair .bool (.pair (.arr 8 (.int .u32)) (.pair (.arr 64 (.int .u8)) tI))) 0),(pc 4 (.arr 8 (.int .u8)) 1)],ob:=[(pv 0 (.pair .bool (.pair (.arr 8 (.int .u32)) (.pair (.arr 64 (.int .u8)) tI)))),(pv 1 (.arr 8 (.int .u8)))],lo:=2,nx:=2 })]
def ao1:Code:=aK (aI Tryz.f100) 2
def a7W:Lp:=bF anZ ao0 69 jh
abbrev ao2:Shape:= { sl:=[(6,(.w 5 (.int .u8) 3)),(pv 48 (.arr 8 (.int .u32))),(pv 49 tI)],ob:=[],lo:=3,nx:=4 }
abbrev ao3:List Ex:=[(.normal, { sl:=[(6,(.w 5 (.int .u8) 4))],ob:=[],lo:=4,nx:=5 })]
def ao4:Code:=aK (aI Tryz.f100) 4
def a7X:Lp:=bF ao2 ao3 69 ji
def ao5:Con:=aO true [(.ptr (.pair .bool (.pair (.arr 8 (.int .u32)) (.pair (.arr 64 (.int .u8)) tI))))] [.str] λx=>yN x.1
def ag9:Cx:=cx [(99,ag8)] []
theorem Za:av Tryz.prog ag9:=av.of mixed aD (fc ⟨a7U,fz⟩) fz
theorem ao6:aX Tryz.prog 0 (.loop anY) a7V:=aF Za 8 (ah) _ _ _ _ (by decide) λ_=>by kernel_rfl
theorem ao7:aX Tryz.prog 2 (.loop ao1) a7W:=aF Za 8 (ah) _ _ _ _ (by decide) λ_=>by kernel_rfl
theorem ao8:aX Tryz.prog 4 (.loop ao4) a7X:=aF Za 8 (ah) _ _ _ _ (by decide) λ_=>by kernel_rfl
theorem ao9:dU Tryz.prog 100 Tryz.f100 [(0,a7V),(2,a7W),(4,a7X)]:=⟨Tryz.func100,Tryz.call100,aR (by kernel_rfl) (aC ao6 (by kernel_rfl) (aC ao7 (by kernel_rfl) (aC ao8 (by kernel_rfl) fz)))⟩
theorem auO(h:(Option Z08)):dJ ag9 [(0,a7V),(2,a7W),(4,a7X)] (fD ag9 8) Tryz.f100 (nU [(.ptr (.pair .bool (.pair (.arr 8 (.int .u32)) (.pair (.arr 64 (.int .u8)) tI))))] (h,())) [] 0 (qw [.str])=wu h:=by cases h<;>kernel_rfl
theorem aga:aA Tryz.prog 100 ao5:=aB Za 8 ao9 _ _ _ _ (by decide) (λx=>by rw[ES];exact auO x.1)
def ab0:Con:=aO true [.str] [.str] λx=>wz x.1
def auP:Cx:=cx [(98,anu),(99,ag8),(100,ao5)] []
theorem agb:av Tryz.prog auP:=av.of mixed aD (fc ⟨ag1,fc ⟨a7U,fc ⟨aga,fz⟩⟩⟩) fz
theorem a3b:aA Tryz.prog 55 ab0:=aB agb 8 ⟨Tryz.func55,Tryz.call55,ah⟩ _ _ _ _ (by decide) (λx=>by rw[Uj];kernel_rfl)
end
end Go.Proofs.YtlohbhpbkieoeaaGreat
namespace Go.Proofs.YtlohbhpbkieoeaaGreat
noncomputable section
def aoa:Con:=aO false [.str] [tM,tI] λx=>Pg x.1
theorem agc:aA Tryz.prog 15 aoa:=a5r (λx=>by rw[Z7];rfl)
def aob:Con:=aO false [.str] [tM,tI] λx=>IX x.1
def auQ:Cx:=cx [(55,ab0),(15,aoa)] []
theorem agd:av Tryz.prog auQ:=av.of mixed aD (fc ⟨a3b,fc ⟨agc,fz⟩⟩) fz
theorem agf:aA Tryz.prog 17 aob:=aB agd 8 ⟨Tryz.func17,Tryz.call17,ah⟩ _ _ _ _ (by decide) (λx=>by rw[Nq];kernel_rfl)
end
end Go.Proofs.YtlohbhpbkieoeaaGreat
namespace Go.Proofs.YtlohbhpbkieoeaaGreat
noncomputable section
abbrev aoc:Shape:= { sl:=[(0,(.v .str)),(3,(.w 5 (.int .u8) 3))],ob:=[],lo:=3,nx:=4 }
abbrev aod:List Ex:=[(.normal, { sl:=[(0,(.v .str)),(3,(.w 5 (.int .u8) 4))],ob:=[],lo:=4,nx:=5 })]
def aoe:Code:=aK (aI Tryz.f56) 0
def aci:Lp:=bF aoc aod 32 kX
abbrev aof:Shape:= { sl:=[(0,(.v .str)),(3,(.w 5 (.int .u8) 5)),(pv 4 tI)],ob:=[],lo:=5,nx:=6 }
abbrev aog:List Ex:=[(.normal, { sl:=[(3,(.w 5 (.int .u8) 6))],ob:=[],lo:=6,nx:=7 })]
def aoh:Code:=aK (aI Tryz.f56) 2
def acj:Lp:=bF aof aog 32 kY
def aoi:Con:=aO false [.str] [(.sl (.int .u8))] λx=>E9 x.1
def auR:Cx:=cx [] []
theorem a3c:av Tryz.prog auR:=av.of mixed aD fz fz
theorem aoj:aX Tryz.prog 0 (.loop aoe) aci:=aF a3c 8 (ah) _ _ _ _ (by decide) λ_=>by kernel_rfl
theorem aok:aX Tryz.prog 2 (.loop aoh) acj:=aF a3c 8 (ah) _ _ _ _ (by decide) λ_=>by kernel_rfl
theorem aol:dU Tryz.prog 56 Tryz.f56 [(0,aci),(2,acj)]:=⟨Tryz.func56,Tryz.call56,aR (by kernel_rfl) (aC aoj (by kernel_rfl) (aC aok (by kernel_rfl) fz))⟩
theorem agh:aA Tryz.prog 56 aoi:=aB a3c 8 aol _ _ _ _ (by decide) (λx=>by rw[K6];kernel_rfl)
def aom:Con:=aO true [] [(.arr 8 tI)] λx=>IY
def auS:Cx:=cx [] []
theorem agi:av Tryz.prog auS:=av.of mixed aD fz fz
theorem agj:aA Tryz.prog 57 aom:=aB agi 8 ⟨Tryz.func57,Tryz.call57,ah⟩ _ _ _ _ (by decide) (λx=>by rw[Nr];kernel_rfl)
def agk:Con:=aO true [tI,tI] [tI] λx=>jN x.1 x.2.1
def auT:Cx:=cx [] []
theorem agl:av Tryz.prog auT:=av.of mixed aD fz fz
theorem a7Y:aA Tryz.prog 103 agk:=aB agl 8 ⟨Tryz.func103,Tryz.call103,ah⟩ _ _ _ _ (by decide) (λx=>by rw[QD];kernel_rfl)
abbrev aon:Shape:= { sl:=[(0,(.sz (.int .u8))),(pc 2 (.arr 64 tI) 0),(pc 3 (.arr 64 tI) 1),(pv 4 tI)],ob:=[(pv 0 (.arr 64 tI)),(pv 1 (.arr 64 tI))],lo:=2,nx:=2 }
abbrev aoo:List Ex:=[(.normal, { sl:=[(pc 2 (.arr 64 tI) 0),(pc 3 (.arr 64 tI) 1)],ob:=[(pv 0 (.arr 64 tI)),(pv 1 (.arr 64 tI))],lo:=2,nx:=2 })]
def aop:Code:=aK (aI Tryz.f101) 0
def acn:Lp:=bF aon aoo 95 gL
abbrev aoq:Shape:= { sl:=[(pc 2 (.arr 64 tI) 0),(pc 3 (.arr 64 tI) 1),(pv 5 tI)],ob:=[(pv 0 (.arr 64 tI)),(pv 1 (.arr 64 tI))],lo:=2,nx:=2 }
abbrev aor:List Ex:=[(.normal, { sl:=[(pc 2 (.arr 64 tI) 0),(pc 3 (.arr 64 tI) 1)],ob:=[(pv 0 (.arr 64 tI)),(pv 1 (.arr 64 tI))],lo:=2,nx:=2 })]
def aos:Code:=aK (aI Tryz.f101) 2
def aco:Lp:=bF aoq aor 95 gN
def aot:Con:=aO true [(.sl (.int .u8))] [(.arr 64 tI)] λx=>yQ x.1.1 x.1.2
def auU:Cx:=cx [(103,agk)] []
theorem a3d:av Tryz.prog auU:=av.of mixed aD (fc ⟨a7Y,fz⟩) fz
theorem aou:aX Tryz.prog 0 (.loop aop) acn:=aF a3d 8 (ah) _ _ _ _ (by decide) λ_=>by kernel_rfl
theorem aov:aX Tryz.prog 2 (.loop aos) aco:=aF a3d 8 (ah) _ _ _ _ (by decide) λ_=>by kernel_rfl
theorem aow:dU Tryz.prog 101 Tryz.f101 [(0,acn),(2,aco)]:=⟨Tryz.func101,Tryz.call101,aR (by kernel_rfl) (aC aou (by kernel_rfl) (aC aov (by kernel_rfl) fz))⟩
theorem agm:aA Tryz.prog 101 aot:=aB a3d 8 aow _ _ _ _ (by decide) (λx=>by rw[EY];kernel_rfl)
def aox:Con:=aO true [] [(.arr 64 tI)] λx=>wE
def auV:Cx:=cx [] []
theorem agn:av Tryz.prog auV:=av.of mixed aD fz fz
theorem agp:aA Tryz.prog 102 aox:=aB agn 8 ⟨Tryz.func102,Tryz.call102,ah⟩ _ _ _ _ (by decide) (λx=>by rw[Dc];kernel_rfl)
abbrev aoy:Shape:= { sl:=[(pc 2 (.arr 8 tI) 0),(pc 4 (.arr 8 tI) 1),(pc 5 (.arr 64 tI) 2),(pc 6 (.arr 64 tI) 3),(pc 7 (.arr 8 tI) 4),(pv 8 tI)],ob:=[(pv 0 (.arr 8 tI)),(pv 1 (.arr 8 tI)),(pv 2 (.arr 64 tI)),(pv 3 (.arr 64 tI)),(pv 4 (.arr 8 tI))],lo:=5,nx:=5 }
abbrev aoz:List Ex:=[(.normal, { sl:=[(pc 2 (.arr 8 tI) 0),(pc 4 (.arr 8 tI) 1),(pc 7 (.arr 8 tI) 4)],ob:=[(pv 0 (.arr 8 tI)),(pv 1 (.arr 8 tI)),(pv 4 (.arr 8 tI))],lo:=5,nx:=5 })]
def aoA:Code:=aK (aI Tryz.f58) 0
def acp:Lp:=bF aoy aoz 129 kD
abbrev aoB:Shape:= { sl:=[(pc 2 (.arr 8 tI) 0),(pc 4 (.arr 8 tI) 1),(pc 7 (.arr 8 tI) 4),(pc 14 (.arr 8 tI) 5),(pv 15 tI)],ob:=[(pv 0 (.arr 8 tI)),(pv 1 (.arr 8 tI)),(pv 4 (.arr 8 tI)),(pv 5 (.arr 8 tI))],lo:=6,nx:=6 }
abbrev aoC:List Ex:=[(.normal, { sl:=[(pc 4 (.arr 8 tI) 1),(pc 14 (.arr 8 tI) 5)],ob:=[(pv 1 (.arr 8 tI)),(pv 5 (.arr 8 tI))],lo:=6,nx:=6 })]
def aoD:Code:=aK (aI Tryz.f58) 2
def acr:Lp:=bF aoB aoC 129 mZ
def aoE:Con:=aO true [(.arr 8 tI),(.sl (.int .u8))] [(.arr 8 tI)] λx=>IZ x.1 x.2.1.1 x.2.1.2
def auW:Cx:=cx [(101,aot),(102,aox),(103,agk)] []
theorem a3e:av Tryz.prog auW:=av.of mixed aD (fc ⟨agm,fc ⟨agp,fc ⟨a7Y,fz⟩⟩⟩) fz
theorem aoF:aX Tryz.prog 0 (.loop aoA) acp:=aF a3e 8 (ah) _ _ _ _ (by decide) λ_=>by kernel_rfl
theorem aoG:aX Tryz.prog 2 (.loop aoD) acr:=aF a3e 8 (ah) _ _ _ _ (by decide) λ_=>by kernel_rfl
theorem aoH:dU Tryz.prog 58 Tryz.f58 [(0,acp),(2,acr)]:=⟨Tryz.func58,Tryz.call58,aR (by kernel_rfl) (aC aoF (by kernel_rfl) (aC aoG (by kernel_rfl) fz))⟩
theorem agq:aA Tryz.prog 58 aoE:=aB a3e 8 aoH _ _ _ _ (by decide) (λx=>by rw[Ns];kernel_rfl)
abbrev aoI:Shape:= { sl:=[(3,(.sz (.int .u8))),(pc 4 (.arr 8 tI) 0),(pv 5 tI)],ob:=[(pv 0 (.arr 8 tI))],lo:=1,nx:=1 }
abbrev aoJ:List Ex:=[(.normal, { sl:=[(pc 4 (.arr 8 tI) 0)],ob:=[(pv 0 (.arr 8 tI))],lo:=1,nx:=1 })]
def aoK:Code:=aK (aI Tryz.f19) 0
def acs:Lp:=bF aoI aoJ 46 sD
abbrev aoL:Shape:= { sl:=[(pc 4 (.arr 8 tI) 0),(6,(.w 5 (.int .u8) 1)),(pv 7 tI)],ob:=[(pv 0 (.arr 8 tI))],lo:=1,nx:=2 }
abbrev aoM:List Ex:=[(.normal, { sl:=[(6,(.w 5 (.int .u8) 2))],ob:=[],lo:=2,nx:=3 })]
def aoN:Code:=aK (aI Tryz.f19) 2
def acu:Lp:=bF aoL aoM 46 sF
def agr:Con:=aO true [.str] [.str] λx=>yR x.1
def auX:Cx:=cx [(56,aoi),(57,aom),(58,aoE)] []
theorem a3f:av Tryz.prog auX:=av.of mixed aD (fc ⟨agh,fc ⟨agj,fc ⟨agq,fz⟩⟩⟩) fz
theorem aoO:aX Tryz.prog 0 (.loop aoK) acs:=aF a3f 8 (ah) _ _ _ _ (by decide) λ_=>by kernel_rfl
theorem aoP:aX Tryz.prog 2 (.loop aoN) acu:=aF a3f 8 (ah) _ _ _ _ (by decide) λ_=>by kernel_rfl
theorem aoQ:dU Tryz.prog 19 Tryz.f19 [(0,acs),(2,acu)]:=⟨Tryz.func19,Tryz.call19,aR (by kernel_rfl) (aC aoO (by kernel_rfl) (aC aoP (by kernel_rfl) fz))⟩
theorem a7Z:aA Tryz.prog 19 agr:=aB a3f 8 aoQ _ _ _ _ (by decide) (λx=>by rw[Un];kernel_rfl)
end
end Go.Proofs.YtlohbhpbkieoeaaGreat
namespace Go.Proofs.YtlohbhpbkieoeaaGreat
noncomputable section
abbrev aoR:Shape:= { sl:=[(1,(.sz tN)),(pc 2 (.pair tI (.pair tI tI)) 0),(pv 5 tI)],ob:=[(pv 0 (.pair tI (.pair tI tI)))],lo:=1,nx:=1 }
abbrev aoS:List Ex:=[(.ret, { sl:=[(4,(.v .bool))],ob:=[],lo:=1,nx:=1 }),(.normal, { sl:=[(1,(.sz tN))],ob:=[],lo:=1,nx:=1 })]
def aoT:Code:=aK (aI Tryz.f122) 0
def acv:Lp:=bF aoR aoS 27 oM
def ags:Con:=aO true [(.pair tI (.pair tI tI)),(.sl tN)] [.bool] λx=>Nt x.1 x.2.1.1 x.2.1.2
def auY:Cx:=cx [(155,anl)] []
theorem a81:av Tryz.prog auY:=av.of mixed aD (fc ⟨afE,fz⟩) fz
theorem aoU:aX Tryz.prog 0 (.loop aoT) acv:=aF a81 8 (ah) _ _ _ _ (by decide) λ_=>by kernel_rfl
theorem aoV:dU Tryz.prog 122 Tryz.f122 [(0,acv)]:=⟨Tryz.func122,Tryz.call122,aR (by kernel_rfl) (aC aoU (by kernel_rfl) fz)⟩
theorem a88:aA Tryz.prog 122 ags:=aB a81 8 aoV _ _ _ _ (by decide) (λx=>by rw[Uq];kernel_rfl)
abbrev aoW:Shape:= { sl:=[(1,(.sz tN)),(pv 2 tI),(pc 3 (.pair tI (.pair tI tI)) 0),(pv 7 tI),(pv 8 tI),(pv 9 tI)],ob:=[(pv 0 (.pair tI (.pair tI tI)))],lo:=1,nx:=1 }
abbrev aoX:List Ex:=[(.normal, { sl:=[(pv 7 tI)],ob:=[],lo:=1,nx:=1 })]
def aoY:Code:=aK (aI Tryz.f159) 0
def acw:Lp:=bF aoW aoX 34 vJ
def aoZ:Con:=aO true [(.pair tI (.pair tI tI)),(.sl tN),tI] [tI] λx=>Z9 x.1 x.2.1.1 x.2.1.2 x.2.2.1
def auZ:Cx:=cx [(178,anc),(174,aaY),(158,aaZ),(177,anm)] []
theorem a8a:av Tryz.prog auZ:=av.of mixed aD (fc ⟨afw,fc ⟨a2V,fc ⟨a2X,fc ⟨afG,fz⟩⟩⟩⟩) fz
theorem ap0:aX Tryz.prog 0 (.loop aoY) acw:=aF a8a 8 (ah) _ _ _ _ (by decide) λ_=>by kernel_rfl
theorem ap1:dU Tryz.prog 159 Tryz.f159 [(0,acw)]:=⟨Tryz.func159,Tryz.call159,aR (by kernel_rfl) (aC ap0 (by kernel_rfl) fz)⟩
theorem agt:aA Tryz.prog 159 aoZ:=aB a8a 8 ap1 _ _ _ _ (by decide) (λx=>by rw[XM];kernel_rfl)
def ap2:Con:=aO true [(.pair tI (.pair tI tI)),(.sl tN),(.pair tI tN)] [.bool] λx=>J2 x.1 x.2.1.1 x.2.1.2 x.2.2.1
def av0:Cx:=cx [(34,a7A),(122,ags),(158,aaZ),(159,aoZ)] []
theorem agu:av Tryz.prog av0:=av.of mixed aD (fc ⟨Z6,fc ⟨a88,fc ⟨a2X,fc ⟨agt,fz⟩⟩⟩⟩) fz
theorem agv:aA Tryz.prog 124 ap2:=aB agu 8 ⟨Tryz.func124,Tryz.call124,ah⟩ _ _ _ _ (by decide) (λx=>by rw[Nu];kernel_rfl)
end
end Go.Proofs.YtlohbhpbkieoeaaGreat
namespace Go.Proofs.YtlohbhpbkieoeaaGreat
noncomputable section
abbrev ap3:Shape:= { sl:=[(0,(.sz (.sl tN))),(pv 1 tI),(pv 5 tI)],ob:=[],lo:=0,nx:=0 }
abbrev ap4:List Ex:=[(.ret, { sl:=[(4,(.v .bool))],ob:=[],lo:=0,nx:=0 }),(.normal, { sl:=[(0,(.sz (.sl tN))),(pv 1 tI)],ob:=[],lo:=0,nx:=0 })]
def ap5:Code:=aK (aI Tryz.f45) 0
def acy:Lp:=bF ap3 ap4 27 lD
def ap6:Con:=aO true [(.sl (.sl tN)),tI] [.bool] λx=>RY x.1.1 x.1.2 x.2.1
def av1:Cx:=cx [] []
theorem a8b:av Tryz.prog av1:=av.of mixed aD fz fz
theorem ap7:aX Tryz.prog 0 (.loop ap5) acy:=aF a8b 8 (ah) _ _ _ _ (by decide) λ_=>by kernel_rfl
theorem ap8:dU Tryz.prog 45 Tryz.f45 [(0,acy)]:=⟨Tryz.func45,Tryz.call45,aR (by kernel_rfl) (aC ap7 (by kernel_rfl) fz)⟩
theorem agw:aA Tryz.prog 45 ap6:=aB a8b 8 ap8 _ _ _ _ (by decide) (λx=>by rw[Ut];kernel_rfl)
abbrev ap9:Shape:= { sl:=[(0,(.sz (.sl tN))),(1,(.sz (.sl tN))),(pv 5 tI)],ob:=[],lo:=0,nx:=0 }
abbrev apa:List Ex:=[(.ret, { sl:=[(4,(.v .bool))],ob:=[],lo:=0,nx:=0 }),(.normal, { sl:=[],ob:=[],lo:=0,nx:=0 })]
def apb:Code:=aK (aI Tryz.f125) 0
def acz:Lp:=bF ap9 apa 27 lS
def apc:Con:=aO true [(.sl (.sl tN)),(.sl (.sl tN))] [.bool] λx=>Nw x.1.1 x.1.2 x.2.1.1 x.2.1.2
def av2:Cx:=cx [(126,afu)] []
theorem a8c:av Tryz.prog av2:=av.of mixed aD (fc ⟨a7N,fz⟩) fz
theorem apd:aX Tryz.prog 0 (.loop apb) acz:=aF a8c 8 (ah) _ _ _ _ (by decide) λ_=>by kernel_rfl
theorem ape:dU Tryz.prog 125 Tryz.f125 [(0,acz)]:=⟨Tryz.func125,Tryz.call125,aR (by kernel_rfl) (aC apd (by kernel_rfl) fz)⟩
theorem agx:aA Tryz.prog 125 apc:=aB a8c 8 ape _ _ _ _ (by decide) (λx=>by rw[QI];kernel_rfl)
abbrev apf:Shape:= { sl:=[(pv 1 tI),(2,(.sz (.sl tN))),(pc 3 (.pair tI (.pair tI tI)) 0),(pv 7 tI)],ob:=[(pv 0 (.pair tI (.pair tI tI)))],lo:=1,nx:=1 }
abbrev apg:List Ex:=[(.ret, { sl:=[(6,(.v .bool))],ob:=[],lo:=1,nx:=1 }),(.normal, { sl:=[(pv 1 tI),(2,(.sz (.sl tN)))],ob:=[],lo:=1,nx:=1 })]
def aph:Code:=aK (aI Tryz.f77) 0
def acA:Lp:=bF apf apg 47 lF
def apj:Con:=aO true [(.pair tI (.pair tI tI)),tI,(.sl (.sl tN))] [.bool] λx=>Ny x.1 x.2.1 x.2.2.1.1 x.2.2.1.2
def av3:Cx:=cx [(122,ags)] []
theorem a8d:av Tryz.prog av3:=av.of mixed aD (fc ⟨a88,fz⟩) fz
theorem apk:aX Tryz.prog 0 (.loop aph) acA:=aF a8d 8 (ah) _ _ _ _ (by decide) λ_=>by kernel_rfl
theorem apl:dU Tryz.prog 77 Tryz.f77 [(0,acA)]:=⟨Tryz.func77,Tryz.call77,aR (by kernel_rfl) (aC apk (by kernel_rfl) fz)⟩
theorem agy:aA Tryz.prog 77 apj:=aB a8d 8 apl _ _ _ _ (by decide) (λx=>by rw[Ux];kernel_rfl)
abbrev apm:Shape:= { sl:=[(0,(.sz (.sl tN))),(pv 3 tI)],ob:=[],lo:=0,nx:=0 }
abbrev apn:List Ex:=[(.ret, { sl:=[(2,(.v .bool))],ob:=[],lo:=0,nx:=0 }),(.normal, { sl:=[(0,(.sz (.sl tN)))],ob:=[],lo:=0,nx:=0 })]
def apo:Code:=aK (aI Tryz.f156) 0
def acB:Lp:=bF apm apn 44 iT
def apq:Con:=aO true [(.sl (.sl tN))] [.bool] λx=>NA x.1.1 x.1.2
def av4:Cx:=cx [] []
theorem a8e:av Tryz.prog av4:=av.of mixed aD fz fz
theorem apr:aX Tryz.prog 0 (.loop apo) acB:=aF a8e 8 (ah) _ _ _ _ (by decide) λ_=>by kernel_rfl
theorem aps:dU Tryz.prog 156 Tryz.f156 [(0,acB)]:=⟨Tryz.func156,Tryz.call156,aR (by kernel_rfl) (aC apr (by kernel_rfl) fz)⟩
theorem agz:aA Tryz.prog 156 apq:=aB a8e 8 aps _ _ _ _ (by decide) (λx=>by rw[QK];kernel_rfl)
abbrev apt:Shape:= { sl:=[(0,(.sz (.sl tN))),(3,(.v .str)),(pv 4 tI),(pv 5 tI)],ob:=[],lo:=1,nx:=1 }
abbrev apu:List Ex:=[(.normal, { sl:=[(0,(.sz (.sl tN))),(3,(.v .str)),(pv 4 tI)],ob:=[],lo:=1,nx:=1 })]
def apv:Code:=aK (aI Tryz.f123) 2
def a8f:Lp:=bF apt apu 53 ng
abbrev a4m:Shape:= { sl:=[(0,(.sz (.sl tN))),(3,(.v .str)),(pv 4 tI)],ob:=[],lo:=1,nx:=1 }
abbrev acC:List Ex:=[(.normal, { sl:=[(3,(.v .str))],ob:=[],lo:=1,nx:=1 })]
def acD:Code:=aK (aI Tryz.f123) 0
def acE:Lp:=bF a4m acC 53 kE
def apw:Con:=aO true [(.sl (.sl tN))] [.str] λx=>J3 x.1.1 x.1.2
def agA:Cx:=cx [(156,apq),(157,ams)] []
theorem a3g:av Tryz.prog agA:=av.of mixed aD (fc ⟨agz,fc ⟨afl,fz⟩⟩) fz
theorem acF:aX Tryz.prog 2 (.loop apv) a8f:=aF a3g 8 (ah) _ _ _ _ (by decide) λ_=>by kernel_rfl
theorem apx(x:a4m.X):wJ agA [(2,a8f)] (fD agA 8) acD (a4m.mkS 53 x) (lH 0 a4m acC)=kE x:=by kernel_rfl
theorem apy:aX Tryz.prog 0 (.loop acD) acE:=aF a3g 8 (aR (by kernel_rfl) (aC acF (by kernel_rfl) fz)) _ _ _ _ (by decide) apx
theorem apz:dU Tryz.prog 123 Tryz.f123 [(2,a8f),(0,acE)]:=⟨Tryz.func123,Tryz.call123,aR (by kernel_rfl) (aC acF (by kernel_rfl) (aC apy (by kernel_rfl) fz))⟩
theorem agB:aA Tryz.prog 123 apw:=aB a3g 8 apz _ _ _ _ (by decide) (λx=>by rw[NC];kernel_rfl)
def apA:Con:=aO true [(.sl (.sl tN))] [.str] λx=>zM x.1.1 x.1.2
def av5:Cx:=cx [(123,apw),(19,agr)] []
theorem agC:av Tryz.prog av5:=av.of mixed aD (fc ⟨agB,fc ⟨a7Z,fz⟩⟩) fz
theorem agD:aA Tryz.prog 78 apA:=aB agC 8 ⟨Tryz.func78,Tryz.call78,ah⟩ _ _ _ _ (by decide) (λx=>by rw[Ki];kernel_rfl)
abbrev apB:Shape:= { sl:=[(1,(.sz (.sl tN))),(pc 3 (.pair tI (.pair tI tI)) 0),(pc 5 (.pair tI (.sl tN)) 1),(pv 7 tI)],ob:=[(pv 0 (.pair tI (.pair tI tI))),(1,(.p (.v tI) (.sz tN)))],lo:=2,nx:=2 }
abbrev apC:List Ex:=[(.ret, { sl:=[(6,(.v .bool))],ob:=[],lo:=2,nx:=2 }),(.normal, { sl:=[],ob:=[],lo:=2,nx:=2 })]
def apD:Code:=aK (aI Tryz.f79) 0
def acG:Lp:=bF apB apC 52 kF
def apE:Con:=aO true [(.pair tI (.pair tI tI)),(.sl (.sl tN)),(.pair tI (.sl tN))] [.bool] λx=>vK x.1 x.2.1.1 x.2.1.2 x.2.2.1
def av6:Cx:=cx [(124,ap2)] []
theorem a8g:av Tryz.prog av6:=av.of mixed aD (fc ⟨agv,fz⟩) fz
theorem apF:aX Tryz.prog 0 (.loop apD) acG:=aF a8g 8 (ah) _ _ _ _ (by decide) λ_=>by kernel_rfl
theorem apG:dU Tryz.prog 79 Tryz.f79 [(0,acG)]:=⟨Tryz.func79,Tryz.call79,aR (by kernel_rfl) (aC apF (by kernel_rfl) fz)⟩
theorem agE:aA Tryz.prog 79 apE:=aB a8g 8 apG _ _ _ _ (by decide) (λx=>by rw[ND];kernel_rfl)
end
end Go.Proofs.YtlohbhpbkieoeaaGreat
namespace Go.Proofs.YtlohbhpbkieoeaaGreat
noncomputable def agF:Con:=aO true [(.pair tI tI)] [.bool] λx=>NG x.1
noncomputable def av7:Cx:=cx [] []
theorem agG:av Tryz.prog av7:=av.of mixed aD fz fz
theorem a8h:aA Tryz.prog 76 agF:=aB agG 8 ⟨Tryz.func76,Tryz.call76,ah⟩ _ _ _ _ (by decide) (λx=>by rw[UA];kernel_rfl)
end Go.Proofs.YtlohbhpbkieoeaaGreat
namespace Go.Proofs.YtlohbhpbkieoeaaGreat
noncomputable def apH:Con:=aO true [(.pair tI (.pair tI (.pair (.sl .str) (.sl tI)))),tI] [tI] λx=>J4 x.1 x.2.1
noncomputable def av8:Cx:=cx [] []
theorem agH:av Tryz.prog av8:=av.of mixed aD fz fz
theorem agI:aA Tryz.prog 30 apH:=aB agH 8 ⟨Tryz.func30,Tryz.call30,ah⟩ _ _ _ _ (by decide) (λx=>by rw[NH];kernel_rfl)
end Go.Proofs.YtlohbhpbkieoeaaGreat
namespace Go.Proofs.YtlohbhpbkieoeaaGreat
noncomputable section
def apI:Con:=aO true [tG] [.bool] λx=>lT x.1
def av9:Cx:=cx [(45,ap6)] []
theorem agJ:av Tryz.prog av9:=av.of mixed aD (fc ⟨agw,fz⟩) fz
theorem agK:aA Tryz.prog 13 apI:=aB agJ 8 ⟨Tryz.func13,Tryz.call13,ah⟩ _ _ _ _ (by decide) (λx=>by rw[F4];kernel_rfl)
abbrev apJ:Shape:= { sl:=[(1,(.c ⟨(.ptr tM),(.rf 0 [])⟩)),(pv 3 tI),(4,(.c ⟨(.ptr tR),(.rf 1 [])⟩)),(pv 5 tI)],ob:=[(0,ZZ1),(1,ZZ4)],lo:=2,nx:=2 }
abbrev apK:List Ex:=[(.ret, { sl:=[(2,(.v .bool))],ob:=[],lo:=2,nx:=2 }),(.normal, { sl:=[(1,(.c ⟨(.ptr tM),(.rf 0 [])⟩)),(pv 3 tI),(4,(.c ⟨(.ptr tR),(.rf 1 [])⟩))],ob:=[(0,ZZ1),(1,ZZ4)],lo:=2,nx:=2 })]
def apL:Code:=aK (aI Tryz.f4) 2
def a8i:Lp:=bF apJ apK 123 oN
abbrev apM:Shape:= { sl:=[(1,(.c ⟨(.ptr tM),(.rf 0 [])⟩)),(pv 3 tI),(4,(.c ⟨(.ptr tR),(.rf 1 [])⟩)),(pv 6 tI)],ob:=[(0,ZZ1),(1,ZZ4)],lo:=2,nx:=2 }
abbrev apN:List Ex:=[(.ret, { sl:=[(2,(.v .bool))],ob:=[],lo:=2,nx:=2 }),(.normal, { sl:=[(1,(.c ⟨(.ptr tM),(.rf 0 [])⟩)),(pv 3 tI),(4,(.c ⟨(.ptr tR),(.rf 1 [])⟩))],ob:=[(0,ZZ1),(1,ZZ4)],lo:=2,nx:=2 })]
def apO:Code:=aK (aI Tryz.f4) 4
def a8j:Lp:=bF apM apN 123 oO
abbrev apP:Shape:= { sl:=[(1,(.c ⟨(.ptr tM),(.rf 0 [])⟩)),(pv 3 tI),(4,(.c ⟨(.ptr tR),(.rf 1 [])⟩)),(pv 7 tI)],ob:=[(0,ZZ1),(1,ZZ4)],lo:=2,nx:=2 }
abbrev apQ:List Ex:=[(.ret, { sl:=[(2,(.v .bool))],ob:=[],lo:=2,nx:=2 }),(.normal, { sl:=[(1,(.c ⟨(.ptr tM),(.rf 0 [])⟩)),(pv 3 tI)],ob:=[(0,ZZ1)],lo:=2,nx:=2 })]
def apR:Code:=aK (aI Tryz.f4) 6
def a8k:Lp:=bF apP apQ 123 jO
abbrev a4n:Shape:= { sl:=[(1,(.c ⟨(.ptr tM),(.rf 0 [])⟩)),(pv 3 tI)],ob:=[(0,ZZ1)],lo:=1,nx:=1 }
abbrev acH:List Ex:=[(.ret, { sl:=[(2,(.v .bool))],ob:=[],lo:=2,nx:=2 }),(.normal, { sl:=[],ob:=[],lo:=1,nx:=1 })]
def acI:Code:=aK (aI Tryz.f4) 0
def acJ:Lp:=bF a4n acH 123 dz
def apS:Con:=aO true [tM] [.bool] λx=>RZ x.1
def agL:Cx:=cx [(13,apI)] []
theorem UK:av Tryz.prog agL:=av.of mixed aD (fc ⟨agK,fz⟩) fz
theorem acK:aX Tryz.prog 2 (.loop apL) a8i:=aF UK 8 (ah) _ _ _ _ (by decide) λ_=>by kernel_rfl
theorem acL:aX Tryz.prog 4 (.loop apO) a8j:=aF UK 8 (ah) _ _ _ _ (by decide) λ_=>by kernel_rfl
theorem acM:aX Tryz.prog 6 (.loop apR) a8k:=aF UK 8 (ah) _ _ _ _ (by decide) λ_=>by kernel_rfl
theorem apT(x:a4n.X):wJ agL [(2,a8i),(4,a8j),(6,a8k)] (fD agL 8) acI (a4n.mkS 123 x) (lH 0 a4n acH)=dz x:=by kernel_rfl
theorem apU:aX Tryz.prog 0 (.loop acI) acJ:=aF UK 8 (aR (by kernel_rfl) (aC acK (by kernel_rfl) (aC acL (by kernel_rfl) (aC acM (by kernel_rfl) fz)))) _ _ _ _ (by decide) apT
theorem apV:dU Tryz.prog 4 Tryz.f4 [(2,a8i),(4,a8j),(6,a8k),(0,acJ)]:=⟨Tryz.func4,Tryz.call4,aR (by kernel_rfl) (aC acK (by kernel_rfl) (aC acL (by kernel_rfl) (aC acM (by kernel_rfl) (aC apU (by kernel_rfl) fz))))⟩
theorem agM:aA Tryz.prog 4 apS:=aB UK 8 apV _ _ _ _ (by decide) (λx=>by rw[UD];kernel_rfl)
def apW:Con:=aO true [tG,tG] [.bool] λx=>je x.1 x.2.1
def ava:Cx:=cx [(125,apc),(126,afu)] []
theorem agN:av Tryz.prog ava:=av.of mixed aD (fc ⟨agx,fc ⟨a7N,fz⟩⟩) fz
theorem agO:aA Tryz.prog 83 apW:=aB agN 8 ⟨Tryz.func83,Tryz.call83,ah⟩ _ _ _ _ (by decide) (λx=>by rw[Df];kernel_rfl)
abbrev apX:Shape:= { sl:=[(0,(.sz tV)),(1,(.sz tV)),(pv 5 tI)],ob:=[],lo:=0,nx:=0 }
abbrev apY:List Ex:=[(.ret, { sl:=[(4,(.v .bool))],ob:=[],lo:=0,nx:=0 }),(.normal, { sl:=[],ob:=[],lo:=0,nx:=0 })]
def apZ:Code:=aK (aI Tryz.f84) 0
def acN:Lp:=bF apX apY 26 fu
def aq0:Con:=aO true [(.sl tV),(.sl tV)] [.bool] λx=>qL x.1.1 x.1.2 x.2.1.1 x.2.1.2
def avb:Cx:=cx [] []
theorem a8l:av Tryz.prog avb:=av.of mixed aD fz fz
theorem aq1:aX Tryz.prog 0 (.loop apZ) acN:=aF a8l 8 (ah) _ _ _ _ (by decide) λ_=>by kernel_rfl
theorem aq2:dU Tryz.prog 84 Tryz.f84 [(0,acN)]:=⟨Tryz.func84,Tryz.call84,aR (by kernel_rfl) (aC aq1 (by kernel_rfl) fz)⟩
theorem agP:aA Tryz.prog 84 aq0:=aB a8l 8 aq2 _ _ _ _ (by decide) (λx=>by rw[Dg];kernel_rfl)
abbrev aq3:Shape:= { sl:=[(2,(.c ⟨(.ptr tR),(.rf 0 [])⟩)),(3,(.c ⟨(.ptr tR),(.rf 1 [])⟩)),(pv 5 tI)],ob:=[(0,ZZ4),(1,ZZ4)],lo:=2,nx:=2 }
abbrev aq4:List Ex:=[(.ret, { sl:=[(4,(.v .bool))],ob:=[],lo:=4,nx:=4 }),(.normal, { sl:=[],ob:=[],lo:=2,nx:=2 })]
def aq5:Code:=aK (aI Tryz.f37) 0
def acO:Lp:=bF aq3 aq4 99 jr
def aq6:Con:=aO true [tR,tR] [.bool] λx=>tY x.1 x.2.1
def avc:Cx:=cx [(83,apW),(84,aq0)] []
theorem a8m:av Tryz.prog avc:=av.of mixed aD (fc ⟨agO,fc ⟨agP,fz⟩⟩) fz
theorem aq7:aX Tryz.prog 0 (.loop aq5) acO:=aF a8m 8 (ah) _ _ _ _ (by decide) λ_=>by kernel_rfl
theorem aq8:dU Tryz.prog 37 Tryz.f37 [(0,acO)]:=⟨Tryz.func37,Tryz.call37,aR (by kernel_rfl) (aC aq7 (by kernel_rfl) fz)⟩
theorem agQ:aA Tryz.prog 37 aq6:=aB a8m 8 aq8 _ _ _ _ (by decide) (λx=>by rw[Bc];kernel_rfl)
abbrev aq9:Shape:= { sl:=[(2,(.c ⟨(.ptr tM),(.rf 0 [])⟩)),(3,(.c ⟨(.ptr tM),(.rf 1 [])⟩)),(pv 5 tI)],ob:=[(0,ZZ1),(1,ZZ1)],lo:=2,nx:=2 }
abbrev aqa:List Ex:=[(.ret, { sl:=[(4,(.v .bool))],ob:=[],lo:=2,nx:=2 }),(.normal, { sl:=[(2,(.c ⟨(.ptr tM),(.rf 0 [])⟩)),(3,(.c ⟨(.ptr tM),(.rf 1 [])⟩))],ob:=[(0,ZZ1),(1,ZZ1)],lo:=2,nx:=2 })]
def aqb:Code:=aK (aI Tryz.f11) 0
def acP:Lp:=bF aq9 aqa 81 ig
abbrev aqc:Shape:= { sl:=[(2,(.c ⟨(.ptr tM),(.rf 0 [])⟩)),(3,(.c ⟨(.ptr tM),(.rf 1 [])⟩)),(pv 6 tI)],ob:=[(0,ZZ1),(1,ZZ1)],lo:=2,nx:=2 }
abbrev aqd:List Ex:=[(.ret, { sl:=[(4,(.v .bool))],ob:=[],lo:=2,nx:=2 }),(.normal, { sl:=[],ob:=[],lo:=2,nx:=2 })]
def aqe:Code:=aK (aI Tryz.f11) 2
def acQ:Lp:=bF aqc aqd 81 iU
def agR:Con:=aO true [tM,tM] [.bool] λx=>jQ x.1 x.2.1
def avd:Cx:=cx [(37,aq6)] []
theorem a3h:av Tryz.prog avd:=av.of mixed aD (fc ⟨agQ,fz⟩) fz
theorem aqf:aX Tryz.prog 0 (.loop aqb) acP:=aF a3h 8 (ah) _ _ _ _ (by decide) λ_=>by kernel_rfl
theorem aqg:aX Tryz.prog 2 (.loop aqe) acQ:=aF a3h 8 (ah) _ _ _ _ (by decide) λ_=>by kernel_rfl
theorem aqh:dU Tryz.prog 11 Tryz.f11 [(0,acP),(2,acQ)]:=⟨Tryz.func11,Tryz.call11,aR (by kernel_rfl) (aC aqf (by kernel_rfl) (aC aqg (by kernel_rfl) fz))⟩
theorem a8n:aA Tryz.prog 11 agR:=aB a3h 8 aqh _ _ _ _ (by decide) (λx=>by rw[H9];kernel_rfl)
def agS:Con:=aO true [tG] [.bool] λx=>jv x.1
def ave:Cx:=cx [] []
theorem agT:av Tryz.prog ave:=av.of mixed aD fz fz
theorem a8o:aA Tryz.prog 33 agS:=aB agT 8 ⟨Tryz.func33,Tryz.call33,ah⟩ _ _ _ _ (by decide) (λx=>by rw[QS];kernel_rfl)
def aqi:Con:=aO true [(.pair tI (.pair tI tI)),tI,tI,tG] [.bool] λx=>dM x.1 x.2.1 x.2.2.1 x.2.2.2.1
def avf:Cx:=cx [(33,agS),(76,agF),(77,apj),(78,apA),(79,apE)] []
theorem agU:av Tryz.prog avf:=av.of mixed aD (fc ⟨a8o,fc ⟨a8h,fc ⟨agy,fc ⟨agD,fc ⟨agE,fz⟩⟩⟩⟩⟩) fz
theorem agV:aA Tryz.prog 31 aqi:=aB agU 8 ⟨Tryz.func31,Tryz.call31,ah⟩ _ _ _ _ (by decide) (λx=>by rw[Kq];kernel_rfl)
def aqj:Con:=aO true [tV,tV] [.bool] λx=>J6 x.1 x.2.1
def avg:Cx:=cx [] []
theorem agW:av Tryz.prog avg:=av.of mixed aD fz fz
theorem agX:aA Tryz.prog 80 aqj:=aB agW 8 ⟨Tryz.func80,Tryz.call80,ah⟩ _ _ _ _ (by decide) (λx=>by rw[NM];kernel_rfl)
abbrev aqk:Shape:= { sl:=[(0,(.sz tV)),(pv 1 tI),(pv 5 tI)],ob:=[],lo:=0,nx:=0 }
abbrev aql:List Ex:=[(.ret, { sl:=[(4,(.v .bool))],ob:=[],lo:=0,nx:=0 }),(.normal, { sl:=[],ob:=[],lo:=0,nx:=0 })]
def aqm:Code:=aK (aI Tryz.f32) 0
def acR:Lp:=bF aqk aql 62 bM
def aqn:Con:=aO true [(.sl tV),tI] [.bool] λx=>lW x.1.1 x.1.2 x.2.1
def avh:Cx:=cx [(76,agF),(80,aqj)] []
theorem a8p:av Tryz.prog avh:=av.of mixed aD (fc ⟨a8h,fc ⟨agX,fz⟩⟩) fz
theorem aqo:aX Tryz.prog 0 (.loop aqm) acR:=aF a8p 8 (ah) _ _ _ _ (by decide) λ_=>by kernel_rfl
theorem aqp:dU Tryz.prog 32 Tryz.f32 [(0,acR)]:=⟨Tryz.func32,Tryz.call32,aR (by kernel_rfl) (aC aqo (by kernel_rfl) fz)⟩
theorem agY:aA Tryz.prog 32 aqn:=aB a8p 8 aqp _ _ _ _ (by decide) (λx=>by rw[F5];kernel_rfl)
abbrev aqr:Shape:= { sl:=[(pc 2 (.pair tI (.pair tI tI)) 0),(3,(.c ⟨(.ptr tM),(.rf 1 [])⟩)),(pv 5 tI),(pv 6 tI),(pv 7 tI)],ob:=[(pv 0 (.pair tI (.pair tI tI))),(1,ZZ1)],lo:=2,nx:=2 }
abbrev aqs:List Ex:=[(.ret, { sl:=[(4,(.v .bool))],ob:=[],lo:=2,nx:=2 }),(.normal, { sl:=[(pc 2 (.pair tI (.pair tI tI)) 0),(3,(.c ⟨(.ptr tM),(.rf 1 [])⟩)),(pv 5 tI),(pv 6 tI)],ob:=[(pv 0 (.pair tI (.pair tI tI))),(1,ZZ1)],lo:=2,nx:=2 })]
def aqt:Code:=aK (aI Tryz.f9) 0
def acS:Lp:=bF aqr aqs 268 jR
abbrev aqu:Shape:= { sl:=[(pc 2 (.pair tI (.pair tI tI)) 0),(3,(.c ⟨(.ptr tM),(.rf 1 [])⟩)),(pv 5 tI),(pv 8 tI),(9,(.c ⟨(.ptr tR),(.rf 2 [])⟩)),(pv 10 tI)],ob:=[(pv 0 (.pair tI (.pair tI tI))),(1,ZZ1),(2,ZZ4)],lo:=3,nx:=3 }
abbrev aqv:List Ex:=[(.ret, { sl:=[(4,(.v .bool))],ob:=[],lo:=5,nx:=5 }),(.normal, { sl:=[(pc 2 (.pair tI (.pair tI tI)) 0),(3,(.c ⟨(.ptr tM),(.rf 1 [])⟩)),(pv 5 tI),(pv 8 tI)],ob:=[(pv 0 (.pair tI (.pair tI tI))),(1,ZZ1)],lo:=3,nx:=3 })]
def aqw:Code:=aK (aI Tryz.f9) 4
def a8q:Lp:=bF aqu aqv 268 fI
abbrev a4o:Shape:= { sl:=[(pc 2 (.pair tI (.pair tI tI)) 0),(3,(.c ⟨(.ptr tM),(.rf 1 [])⟩)),(pv 5 tI),(pv 8 tI)],ob:=[(pv 0 (.pair tI (.pair tI tI))),(1,ZZ1)],lo:=2,nx:=2 }
abbrev acT:List Ex:=[(.ret, { sl:=[(4,(.v .bool))],ob:=[],lo:=5,nx:=5 }),(.normal, { sl:=[],ob:=[],lo:=2,nx:=2 })]
def acU:Code:=aK (aI Tryz.f9) 2
def acV:Lp:=bF a4o acT 268 eD
def aqx:Con:=aO true [(.pair tI (.pair tI tI)),tM] [.bool] λx=>J7 x.1 x.2.1
def agZ:Cx:=cx [(30,apH),(31,aqi),(32,aqn),(33,agS)] []
theorem Zb:av Tryz.prog agZ:=av.of mixed aD (fc ⟨agI,fc ⟨agV,fc ⟨agY,fc ⟨a8o,fz⟩⟩⟩⟩) fz
theorem aqy:aX Tryz.prog 0 (.loop aqt) acS:=aF Zb 8 (ah) _ _ _ _ (by decide) λ_=>by kernel_rfl
theorem acW:aX Tryz.prog 4 (.loop aqw) a8q:=aF Zb 8 (ah) _ _ _ _ (by decide) λ_=>by kernel_rfl
theorem aqz(x:a4o.X):wJ agZ [(4,a8q)] (fD agZ 8) acU (a4o.mkS 268 x) (lH 2 a4o acT)=eD x:=by kernel_rfl
theorem aqA:aX Tryz.prog 2 (.loop acU) acV:=aF Zb 8 (aR (by kernel_rfl) (aC acW (by kernel_rfl) fz)) _ _ _ _ (by decide) aqz
theorem aqB:dU Tryz.prog 9 Tryz.f9 [(0,acS),(4,a8q),(2,acV)]:=⟨Tryz.func9,Tryz.call9,aR (by kernel_rfl) (aC aqy (by kernel_rfl) (aC acW (by kernel_rfl) (aC aqA (by kernel_rfl) fz)))⟩
theorem ah0:aA Tryz.prog 9 aqx:=aB Zb 8 aqB _ _ _ _ (by decide) (λx=>by rw[UG];kernel_rfl)
end
end Go.Proofs.YtlohbhpbkieoeaaGreat
namespace Go.Proofs.YtlohbhpbkieoeaaGreat
noncomputable section
abbrev a8r:Shape:= { sl:=[(0,(.sz tN)),(1,(.c ⟨.fn,(.mk 169 [((.ptr tGR),0,[])])⟩)),(pv 7 tI),(pv 8 tI)],ob:=[(0,(.pz tGR))],lo:=1,nx:=1 }
abbrev a8s:List Ex:=[(.ret, { sl:=[(pv 4 tI)],ob:=[(0,(.pz tGR)),(pv 1 tN)],lo:=2,nx:=2 }),(.normal, { sl:=[],ob:=[(0,(.pz tGR))],lo:=1,nx:=1 })]
def a8t:Code:=aK (aI Tryz.f182) 0
def a0y:Lp:=bF a8r a8s 19 eZ
def ab1:Con:=aO true [(.ptr tGR),(.sl tN)] [.bool] λx=>vD x.1 x.2.1.1 x.2.1.2
def ah1:Cx:=cx [(170,afK)] [(168,Tryz.f168,[]),(182,Tryz.f182,[(0,a0y)]),(169,Tryz.f169,[])]
def NQ:Cx:=cx [(170,afK)] [(168,Tryz.f168,[]),(169,Tryz.f169,[])]
theorem Js:av Tryz.prog NQ:=av.of mixed aD (fc ⟨a7Q,fz⟩) (fc ⟨⟨Tryz.func168,Tryz.call168,ah⟩,fc ⟨⟨Tryz.func169,Tryz.call169,ah⟩,fz⟩⟩)
theorem a8u:aX Tryz.prog 0 (.loop a8t) a0y:=aF Js 8 (ah) _ _ _ _ (by decide) λ_=>by kernel_rfl
theorem ah2:av Tryz.prog ah1:=av.of mixed aD (fc ⟨a7Q,fz⟩) (fc ⟨⟨Tryz.func168,Tryz.call168,ah⟩,fc ⟨⟨Tryz.func182,Tryz.call182,aR (by kernel_rfl) (aC a8u (by kernel_rfl) fz)⟩,fc ⟨⟨Tryz.func169,Tryz.call169,ah⟩,fz⟩⟩⟩)
theorem avi(g:Z0r)(nc:Nat)(c:Nat->NI):dJ ah1 [] (fD ah1 8) Tryz.f152 (nU [(.ptr tGR),(.sl tN)] (g,(nc,c),())) [] 0 (qw [.bool])=AV g nc c:=by cases g<;>kernel_rfl
theorem a3i:aA Tryz.prog 152 ab1:=aB ah2 8 ⟨Tryz.func152,Tryz.call152,ah⟩ _ _ _ _ (by decide) (λx=>by rw[JZ];exact avi x.1 x.2.1.1 x.2.1.2)
abbrev aqC:Shape:= { sl:=[(0,(.pz tGR)),(1,(.sz tN)),(pv 2 tI),(pc 6 tN 0),(7,(.w 35 tN 1)),(pv 8 tI),(pv 24 tI),(pv 25 tI)],ob:=[(pv 0 tN)],lo:=1,nx:=2 }
abbrev aqD:List Ex:=[(.normal, { sl:=[(0,(.pz tGR)),(1,(.sz tN)),(pc 6 tN 0),(7,(.w 35 tN 2))],ob:=[(pv 0 tN)],lo:=2,nx:=3 })]
def aqE:Code:=aK (aI Tryz.f173) 0
def a8v:Lp:=bF aqC aqD 44 mY
def aqF:Con:=aO true [(.ptr tGR),(.sl tN),tI] [tN] λx=>D5 x.1 x.2.1.1 x.2.1.2 x.2.2.1
def ah3:Cx:=cx [(23,a2N),(187,anr)] []
theorem a8w:av Tryz.prog ah3:=av.of mixed aD (fc ⟨Pe,fc ⟨afV,fz⟩⟩) fz
theorem aqG:aX Tryz.prog 0 (.loop aqE) a8v:=aF a8w 8 (ah) _ _ _ _ (by decide) λ_=>by kernel_rfl
theorem aqH:dU Tryz.prog 173 Tryz.f173 [(0,a8v)]:=⟨Tryz.func173,Tryz.call173,aR (by kernel_rfl) (aC aqG (by kernel_rfl) fz)⟩
theorem avj(g:Z0r)(nc:Nat)(c:Nat->NI)(i:Int):dJ ah3 [(0,a8v)] (fD ah3 8) Tryz.f173 (nU [(.ptr tGR),(.sl tN),tI] (g,(nc,c),i,())) [] 0 (qw [tN])=DZ g nc c i:=by cases g<;>kernel_rfl
theorem ah4:aA Tryz.prog 173 aqF:=aB a8w 8 aqH _ _ _ _ (by decide) (λx=>by rw[Np];exact avj x.1 x.2.1.1 x.2.1.2 x.2.2.1)
def aqI:Con:=aO true [(.ptr tGR),(.sl tN),(.pair tI tN)] [.bool] λx=>yO x.1 x.2.1.1 x.2.1.2 x.2.2.1
def ah5:Cx:=cx [(171,ano),(152,ab1),(172,anq),(173,aqF)] []
theorem ah6:av Tryz.prog ah5:=av.of mixed aD (fc ⟨afJ,fc ⟨a3i,fc ⟨afS,fc ⟨ah4,fz⟩⟩⟩⟩) fz
theorem avk(g:Z0r)(nc:Nat)(c:Nat->NI)(s:(Int×NI)):dJ ah5 [] (fD ah5 8) Tryz.f154 (nU [(.ptr tGR),(.sl tN),(.pair tI tN)] (g,(nc,c),s,())) [] 0 (qw [.bool])=wB g nc c s:=by cases g<;>kernel_rfl
theorem ah7:aA Tryz.prog 154 aqI:=aB ah6 8 ⟨Tryz.func154,Tryz.call154,ah⟩ _ _ _ _ (by decide) (λx=>by rw[ET];exact avk x.1 x.2.1.1 x.2.1.2 x.2.2.1)
end
end Go.Proofs.YtlohbhpbkieoeaaGreat
namespace Go.Proofs.YtlohbhpbkieoeaaGreat
noncomputable section
def ah8:Con:=aO true [tI] [.bool] λx=>tL x.1
def avl:Cx:=cx [] []
theorem ah9:av Tryz.prog avl:=av.of mixed aD fz fz
theorem a8x:aA Tryz.prog 153 ah8:=aB ah9 8 ⟨Tryz.func153,Tryz.call153,ah⟩ _ _ _ _ (by decide) (λx=>by rw[EW];kernel_rfl)
abbrev a8y:Shape:= { sl:=[(0,(.sz (.sl tN))),(1,(.c ⟨.fn,(.mk 151 [(tI,1,[]),((.ptr tGR),0,[])])⟩)),(pv 7 tI),(pv 8 tI)],ob:=[(0,(.pz tGR)),(pv 1 tI)],lo:=2,nx:=2 }
abbrev a8z:List Ex:=[(.ret, { sl:=[(pv 4 tI)],ob:=[(0,(.pz tGR)),(pv 1 tI)],lo:=2,nx:=2 }),(.normal, { sl:=[],ob:=[(0,(.pz tGR)),(pv 1 tI)],lo:=2,nx:=2 })]
def a8A:Code:=aK (aI Tryz.f167) 0
def a0z:Lp:=bF a8y a8z 19 dN
def aqJ:Con:=aO true [(.ptr tGR),tI,(.sl (.sl tN))] [.bool] λx=>E8 x.1 x.2.1 x.2.2.1.1 x.2.2.1.2
def aha:Cx:=cx [(152,ab1),(153,ah8)] [(150,Tryz.f150,[]),(167,Tryz.f167,[(0,a0z)]),(151,Tryz.f151,[])]
def NR:Cx:=cx [(152,ab1),(153,ah8)] [(150,Tryz.f150,[]),(151,Tryz.f151,[])]
theorem Jt:av Tryz.prog NR:=av.of mixed aD (fc ⟨a3i,fc ⟨a8x,fz⟩⟩) (fc ⟨⟨Tryz.func150,Tryz.call150,ah⟩,fc ⟨⟨Tryz.func151,Tryz.call151,ah⟩,fz⟩⟩)
theorem a8B:aX Tryz.prog 0 (.loop a8A) a0z:=aF Jt 8 (ah) _ _ _ _ (by decide) λ_=>by kernel_rfl
theorem ahb:av Tryz.prog aha:=av.of mixed aD (fc ⟨a3i,fc ⟨a8x,fz⟩⟩) (fc ⟨⟨Tryz.func150,Tryz.call150,ah⟩,fc ⟨⟨Tryz.func167,Tryz.call167,aR (by kernel_rfl) (aC a8B (by kernel_rfl) fz)⟩,fc ⟨⟨Tryz.func151,Tryz.call151,ah⟩,fz⟩⟩⟩)
theorem avm(g:Z0r)(t:Int)(nm:Nat)(m:Nat->(SlV NI)):dJ aha [] (fD aha 8) Tryz.f118 (nU [(.ptr tGR),tI,(.sl (.sl tN))] (g,t,(nm,m),())) [] 0 (qw [.bool])=AZ g t nm m:=by cases g<;>kernel_rfl
theorem ahc:aA Tryz.prog 118 aqJ:=aB ahb 8 ⟨Tryz.func118,Tryz.call118,ah⟩ _ _ _ _ (by decide) (λx=>by rw[K5];exact avm x.1 x.2.1 x.2.2.1.1 x.2.2.1.2)
abbrev a8C:Shape:= { sl:=[(0,(.sz (.sl tN))),(1,(.c ⟨.fn,(.mk 179 [((.sl (.sl tN)),0,[])])⟩)),(pv 7 tI),(pv 8 tI)],ob:=[(0,(.sz (.sl tN)))],lo:=1,nx:=1 }
abbrev a8D:List Ex:=[(.ret, { sl:=[(pv 4 tI)],ob:=[(0,(.sz (.sl tN)))],lo:=1,nx:=1 }),(.normal, { sl:=[],ob:=[(0,(.sz (.sl tN)))],lo:=1,nx:=1 })]
def a8E:Code:=aK (aI Tryz.f167) 0
def a0A:Lp:=bF a8C a8D 19 bY
def aqK:Con:=aO true [(.sl (.sl tN))] [.bool] λx=>AX x.1.1 x.1.2
def avn:Cx:=cx [] [(150,Tryz.f150,[]),(167,Tryz.f167,[(0,a0A)]),(179,Tryz.f179,[])]
def LV:Cx:=cx [] [(150,Tryz.f150,[]),(179,Tryz.f179,[])]
theorem I4:av Tryz.prog LV:=av.of mixed aD fz (fc ⟨⟨Tryz.func150,Tryz.call150,ah⟩,fc ⟨⟨Tryz.func179,Tryz.call179,ah⟩,fz⟩⟩)
theorem a8F:aX Tryz.prog 0 (.loop a8E) a0A:=aF I4 8 (ah) _ _ _ _ (by decide) λ_=>by kernel_rfl
theorem ahd:av Tryz.prog avn:=av.of mixed aD fz (fc ⟨⟨Tryz.func150,Tryz.call150,ah⟩,fc ⟨⟨Tryz.func167,Tryz.call167,aR (by kernel_rfl) (aC a8F (by kernel_rfl) fz)⟩,fc ⟨⟨Tryz.func179,Tryz.call179,ah⟩,fz⟩⟩⟩)
theorem ahe:aA Tryz.prog 161 aqK:=aB ahd 8 ⟨Tryz.func161,Tryz.call161,ah⟩ _ _ _ _ (by decide) (λx=>by rw[Gw];kernel_rfl)
abbrev aqL:Shape:= { sl:=[(pc 3 (.pair (.sp 131) (.sl (.int .u8))) 0),(22,(.sz (.sl tN))),(pv 23 tI),(pv 24 tI),(28,(.sz tN)),(pv 29 tI),(pv 30 tI)],ob:=[(0,(.p (.v (.sp 131)) (.w 5 (.int .u8) 6)))],lo:=6,nx:=7 }
abbrev aqM:List Ex:=[(.normal, { sl:=[(pc 3 (.pair (.sp 131) (.sl (.int .u8))) 0),(22,(.sz (.sl tN))),(pv 23 tI),(pv 24 tI)],ob:=[(0,(.p (.v (.sp 131)) (.w 5 (.int .u8) 7)))],lo:=7,nx:=8 })]
def aqN:Code:=aK (aI Tryz.f130) 2
def a8G:Lp:=bF aqL aqM 45 jk
abbrev a4p:Shape:= { sl:=[(pc 3 (.pair (.sp 131) (.sl (.int .u8))) 0),(22,(.sz (.sl tN))),(pv 23 tI),(pv 24 tI)],ob:=[(0,(.p (.v (.sp 131)) (.w 5 (.int .u8) 5)))],lo:=5,nx:=6 }
abbrev acX:List Ex:=[(.normal, { sl:=[(pc 3 (.pair (.sp 131) (.sl (.int .u8))) 0)],ob:=[(0,(.p (.v (.sp 131)) (.w 5 (.int .u8) 6)))],lo:=6,nx:=7 })]
def acY:Code:=aK (aI Tryz.f130) 0
def acZ:Lp:=bF a4p acX 45 gI
def aqO:Con:=aO true [(.sl (.sl tN))] [.str] λx=>yP x.1.1 x.1.2
def ahf:Cx:=cx [(161,aqK),(128,Gt),(132,al0)] [(89,Tryz.f89,[]),(129,Tryz.f129,[]),(48,Tryz.f48,[])]
theorem a3j:av Tryz.prog ahf:=av.of mixed aD (fc ⟨ahe,fc ⟨JV,fc ⟨aea,fz⟩⟩⟩) (fc ⟨⟨Tryz.func89,Tryz.call89,ah⟩,fc ⟨⟨Tryz.func129,Tryz.call129,ah⟩,fc ⟨⟨Tryz.func48,Tryz.call48,ah⟩,fz⟩⟩⟩)
theorem ad1:aX Tryz.prog 2 (.loop aqN) a8G:=aF a3j 8 (ah) _ _ _ _ (by decide) λ_=>by kernel_rfl
theorem aqP(x:a4p.X):wJ ahf [(2,a8G)] (fD ahf 8) acY (a4p.mkS 45 x) (lH 0 a4p acX)=gI x:=by kernel_rfl
theorem aqQ:aX Tryz.prog 0 (.loop acY) acZ:=aF a3j 8 (aR (by kernel_rfl) (aC ad1 (by kernel_rfl) fz)) _ _ _ _ (by decide) aqP
theorem aqR:dU Tryz.prog 130 Tryz.f130 [(2,a8G),(0,acZ)]:=⟨Tryz.func130,Tryz.call130,aR (by kernel_rfl) (aC ad1 (by kernel_rfl) (aC aqQ (by kernel_rfl) fz))⟩
theorem ahg:aA Tryz.prog 130 aqO:=aB a3j 8 aqR _ _ _ _ (by decide) (λx=>by rw[EU];kernel_rfl)
def aqS:Con:=aO true [(.sl (.sl tN))] [.str] λx=>wD x.1.1 x.1.2
def avo:Cx:=cx [(130,aqO),(55,ab0)] []
theorem ahh:av Tryz.prog avo:=av.of mixed aD (fc ⟨ahg,fc ⟨a3b,fz⟩⟩) fz
theorem ahi:aA Tryz.prog 119 aqS:=aB ahh 8 ⟨Tryz.func119,Tryz.call119,ah⟩ _ _ _ _ (by decide) (λx=>by rw[D9];kernel_rfl)
abbrev aqT:Shape:= { sl:=[(0,(.pz tGR)),(pc 5 (.pair tI (.sl tN)) 0),(25,(.sz (.sl tN))),(pv 26 tI),(pv 27 tI)],ob:=[(0,(.p (.v tI) (.sz tN)))],lo:=1,nx:=1 }
abbrev aqU:List Ex:=[(.ret, { sl:=[(6,(.v .bool))],ob:=[],lo:=1,nx:=1 }),(.normal, { sl:=[],ob:=[],lo:=1,nx:=1 })]
def aqV:Code:=aK (aI Tryz.f120) 0
def a8H:Lp:=bF aqT aqU 45 gJ
def aqW:Con:=aO true [(.ptr tGR),(.sl (.sl tN)),(.pair tI (.sl tN))] [.bool] λx=>tQ x.1 x.2.1.1 x.2.1.2 x.2.2.1
def ahj:Cx:=cx [(154,aqI)] []
theorem a8I:av Tryz.prog ahj:=av.of mixed aD (fc ⟨ah7,fz⟩) fz
theorem aqX:aX Tryz.prog 0 (.loop aqV) a8H:=aF a8I 8 (ah) _ _ _ _ (by decide) λ_=>by kernel_rfl
theorem aqY:dU Tryz.prog 120 Tryz.f120 [(0,a8H)]:=⟨Tryz.func120,Tryz.call120,aR (by kernel_rfl) (aC aqX (by kernel_rfl) fz)⟩
theorem avp(g:Z0r)(nm:Nat)(m:Nat->(SlV NI))(p:(Int×Z0d)):dJ ahj [(0,a8H)] (fD ahj 8) Tryz.f120 (nU [(.ptr tGR),(.sl (.sl tN)),(.pair tI (.sl tN))] (g,(nm,m),p,())) [] 0 (qw [.bool])=wC g nm m p:=by cases g<;>kernel_rfl
theorem ahk:aA Tryz.prog 120 aqW:=aB a8I 8 aqY _ _ _ _ (by decide) (λx=>by rw[EX];exact avp x.1 x.2.1.1 x.2.1.2 x.2.2.1)
end
end Go.Proofs.YtlohbhpbkieoeaaGreat
namespace Go.Proofs.YtlohbhpbkieoeaaGreat
noncomputable def aqZ:Con:=aO true [.str] [.bool] λx=>Hg x.1
noncomputable def avq:Cx:=cx [] []
theorem ahl:av Tryz.prog avq:=av.of mixed aD fz fz
theorem ahm:aA Tryz.prog 71 aqZ:=aB ahl 8 ⟨Tryz.func71,Tryz.call71,ah⟩ _ _ _ _ (by decide) (λx=>by rw[QV];kernel_rfl)
end Go.Proofs.YtlohbhpbkieoeaaGreat
namespace Go.Proofs.YtlohbhpbkieoeaaGreat
noncomputable section
abbrev avr:Shape:= { sl:=[(pv 0 tI),(pv 1 tI)],ob:=[],lo:=0,nx:=0 }
abbrev avs:List Shape:=[{ sl:=[(0,(.c ⟨(.ptr tSP),.nil⟩)),(pv 1 tI)],ob:=[],lo:=0,nx:=0 }, { sl:=[(pc 0 tSP 1),(pv 1 tI)],ob:=[(1,(.p (.v tI) (.p (.v tI) (.p (.w 9 .str 2) (.m tI tI 3)))))],lo:=2,nx:=4 }]
def ahn:Con:=nV avr avs λx=>oQ x.1.1 x.1.2.1
def avt:Cx:=cx [] []
theorem aho:av Tryz.prog avt:=av.of mixed aD fz fz
theorem a8J:aA Tryz.prog 69 ahn:=jB aho 8 ⟨Tryz.func69,Tryz.call69,ah⟩ 2 _ _ _ (by decide) (λx=>by rw[zS];kernel_rfl)
abbrev ad2:Shape:= { sl:=[(2,(.sz .str)),(10,(.c ⟨(.ptr tSP),.nil⟩)),(pv 12 tI),(33,(.sz tI)),(pv 34 tI),(pv 35 tI)],ob:=[],lo:=0,nx:=0 }
abbrev ar0:List Ex:=[(.ret, { sl:=[(8,(.c ⟨(.ptr tSP),.nil⟩)),(pv 9 tI)],ob:=[],lo:=0,nx:=0 }),(.normal, { sl:=[(2,(.sz .str)),(10,(.c ⟨(.ptr tSP),.nil⟩)),(pv 12 tI)],ob:=[],lo:=0,nx:=0 })]
def ar1:Code:=aK (aI Tryz.f28) 0
def ad3:Lp:=bF ad2 ar0 95 Ho
abbrev ad4:Shape:= { sl:=[(2,(.sz .str)),(10,(.c ⟨(.ptr tSP),.nil⟩)),(pv 12 tI),(61,(.sz .str)),(pv 62 tI),(pv 63 tI)],ob:=[],lo:=0,nx:=0 }
abbrev ar2:List Ex:=[(.ret, { sl:=[(8,(.c ⟨(.ptr tSP),.nil⟩)),(pv 9 tI)],ob:=[],lo:=0,nx:=0 }),(.normal, { sl:=[(2,(.sz .str)),(10,(.c ⟨(.ptr tSP),.nil⟩)),(pv 12 tI)],ob:=[],lo:=0,nx:=0 })]
def ar3:Code:=aK (aI Tryz.f28) 2
def ad5:Lp:=bF ad4 ar2 95 Hr
abbrev a8K:Shape:= { sl:=[(2,(.sz .str)),(pc 10 tSP 1),(pv 12 tI),(33,(.sz tI)),(pv 34 tI),(pv 35 tI)],ob:=[(1,(.p (.v tI) (.p (.v tI) (.p (.w 9 .str 4) (.m tI tI 5)))))],lo:=4,nx:=6 }
abbrev a8L:List Ex:=[(.ret, { sl:=[(8,(.c ⟨(.ptr tSP),.nil⟩)),(pv 9 tI)],ob:=[],lo:=6,nx:=6 }),(.normal, { sl:=[(2,(.sz .str)),(pc 10 tSP 1),(pv 12 tI)],ob:=[(1,ZZ9)],lo:=6,nx:=8 })]
def a8M:Code:=aK (aI Tryz.f28) 0
def a0B:Lp:=bF a8K a8L 95 cO
abbrev a8N:Shape:= { sl:=[(2,(.sz .str)),(pc 10 tSP 1),(pv 12 tI),(61,(.sz .str)),(pv 62 tI),(pv 63 tI)],ob:=[(1,(.p (.v tI) (.p (.v tI) (.p (.w 9 .str 8) (.m tI tI 9)))))],lo:=8,nx:=10 }
abbrev a8O:List Ex:=[(.ret, { sl:=[(8,(.c ⟨(.ptr tSP),.nil⟩)),(pv 9 tI)],ob:=[],lo:=10,nx:=10 }),(.normal, { sl:=[(2,(.sz .str)),(pc 10 tSP 1),(pv 12 tI)],ob:=[(1,(.p (.v tI) (.p (.v tI) (.p (.w 9 .str 10) (.m tI tI 11)))))],lo:=10,nx:=12 })]
def a8P:Code:=aK (aI Tryz.f28) 2
def a0C:Lp:=bF a8N a8O 95 bU
abbrev avu:Shape:= { sl:=[(pv 0 tI),(pv 1 tI),(2,(.sz .str)),(3,(.sz tI))],ob:=[],lo:=0,nx:=0 }
abbrev avv:List Shape:=[{ sl:=[(0,(.c ⟨(.ptr tSP),.nil⟩)),(pv 1 tI)],ob:=[],lo:=12,nx:=12 }, { sl:=[(pc 0 tSP 1),(pv 1 tI)],ob:=[(1,(.p (.v tI) (.p (.v tI) (.p (.w 9 .str 13) (.m tI tI 14)))))],lo:=13,nx:=15 }]
def ar4:Con:=nV avu avv λx=>zU x.1.1 x.1.2.1 x.1.2.2.1.1 x.1.2.2.1.2 x.1.2.2.2.1.1 x.1.2.2.2.1.2
def avw:Cx:=cx [(69,ahn),(70,a0x),(71,aqZ),(72,Nk)] []
theorem UL:av Tryz.prog avw:=av.of mixed aD (fc ⟨a8J,fc ⟨a2Y,fc ⟨ahm,fc ⟨Lm,fz⟩⟩⟩⟩) fz
theorem ar5:aX Tryz.prog 0 (.loop ar1) ad3:=aF UL 8 (ah) _ _ _ _ (by decide) λ_=>by kernel_rfl
theorem ar6:aX Tryz.prog 2 (.loop ar3) ad5:=aF UL 8 (ah) _ _ _ _ (by decide) λ_=>by kernel_rfl
theorem a8Q:aX Tryz.prog 0 (.loop a8M) a0B:=aF UL 8 (ah) _ _ _ _ (by decide) λ_=>by kernel_rfl
theorem a8R:aX Tryz.prog 2 (.loop a8P) a0C:=aF UL 8 (ah) _ _ _ _ (by decide) λ_=>by kernel_rfl
theorem ar7:dU Tryz.prog 28 Tryz.f28 [(0,(a5j ad2 ad3 a0B)),(2,(a5j ad4 ad5 a0C))]:=⟨Tryz.func28,Tryz.call28,aR (by kernel_rfl) (aC (RQ ar5 a8Q) (by kernel_rfl) (aC (RQ ar6 a8R) (by kernel_rfl) fz))⟩
theorem ahp:aA Tryz.prog 28 ar4:=jB UL 8 ar7 2 _ _ _ (by decide) (λx=>by rw[Kw];kernel_rfl)
abbrev avx:Shape:= { sl:=[(pc 0 tSP 0),(pv 1 tI)],ob:=[(0,(.p (.v tI) (.p (.v tI) (.p (.w 9 .str 1) (.m tI tI 2)))))],lo:=1,nx:=3 }
abbrev avy:List Shape:=[{ sl:=[(pv 0 tI)],ob:=[(0,(.p (.v tI) (.p (.v tI) (.p (.w 9 .str 3) (.m tI tI 4)))))],lo:=3,nx:=5 }]
def ahq:Con:=nV avx avy λx=>lX x.1.2.1 x.2.1.1 x.2.1.2.1 x.2.1.2.2.1.1 x.2.1.2.2.1.2 x.2.1.2.2.2
def avz:Cx:=cx [] []
theorem ahr:av Tryz.prog avz:=av.of mixed aD fz fz
theorem a8S:aA Tryz.prog 38 ahq:=jB ahr 8 ⟨Tryz.func38,Tryz.call38,ah⟩ 1 _ _ _ (by decide) (λx=>by rw[uL];kernel_rfl)
def ahs:Con:=aO true [(.ptr tSP),tI] [tI] λx=>Di x.1 x.2.1
def aht:Cx:=cx [] []
theorem ahu:av Tryz.prog aht:=av.of mixed aD fz fz
theorem avA(s:(Option Z0i))(end_:Int):dJ aht [] (fD aht 8) Tryz.f38 (nU [(.ptr tSP),tI] (s,end_,())) [] 0 (qw [tI])=u6 s end_:=by cases s<;>kernel_rfl
theorem a8T:aA Tryz.prog 38 ahs:=aB ahu 8 ⟨Tryz.func38,Tryz.call38,ah⟩ _ _ _ _ (by decide) (λx=>by rw[Jo];exact avA x.1 x.2.1)
abbrev avB:Shape:= { sl:=[(pc 0 tSP 0)],ob:=[(0,(.p (.v tI) (.p (.v tI) (.p (.w 9 .str 1) (.m tI tI 2)))))],lo:=1,nx:=3 }
abbrev avC:List Shape:=[{ sl:=[(0,(.sz .str))],ob:=[(0,(.p (.v tI) (.p (.v tI) (.p (.w 9 .str 4) (.m tI tI 5)))))],lo:=4,nx:=6 }]
def ahv:Con:=nV avB avC λx=>lY x.2.1.1 x.2.1.2.1 x.2.1.2.2.1.1 x.2.1.2.2.1.2 x.2.1.2.2.2
def avD:Cx:=cx [(72,Nk)] []
theorem ahw:av Tryz.prog avD:=av.of mixed aD (fc ⟨Lm,fz⟩) fz
theorem a8U:aA Tryz.prog 39 ahv:=jB ahw 8 ⟨Tryz.func39,Tryz.call39,ah⟩ 1 _ _ _ (by decide) (λx=>by rw[uM];kernel_rfl)
def ahx:Con:=aO false [(.ptr tSP)] [(.sl .str)] λx=>Dj x.1
def ahy:Cx:=cx [(72,Nk)] []
theorem ahz:av Tryz.prog ahy:=av.of mixed aD (fc ⟨Lm,fz⟩) fz
theorem avE(s:(Option Z0i)):dJ ahy [] (fD ahy 8) Tryz.f39 (nU [(.ptr tSP)] (s,())) [] 0 (qw [(.sl .str)])=u7 s:=by cases s<;>kernel_rfl
theorem a8V:aA Tryz.prog 39 ahx:=aB ahz 8 ⟨Tryz.func39,Tryz.call39,ah⟩ _ _ _ _ (by decide) (λx=>by rw[Jp];exact avE x.1)
end
end Go.Proofs.YtlohbhpbkieoeaaGreat
namespace Go.Proofs.YtlohbhpbkieoeaaGreat
noncomputable section
def ar8:Con:=aO true [tI] [.bool] λx=>Ef x.1
def avF:Cx:=cx [] []
theorem ahA:av Tryz.prog avF:=av.of mixed aD fz fz
theorem ahB:aA Tryz.prog 149 ar8:=aB ahA 8 ⟨Tryz.func149,Tryz.call149,ah⟩ _ _ _ _ (by decide) (λx=>by rw[F7];kernel_rfl)
def ab2:Con:=aO true [(.pair tI tI)] [.bool] λx=>vN x.1
def avG:Cx:=cx [(149,ar8)] []
theorem ahC:av Tryz.prog avG:=av.of mixed aD (fc ⟨ahB,fz⟩) fz
theorem a3k:aA Tryz.prog 116 ab2:=aB ahC 8 ⟨Tryz.func116,Tryz.call116,ah⟩ _ _ _ _ (by decide) (λx=>by rw[NP];kernel_rfl)
end
end Go.Proofs.YtlohbhpbkieoeaaGreat
namespace Go.Proofs.YtlohbhpbkieoeaaGreat
noncomputable section
abbrev avH:Shape:= { sl:=[(pv 0 tI)],ob:=[],lo:=0,nx:=0 }
abbrev avI:List Shape:=[{ sl:=[(0,(.c ⟨(.ptr tVT),(.rf 0 [])⟩)),(pv 1 tI)],ob:=[(0,(.v tVT))],lo:=1,nx:=1 }]
def a8W:Con:=nV avH avI λx=>pX x.1.1
def avJ:Cx:=cx [] []
theorem ahD:av Tryz.prog avJ:=av.of mixed aD fz fz
theorem Zc:aA Tryz.prog 85 a8W:=jB ahD 8 ⟨Tryz.func85,Tryz.call85,ah⟩ 2 _ _ _ (by decide) (λx=>by rw[F9];kernel_rfl)
abbrev avK:Shape:= { sl:=[(0,(.c ⟨(.ptr tVT),(.rf 0 [])⟩)),(pv 1 tI),(pv 2 (.pair tI tI)),(3,(.v .str))],ob:=[(0,(.v tVT))],lo:=1,nx:=1 }
abbrev avL:List Shape:=[{ sl:=[(0,(.v .bool))],ob:=[(0,(.v tVT))],lo:=2,nx:=2 }]
def ahE:Con:=nV avK avL λx=>nN x.1.2.1 x.1.2.2.1 x.1.2.2.2.1 x.2.1
def avM:Cx:=cx [(116,ab2)] [(127,Tryz.f127,[])]
theorem ahF:av Tryz.prog avM:=av.of mixed aD (fc ⟨a3k,fz⟩) (fc ⟨⟨Tryz.func127,Tryz.call127,ah⟩,fz⟩)
theorem a8X:aA Tryz.prog 121 ahE:=jB ahF 8 ⟨Tryz.func121,Tryz.call121,ah⟩ 1 _ _ _ (by decide) (λx=>by rw[xk];kernel_rfl)
def ahG:Con:=aO true [(.ptr tVT),tI,(.pair tI tI),.str] [.bool] λx=>F8 x.1 x.2.1 x.2.2.1 x.2.2.2.1
def ahH:Cx:=cx [(116,ab2)] [(127,Tryz.f127,[])]
theorem ahI:av Tryz.prog ahH:=av.of mixed aD (fc ⟨a3k,fz⟩) (fc ⟨⟨Tryz.func127,Tryz.call127,ah⟩,fz⟩)
theorem avN(v:(Option VT))(server:Int)(s:(Int×Int))(digest:ByteArray):dJ ahH [] (fD ahH 8) Tryz.f121 (nU [(.ptr tVT),tI,(.pair tI tI),.str] (v,server,s,digest,())) [] 0 (qw [.bool])=vO v server s digest:=by cases v<;>kernel_rfl
theorem a8Y:aA Tryz.prog 121 ahG:=aB ahI 8 ⟨Tryz.func121,Tryz.call121,ah⟩ _ _ _ _ (by decide) (λx=>by rw[LU];exact avN x.1 x.2.1 x.2.2.1 x.2.2.2.1)
def a3l:Con:=aO true [(.ptr tVT),tI,tI,tI] [(.pair tI tI),.str] λx=>jw x.1 x.2.1 x.2.2.1 x.2.2.2.1
def ahJ:Cx:=cx [] [(127,Tryz.f127,[])]
theorem ahK:av Tryz.prog ahJ:=av.of mixed aD fz (fc ⟨⟨Tryz.func127,Tryz.call127,ah⟩,fz⟩)
theorem avO(v:(Option VT))(server:Int)(client:Int)(odd:Int):dJ ahJ [] (fD ahJ 8) Tryz.f88 (nU [(.ptr tVT),tI,tI,tI] (v,server,client,odd,())) [] 0 (qw [(.pair tI tI),.str])=rz v server client odd:=by cases v<;>kernel_rfl
theorem Po:aA Tryz.prog 88 a3l:=aB ahK 8 ⟨Tryz.func88,Tryz.call88,ah⟩ _ _ _ _ (by decide) (λx=>by rw[Bh];exact avO x.1 x.2.1 x.2.2.1 x.2.2.2.1)
end
end Go.Proofs.YtlohbhpbkieoeaaGreat
namespace Go.Proofs.YtlohbhpbkieoeaaGreat
noncomputable section
abbrev a8Z:Shape:= { sl:=[(0,(.po tGR)),(pv 1 tI),(pv 2 tI),(pv 3 tI)],ob:=[],lo:=0,nx:=0 }
abbrev ar9:List Shape:=[{ sl:=[(0,(.c ⟨(.ptr tSV),.nil⟩)),(pv 1 tI)],ob:=[],lo:=4,nx:=4 }, { sl:=[(0,(.c ⟨(.ptr tSV),(.rf 5 [])⟩)),(pv 1 tI)],ob:=[(1,ZZ9),(5,(.p (.pz tGR) (.p (.v tI) (.p (.v tI) (.p (.v tI) (.p (.v tI) (.p (.c ⟨(.ptr tSP),(.rf 1 [])⟩) (.p (.bg .str tRC 8 none) (.sz tOU)))))))))],lo:=6,nx:=9 }]
def ara:Con:=nV a8Z ar9 λx=>uh x.1.1 x.1.2.1 x.1.2.2.1 x.1.2.2.2.1
def ahL:Cx:=cx [(68,aaU),(69,ahn)] []
theorem ahM:av Tryz.prog ahL:=av.of mixed aD (fc ⟨a2R,fc ⟨a8J,fz⟩⟩) fz
theorem avP(g:Z0r)(t:Int)(number:Int)(clients:Int):dJ ahL [] (fD ahL 8) Tryz.f27 ((nC a8Z.sl (show a8Z.X from((g,(t,(number,(clients,())))),())).1).map .v) (Jk a8Z ((g,(t,(number,(clients,())))),())) a8Z.nx (JC 2 ar9)=qM g t number clients:=by cases g<;>kernel_rfl
theorem ahN:aA Tryz.prog 27 ara:=jB ahM 8 ⟨Tryz.func27,Tryz.call27,ah⟩ 2 _ _ _ (by decide) (λx=>by rw[xS];exact avP x.1.1 x.1.2.1 x.1.2.2.1 x.1.2.2.2.1)
def ahO:Con:=aO true [tG] [.bool] λx=>bP x.1
def avQ:Cx:=cx [] []
theorem ahP:av Tryz.prog avQ:=av.of mixed aD fz fz
theorem a90:aA Tryz.prog 115 ahO:=aB ahP 8 ⟨Tryz.func115,Tryz.call115,ah⟩ _ _ _ _ (by decide) (λx=>by rw[Hz];kernel_rfl)
def ahQ:Con:=aO true [tI] [.bool] λx=>jl x.1
def avR:Cx:=cx [] []
theorem ahR:av Tryz.prog avR:=av.of mixed aD fz fz
theorem a92:aA Tryz.prog 117 ahQ:=aB ahR 8 ⟨Tryz.func117,Tryz.call117,ah⟩ _ _ _ _ (by decide) (λx=>by rw[yu];kernel_rfl)
abbrev avS:Shape:= { sl:=[(0,(.c ⟨(.ptr tSV),(.rf 0 [])⟩)),(1,ZZ2)],ob:=oS 2 3 4 [],lo:=2,nx:=5 }
abbrev avT:List Shape:=[{ sl:=[(0,(.v tPR)),(1,(.v .bool))],ob:=oS 8 9 10 [],lo:=8,nx:=11 }]
def ahS:Con:=nV avS avT λx=>aS x.1.2.1.1 x.1.2.1.2.1 x.1.2.1.2.2.1.1 x.1.2.1.2.2.1.2 x.1.2.1.2.2.2.1.1 x.1.2.1.2.2.2.1.2 x.1.2.1.2.2.2.2 x.2
def avU:Cx:=cx [(115,ahO),(116,ab2),(117,ahQ),(118,aqJ),(119,aqS),(120,aqW)] []
theorem ahT:av Tryz.prog avU:=av.of mixed aD (fc ⟨a90,fc ⟨a3k,fc ⟨a92,fc ⟨ahc,fc ⟨ahi,fc ⟨ahk,fz⟩⟩⟩⟩⟩⟩) fz
theorem a94:aA Tryz.prog 73 ahS:=jB ahT 8 ⟨Tryz.func73,Tryz.call73,ah⟩ 2 _ _ _ (by decide) (λx=>by rw[qh];kernel_rfl)
abbrev arb:Shape:= { sl:=[(0,(.c ⟨(.ptr tSV),(.rf 0 [])⟩)),(1,(.sz tV)),(6,(.c ⟨(.ptr tVT),(.rf 5 [])⟩)),(8,(.v .bool)),(23,(.sz tV)),(pv 24 tI),(pv 25 tI)],ob:=oS 6 7 8 [(5,(.v tVT))],lo:=6,nx:=9 }
abbrev ard:List Ex:=[(.normal, { sl:=[(0,(.c ⟨(.ptr tSV),(.rf 0 [])⟩)),(1,(.sz tV)),(6,(.c ⟨(.ptr tVT),(.rf 5 [])⟩)),(8,(.v .bool))],ob:=oS 9 10 11 [(5,(.v tVT))],lo:=9,nx:=12 })]
def arf:Code:=aK (aI Tryz.f74) 0
def ad6:Lp:=bF arb ard 81 bE
abbrev a95:Shape:= { sl:=[(1,(.c ⟨.fn,(.mk 87 [((.ptr tVT),12,[]),((.sl tV),13,[])])⟩)),(pv 4 tI),(pv 5 tI),(pv 10 tI),(pv 11 tI),(pv 14 tI),(pv 17 tI)],ob:=oS 22 23 24 [(5,(.v tVT)),(12,(.c ⟨(.ptr tVT),(.rf 5 [])⟩)),(13,(.w 62 tV 25))],lo:=22,nx:=26 }
abbrev a96:List Ex:=[(.normal, { sl:=[(1,(.c ⟨.fn,(.mk 87 [((.ptr tVT),12,[]),((.sl tV),13,[])])⟩)),(pv 4 tI),(pv 10 tI),(pv 11 tI),(pv 14 tI)],ob:=oS 26 27 28 [(5,(.v tVT)),(12,(.c ⟨(.ptr tVT),(.rf 5 [])⟩)),(13,(.w 62 tV 29))],lo:=26,nx:=30 })]
def a97:Code:=aK (aI Tryz.f86) 4
def UM:Lp:=bF a95 a96 30 bC
abbrev NS:Shape:= { sl:=[(1,(.c ⟨.fn,(.mk 87 [((.ptr tVT),12,[]),((.sl tV),13,[])])⟩)),(pv 4 tI),(pv 10 tI),(pv 11 tI),(pv 14 tI)],ob:=oS 18 19 20 [(5,(.v tVT)),(12,(.c ⟨(.ptr tVT),(.rf 5 [])⟩)),(13,(.w 62 tV 21))],lo:=18,nx:=22 }
abbrev a0D:List Ex:=[(.normal, { sl:=[(1,(.c ⟨.fn,(.mk 87 [((.ptr tVT),12,[]),((.sl tV),13,[])])⟩)),(pv 10 tI),(pv 11 tI)],ob:=oS 22 23 24 [(5,(.v tVT)),(12,(.c ⟨(.ptr tVT),(.rf 5 [])⟩)),(13,(.w 62 tV 25))],lo:=22,nx:=26 })]
def a0E:Code:=aK (aI Tryz.f86) 2
def UN:Lp:=bF NS a0D 30 bD
abbrev NT:Shape:= { sl:=[(1,(.c ⟨.fn,(.mk 87 [((.ptr tVT),12,[]),((.sl tV),13,[])])⟩)),(pv 10 tI),(pv 11 tI)],ob:=oS 14 15 16 [(5,(.v tVT)),(12,(.c ⟨(.ptr tVT),(.rf 5 [])⟩)),(13,(.w 62 tV 17))],lo:=14,nx:=18 }
abbrev a0F:List Ex:=[(.normal, { sl:=[],ob:=oS 18 19 20 [(5,(.v tVT)),(12,(.c ⟨(.ptr tVT),(.rf 5 [])⟩)),(13,(.w 62 tV 21))],lo:=18,nx:=22 })]
def a0G:Code:=aK (aI Tryz.f86) 0
def a0H:Lp:=bF NT a0F 30 aZ
abbrev arh:Shape:= { sl:=[(0,(.c ⟨(.ptr tSV),(.rf 0 [])⟩)),(1,(.sz tV)),(6,(.c ⟨(.ptr tVT),(.rf 5 [])⟩)),(8,(.v .bool)),(11,(.w 62 tV 22)),(pv 62 tI),(pv 63 tI)],ob:=oS 23 24 25 [(5,(.v tVT))],lo:=22,nx:=26 }
abbrev ari:List Ex:=[(.normal, { sl:=[(0,(.c ⟨(.ptr tSV),(.rf 0 [])⟩)),(6,(.c ⟨(.ptr tVT),(.rf 5 [])⟩)),(8,(.v .bool))],ob:=oS 26 27 28 [(5,(.v tVT))],lo:=26,nx:=29 })]
def arj:Code:=aK (aI Tryz.f74) 2
def ad7:Lp:=bF arh ari 81 bZ
abbrev avV:Shape:= { sl:=[(0,(.c ⟨(.ptr tSV),(.rf 0 [])⟩)),(1,(.sz tV))],ob:=oS 2 3 4 [],lo:=2,nx:=5 }
abbrev avW:List Shape:=[{ sl:=[(0,(.c ⟨(.ptr tVT),(.rf 5 [])⟩)),(1,(.v .bool))],ob:=oS 29 30 31 [(5,(.v tVT))],lo:=29,nx:=32 }]
def ark:Con:=nV avV avW λx=>jy x.1.2.1.1 x.1.2.1.2 x.2
def avX:Cx:=cx [(85,a8W),(121,Cy 0 ahE ahG),(88,a3l)] [(42,Tryz.f42,[]),(86,Tryz.f86,[(4,UM),(2,UN),(0,a0H)]),(87,Tryz.f87,[])]
def dR:Cx:=cx [(85,a8W),(121,Cy 0 ahE ahG),(88,a3l)] [(42,Tryz.f42,[]),(87,Tryz.f87,[])]
theorem jA:av Tryz.prog dR:=av.of mixed aD (fc ⟨Zc,fc ⟨wQ a8X a8Y,fc ⟨Po,fz⟩⟩⟩) (fc ⟨⟨Tryz.func42,Tryz.call42,ah⟩,fc ⟨⟨Tryz.func87,Tryz.call87,ah⟩,fz⟩⟩)
theorem a0I:aX Tryz.prog 4 (.loop a97) UM:=aF jA 8 (ah) _ _ _ _ (by decide) λ_=>by kernel_rfl
theorem a98(x:NS.X):wJ dR [(4,UM)] (fD dR 8) a0E (NS.mkS 30 x) (lH 2 NS a0D)=bD x:=by kernel_rfl
theorem a0J:aX Tryz.prog 2 (.loop a0E) UN:=aF jA 8 (aR (by kernel_rfl) (aC a0I (by kernel_rfl) fz)) _ _ _ _ (by decide) a98
theorem a99(x:NT.X):wJ dR [(2,UN)] (fD dR 8) a0G (NT.mkS 30 x) (lH 0 NT a0F)=aZ x:=by kernel_rfl
theorem a9a:aX Tryz.prog 0 (.loop a0G) a0H:=aF jA 8 (aR (by kernel_rfl) (aC a0J (by kernel_rfl) fz)) _ _ _ _ (by decide) a99
theorem a3m:av Tryz.prog avX:=av.of mixed aD (fc ⟨Zc,fc ⟨wQ a8X a8Y,fc ⟨Po,fz⟩⟩⟩) (fc ⟨⟨Tryz.func42,Tryz.call42,ah⟩,fc ⟨⟨Tryz.func86,Tryz.call86,aR (by kernel_rfl) (aC a0I (by kernel_rfl) (aC a0J (by kernel_rfl) (aC a9a (by kernel_rfl) fz)))⟩,fc ⟨⟨Tryz.func87,Tryz.call87,ah⟩,fz⟩⟩⟩)
theorem arl:aX Tryz.prog 0 (.loop arf) ad6:=aF a3m 8 (ah) _ _ _ _ (by decide) λ_=>by kernel_rfl
theorem arn:aX Tryz.prog 2 (.loop arj) ad7:=aF a3m 8 (ah) _ _ _ _ (by decide) λ_=>by kernel_rfl
theorem aro:dU Tryz.prog 74 Tryz.f74 [(0,ad6),(2,ad7)]:=⟨Tryz.func74,Tryz.call74,aR (by kernel_rfl) (aC arl (by kernel_rfl) (aC arn (by kernel_rfl) fz))⟩
theorem ahU:aA Tryz.prog 74 ark:=jB a3m 8 aro 2 _ _ _ (by decide) (λx=>by rw[uN];kernel_rfl)
abbrev avY:Shape:= { sl:=[(0,(.c ⟨(.ptr tSV),(.rf 0 [])⟩)),(pv 1 tI),(2,(.p ZZ2 (.p ZZ2 (.p ZZ2 (.v (.pair tI tI))))))],ob:=oS 2 3 4 [],lo:=2,nx:=5 }
abbrev avZ:List Shape:=[{ sl:=[(0,(.v tCL)),(1,(.v .bool))],ob:=oS 45 46 47 [],lo:=45,nx:=48 }]
def arp:Con:=nV avY avZ λx=>dP x.1.2.1 x.1.2.2.1.1.1 x.1.2.2.1.1.2.1 x.1.2.2.1.1.2.2.1.1 x.1.2.2.1.1.2.2.1.2 x.1.2.2.1.1.2.2.2.1.1 x.1.2.2.1.1.2.2.2.1.2 x.1.2.2.1.1.2.2.2.2 x.1.2.2.1.2.1.1 x.1.2.2.1.2.1.2.1 x.1.2.2.1.2.1.2.2.1.1 x.1.2.2.1.2.1.2.2.1.2 x.1.2.2.1.2.1.2.2.2.1.1 x.1.2.2.1.2.1.2.2.2.1.2 x.1.2.2.1.2.1.2.2.2.2 x.1.2.2.1.2.2.1.1 x.1.2.2.1.2.2.1.2.1 x.1.2.2.1.2.2.1.2.2.1.1 x.1.2.2.1.2.2.1.2.2.1.2 x.1.2.2.1.2.2.1.2.2.2.1.1 x.1.2.2.1.2.2.1.2.2.2.1.2 x.1.2.2.1.2.2.1.2.2.2.2 x.1.2.2.1.2.2.2 x.2
def aw0:Cx:=cx [(117,ahQ),(73,ahS),(115,ahO)] []
theorem ahV:av Tryz.prog aw0:=av.of mixed aD (fc ⟨a92,fc ⟨a94,fc ⟨a90,fz⟩⟩⟩) fz
theorem ahW:aA Tryz.prog 75 arp:=jB ahV 8 ⟨Tryz.func75,Tryz.call75,ah⟩ 2 _ _ _ (by decide) (λx=>by rw[nO];kernel_rfl)
abbrev arq:Shape:= { sl:=[(0,(.c ⟨(.ptr tSV),(.rf 0 [])⟩)),(12,(.c ⟨(.ptr tRC),(.rf 76 [])⟩)),(73,(.sz tT)),(pv 74 tI),(pv 75 tI)],ob:=oS 77 78 79 [(19,(.v tVT)),(49,(.v tVT)),(76,ZZ7)],lo:=77,nx:=80 }
abbrev ars:List Ex:=[(.normal, { sl:=[(0,(.c ⟨(.ptr tSV),(.rf 0 [])⟩)),(12,(.c ⟨(.ptr tRC),(.rf 76 [])⟩))],ob:=oS 80 81 82 [(19,(.v tVT)),(49,(.v tVT)),(76,ZZ7)],lo:=80,nx:=83 }),(.ret, { sl:=[(0,(.c ⟨(.ptr tSV),(.rf 0 [])⟩)),(4,(.c ⟨(.ptr tRC),.nil⟩)),(5,(.v .bool))],ob:=oS 128 129 130 [],lo:=128,nx:=131 })]
def aru:Code:=aK (aI Tryz.f29) 0
def ad8:Lp:=bF arq ars 98 bA
abbrev aw1:Shape:= { sl:=[(0,(.c ⟨(.ptr tSV),(.rf 0 [])⟩)),(1,ZZ4)],ob:=oS 2 3 4 [],lo:=2,nx:=5 }
abbrev aw2:List Shape:=[{ sl:=[(0,(.c ⟨(.ptr tRC),.nil⟩)),(1,(.v .bool))],ob:=oS 131 132 133 [],lo:=131,nx:=134 }, { sl:=[(0,(.c ⟨(.ptr tRC),(.rf 76 [])⟩)),(1,(.v .bool))],ob:=oS 83 84 85 [(19,(.v tVT)),(49,(.v tVT)),(76,ZZ7)],lo:=83,nx:=86 }]
def arv:Con:=nV aw1 aw2 λx=>dQ x.1.2.1.1 x.1.2.1.2.1.1 x.1.2.1.2.1.2.1 x.1.2.1.2.1.2.2.1.1 x.1.2.1.2.1.2.2.1.2 x.1.2.1.2.1.2.2.2.1.1 x.1.2.1.2.1.2.2.2.1.2 x.1.2.1.2.1.2.2.2.2 x.1.2.1.2.2.1.1 x.1.2.1.2.2.1.2 x.1.2.1.2.2.2.1.1 x.1.2.1.2.2.2.1.2 x.1.2.1.2.2.2.2.1 x.1.2.1.2.2.2.2.2 x.2
def aw3:Cx:=cx [(73,ahS),(74,ark),(75,arp)] []
theorem a9b:av Tryz.prog aw3:=av.of mixed aD (fc ⟨a94,fc ⟨ahU,fc ⟨ahW,fz⟩⟩⟩) fz
theorem arw:aX Tryz.prog 0 (.loop aru) ad8:=aF a9b 8 (ah) _ _ _ _ (by decide) λ_=>by kernel_rfl
theorem arx:dU Tryz.prog 29 Tryz.f29 [(0,ad8)]:=⟨Tryz.func29,Tryz.call29,aR (by kernel_rfl) (aC arw (by kernel_rfl) fz)⟩
theorem ahX:aA Tryz.prog 29 arv:=jB a9b 8 arx 2 _ _ _ (by decide) (λx=>by rw[nP];kernel_rfl)
abbrev ad9:Shape:= { sl:=[(3,(.c ⟨(.ptr tM),(.rf 0 [])⟩)),(6,(.c ⟨(.ptr tSV),.nil⟩)),(8,(.w 9 .str 5)),(30,(.sz tR)),(pv 31 tI),(pv 32 tI)],ob:=[(0,ZZ1)],lo:=5,nx:=6 }
abbrev arz:List Ex:=[(.normal, { sl:=[(3,(.c ⟨(.ptr tM),(.rf 0 [])⟩)),(6,(.c ⟨(.ptr tSV),.nil⟩)),(8,(.w 9 .str 6))],ob:=[(0,ZZ1)],lo:=6,nx:=7 })]
def arA:Code:=aK (aI Tryz.f8) 0
def ada:Lp:=bF ad9 arz 86 Fb
abbrev a9c:Shape:= { sl:=[(3,(.c ⟨(.ptr tM),(.rf 0 [])⟩)),(6,(.c ⟨(.ptr tSV),(.rf 6 [])⟩)),(8,(.w 9 .str 10)),(30,(.sz tR)),(pv 31 tI),(pv 32 tI)],ob:=[(0,ZZ1),(2,ZZe),(6,(.p (.pz tGR) (.p (.v tI) (.p (.v tI) (.p (.v tI) (.p (.v tI) (.p (.c ⟨(.ptr tSP),(.rf 2 [])⟩) (.p (.bg .str tRC 13 none) (.sz tOU)))))))))],lo:=10,nx:=14 }
abbrev a9d:List Ex:=[(.normal, { sl:=[(3,(.c ⟨(.ptr tM),(.rf 0 [])⟩)),(6,(.c ⟨(.ptr tSV),(.rf 6 [])⟩)),(8,(.w 9 .str 14))],ob:=[(0,ZZ1),(2,ZZ8),(6,(.p (.pz tGR) (.p (.v tI) (.p (.v tI) (.p (.v tI) (.p (.v tI) (.p (.c ⟨(.ptr tSP),(.rf 2 [])⟩) (.p (.bg .str tRC 17 none) (.sz tOU)))))))))],lo:=14,nx:=18 })]
def a9e:Code:=aK (aI Tryz.f8) 0
def a0K:Lp:=bF a9c a9d 86 gQ
abbrev adb:Shape:= { sl:=[(6,(.c ⟨(.ptr tSV),(.rf 6 [])⟩)),(63,(.sz tR)),(pv 64 tI),(pv 65 tI)],ob:=[(6,(.p (.pz tGR) (.p (.v tI) (.p (.v tI) (.p (.v tI) (.p (.v tI) (.p (.c ⟨(.ptr tSP),.nil⟩) (.p (.bg .str tRC 30 none) (.sz tOU)))))))))],lo:=30,nx:=31 }
abbrev arB:List Ex:=[(.normal, { sl:=[(6,(.c ⟨(.ptr tSV),(.rf 6 [])⟩))],ob:=[(6,(.p (.pz tGR) (.p (.v tI) (.p (.v tI) (.p (.v tI) (.p (.v tI) (.p (.c ⟨(.ptr tSP),.nil⟩) (.p (.bg .str tRC 31 none) (.sz tOU)))))))))],lo:=31,nx:=32 })]
def arC:Code:=aK (aI Tryz.f8) 2
def ade:Lp:=bF adb arB 86 Fg
abbrev a9f:Shape:= { sl:=[(6,(.c ⟨(.ptr tSV),(.rf 6 [])⟩)),(63,(.sz tR)),(pv 64 tI),(pv 65 tI)],ob:=[(6,(.p (.pz tGR) (.p (.v tI) (.p (.v tI) (.p (.v tI) (.p (.v tI) (.p (.c ⟨(.ptr tSP),(.rf 19 [])⟩) (.p (.bg .str tRC 33 none) (.sz tOU))))))))),(19,(.p (.v tI) (.p (.v tI) (.p (.w 9 .str 34) (.m tI tI 35)))))],lo:=33,nx:=36 }
abbrev a9g:List Ex:=[(.ret, { sl:=[(4,(.c ⟨(.ptr tSV),.nil⟩)),(pv 5 tI)],ob:=[],lo:=169,nx:=169 }),(.normal, { sl:=[(6,(.c ⟨(.ptr tSV),(.rf 6 [])⟩))],ob:=[(6,(.p (.pz tGR) (.p (.v tI) (.p (.v tI) (.p (.v tI) (.p (.v tI) (.p (.c ⟨(.ptr tSP),(.rf 19 [])⟩) (.p (.bg .str tRC 36 none) (.sz tOU))))))))),(19,(.p (.v tI) (.p (.v tI) (.p (.w 9 .str 37) (.m tI tI 38)))))],lo:=36,nx:=39 })]
def a9h:Code:=aK (aI Tryz.f8) 2
def a0L:Lp:=bF a9f a9g 86 dA
abbrev aw4:Shape:= { sl:=[(0,(.pz tGR)),(1,ZZ1)],ob:=[],lo:=0,nx:=0 }
abbrev aw5:List Shape:=[{ sl:=[(0,(.c ⟨(.ptr tSV),.nil⟩)),(pv 1 tI)],ob:=[],lo:=169,nx:=169 }, { sl:=[(0,(.c ⟨(.ptr tSV),(.rf 6 [])⟩)),(pv 1 tI)],ob:=[(6,(.p (.pz tGR) (.p (.v tI) (.p (.v tI) (.p (.v tI) (.p (.v tI) (.p (.c ⟨(.ptr tSP),(.rf 19 [])⟩) (.p (.bg .str tRC 39 none) (.sz tOU))))))))),(19,(.p (.v tI) (.p (.v tI) (.p (.w 9 .str 40) (.m tI tI 41)))))],lo:=39,nx:=42 }]
def ahY:Con:=nV aw4 aw5 λx=>oV x.1.1 x.1.2.1.1 x.1.2.1.2.1 x.1.2.1.2.2.1 x.1.2.1.2.2.2.1.1 x.1.2.1.2.2.2.1.2 x.1.2.1.2.2.2.2.1 x.1.2.1.2.2.2.2.2
def aw6:Cx:=cx [(27,ara),(28,ar4),(29,arv)] []
theorem UO:av Tryz.prog aw6:=av.of mixed aD (fc ⟨ahN,fc ⟨ahp,fc ⟨ahX,fz⟩⟩⟩) fz
theorem arD:aX Tryz.prog 0 (.loop arA) ada:=aF UO 8 (ah) _ _ _ _ (by decide) λ_=>by kernel_rfl
theorem a9i:aX Tryz.prog 0 (.loop a9e) a0K:=aF UO 8 (ah) _ _ _ _ (by decide) λ_=>by kernel_rfl
theorem arE:aX Tryz.prog 2 (.loop arC) ade:=aF UO 8 (ah) _ _ _ _ (by decide) λ_=>by kernel_rfl
theorem a9j:aX Tryz.prog 2 (.loop a9h) a0L:=aF UO 8 (ah) _ _ _ _ (by decide) λ_=>by kernel_rfl
theorem arF:dU Tryz.prog 8 Tryz.f8 [(0,(a5j ad9 ada a0K)),(2,(a5j adb ade a0L))]:=⟨Tryz.func8,Tryz.call8,aR (by kernel_rfl) (aC (RQ arD a9i) (by kernel_rfl) (aC (RQ arE a9j) (by kernel_rfl) fz))⟩
theorem a9k:aA Tryz.prog 8 ahY:=jB UO 8 arF 2 _ _ _ (by decide) (λx=>by rw[HZ];kernel_rfl)
def ahZ:Con:=aO false [tVA,tI] [tG] λx=>iY x.1 x.2.1
def aw7:Cx:=cx [] []
theorem ai0:av Tryz.prog aw7:=av.of mixed aD fz fz
theorem a9l:aA Tryz.prog 41 ahZ:=aB ai0 8 ⟨Tryz.func41,Tryz.call41,ah⟩ _ _ _ _ (by decide) (λx=>by rw[xV];kernel_rfl)
abbrev a9m:Shape:= { sl:=[(1,(.c ⟨.fn,(.mk 87 [((.ptr tVT),8,[]),((.sl tV),9,[])])⟩)),(pv 4 tI),(pv 5 tI),(pv 10 tI),(pv 11 tI),(pv 14 tI),(pv 17 tI)],ob:=[(0,ZZ3),(1,ZZ0),(2,(.v tVT)),(3,(.v tVT)),(4,ZZ6),(8,(.c ⟨(.ptr tVT),(.rf 2 [])⟩)),(9,(.w 62 tV 21))],lo:=18,nx:=22 }
abbrev a9n:List Ex:=[(.normal, { sl:=[(1,(.c ⟨.fn,(.mk 87 [((.ptr tVT),8,[]),((.sl tV),9,[])])⟩)),(pv 4 tI),(pv 10 tI),(pv 11 tI),(pv 14 tI)],ob:=[(0,ZZa),(1,ZZ0),(2,(.v tVT)),(3,(.v tVT)),(4,(.p (.v tI) (.p (.v tI) (.p (.w 9 .str 23) (.m tI tI 24))))),(8,(.c ⟨(.ptr tVT),(.rf 2 [])⟩)),(9,(.w 62 tV 25))],lo:=22,nx:=26 })]
def a9o:Code:=aK (aI Tryz.f86) 4
def UQ:Lp:=bF a9m a9n 30 bf
abbrev NU:Shape:= { sl:=[(1,(.c ⟨.fn,(.mk 87 [((.ptr tVT),8,[]),((.sl tV),9,[])])⟩)),(pv 4 tI),(pv 10 tI),(pv 11 tI),(pv 14 tI)],ob:=[(0,ZZ5),(1,ZZ0),(2,(.v tVT)),(3,(.v tVT)),(4,ZZ8),(8,(.c ⟨(.ptr tVT),(.rf 2 [])⟩)),(9,(.w 62 tV 17))],lo:=14,nx:=18 }
abbrev a0M:List Ex:=[(.normal, { sl:=[(1,(.c ⟨.fn,(.mk 87 [((.ptr tVT),8,[]),((.sl tV),9,[])])⟩)),(pv 10 tI),(pv 11 tI)],ob:=[(0,ZZ3),(1,ZZ0),(2,(.v tVT)),(3,(.v tVT)),(4,ZZ6),(8,(.c ⟨(.ptr tVT),(.rf 2 [])⟩)),(9,(.w 62 tV 21))],lo:=18,nx:=22 })]
def a0N:Code:=aK (aI Tryz.f86) 2
def UR:Lp:=bF NU a0M 30 bn
abbrev NV:Shape:= { sl:=[(1,(.c ⟨.fn,(.mk 87 [((.ptr tVT),8,[]),((.sl tV),9,[])])⟩)),(pv 10 tI),(pv 11 tI)],ob:=[(0,ZZb),(1,ZZ0),(2,(.v tVT)),(3,(.v tVT)),(4,ZZe),(8,(.c ⟨(.ptr tVT),(.rf 2 [])⟩)),(9,(.w 62 tV 13))],lo:=10,nx:=14 }
abbrev a0O:List Ex:=[(.normal, { sl:=[],ob:=[(0,ZZ5),(1,ZZ0),(2,(.v tVT)),(3,(.v tVT)),(4,ZZ8),(8,(.c ⟨(.ptr tVT),(.rf 2 [])⟩)),(9,(.w 62 tV 17))],lo:=14,nx:=18 })]
def a0P:Code:=aK (aI Tryz.f86) 0
def a0Q:Lp:=bF NV a0O 30 bq
abbrev a3n:Shape:= { sl:=[(0,(.c ⟨(.ptr tSV),(.rf 0 [])⟩)),(1,(.c ⟨(.ptr tVT),(.rf 2 [])⟩))],ob:=[(0,ZZc),(1,ZZ0),(2,(.v tVT)),(3,(.v tVT)),(4,ZZ9)],lo:=5,nx:=8 }
abbrev uq:Shape:= { sl:=[(0,(.sz tV))],ob:=[(0,ZZ3),(1,ZZ0),(2,(.v tVT)),(3,(.v tVT)),(4,ZZ6)],lo:=18,nx:=21 }
abbrev ai1:List Shape:=[uq]
def ai2:Con:=Tk 1 a3n (nV a3n ai1 λx=>iC x.2)
def ai3:Cx:=cx [(88,a3l)] [(86,Tryz.f86,[(4,UQ),(2,UR),(0,a0Q)]),(87,Tryz.f87,[])]
def dB:Cx:=cx [(88,a3l)] [(87,Tryz.f87,[])]
theorem iM:av Tryz.prog dB:=av.of mixed aD (fc ⟨Po,fz⟩) (fc ⟨⟨Tryz.func87,Tryz.call87,ah⟩,fz⟩)
theorem a0R:aX Tryz.prog 4 (.loop a9o) UQ:=aF iM 8 (ah) _ _ _ _ (by decide) λ_=>by kernel_rfl
theorem a9p(x:NU.X):wJ dB [(4,UQ)] (fD dB 8) a0N (NU.mkS 30 x) (lH 2 NU a0M)=bn x:=by kernel_rfl
theorem a0S:aX Tryz.prog 2 (.loop a0N) UR:=aF iM 8 (aR (by kernel_rfl) (aC a0R (by kernel_rfl) fz)) _ _ _ _ (by decide) a9p
theorem a9q(x:NV.X):wJ dB [(2,UR)] (fD dB 8) a0P (NV.mkS 30 x) (lH 0 NV a0O)=bq x:=by kernel_rfl
theorem a9r:aX Tryz.prog 0 (.loop a0P) a0Q:=aF iM 8 (aR (by kernel_rfl) (aC a0S (by kernel_rfl) fz)) _ _ _ _ (by decide) a9q
theorem ai4:av Tryz.prog ai3:=av.of mixed aD (fc ⟨Po,fz⟩) (fc ⟨⟨Tryz.func86,Tryz.call86,aR (by kernel_rfl) (aC a0R (by kernel_rfl) (aC a0S (by kernel_rfl) (aC a9r (by kernel_rfl) fz)))⟩,fc ⟨⟨Tryz.func87,Tryz.call87,ah⟩,fz⟩⟩)
theorem arG:dU Tryz.prog 42 Tryz.f42 []:=⟨Tryz.func42,Tryz.call42,ah⟩
theorem aw8(o:SR):dJ ai3 [] (fD ai3 8) Tryz.f42 ((nC a3n.sl (show a3n.X from(((),((),())),o)).1).map .v) (Jk a3n (((),((),())),o)) a3n.nx (JC 1 ai1)=jC o:=by kernel_rfl
theorem a9s:aA Tryz.prog 42 ai2:=a4d (osh:=uq) (YE ⟨λpv s=>(pv,s),λhr hv=>⟨_,hr,hv,Later.refl _ _⟩⟩ ai4 8 arG 1 a3n ai1 _ (by decide) (λx y h=>by
  rw[l8]at h;have h1:=(Aw h).1;rw[sI]at h1;exact(aw8 x.2).trans h1)) (λx y h=>by
  rw[l8]at h;exact congrArg (λz=>some (PO.obj _ (Pat.mk ZZ0 z))) (Aw h).2) rfl rfl (by decide) rfl rfl (by decide)
abbrev a9t:Shape:= { sl:=[(1,(.c ⟨.fn,(.mk 87 [((.ptr tVT),8,[]),((.sl tV),9,[])])⟩)),(pv 4 tI),(pv 5 tI),(pv 10 tI),(pv 11 tI),(pv 14 tI),(pv 17 tI)],ob:=[(0,ZZ3),(1,ZZ0),(2,(.v tVT)),(3,(.v tVT)),(4,ZZ6),(8,(.c ⟨(.ptr tVT),(.rf 3 [])⟩)),(9,(.w 62 tV 21))],lo:=18,nx:=22 }
abbrev a9u:List Ex:=[(.normal, { sl:=[(1,(.c ⟨.fn,(.mk 87 [((.ptr tVT),8,[]),((.sl tV),9,[])])⟩)),(pv 4 tI),(pv 10 tI),(pv 11 tI),(pv 14 tI)],ob:=[(0,ZZa),(1,ZZ0),(2,(.v tVT)),(3,(.v tVT)),(4,(.p (.v tI) (.p (.v tI) (.p (.w 9 .str 23) (.m tI tI 24))))),(8,(.c ⟨(.ptr tVT),(.rf 3 [])⟩)),(9,(.w 62 tV 25))],lo:=22,nx:=26 })]
def a9v:Code:=aK (aI Tryz.f86) 4
def UU:Lp:=bF a9t a9u 30 aU
abbrev NW:Shape:= { sl:=[(1,(.c ⟨.fn,(.mk 87 [((.ptr tVT),8,[]),((.sl tV),9,[])])⟩)),(pv 4 tI),(pv 10 tI),(pv 11 tI),(pv 14 tI)],ob:=[(0,ZZ5),(1,ZZ0),(2,(.v tVT)),(3,(.v tVT)),(4,ZZ8),(8,(.c ⟨(.ptr tVT),(.rf 3 [])⟩)),(9,(.w 62 tV 17))],lo:=14,nx:=18 }
abbrev a0T:List Ex:=[(.normal, { sl:=[(1,(.c ⟨.fn,(.mk 87 [((.ptr tVT),8,[]),((.sl tV),9,[])])⟩)),(pv 10 tI),(pv 11 tI)],ob:=[(0,ZZ3),(1,ZZ0),(2,(.v tVT)),(3,(.v tVT)),(4,ZZ6),(8,(.c ⟨(.ptr tVT),(.rf 3 [])⟩)),(9,(.w 62 tV 21))],lo:=18,nx:=22 })]
def a0U:Code:=aK (aI Tryz.f86) 2
def UW:Lp:=bF NW a0T 30 aV
abbrev NY:Shape:= { sl:=[(1,(.c ⟨.fn,(.mk 87 [((.ptr tVT),8,[]),((.sl tV),9,[])])⟩)),(pv 10 tI),(pv 11 tI)],ob:=[(0,ZZb),(1,ZZ0),(2,(.v tVT)),(3,(.v tVT)),(4,ZZe),(8,(.c ⟨(.ptr tVT),(.rf 3 [])⟩)),(9,(.w 62 tV 13))],lo:=10,nx:=14 }
abbrev a0V:List Ex:=[(.normal, { sl:=[],ob:=[(0,ZZ5),(1,ZZ0),(2,(.v tVT)),(3,(.v tVT)),(4,ZZ8),(8,(.c ⟨(.ptr tVT),(.rf 3 [])⟩)),(9,(.w 62 tV 17))],lo:=14,nx:=18 })]
def a0W:Code:=aK (aI Tryz.f86) 0
def a0X:Lp:=bF NY a0V 30 aW
abbrev a3o:Shape:= { sl:=[(0,(.c ⟨(.ptr tSV),(.rf 0 [])⟩)),(1,(.c ⟨(.ptr tVT),(.rf 3 [])⟩))],ob:=[(0,ZZc),(1,ZZ0),(2,(.v tVT)),(3,(.v tVT)),(4,ZZ9)],lo:=5,nx:=8 }
abbrev sJ:Shape:= { sl:=[(0,(.sz tV))],ob:=[(0,ZZ3),(1,ZZ0),(2,(.v tVT)),(3,(.v tVT)),(4,ZZ6)],lo:=18,nx:=21 }
abbrev ai5:List Shape:=[sJ]
def ai6:Con:=Tk 1 a3o (nV a3o ai5 λx=>fV x.2)
def ai7:Cx:=cx [(88,a3l)] [(86,Tryz.f86,[(4,UU),(2,UW),(0,a0X)]),(87,Tryz.f87,[])]
def d9:Cx:=cx [(88,a3l)] [(87,Tryz.f87,[])]
theorem iD:av Tryz.prog d9:=av.of mixed aD (fc ⟨Po,fz⟩) (fc ⟨⟨Tryz.func87,Tryz.call87,ah⟩,fz⟩)
theorem a0Y:aX Tryz.prog 4 (.loop a9v) UU:=aF iD 8 (ah) _ _ _ _ (by decide) λ_=>by kernel_rfl
theorem a9w(x:NW.X):wJ d9 [(4,UU)] (fD d9 8) a0U (NW.mkS 30 x) (lH 2 NW a0T)=aV x:=by kernel_rfl
theorem a0Z:aX Tryz.prog 2 (.loop a0U) UW:=aF iD 8 (aR (by kernel_rfl) (aC a0Y (by kernel_rfl) fz)) _ _ _ _ (by decide) a9w
theorem a9x(x:NY.X):wJ d9 [(2,UW)] (fD d9 8) a0W (NY.mkS 30 x) (lH 0 NY a0V)=aW x:=by kernel_rfl
theorem a9y:aX Tryz.prog 0 (.loop a0W) a0X:=aF iD 8 (aR (by kernel_rfl) (aC a0Z (by kernel_rfl) fz)) _ _ _ _ (by decide) a9x
theorem ai8:av Tryz.prog ai7:=av.of mixed aD (fc ⟨Po,fz⟩) (fc ⟨⟨Tryz.func86,Tryz.call86,aR (by kernel_rfl) (aC a0Y (by kernel_rfl) (aC a0Z (by kernel_rfl) (aC a9y (by kernel_rfl) fz)))⟩,fc ⟨⟨Tryz.func87,Tryz.call87,ah⟩,fz⟩⟩)
theorem arH:dU Tryz.prog 42 Tryz.f42 []:=⟨Tryz.func42,Tryz.call42,ah⟩
theorem aw9(o:SR):dJ ai7 [] (fD ai7 8) Tryz.f42 ((nC a3o.sl (show a3o.X from(((),((),())),o)).1).map .v) (Jk a3o (((),((),())),o)) a3o.nx (JC 1 ai5)=iZ o:=by kernel_rfl
theorem a9z:aA Tryz.prog 42 ai6:=a4d (osh:=sJ) (YE ⟨λpv s=>(pv,s),λhr hv=>⟨_,hr,hv,Later.refl _ _⟩⟩ ai8 8 arH 1 a3o ai5 _ (by decide) (λx y h=>by
  rw[kG]at h;have h1:=(Aw h).1;rw[qO]at h1;exact(aw9 x.2).trans h1)) (λx y h=>by
  rw[kG]at h;exact congrArg (λz=>some (PO.obj _ (Pat.mk ZZ0 z))) (Aw h).2) rfl rfl (by decide) rfl rfl (by decide)
abbrev arI:Shape:= { sl:=[(0,(.c ⟨(.ptr tSV),(.rf 0 [])⟩)),(2,(.c ⟨(.ptr tM),(.rf 5 [])⟩)),(3,(.c ⟨(.ptr tM),(.rf 6 [])⟩)),(pv 40 tI),(pv 41 tI)],ob:=oS 7 8 9 [(5,ZZf),(6,(.p (.v tI) (.p (.v tI) (.p (.v tI) (.p (.w 3 tI 10) (.c ⟨(.sl tR),.nil⟩))))))],lo:=7,nx:=11 }
abbrev arJ:List Ex:=[(.normal, { sl:=[(0,(.c ⟨(.ptr tSV),(.rf 0 [])⟩)),(2,(.c ⟨(.ptr tM),(.rf 5 [])⟩)),(3,(.c ⟨(.ptr tM),(.rf 6 [])⟩))],ob:=oS 11 12 13 [(5,ZZf),(6,(.p (.v tI) (.p (.v tI) (.p (.v tI) (.p (.w 3 tI 14) (.c ⟨(.sl tR),.nil⟩))))))],lo:=11,nx:=15 })]
def arK:Code:=aK (aI Tryz.f12) 0
def adf:Lp:=bF arI arJ 101 bJ
abbrev a9A:Shape:= { sl:=[(1,(.c ⟨(.ptr tRC),(.rf 25 [])⟩)),(2,(.c ⟨.fn,(.mk 44 [(tR,60,[])])⟩)),(pv 10 tI),(pv 11 tI)],ob:=[(0,(.p (.pz tGR) (.p (.v tI) (.p (.v tI) (.p (.v tI) (.p (.v tI) (.p (.c ⟨(.ptr tSP),(.rf 1 [])⟩) (.p (.bg .str tRC 61 (some 25)) (.sz tOU))))))))),(1,(.p (.v tI) (.p (.v tI) (.p (.w 9 .str 62) (.m tI tI 63))))),(5,ZZ1),(6,(.p (.v tI) (.p (.v tI) (.p (.v tI) (.p (.w 3 tI 64) (.w 59 tR 65)))))),(25,ZZd),(26,(.v tVT)),(27,(.v tVT)),(60,(.p (.v .str) (.p ZZ2 (.p (.sz tV) (.p (.sz tV) (.w 64 tT 66))))))],lo:=61,nx:=67 }
abbrev a9B:List Ex:=[(.normal, { sl:=[],ob:=[(0,(.p (.pz tGR) (.p (.v tI) (.p (.v tI) (.p (.v tI) (.p (.v tI) (.p (.c ⟨(.ptr tSP),(.rf 1 [])⟩) (.p (.bg .str tRC 67 (some 25)) (.sz tOU))))))))),(1,(.p (.v tI) (.p (.v tI) (.p (.w 9 .str 68) (.m tI tI 69))))),(5,ZZ1),(6,(.p (.v tI) (.p (.v tI) (.p (.v tI) (.p (.w 3 tI 70) (.w 59 tR 71)))))),(25,ZZd),(26,(.v tVT)),(27,(.v tVT)),(60,(.p (.v .str) (.p ZZ2 (.p (.sz tV) (.p (.sz tV) (.w 64 tT 72))))))],lo:=67,nx:=73 })]
def a9C:Code:=aK (aI Tryz.f43) 0
def a10:Lp:=bF a9A a9B 24 bB
abbrev arL:Shape:= { sl:=[(0,(.c ⟨(.ptr tSV),(.rf 0 [])⟩)),(2,(.c ⟨(.ptr tM),(.rf 5 [])⟩)),(3,(.c ⟨(.ptr tM),(.rf 6 [])⟩)),(61,(.sz .str)),(pv 62 tI),(pv 63 tI)],ob:=oS 20 21 22 [(5,ZZ1),(6,(.p (.v tI) (.p (.v tI) (.p (.v tI) (.p (.w 3 tI 23) (.w 59 tR 24))))))],lo:=20,nx:=25 }
abbrev arM:List Ex:=[(.normal, { sl:=[(0,(.c ⟨(.ptr tSV),(.rf 0 [])⟩)),(2,(.c ⟨(.ptr tM),(.rf 5 [])⟩)),(3,(.c ⟨(.ptr tM),(.rf 6 [])⟩))],ob:=oS 25 26 27 [(5,ZZ1),(6,(.p (.v tI) (.p (.v tI) (.p (.v tI) (.p (.w 3 tI 28) (.w 59 tR 29))))))],lo:=25,nx:=30 })]
def arN:Code:=aK (aI Tryz.f12) 2
def adg:Lp:=bF arL arM 101 bK
abbrev awc:Shape:= { sl:=[(0,(.c ⟨(.ptr tSV),(.rf 0 [])⟩))],ob:=oS 2 3 4 [],lo:=2,nx:=5 }
abbrev awd:List Shape:=[{ sl:=[(0,(.p (.v tI) (.p (.v tI) (.p (.v tI) (.p (.w 3 tI 30) (.w 59 tR 31))))))],ob:=oS 32 33 34 [],lo:=30,nx:=35 }]
def ai9:Con:=nV awc awd λx=>bQ x.2
def awe:Cx:=cx [(38,Cy 0 ahq ahs),(39,Cy 0 ahv ahx),(85,a8W),(41,ahZ),(42,a2F [.R,.R,.R,.R,.R,.R,.L] [.R,.R,.L] ai2 ai6)] [(40,Tryz.f40,[]),(43,Tryz.f43,[(0,(aiN 60 [.R,.R,.R,.R] a10))]),(44,Tryz.f44,[])]
def yU:Cx:=cx [(38,Cy 0 ahq ahs),(39,Cy 0 ahv ahx),(85,a8W),(41,ahZ),(42,a2F [.R,.R,.R,.R,.R,.R,.L] [.R,.R,.L] ai2 ai6)] [(40,Tryz.f40,[]),(44,Tryz.f44,[])]
theorem xw:av Tryz.prog yU:=av.of mixed aD (fc ⟨wQ a8S a8T,fc ⟨wQ a8U a8V,fc ⟨Zc,fc ⟨a9l,fc ⟨a4e a9s a9z,fz⟩⟩⟩⟩⟩) (fc ⟨⟨Tryz.func40,Tryz.call40,ah⟩,fc ⟨⟨Tryz.func44,Tryz.call44,ah⟩,fz⟩⟩)
theorem a9D:aX Tryz.prog 0 (.loop a9C) a10:=aF xw 8 (ah) _ _ _ _ (by decide) λ_=>by kernel_rfl
theorem a3p:av Tryz.prog awe:=av.of mixed aD (fc ⟨wQ a8S a8T,fc ⟨wQ a8U a8V,fc ⟨Zc,fc ⟨a9l,fc ⟨a4e a9s a9z,fz⟩⟩⟩⟩⟩) (fc ⟨⟨Tryz.func40,Tryz.call40,ah⟩,fc ⟨⟨Tryz.func43,Tryz.call43,aR (by kernel_rfl) (aC (aaN 60 [.R,.R,.R,.R] a9D) (by kernel_rfl) fz)⟩,fc ⟨⟨Tryz.func44,Tryz.call44,ah⟩,fz⟩⟩⟩)
theorem arO:aX Tryz.prog 0 (.loop arK) adf:=aF a3p 8 (ah) _ _ _ _ (by decide) λ_=>by kernel_rfl
theorem arP:aX Tryz.prog 2 (.loop arN) adg:=aF a3p 8 (ah) _ _ _ _ (by decide) λ_=>by kernel_rfl
theorem arQ:dU Tryz.prog 12 Tryz.f12 [(0,adf),(2,adg)]:=⟨Tryz.func12,Tryz.call12,aR (by kernel_rfl) (aC arO (by kernel_rfl) (aC arP (by kernel_rfl) fz))⟩
theorem a9E:aA Tryz.prog 12 ai9:=jB a3p 8 arQ 1 _ _ _ (by decide) (λx=>by rw[qP];kernel_rfl)
def aia:Con:=aO false [(.ptr tSV)] [tM] λx=>iO x.1
def aib:Cx:=cx [] []
theorem aic:av Tryz.prog aib:=av.of mixed aD fz fz
theorem awf(s:Z0A):dJ aib [] (fD aib 8) Tryz.f12 (nU [(.ptr tSV)] (s,())) [] 0 (qw [tM])=oW s:=by cases s<;>kernel_rfl
theorem a9F:aA Tryz.prog 12 aia:=aB aic 8 ⟨Tryz.func12,Tryz.call12,ah⟩ _ _ _ _ (by decide) (λx=>by rw[Ej];exact awf x.1)
end
end Go.Proofs.YtlohbhpbkieoeaaGreat
