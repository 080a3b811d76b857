/-
  The functions of the program are the plain ones.
-/
import Derived.Test.YtldlihheppdhnaaGreatProg
import Derived.Test.YtldlihheppdhnaaGreatDenM
import Derived.KernelRfl
import Derived.Test.YtldlihheppdhnaaGreatPlA
set_option linter.unusedVariables false
set_option linter.unusedSimpArgs false
set_option maxRecDepth 100000
set_option maxHeartbeats 0
namespace Go.Pl
end Go.Pl
open Go Go.Den Go.Pl
namespace Go.Proofs.YtldlihheppdhnaaGreat
noncomputable section
abbrev tN:Ty:=.arr 4 (.int .u64)
abbrev tU:Ty:=.int .u64
abbrev tI:Ty:=.int .i64
abbrev pc(i:Nat)(t:Ty)(r:Nat):Nat×Pat:=(i,.c ⟨.ptr t,.rf r []⟩)
abbrev pv(i:Nat)(t:Ty):Nat×Pat:=(i,.v t)
theorem fc {α:Type _}{p:α->Prop}{a:α}{l:List α}(h:p a/\ ∀x∈l,p x): ∀x∈a::l,p x:=axW.2 h
theorem fz {α:Type _}{p:α->Prop} : ∀x∈([]:List α),p x:=List.forall_mem_nil _
abbrev oSV(s:Nat)(q:Option Nat)(a:Nat)(w:Pat):Nat×Pat:=(0,.p (.pz tGR) (.p (.v tI) (.p (.v tI) (.p (.v tI) (.p (.v tI) (.p (.c ⟨.ptr tSP,.rf s []⟩) (.p (.bg .str tRC a q) w)))))))
abbrev oSP(s a b:Nat):Nat×Pat:=(s,.p (.v tI) (.p (.v tI) (.p (.w 9 .str a) (.m tI tI b))))
abbrev oS(a b c:Nat)(l:List (Nat×Pat)):List (Nat×Pat):=oSV 1 none a (.sz tOU)::oSP 1 b c::l
abbrev oW(a b c d:Nat)(l:List (Nat×Pat)):List (Nat×Pat):=oSV 1 none a (.w 60 tOU b)::oSP 1 c d::l
abbrev ZZ0:Pat:=.p (.v tVA) (.p (.v .str) (.p (.c ⟨(.ptr tVT),(.rf 2 [])⟩) (.p (.c ⟨(.ptr tVT),(.rf 3 [])⟩) (.v (.arr 4 tCL)))))
abbrev ZZ1:Pat:=.p (.pz tGR) (.p (.v tI) (.p (.v tI) (.p (.v tI) (.p (.v tI) (.p (.c ⟨(.ptr tSP),(.rf 4 [])⟩) (.p (.bg .str tRC 5 (some 1)) (.w 60 tOU 6)))))))
abbrev ZZ2:Pat:=.p (.v tI) (.p (.v tI) (.p (.v .str) (.p (.v (.pair tI tI)) (.p (.v .str) (.p (.sz (.sl tN)) (.sz tN))))))
abbrev ZZ3:Pat:=.p (.v tI) (.p (.v tI) (.p (.w 9 .str 7) (.m tI tI 8)))
abbrev ZZ4:Pat:=.p (.v tVA) (.p (.v .str) (.p (.c ⟨(.ptr tVT),(.rf 1 [])⟩) (.p (.c ⟨(.ptr tVT),(.rf 2 [])⟩) (.v (.arr 4 tCL)))))
abbrev ZZ5:Pat:=.p (.pz tGR) (.p (.v tI) (.p (.v tI) (.p (.v tI) (.p (.v tI) (.p (.c ⟨(.ptr tSP),(.rf 4 [])⟩) (.p (.bg .str tRC 51 (some 1)) (.w 60 tOU 52)))))))
abbrev ZZ6:Pat:=.p (.v tVA) (.p (.v .str) (.p (.c ⟨(.ptr tVT),(.rf 16 [])⟩) (.p (.c ⟨(.ptr tVT),(.rf 17 [])⟩) (.v (.arr 4 tCL)))))
abbrev ZZ7:Pat:=.p (.v tI) (.p (.v tI) (.p (.w 9 .str 1) (.m tI tI 2)))
abbrev fd(n:String)(t o b:Nat)(p:= "")(e:=false):Field:=⟨n,t,o,e, "",p,b⟩
abbrev atp:Ty:=.arr 256 .bool
abbrev akg:Ty:=.sl (.int .u8)
abbrev y44:Ty:=.sl (.int .i64)
abbrev atq:Ty:=.ptr (.int .u8)
abbrev atr:Ty:=.sl (.int .u64)
abbrev att:Ty:=.sl (.int .u32)
abbrev atu:Ty:=.arr 8 (.int .u8)
abbrev y75:Ty:=.arr 4 (.int .u64)
abbrev atv:Ty:=.arr 8 (.int .i64)
abbrev akh:Ty:=.arr 8 (.int .u32)
abbrev aki:Ty:=.arr 64 (.int .u8)
abbrev atw:Ty:=.arr 8 (.int .u64)
abbrev atx:Ty:=.arr 6 (.int .u64)
abbrev aty:Ty:=.arr 64 (.int .i64)
abbrev atz:Ty:=.arr 64 (.int .u32)
abbrev atA:Ty:=.arr 32 (.int .i64)
abbrev y39:Ty:=.sl y75
abbrev akj:Ty:=.arr 16 y75
abbrev y31:Ty:=.pair (.int .i64) (.int .i64)
abbrev y38:Ty:=.sl y39
abbrev atB:Ty:=.pair (.sp 244) akg
abbrev atC:Ty:=.sl akj
abbrev akk:Ty:=.pair y75 (.int .i64)
abbrev atD:Ty:=.pair (.int .i64) y75
abbrev abR:Ty:=.pair y31 .str
abbrev y72:Ty:=.sl akk
abbrev akl:Ty:=.pair (.int .i64) y39
abbrev y26:Ty:=.pair (.int .i64) y31
abbrev atE:Ty:=.ptr abR
abbrev y85:Ty:=.sl akl
abbrev akm:Ty:=.arr 2 abR
abbrev akn:Ty:=.pair (.int .i64) (.pair (.int .i64) (.pair (.sl .str) .mp))
abbrev ako:Ty:=.arr 4 akm
abbrev akp:Ty:=.pair (.int .i64) abR
abbrev y64:Ty:=.ptr akn
abbrev y115:Ty:=.sl akp
abbrev akq:Ty:=.arr 7 ako
abbrev y77:Ty:=.pair y72 y75
abbrev y46:Ty:=.pair (.int .i64) (.pair (.int .i64) (.pair (.sl .str) y44))
abbrev akr:Ty:=.pair .bool (.pair akh (.pair aki (.int .i64)))
abbrev atF:Ty:=.ptr akr
abbrev aks:Ty:=.pair (.int .i64) akq
abbrev y97:Ty:=.ptr aks
abbrev akt:Ty:=.pair y75 (.pair (.int .u64) (.pair y75 y75))
abbrev aeC:Ty:=.ptr akt
abbrev y96:Ty:=.pair y31 (.pair .str (.pair (.st y39) (.st y75)))
abbrev y99:Ty:=.pair y96 (.int .i64)
abbrev y114:Ty:=.pair y31 (.pair .str (.pair y38 (.pair y39 (.int .i64))))
abbrev atG:Ty:=.sl y99
abbrev aku:Ty:=.ptr y99
abbrev akv:Ty:=.arr 2 y99
abbrev akw:Ty:=.arr 2 y114
abbrev y33:Ty:=.pair (.int .i64) (.pair (.int .i64) (.pair (.int .i64) (.pair (.int .i64) (.pair y31 y31))))
abbrev atH:Ty:=.sl aku
abbrev y22:Ty:=.sl y33
abbrev y41:Ty:=.pair (.int .i64) (.pair (.int .i64) (.pair .str (.pair y31 (.pair .str (.pair y38 y39)))))
abbrev y57:Ty:=.sl y41
abbrev y60:Ty:=.pair (.int .i64) y41
abbrev y35:Ty:=.sl y60
abbrev akx:Ty:=.pair aeC aeC
abbrev y157:Ty:=.pair akx y75
abbrev y63:Ty:=.ptr y157
abbrev y102:Ty:=.pair akv (.pair y99 y31)
abbrev aky:Ty:=.pair akw (.pair y114 y31)
abbrev akz:Ty:=.arr 4 y102
abbrev akA:Ty:=.arr 4 aky
abbrev y67:Ty:=.pair y63 (.pair (.int .i64) (.pair (.int .i64) (.pair (.int .i64) (.pair (.int .i64) (.pair y64 (.pair .mp y35))))))
abbrev y23:Ty:=.ptr y67
abbrev y68:Ty:=.sl y23
abbrev akB:Ty:=.pair .str (.pair y114 (.pair y115 (.pair y115 akA)))
abbrev y47:Ty:=.sl akB
abbrev akC:Ty:=.pair y96 (.pair .str (.pair y97 (.pair y97 akz)))
abbrev y90:Ty:=.ptr akC
abbrev y49:Ty:=.pair y26 (.pair (.int .i64) (.pair (.int .i64) (.pair (.int .i64) (.pair (.int .i64) (.pair y46 (.pair y47 y35))))))
abbrev y24:Ty:=.ptr y49
abbrev q3:Nat×TI:=(3,⟨(TypeDesc.int IntKind.i64),(.int .i64),8⟩)
abbrev q4:Nat×TI:=(4,⟨TypeDesc.bool,.bool,1⟩)
abbrev q5:Nat×TI:=(5,⟨(TypeDesc.int IntKind.u8),(.int .u8),1⟩)
abbrev q9:Nat×TI:=(9,⟨TypeDesc.string,.str,16⟩)
abbrev q22:Nat×TI:=(22,⟨(TypeDesc.slice 33),y22,24⟩)
abbrev q23:Nat×TI:=(23,⟨(TypeDesc.pointer 67),y23,8⟩)
abbrev q24:Nat×TI:=(24,⟨(TypeDesc.pointer 49),y24,8⟩)
abbrev q26:Nat×TI:=(26,⟨(TypeDesc.struct #[fd "P" 3 0 0,fd "Q" 3 1 8,fd "G" 3 2 16]),y26,24⟩)
abbrev q31:Nat×TI:=(31,⟨(TypeDesc.struct #[fd "Seq" 3 0 0,fd "Client" 3 1 8]),y31,16⟩)
abbrev q33:Nat×TI:=(33,⟨(TypeDesc.struct #[fd "From" 3 0 0,fd "Kind" 3 1 8,fd "Op" 3 2 16,fd "Key" 3 3 24,fd "Stamp" 31 4 32,fd "Value" 3 6 48,fd "Share" 3 7 56]),y33,64⟩)
abbrev q35:Nat×TI:=(35,⟨(TypeDesc.slice 60),y35,24⟩)
abbrev q38:Nat×TI:=(38,⟨(TypeDesc.slice 39),y38,24⟩)
abbrev q39:Nat×TI:=(39,⟨(TypeDesc.slice 75),y39,24⟩)
abbrev q41:Nat×TI:=(41,⟨(TypeDesc.struct #[fd "Kind" 3 0 0,fd "Op" 3 1 8,fd "Key" 9 2 16,fd "Stamp" 31 3 32,fd "Digest" 9 5 48,fd "Matrix" 38 6 64,fd "Ys" 39 7 88]),y41,112⟩)
abbrev q43:Nat×TI:=(43,⟨(TypeDesc.slice 9),(.sl .str),24⟩)
abbrev q44:Nat×TI:=(44,⟨(TypeDesc.slice 3),y44,24⟩)
abbrev q46:Nat×TI:=(46,⟨(TypeDesc.struct #[fd "N" 3 0 0,fd "M" 3 1 8,fd "Keys" 43 2 16,fd "Ends" 44 3 40]),y46,64⟩)
abbrev q47:Nat×TI:=(47,⟨(TypeDesc.slice 121),y47,24⟩)
abbrev q49:Nat×TI:=(49,⟨(TypeDesc.struct #[fd "G" 26 0 0,fd "T" 3 3 24,fd "I" 3 4 32,fd "N" 3 5 40,fd "M" 3 6 48,fd "Space" 46 7 56,fd "Records" 47 11 120,fd "Out" 35 12 144]),y49,168⟩)
abbrev q57:Nat×TI:=(57,⟨(TypeDesc.slice 41),y57,24⟩)
abbrev q60:Nat×TI:=(60,⟨(TypeDesc.struct #[fd "To" 3 0 0,fd "M" 41 1 8]),y60,120⟩)
abbrev q63:Nat×TI:=(63,⟨(TypeDesc.pointer 157),y63,8⟩)
abbrev q64:Nat×TI:=(64,⟨(TypeDesc.pointer 171),y64,8⟩)
abbrev q65:Nat×TI:=(65,⟨(TypeDesc.map 9 90),.mp,8⟩)
abbrev q67:Nat×TI:=(67,⟨(TypeDesc.struct #[fd "g" 63 0 0 "sacristy/server",fd "t" 3 1 8 "sacristy/server",fd "number" 3 2 16 "sacristy/server",fd "n" 3 3 24 "sacristy/server",fd "m" 3 4 32 "sacristy/server",fd "space" 64 5 40 "sacristy/server",fd "records" 65 6 48 "sacristy/server",fd "out" 35 7 56 "sacristy/server"]),y67,80⟩)
abbrev q68:Nat×TI:=(68,⟨(TypeDesc.slice 23),y68,24⟩)
abbrev q69:Nat×TI:=(69,⟨(TypeDesc.int IntKind.i64),(.int .i64),8⟩)
abbrev q72:Nat×TI:=(72,⟨(TypeDesc.slice 149),y72,24⟩)
abbrev q73:Nat×TI:=(73,⟨(TypeDesc.int IntKind.u64),(.int .u64),8⟩)
abbrev q75:Nat×TI:=(75,⟨(TypeDesc.array 4 73),y75,32⟩)
abbrev q77:Nat×TI:=(77,⟨(TypeDesc.struct #[fd "Chain" 72 0 0,fd "G" 75 1 24]),y77,56⟩)
abbrev q82:Nat×TI:=(82,⟨(TypeDesc.int IntKind.u64),(.int .u64),8⟩)
abbrev q85:Nat×TI:=(85,⟨(TypeDesc.slice 125),y85,24⟩)
abbrev q90:Nat×TI:=(90,⟨(TypeDesc.pointer 105),y90,8⟩)
abbrev q96:Nat×TI:=(96,⟨(TypeDesc.struct #[fd "stamp" 31 0 0 "sacristy/server",fd "digest" 9 2 16 "sacristy/server",fd "m" 38 3 32 "sacristy/server",fd "ys" 39 4 56 "sacristy/server"]),y96,80⟩)
abbrev q97:Nat×TI:=(97,⟨(TypeDesc.pointer 226),y97,8⟩)
abbrev q99:Nat×TI:=(99,⟨(TypeDesc.struct #[fd "value" 96 0 0 "sacristy/server" true,fd "op" 3 5 80 "sacristy/server"]),y99,88⟩)
abbrev akD:Nat×TI:=(100,⟨(TypeDesc.array 2 99),akv,176⟩)
abbrev akE:Nat×TI:=(102,⟨(TypeDesc.struct #[fd "props" 100 0 0 "sacristy/server",fd "waits" 99 12 176 "sacristy/server",fd "op" 3 18 264 "sacristy/server",fd "left" 3 19 272 "sacristy/server"]),y102,280⟩)
abbrev akF:Nat×TI:=(103,⟨(TypeDesc.array 4 102),akz,1120⟩)
abbrev akG:Nat×TI:=(105,⟨(TypeDesc.struct #[fd "value" 96 0 0 "sacristy/server" true,fd "key" 9 5 80 "sacristy/server",fd "echoes" 97 6 96 "sacristy/server",fd "readies" 97 7 104 "sacristy/server",fd "clients" 103 8 112 "sacristy/server"]),akC,1232⟩)
abbrev akH:Nat×TI:=(114,⟨(TypeDesc.struct #[fd "Stamp" 31 0 0,fd "Digest" 9 2 16,fd "Matrix" 38 3 32,fd "Ys" 39 4 56,fd "Op" 3 5 80]),y114,88⟩)
abbrev akI:Nat×TI:=(115,⟨(TypeDesc.slice 137),y115,24⟩)
abbrev akJ:Nat×TI:=(116,⟨(TypeDesc.array 2 114),akw,176⟩)
abbrev akK:Nat×TI:=(118,⟨(TypeDesc.struct #[fd "Props" 116 0 0,fd "Waits" 114 12 176,fd "Op" 3 18 264,fd "Left" 3 19 272]),aky,280⟩)
abbrev akL:Nat×TI:=(119,⟨(TypeDesc.array 4 118),akA,1120⟩)
abbrev akM:Nat×TI:=(121,⟨(TypeDesc.struct #[fd "Key" 9 0 0,fd "Held" 114 1 16,fd "Echoes" 115 7 104,fd "Readies" 115 8 128,fd "Clients" 119 9 152]),akB,1272⟩)
abbrev akN:Nat×TI:=(125,⟨(TypeDesc.struct #[fd "I" 3 0 0,fd "Ys" 39 1 8]),akl,32⟩)
abbrev akO:Nat×TI:=(137,⟨(TypeDesc.struct #[fd "Server" 3 0 0,fd "Stamp" 31 1 8,fd "Digest" 9 3 24]),akp,40⟩)
abbrev akP:Nat×TI:=(145,⟨(TypeDesc.pointer 201),aeC,8⟩)
abbrev akQ:Nat×TI:=(149,⟨(TypeDesc.struct #[fd "N" 75 0 0,fd "A" 3 4 32]),akk,40⟩)
abbrev akR:Nat×TI:=(155,⟨(TypeDesc.struct #[fd "ring" 145 0 0 "sacristy/group",fd "field" 145 1 8 "sacristy/group"]),akx,16⟩)
abbrev akS:Nat×TI:=(157,⟨(TypeDesc.struct #[fd "rings" 155 0 0 "sacristy/group" true,fd "g" 75 2 16 "sacristy/group"]),y157,48⟩)
abbrev akT:Nat×TI:=(169,⟨(TypeDesc.map 3 3),.mp,8⟩)
abbrev akU:Nat×TI:=(171,⟨(TypeDesc.struct #[fd "servers" 3 0 0 "sacristy/space",fd "clients" 3 1 8 "sacristy/space",fd "keys" 43 2 16 "sacristy/space",fd "used" 169 3 40 "sacristy/space"]),akn,48⟩)
abbrev akV:Nat×TI:=(174,⟨(TypeDesc.pointer 177),atE,8⟩)
abbrev akW:Nat×TI:=(177,⟨(TypeDesc.struct #[fd "stamp" 31 0 0 "sacristy/votes",fd "digest" 9 2 16 "sacristy/votes"]),abR,32⟩)
abbrev akX:Nat×TI:=(188,⟨(TypeDesc.pointer 99),aku,8⟩)
abbrev akY:Nat×TI:=(201,⟨(TypeDesc.struct #[fd "m" 75 0 0 "sacristy/mont",fd "inv" 73 4 32 "sacristy/mont",fd "one" 75 5 40 "sacristy/mont",fd "square" 75 9 72 "sacristy/mont"]),akt,104⟩)
abbrev akZ:Nat×TI:=(208,⟨(TypeDesc.array 256 4),atp,256⟩)
abbrev al0:Nat×TI:=(215,⟨(TypeDesc.slice 5),akg,24⟩)
abbrev al1:Nat×TI:=(217,⟨(TypeDesc.array 8 3),atv,64⟩)
abbrev al2:Nat×TI:=(222,⟨(TypeDesc.array 2 177),akm,64⟩)
abbrev al3:Nat×TI:=(223,⟨(TypeDesc.array 4 222),ako,256⟩)
abbrev al4:Nat×TI:=(224,⟨(TypeDesc.array 7 223),akq,1792⟩)
abbrev al5:Nat×TI:=(226,⟨(TypeDesc.struct #[fd "n" 3 0 0 "sacristy/votes",fd "places" 224 1 8 "sacristy/votes"]),aks,1800⟩)
abbrev al6:Nat×TI:=(233,⟨(TypeDesc.struct #[fd "I" 3 0 0,fd "Y" 75 1 8]),atD,40⟩)
abbrev al7:Nat×TI:=(238,⟨(TypeDesc.pointer 290),atF,8⟩)
abbrev al8:Nat×TI:=(242,⟨(TypeDesc.pointer 244),(.sp 244),8⟩)
abbrev al9:Nat×TI:=(244,⟨(TypeDesc.struct #[fd "addr" 242 0 0 "strings",fd "buf" 215 1 8 "strings"]),atB,32⟩)
abbrev ala:Nat×TI:=(263,⟨(TypeDesc.slice 264),atC,24⟩)
abbrev alb:Nat×TI:=(264,⟨(TypeDesc.array 16 75),akj,512⟩)
abbrev alc:Nat×TI:=(270,⟨(TypeDesc.array 64 3),aty,512⟩)
abbrev ald:Nat×TI:=(281,⟨(TypeDesc.func #[9,9] #[3] false),.fn,8⟩)
abbrev ale:Nat×TI:=(283,⟨(TypeDesc.slice 99),atG,24⟩)
abbrev alf:Nat×TI:=(284,⟨(TypeDesc.slice 188),atH,24⟩)
abbrev alg:Nat×TI:=(285,⟨(TypeDesc.int IntKind.u32),(.int .u32),4⟩)
abbrev alh:Nat×TI:=(286,⟨(TypeDesc.array 8 285),akh,32⟩)
abbrev ali:Nat×TI:=(288,⟨(TypeDesc.array 64 5),aki,64⟩)
abbrev alj:Nat×TI:=(290,⟨(TypeDesc.struct #[fd "given" 4 0 0 "sacristy/sha",fd "words" 286 1 4 "sacristy/sha",fd "rest" 288 9 36 "sacristy/sha",fd "n" 3 73 104 "sacristy/sha"]),akr,112⟩)
abbrev alk:Nat×TI:=(292,⟨(TypeDesc.array 8 5),atu,8⟩)
abbrev alm:Nat×TI:=(293,⟨(TypeDesc.pointer 5),atq,8⟩)
abbrev aln:Nat×TI:=(300,⟨(TypeDesc.array 8 73),atw,64⟩)
abbrev alo:Nat×TI:=(303,⟨(TypeDesc.slice 73),atr,24⟩)
abbrev alp:Nat×TI:=(306,⟨(TypeDesc.array 6 73),atx,48⟩)
abbrev alq:Nat×TI:=(313,⟨(TypeDesc.array 64 285),atz,256⟩)
abbrev alr:Nat×TI:=(317,⟨(TypeDesc.slice 285),att,24⟩)
abbrev als:Nat×TI:=(322,⟨(TypeDesc.array 32 3),atA,256⟩)
def ti:List (Nat×TI):=[q3,q4,q5,q9,q22,q23,q24,q26,q31,q33,q35,q38,q39,q41,q43,q44,q46,q47,q49,q57,q60,q63,q64,q65,q67,q68,q69,q72,q73,q75,q77,q82,q85,q90,q96,q97,q99,akD,akE,akF,akG,akH,akI,akJ,akK,akL,akM,akN,akO,akP,akQ,akR,akS,akT,akU,akV,akW,akX,akY,akZ,al0,al1,al2,al3,al4,al5,al6,al7,al8,al9,ala,alb,alc,ald,ale,alf,alg,alh,ali,alj,alk,alm,aln,alo,alp,alq,alr,als]
theorem tq {q:Nat×TI}(u:Tryz.prog.underlying q.1=some q.2.desc)(s:kL ti q.2)(i:(Tryz.prog.info? q.1).map (λi=>(i.size,i.bytes))=some (q.2.ty.size,q.2.bytes):=by kernel_rfl)(z:(Tryz.prog.info? q.1).bind (λi=>i.zero)=some (mkV q.2.ty q.2.ty.zcells):=by kernel_rfl)(h: ∀T0,q.2.ty.head=some T0->T0=q.1:=by intro _ h;cases h<;>rfl)(e:q.2.ty.agg=true->q.2.ty.flat=true->Tryz.prog.eqGuardType Tryz.prog.depth q.1=false/\Tryz.prog.stoodInHeld q.1=false/\(∀fs,q.2.desc= .struct fs->fs.size≠1)/\q.2.ty.dep<=10000:=by first|exact λh=>absurd h (by decide)|exact λ_ h=>absurd h (by decide)|exact λ_ _=>⟨by kernel_rfl,by kernel_rfl,(by intro fs h;cases h<;>decide),by decide⟩):TI1 Tryz.prog ti q:=⟨u,i,z,s,h,e⟩
theorem ti3:TI1 Tryz.prog ti q3:=tq Tryz.underlying3 rfl
theorem ti4:TI1 Tryz.prog ti q4:=tq Tryz.underlying4 rfl
theorem ti5:TI1 Tryz.prog ti q5:=tq Tryz.underlying5 rfl
theorem ti9:TI1 Tryz.prog ti q9:=tq Tryz.underlying9 rfl
theorem atI:TI1 Tryz.prog ti q22:=tq Tryz.underlying22 ⟨_,rfl,rfl,by decide⟩
theorem atJ:TI1 Tryz.prog ti q23:=tq Tryz.underlying23 (.inl ⟨_,rfl⟩)
theorem atK:TI1 Tryz.prog ti q24:=tq Tryz.underlying24 (.inl ⟨_,rfl⟩)
theorem atL:TI1 Tryz.prog ti q26:=tq Tryz.underlying26 ⟨rfl,⟨rfl,by decide,⟨_,rfl,rfl,by decide⟩,⟨rfl,by decide,⟨_,rfl,rfl,by decide⟩,⟨rfl,by decide,_,rfl,rfl,by decide⟩⟩⟩⟩
theorem atM:TI1 Tryz.prog ti q31:=tq Tryz.underlying31 ⟨rfl,⟨rfl,by decide,⟨_,rfl,rfl,by decide⟩,⟨rfl,by decide,_,rfl,rfl,by decide⟩⟩⟩
theorem atO:TI1 Tryz.prog ti q33:=tq Tryz.underlying33 ⟨rfl,⟨rfl,by decide,⟨_,rfl,rfl,by decide⟩,⟨rfl,by decide,⟨_,rfl,rfl,by decide⟩,⟨rfl,by decide,⟨_,rfl,rfl,by decide⟩,⟨rfl,by decide,⟨_,rfl,rfl,by decide⟩,⟨rfl,by decide,⟨_,rfl,rfl,by decide⟩,⟨rfl,by decide,⟨_,rfl,rfl,by decide⟩,⟨rfl,by decide,_,rfl,rfl,by decide⟩⟩⟩⟩⟩⟩⟩⟩
theorem atP:TI1 Tryz.prog ti q35:=tq Tryz.underlying35 ⟨_,rfl,rfl,by decide⟩
theorem atQ:TI1 Tryz.prog ti q38:=tq Tryz.underlying38 ⟨_,rfl,rfl,by decide⟩
theorem atS:TI1 Tryz.prog ti q39:=tq Tryz.underlying39 ⟨_,rfl,rfl,by decide⟩
theorem atU:TI1 Tryz.prog ti q41:=tq Tryz.underlying41 ⟨rfl,⟨rfl,by decide,⟨_,rfl,rfl,by decide⟩,⟨rfl,by decide,⟨_,rfl,rfl,by decide⟩,⟨rfl,by decide,⟨_,rfl,rfl,by decide⟩,⟨rfl,by decide,⟨_,rfl,rfl,by decide⟩,⟨rfl,by decide,⟨_,rfl,rfl,by decide⟩,⟨rfl,by decide,⟨_,rfl,rfl,by decide⟩,⟨rfl,by decide,_,rfl,rfl,by decide⟩⟩⟩⟩⟩⟩⟩⟩
theorem atV:TI1 Tryz.prog ti q43:=tq Tryz.underlying43 ⟨_,rfl,rfl,by decide⟩
theorem atW:TI1 Tryz.prog ti q44:=tq Tryz.underlying44 ⟨_,rfl,rfl,by decide⟩
theorem atX:TI1 Tryz.prog ti q46:=tq Tryz.underlying46 ⟨rfl,⟨rfl,by decide,⟨_,rfl,rfl,by decide⟩,⟨rfl,by decide,⟨_,rfl,rfl,by decide⟩,⟨rfl,by decide,⟨_,rfl,rfl,by decide⟩,⟨rfl,by decide,_,rfl,rfl,by decide⟩⟩⟩⟩⟩
theorem atY:TI1 Tryz.prog ti q47:=tq Tryz.underlying47 ⟨_,rfl,rfl,by decide⟩
theorem atZ:TI1 Tryz.prog ti q49:=tq Tryz.underlying49 ⟨rfl,⟨rfl,by decide,⟨_,rfl,rfl,by decide⟩,⟨rfl,by decide,⟨_,rfl,rfl,by decide⟩,⟨rfl,by decide,⟨_,rfl,rfl,by decide⟩,⟨rfl,by decide,⟨_,rfl,rfl,by decide⟩,⟨rfl,by decide,⟨_,rfl,rfl,by decide⟩,⟨rfl,by decide,⟨_,rfl,rfl,by decide⟩,⟨rfl,by decide,⟨_,rfl,rfl,by decide⟩,⟨rfl,by decide,_,rfl,rfl,by decide⟩⟩⟩⟩⟩⟩⟩⟩⟩
theorem au0:TI1 Tryz.prog ti q57:=tq Tryz.underlying57 ⟨_,rfl,rfl,by decide⟩
theorem au1:TI1 Tryz.prog ti q60:=tq Tryz.underlying60 ⟨rfl,⟨rfl,by decide,⟨_,rfl,rfl,by decide⟩,⟨rfl,by decide,_,rfl,rfl,by decide⟩⟩⟩
theorem au2:TI1 Tryz.prog ti q63:=tq Tryz.underlying63 (.inl ⟨_,rfl⟩)
theorem au3:TI1 Tryz.prog ti q64:=tq Tryz.underlying64 (.inl ⟨_,rfl⟩)
theorem au4:TI1 Tryz.prog ti q65:=tq Tryz.underlying65 rfl
theorem au5:TI1 Tryz.prog ti q67:=tq Tryz.underlying67 ⟨rfl,⟨rfl,by decide,⟨_,rfl,rfl,by decide⟩,⟨rfl,by decide,⟨_,rfl,rfl,by decide⟩,⟨rfl,by decide,⟨_,rfl,rfl,by decide⟩,⟨rfl,by decide,⟨_,rfl,rfl,by decide⟩,⟨rfl,by decide,⟨_,rfl,rfl,by decide⟩,⟨rfl,by decide,⟨_,rfl,rfl,by decide⟩,⟨rfl,by decide,⟨_,rfl,rfl,by decide⟩,⟨rfl,by decide,_,rfl,rfl,by decide⟩⟩⟩⟩⟩⟩⟩⟩⟩
theorem au6:TI1 Tryz.prog ti q68:=tq Tryz.underlying68 ⟨_,rfl,rfl,by decide⟩
theorem au7:TI1 Tryz.prog ti q69:=tq Tryz.underlying69 rfl
theorem au8:TI1 Tryz.prog ti q72:=tq Tryz.underlying72 ⟨_,rfl,rfl,by decide⟩
theorem au9:TI1 Tryz.prog ti q73:=tq Tryz.underlying73 rfl
theorem aua:TI1 Tryz.prog ti q75:=tq Tryz.underlying75 ⟨_,rfl,rfl,by decide,by decide⟩
theorem aub:TI1 Tryz.prog ti q77:=tq Tryz.underlying77 ⟨rfl,⟨rfl,by decide,⟨_,rfl,rfl,by decide⟩,⟨rfl,by decide,_,rfl,rfl,by decide⟩⟩⟩
theorem auc:TI1 Tryz.prog ti q82:=tq Tryz.underlying82 rfl
theorem aud:TI1 Tryz.prog ti q85:=tq Tryz.underlying85 ⟨_,rfl,rfl,by decide⟩
theorem aue:TI1 Tryz.prog ti q90:=tq Tryz.underlying90 (.inl ⟨_,rfl⟩)
theorem auf:TI1 Tryz.prog ti q96:=tq Tryz.underlying96 ⟨rfl,⟨rfl,by decide,⟨_,rfl,rfl,by decide⟩,⟨rfl,by decide,⟨_,rfl,rfl,by decide⟩,⟨rfl,by decide,⟨_,rfl,rfl,by decide⟩,⟨rfl,by decide,_,rfl,rfl,by decide⟩⟩⟩⟩⟩
theorem aug:TI1 Tryz.prog ti q97:=tq Tryz.underlying97 (.inl ⟨_,rfl⟩)
theorem auh:TI1 Tryz.prog ti q99:=tq Tryz.underlying99 ⟨rfl,⟨rfl,by decide,⟨_,rfl,rfl,by decide⟩,⟨rfl,by decide,_,rfl,rfl,by decide⟩⟩⟩
theorem alu:TI1 Tryz.prog ti akD:=tq Tryz.underlying100 ⟨_,rfl,rfl,by decide,by decide⟩
theorem alv:TI1 Tryz.prog ti akE:=tq Tryz.underlying102 ⟨rfl,⟨rfl,by decide,⟨_,rfl,rfl,by decide⟩,⟨rfl,by decide,⟨_,rfl,rfl,by decide⟩,⟨rfl,by decide,⟨_,rfl,rfl,by decide⟩,⟨rfl,by decide,_,rfl,rfl,by decide⟩⟩⟩⟩⟩
theorem alx:TI1 Tryz.prog ti akF:=tq Tryz.underlying103 ⟨_,rfl,rfl,by decide,by decide⟩
theorem aly:TI1 Tryz.prog ti akG:=tq Tryz.underlying105 ⟨rfl,⟨rfl,by decide,⟨_,rfl,rfl,by decide⟩,⟨rfl,by decide,⟨_,rfl,rfl,by decide⟩,⟨rfl,by decide,⟨_,rfl,rfl,by decide⟩,⟨rfl,by decide,⟨_,rfl,rfl,by decide⟩,⟨rfl,by decide,_,rfl,rfl,by decide⟩⟩⟩⟩⟩⟩
theorem alz:TI1 Tryz.prog ti akH:=tq Tryz.underlying114 ⟨rfl,⟨rfl,by decide,⟨_,rfl,rfl,by decide⟩,⟨rfl,by decide,⟨_,rfl,rfl,by decide⟩,⟨rfl,by decide,⟨_,rfl,rfl,by decide⟩,⟨rfl,by decide,⟨_,rfl,rfl,by decide⟩,⟨rfl,by decide,_,rfl,rfl,by decide⟩⟩⟩⟩⟩⟩
theorem alA:TI1 Tryz.prog ti akI:=tq Tryz.underlying115 ⟨_,rfl,rfl,by decide⟩
theorem alB:TI1 Tryz.prog ti akJ:=tq Tryz.underlying116 ⟨_,rfl,rfl,by decide,by decide⟩
theorem alC:TI1 Tryz.prog ti akK:=tq Tryz.underlying118 ⟨rfl,⟨rfl,by decide,⟨_,rfl,rfl,by decide⟩,⟨rfl,by decide,⟨_,rfl,rfl,by decide⟩,⟨rfl,by decide,⟨_,rfl,rfl,by decide⟩,⟨rfl,by decide,_,rfl,rfl,by decide⟩⟩⟩⟩⟩
theorem alD:TI1 Tryz.prog ti akL:=tq Tryz.underlying119 ⟨_,rfl,rfl,by decide,by decide⟩
theorem alE:TI1 Tryz.prog ti akM:=tq Tryz.underlying121 ⟨rfl,⟨rfl,by decide,⟨_,rfl,rfl,by decide⟩,⟨rfl,by decide,⟨_,rfl,rfl,by decide⟩,⟨rfl,by decide,⟨_,rfl,rfl,by decide⟩,⟨rfl,by decide,⟨_,rfl,rfl,by decide⟩,⟨rfl,by decide,_,rfl,rfl,by decide⟩⟩⟩⟩⟩⟩
theorem alF:TI1 Tryz.prog ti akN:=tq Tryz.underlying125 ⟨rfl,⟨rfl,by decide,⟨_,rfl,rfl,by decide⟩,⟨rfl,by decide,_,rfl,rfl,by decide⟩⟩⟩
theorem alG:TI1 Tryz.prog ti akO:=tq Tryz.underlying137 ⟨rfl,⟨rfl,by decide,⟨_,rfl,rfl,by decide⟩,⟨rfl,by decide,⟨_,rfl,rfl,by decide⟩,⟨rfl,by decide,_,rfl,rfl,by decide⟩⟩⟩⟩
theorem alH:TI1 Tryz.prog ti akP:=tq Tryz.underlying145 (.inl ⟨_,rfl⟩)
theorem alI:TI1 Tryz.prog ti akQ:=tq Tryz.underlying149 ⟨rfl,⟨rfl,by decide,⟨_,rfl,rfl,by decide⟩,⟨rfl,by decide,_,rfl,rfl,by decide⟩⟩⟩
theorem alJ:TI1 Tryz.prog ti akR:=tq Tryz.underlying155 ⟨rfl,⟨rfl,by decide,⟨_,rfl,rfl,by decide⟩,⟨rfl,by decide,_,rfl,rfl,by decide⟩⟩⟩
theorem alK:TI1 Tryz.prog ti akS:=tq Tryz.underlying157 ⟨rfl,⟨rfl,by decide,⟨_,rfl,rfl,by decide⟩,⟨rfl,by decide,_,rfl,rfl,by decide⟩⟩⟩
theorem alL:TI1 Tryz.prog ti akT:=tq Tryz.underlying169 rfl
theorem alM:TI1 Tryz.prog ti akU:=tq Tryz.underlying171 ⟨rfl,⟨rfl,by decide,⟨_,rfl,rfl,by decide⟩,⟨rfl,by decide,⟨_,rfl,rfl,by decide⟩,⟨rfl,by decide,⟨_,rfl,rfl,by decide⟩,⟨rfl,by decide,_,rfl,rfl,by decide⟩⟩⟩⟩⟩
theorem alN:TI1 Tryz.prog ti akV:=tq Tryz.underlying174 (.inl ⟨_,rfl⟩)
theorem alO:TI1 Tryz.prog ti akW:=tq Tryz.underlying177 ⟨rfl,⟨rfl,by decide,⟨_,rfl,rfl,by decide⟩,⟨rfl,by decide,_,rfl,rfl,by decide⟩⟩⟩
theorem alP:TI1 Tryz.prog ti akX:=tq Tryz.underlying188 (.inl ⟨_,rfl⟩)
theorem alQ:TI1 Tryz.prog ti akY:=tq Tryz.underlying201 ⟨rfl,⟨rfl,by decide,⟨_,rfl,rfl,by decide⟩,⟨rfl,by decide,⟨_,rfl,rfl,by decide⟩,⟨rfl,by decide,⟨_,rfl,rfl,by decide⟩,⟨rfl,by decide,_,rfl,rfl,by decide⟩⟩⟩⟩⟩
theorem alR:TI1 Tryz.prog ti akZ:=tq Tryz.underlying208 ⟨_,rfl,rfl,by decide,by decide⟩
theorem alS:TI1 Tryz.prog ti al0:=tq Tryz.underlying215 ⟨_,rfl,rfl,by decide⟩
theorem alT:TI1 Tryz.prog ti al1:=tq Tryz.underlying217 ⟨_,rfl,rfl,by decide,by decide⟩
theorem alU:TI1 Tryz.prog ti al2:=tq Tryz.underlying222 ⟨_,rfl,rfl,by decide,by decide⟩
theorem alV:TI1 Tryz.prog ti al3:=tq Tryz.underlying223 ⟨_,rfl,rfl,by decide,by decide⟩
theorem alW:TI1 Tryz.prog ti al4:=tq Tryz.underlying224 ⟨_,rfl,rfl,by decide,by decide⟩
theorem alX:TI1 Tryz.prog ti al5:=tq Tryz.underlying226 ⟨rfl,⟨rfl,by decide,⟨_,rfl,rfl,by decide⟩,⟨rfl,by decide,_,rfl,rfl,by decide⟩⟩⟩
theorem alY:TI1 Tryz.prog ti al6:=tq Tryz.underlying233 ⟨rfl,⟨rfl,by decide,⟨_,rfl,rfl,by decide⟩,⟨rfl,by decide,_,rfl,rfl,by decide⟩⟩⟩
theorem alZ:TI1 Tryz.prog ti al7:=tq Tryz.underlying238 (.inl ⟨_,rfl⟩)
theorem am0:TI1 Tryz.prog ti al8:=tq Tryz.underlying242 (.inr ⟨_,rfl⟩)
theorem am1:TI1 Tryz.prog ti al9:=tq Tryz.underlying244 ⟨rfl,⟨rfl,by decide,⟨_,rfl,rfl,by decide⟩,⟨rfl,by decide,_,rfl,rfl,by decide⟩⟩⟩
theorem am2:TI1 Tryz.prog ti ala:=tq Tryz.underlying263 ⟨_,rfl,rfl,by decide⟩
theorem am3:TI1 Tryz.prog ti alb:=tq Tryz.underlying264 ⟨_,rfl,rfl,by decide,by decide⟩
theorem am4:TI1 Tryz.prog ti alc:=tq Tryz.underlying270 ⟨_,rfl,rfl,by decide,by decide⟩
theorem am5:TI1 Tryz.prog ti ald:=tq Tryz.underlying281 rfl
theorem am6:TI1 Tryz.prog ti ale:=tq Tryz.underlying283 ⟨_,rfl,rfl,by decide⟩
theorem am7:TI1 Tryz.prog ti alf:=tq Tryz.underlying284 ⟨_,rfl,rfl,by decide⟩
theorem am8:TI1 Tryz.prog ti alg:=tq Tryz.underlying285 rfl
theorem am9:TI1 Tryz.prog ti alh:=tq Tryz.underlying286 ⟨_,rfl,rfl,by decide,by decide⟩
theorem ama:TI1 Tryz.prog ti ali:=tq Tryz.underlying288 ⟨_,rfl,rfl,by decide,by decide⟩
theorem amb:TI1 Tryz.prog ti alj:=tq Tryz.underlying290 ⟨rfl,⟨rfl,by decide,⟨_,rfl,rfl,by decide⟩,⟨rfl,by decide,⟨_,rfl,rfl,by decide⟩,⟨rfl,by decide,⟨_,rfl,rfl,by decide⟩,⟨rfl,by decide,_,rfl,rfl,by decide⟩⟩⟩⟩⟩
theorem amc:TI1 Tryz.prog ti alk:=tq Tryz.underlying292 ⟨_,rfl,rfl,by decide,by decide⟩
theorem amd:TI1 Tryz.prog ti alm:=tq Tryz.underlying293 (.inl ⟨_,rfl⟩)
theorem ame:TI1 Tryz.prog ti aln:=tq Tryz.underlying300 ⟨_,rfl,rfl,by decide,by decide⟩
theorem amf:TI1 Tryz.prog ti alo:=tq Tryz.underlying303 ⟨_,rfl,rfl,by decide⟩
theorem amg:TI1 Tryz.prog ti alp:=tq Tryz.underlying306 ⟨_,rfl,rfl,by decide,by decide⟩
theorem amh:TI1 Tryz.prog ti alq:=tq Tryz.underlying313 ⟨_,rfl,rfl,by decide,by decide⟩
theorem ami:TI1 Tryz.prog ti alr:=tq Tryz.underlying317 ⟨_,rfl,rfl,by decide⟩
theorem amj:TI1 Tryz.prog ti als:=tq Tryz.underlying322 ⟨_,rfl,rfl,by decide,by decide⟩
def cx(a:List (FuncId×Con))(b:List (FuncId×Func×List (Nat×Lp))):Cx:= { ti:=ti,con:=a,fns:=b,un:=6 }
theorem aA:xL Tryz.prog ti:=xL.of (axW.2 ⟨ti3,axW.2 ⟨ti4,axW.2 ⟨ti5,axW.2 ⟨ti9,axW.2 ⟨atI,axW.2 ⟨atJ,axW.2 ⟨atK,axW.2 ⟨atL,axW.2 ⟨atM,axW.2 ⟨atO,axW.2 ⟨atP,axW.2 ⟨atQ,axW.2 ⟨atS,axW.2 ⟨atU,axW.2 ⟨atV,axW.2 ⟨atW,axW.2 ⟨atX,axW.2 ⟨atY,axW.2 ⟨atZ,axW.2 ⟨au0,axW.2 ⟨au1,axW.2 ⟨au2,axW.2 ⟨au3,axW.2 ⟨au4,axW.2 ⟨au5,axW.2 ⟨au6,axW.2 ⟨au7,axW.2 ⟨au8,axW.2 ⟨au9,axW.2 ⟨aua,axW.2 ⟨aub,axW.2 ⟨auc,axW.2 ⟨aud,axW.2 ⟨aue,axW.2 ⟨auf,axW.2 ⟨aug,axW.2 ⟨auh,axW.2 ⟨alu,axW.2 ⟨alv,axW.2 ⟨alx,axW.2 ⟨aly,axW.2 ⟨alz,axW.2 ⟨alA,axW.2 ⟨alB,axW.2 ⟨alC,axW.2 ⟨alD,axW.2 ⟨alE,axW.2 ⟨alF,axW.2 ⟨alG,axW.2 ⟨alH,axW.2 ⟨alI,axW.2 ⟨alJ,axW.2 ⟨alK,axW.2 ⟨alL,axW.2 ⟨alM,axW.2 ⟨alN,axW.2 ⟨alO,axW.2 ⟨alP,axW.2 ⟨alQ,axW.2 ⟨alR,axW.2 ⟨alS,axW.2 ⟨alT,axW.2 ⟨alU,axW.2 ⟨alV,axW.2 ⟨alW,axW.2 ⟨alX,axW.2 ⟨alY,axW.2 ⟨alZ,axW.2 ⟨am0,axW.2 ⟨am1,axW.2 ⟨am2,axW.2 ⟨am3,axW.2 ⟨am4,axW.2 ⟨am5,axW.2 ⟨am6,axW.2 ⟨am7,axW.2 ⟨am8,axW.2 ⟨am9,axW.2 ⟨ama,axW.2 ⟨amb,axW.2 ⟨amc,axW.2 ⟨amd,axW.2 ⟨ame,axW.2 ⟨amf,axW.2 ⟨amg,axW.2 ⟨amh,axW.2 ⟨ami,axW.2 ⟨amj,List.forall_mem_nil _⟩⟩⟩⟩⟩⟩⟩⟩⟩⟩⟩⟩⟩⟩⟩⟩⟩⟩⟩⟩⟩⟩⟩⟩⟩⟩⟩⟩⟩⟩⟩⟩⟩⟩⟩⟩⟩⟩⟩⟩⟩⟩⟩⟩⟩⟩⟩⟩⟩⟩⟩⟩⟩⟩⟩⟩⟩⟩⟩⟩⟩⟩⟩⟩⟩⟩⟩⟩⟩⟩⟩⟩⟩⟩⟩⟩⟩⟩⟩⟩⟩⟩⟩⟩⟩⟩⟩⟩)
theorem mixed:Tryz.prog.follows .mixedOrders=true:=by kernel_rfl
def a5v:Con:=aP false [u64,u64,u64] [u64,u64] λx=>Fv x.1 x.2.1 x.2.2.1
theorem a6I:av Tryz.prog 200 a5v:=a8s Tryz.func200 (by kernel_rfl) (by kernel_rfl) (by kernel_rfl) (by kernel_rfl)
def Tn:Con:=aP false [u64,u64,u64] [u64,u64] λx=>bQ x.1 x.2.1 x.2.2.1
theorem PN:av Tryz.prog 203 Tn:=a8r Tryz.func203 (by kernel_rfl) (by kernel_rfl) (by kernel_rfl) (by kernel_rfl)
end
end Go.Proofs.YtldlihheppdhnaaGreat
namespace Go.Proofs.YtldlihheppdhnaaGreat
noncomputable section
def aeD:Con:=aP true [tU] [tI] λx=>bits_Len64 x.1
def aui:Cx:=cx [] []
theorem aeE:au Tryz.prog aui:=au.of mixed aA fz fz
theorem a8H:av Tryz.prog 113 aeD:=ay aeE 8 ⟨Tryz.func113,Tryz.call113,ah⟩ _ _ _ _ (by decide) (λx=>by rw[Kl];kernel_rfl)
def amk:Con:=aP true [tU] [tI] λx=>bits_LeadingZeros64 x.1
def auj:Cx:=cx [(113,aeD)] []
theorem aeF:au Tryz.prog auj:=au.of mixed aA (fc ⟨a8H,fz⟩) fz
theorem aeG:av Tryz.prog 235 amk:=ay aeF 8 ⟨Tryz.func235,Tryz.call235,ah⟩ _ _ _ _ (by decide) (λx=>by rw[ug];kernel_rfl)
abbrev aml:Shape:= { sl:=[(pv 2 tU),(pv 8 tU),(pv 9 tU),(pv 10 tU),(pv 11 tU),(pv 13 tU),(pv 14 tU),(pv 15 tU),(pv 16 tU)],ob:=[],lo:=0,nx:=0 }
abbrev amm:List Ex:=[(.normal, { sl:=[(pv 2 tU),(pv 8 tU),(pv 9 tU),(pv 10 tU),(pv 11 tU),(pv 13 tU),(pv 14 tU),(pv 15 tU)],ob:=[],lo:=0,nx:=0 })]
def amn:Code:=aW (aU Tryz.f226) 0
def acW:Lp:=dA aml amm 135 fH
abbrev amo:Shape:= { sl:=[(pv 2 tU),(pv 8 tU),(pv 9 tU),(pv 10 tU),(pv 14 tU),(pv 15 tU),(pv 16 tU),(pv 17 tU),(pv 18 tU)],ob:=[],lo:=0,nx:=0 }
abbrev amq:List Ex:=[(.normal, { sl:=[(pv 2 tU),(pv 8 tU),(pv 14 tU),(pv 15 tU),(pv 17 tU),(pv 18 tU)],ob:=[],lo:=0,nx:=0 })]
def amr:Code:=aW (aU Tryz.f226) 2
def acX:Lp:=dA amo amq 135 fI
def aeH:Con:=aP true [tU,tU,tU] [tU,tU] λx=>nX x.1 x.2.1 x.2.2.1
def auk:Cx:=cx [(235,amk)] []
theorem a3U:au Tryz.prog auk:=au.of mixed aA (fc ⟨aeG,fz⟩) fz
theorem ams:bV Tryz.prog 0 (.loop amn) acW:=aK a3U 8 (ah) _ _ _ _ (by decide) λ_=>by kernel_rfl
theorem amt:bV Tryz.prog 2 (.loop amr) acX:=aK a3U 8 (ah) _ _ _ _ (by decide) λ_=>by kernel_rfl
theorem amu:fE Tryz.prog 226 Tryz.f226 [(0,acW),(2,acX)]:=⟨Tryz.func226,Tryz.call226,bB (by kernel_rfl) (aJ ams (by kernel_rfl) (aJ amt (by kernel_rfl) fz))⟩
theorem a8I:av Tryz.prog 226 aeH:=ay a3U 8 amu _ _ _ _ (by decide) (λx=>by rw[Km];kernel_rfl)
def abS:Con:=aP true [tU,tU] [tU,tU] λx=>bits_Mul64 x.1 x.2.1
def aul:Cx:=cx [] []
theorem aeI:au Tryz.prog aul:=au.of mixed aA fz fz
theorem a3V:av Tryz.prog 202 abS:=ay aeI 8 ⟨Tryz.func202,Tryz.call202,ah⟩ _ _ _ _ (by decide) (λx=>by rw[Kk];kernel_rfl)
def amv:Con:=aP true [(.int .u32),tI] [(.int .u32)] λx=>uh x.1 x.2.1
def aum:Cx:=cx [] []
theorem aeJ:au Tryz.prog aum:=au.of mixed aA fz fz
theorem aeK:av Tryz.prog 234 amv:=ay aeJ 8 ⟨Tryz.func234,Tryz.call234,ah⟩ _ _ _ _ (by decide) (λx=>by rw[xR];kernel_rfl)
end
end Go.Proofs.YtldlihheppdhnaaGreat
namespace Go.Proofs.YtldlihheppdhnaaGreat
noncomputable section
def aeL:Con:=aP true [tN] [tI,.bool] λx=>Nv x.1
def aun:Cx:=cx [] []
theorem aeM:au Tryz.prog aun:=au.of mixed aA fz fz
theorem a8J:av Tryz.prog 108 aeL:=ay aeM 8 ⟨Tryz.func108,Tryz.call108,ah⟩ _ _ _ _ (by decide) (λx=>by rw[Uu];kernel_rfl)
def a3W:Con:=aP true [tI] [tN] λx=>cB x.1
def auo:Cx:=cx [] []
theorem aeN:au Tryz.prog auo:=au.of mixed aA fz fz
theorem PS:av Tryz.prog 62 a3W:=ay aeN 8 ⟨Tryz.func62,Tryz.call62,ah⟩ _ _ _ _ (by decide) (λx=>by rw[Yn];kernel_rfl)
def amw:Con:=aP true [tN,tI] [tI] λx=>BA x.1 x.2.1
def aup:Cx:=cx [] []
theorem aeO:au Tryz.prog aup:=au.of mixed aA fz fz
theorem aeP:av Tryz.prog 206 amw:=ay aeO 8 ⟨Tryz.func206,Tryz.call206,ah⟩ _ _ _ _ (by decide) (λx=>by rw[Ug];kernel_rfl)
abbrev amx:Shape:= { sl:=[(pc 2 tN 0),(pc 4 tN 1),(pc 5 tN 2),(pv 6 tI),(pv 7 tI),(pv 8 tI)],ob:=[(pv 0 tN),(pv 1 tN),(pv 2 tN)],lo:=3,nx:=3 }
abbrev amy:List Ex:=[(.normal, { sl:=[(pc 4 tN 1),(pc 5 tN 2)],ob:=[(pv 1 tN),(pv 2 tN)],lo:=3,nx:=3 })]
def amz:Code:=aW (aU Tryz.f164) 0
def acY:Lp:=dA amx amy 51 nY
def aeQ:Con:=aP true [tN,tI] [tN] λx=>Ui x.1 x.2.1
def auq:Cx:=cx [] []
theorem a8K:au Tryz.prog auq:=au.of mixed aA fz fz
theorem amA:bV Tryz.prog 0 (.loop amz) acY:=aK a8K 8 (ah) _ _ _ _ (by decide) λ_=>by kernel_rfl
theorem amB:fE Tryz.prog 164 Tryz.f164 [(0,acY)]:=⟨Tryz.func164,Tryz.call164,bB (by kernel_rfl) (aJ amA (by kernel_rfl) fz)⟩
theorem a8L:av Tryz.prog 164 aeQ:=ay a8K 8 amB _ _ _ _ (by decide) (λx=>by rw[Ym];kernel_rfl)
def a8M:Con:=aP true [tN,tN] [tN,tI] λx=>wY x.1 x.2.1
def aur:Cx:=cx [(200,a5v)] []
theorem aeR:au Tryz.prog aur:=au.of mixed aA (fc ⟨a6I,fz⟩) fz
theorem ZT:av Tryz.prog 155 a8M:=ay aeR 8 ⟨Tryz.func155,Tryz.call155,ah⟩ _ _ _ _ (by decide) (λx=>by rw[Uk];kernel_rfl)
def a6J:Con:=aP true [tN,tN] [tI] λx=>zx x.1 x.2.1
def aus:Cx:=cx [] []
theorem aeS:au Tryz.prog aus:=au.of mixed aA fz fz
theorem Vd:av Tryz.prog 115 a6J:=ay aeS 8 ⟨Tryz.func115,Tryz.call115,ah⟩ _ _ _ _ (by decide) (λx=>by rw[Um];kernel_rfl)
def abT:Con:=aP true [tN] [tI] λx=>zy x.1
def aut:Cx:=cx [(113,aeD)] []
theorem aeT:au Tryz.prog aut:=au.of mixed aA (fc ⟨a8H,fz⟩) fz
theorem a3X:av Tryz.prog 61 abT:=ay aeT 8 ⟨Tryz.func61,Tryz.call61,ah⟩ _ _ _ _ (by decide) (λx=>by rw[Ur];kernel_rfl)
abbrev amC:Shape:= { sl:=[(pc 2 tN 0),(pc 4 tN 1),(pc 5 tN 2),(pv 6 tI),(pv 7 tI),(pv 20 tI),(pv 21 tI)],ob:=[(pv 0 tN),(pv 1 tN),(pv 2 tN)],lo:=3,nx:=3 }
abbrev amD:List Ex:=[(.normal, { sl:=[(pc 4 tN 1),(pc 5 tN 2)],ob:=[(pv 1 tN),(pv 2 tN)],lo:=3,nx:=3 })]
def amE:Code:=aW (aU Tryz.f163) 0
def acZ:Lp:=dA amC amD 54 lT
def amF:Con:=aP true [tN,tI] [tN] λx=>Hu x.1 x.2.1
def auu:Cx:=cx [] []
theorem a8N:au Tryz.prog auu:=au.of mixed aA fz fz
theorem amG:bV Tryz.prog 0 (.loop amE) acZ:=aK a8N 8 (ah) _ _ _ _ (by decide) λ_=>by kernel_rfl
theorem amH:fE Tryz.prog 163 Tryz.f163 [(0,acZ)]:=⟨Tryz.func163,Tryz.call163,bB (by kernel_rfl) (aJ amG (by kernel_rfl) fz)⟩
theorem aeU:av Tryz.prog 163 amF:=ay a8N 8 amH _ _ _ _ (by decide) (λx=>by rw[R8];kernel_rfl)
def amI:Con:=aP true [tN,tN] [tN,tI] λx=>Ti x.1 x.2.1
def auv:Cx:=cx [(203,Tn)] []
theorem aeV:au Tryz.prog auv:=au.of mixed aA (fc ⟨PN,fz⟩) fz
theorem aeW:av Tryz.prog 204 amI:=ay aeV 8 ⟨Tryz.func204,Tryz.call204,ah⟩ _ _ _ _ (by decide) (λx=>by rw[Uo];kernel_rfl)
abbrev amJ:Shape:= { sl:=[(pc 1 tN 0),(pv 3 tI),(4,(.w 5 (.int .u8) 2)),(pv 12 tI),(pv 13 tI)],ob:=[(pv 0 tN)],lo:=2,nx:=3 }
abbrev amK:List Ex:=[(.normal, { sl:=[(4,(.w 5 (.int .u8) 3))],ob:=[],lo:=3,nx:=4 })]
def amL:Code:=aW (aU Tryz.f147) 0
def ad1:Lp:=dA amJ amK 34 mO
def amM:Con:=aP true [tN] [.str] λx=>Jr x.1
def auw:Cx:=cx [(61,abT)] []
theorem a8O:au Tryz.prog auw:=au.of mixed aA (fc ⟨a3X,fz⟩) fz
theorem amN:bV Tryz.prog 0 (.loop amL) ad1:=aK a8O 8 (ah) _ _ _ _ (by decide) λ_=>by kernel_rfl
theorem amO:fE Tryz.prog 147 Tryz.f147 [(0,ad1)]:=⟨Tryz.func147,Tryz.call147,bB (by kernel_rfl) (aJ amN (by kernel_rfl) fz)⟩
theorem aeX:av Tryz.prog 147 amM:=ay a8O 8 amO _ _ _ _ (by decide) (λx=>by rw[Nw];kernel_rfl)
end
end Go.Proofs.YtldlihheppdhnaaGreat
namespace Go.Proofs.YtldlihheppdhnaaGreat
noncomputable section
def amP:Con:=aP true [tN,tU,tU] [tN,tN] λx=>Ew x.1 x.2.1 x.2.2.1
def auy:Cx:=cx [(226,aeH)] []
theorem aeY:au Tryz.prog auy:=au.of mixed aA (fc ⟨a8I,fz⟩) fz
theorem aeZ:av Tryz.prog 205 amP:=ay aeY 8 ⟨Tryz.func205,Tryz.call205,ah⟩ _ _ _ _ (by decide) (λx=>by rw[Kq];kernel_rfl)
abbrev amQ:Shape:= { sl:=[(pc 3 tN 0),(pc 4 tN 1),(pc 5 tN 2),(pc 6 tN 3),(pc 7 tN 4),(pc 8 tN 5),(pv 25 tI)],ob:=[(pv 0 tN),(pv 1 tN),(pv 2 tN),(pv 3 tN),(pv 4 tN),(pv 5 tN)],lo:=6,nx:=6 }
abbrev amR:List Ex:=[(.normal, { sl:=[(pc 4 tN 1),(pc 6 tN 3),(pc 7 tN 4),(pc 8 tN 5)],ob:=[(pv 1 tN),(pv 3 tN),(pv 4 tN),(pv 5 tN)],lo:=6,nx:=6 })]
def amS:Code:=aW (aU Tryz.f160) 0
def ad2:Lp:=dA amQ amR 68 gF
def af0:Con:=aP true [tN,tN,tN] [tN,tN] λx=>sU x.1 x.2.1 x.2.2.1
def auz:Cx:=cx [(205,amP),(206,amw),(164,aeQ),(155,a8M),(115,a6J)] []
theorem a8P:au Tryz.prog auz:=au.of mixed aA (fc ⟨aeZ,fc ⟨aeP,fc ⟨a8L,fc ⟨ZT,fc ⟨Vd,fz⟩⟩⟩⟩⟩) fz
theorem amT:bV Tryz.prog 0 (.loop amS) ad2:=aK a8P 8 (ah) _ _ _ _ (by decide) λ_=>by kernel_rfl
theorem amU:fE Tryz.prog 160 Tryz.f160 [(0,ad2)]:=⟨Tryz.func160,Tryz.call160,bB (by kernel_rfl) (aJ amT (by kernel_rfl) fz)⟩
theorem a8Q:av Tryz.prog 160 af0:=ay a8P 8 amU _ _ _ _ (by decide) (λx=>by rw[Hy];kernel_rfl)
def a8R:Con:=aP true [tN,tN,tN] [tN,tI] λx=>uj x.1 x.2.1 x.2.2.1
def auA:Cx:=cx [(160,af0)] []
theorem af2:au Tryz.prog auA:=au.of mixed aA (fc ⟨a8Q,fz⟩) fz
theorem ZU:av Tryz.prog 111 a8R:=ay af2 8 ⟨Tryz.func111,Tryz.call111,ah⟩ _ _ _ _ (by decide) (λx=>by rw[Ra];kernel_rfl)
def af3:Con:=aP true [tN,tN] [tN,tN] λx=>Dk x.1 x.2.1
def auB:Cx:=cx [(202,abS),(203,Tn)] [(201,Tryz.f201,[])]
theorem af4:au Tryz.prog auB:=au.of mixed aA (fc ⟨a3V,fc ⟨PN,fz⟩⟩) (fc ⟨⟨Tryz.func201,Tryz.call201,ah⟩,fz⟩)
theorem a8S:av Tryz.prog 157 af3:=ay af4 8 ⟨Tryz.func157,Tryz.call157,ah⟩ _ _ _ _ (by decide) (λx=>by rw[R9];kernel_rfl)
def amV:Con:=aP true [tN,tN,tN] [tN,tI] λx=>BD x.1 x.2.1 x.2.2.1
def auC:Cx:=cx [(157,af3),(111,a8R)] []
theorem af5:au Tryz.prog auC:=au.of mixed aA (fc ⟨a8S,fc ⟨ZU,fz⟩⟩) fz
theorem af6:av Tryz.prog 112 amV:=ay af5 8 ⟨Tryz.func112,Tryz.call112,ah⟩ _ _ _ _ (by decide) (λx=>by rw[Hz];kernel_rfl)
def af7:Con:=aP true [tN,tN] [tN,tN,tI] λx=>Dl x.1 x.2.1
def auD:Cx:=cx [(160,af0)] []
theorem af8:au Tryz.prog auD:=au.of mixed aA (fc ⟨a8Q,fz⟩) fz
theorem a8T:av Tryz.prog 156 af7:=ay af8 8 ⟨Tryz.func156,Tryz.call156,ah⟩ _ _ _ _ (by decide) (λx=>by rw[Rb];kernel_rfl)
def amW:Con:=aP true [tN,tN,tN] [tN,tI] λx=>nZ x.1 x.2.1 x.2.2.1
def auE:Cx:=cx [(111,a8R),(155,a8M),(204,amI)] []
theorem af9:au Tryz.prog auE:=au.of mixed aA (fc ⟨ZU,fc ⟨ZT,fc ⟨aeW,fz⟩⟩⟩) fz
theorem afa:av Tryz.prog 158 amW:=ay af9 8 ⟨Tryz.func158,Tryz.call158,ah⟩ _ _ _ _ (by decide) (λx=>by rw[HV];kernel_rfl)
abbrev amX:Shape:= { sl:=[(pc 2 tN 0),(pc 3 tN 1),(pc 4 tN 2)],ob:=[(pv 0 tN),(pv 1 tN),(pv 2 tN)],lo:=3,nx:=3 }
abbrev amY:List Ex:=[(.normal, { sl:=[(pc 2 tN 0),(pc 4 tN 2)],ob:=[(pv 0 tN),(pv 2 tN)],lo:=3,nx:=3 })]
def amZ:Code:=aW (aU Tryz.f159) 0
def ad3:Lp:=dA amX amY 21 lU
def an0:Con:=aP true [tN,tN] [tN] λx=>Ag x.1 x.2.1
def auF:Cx:=cx [(156,af7)] []
theorem a8U:au Tryz.prog auF:=au.of mixed aA (fc ⟨a8T,fz⟩) fz
theorem an1:bV Tryz.prog 0 (.loop amZ) ad3:=aK a8U 8 (ah) _ _ _ _ (by decide) λ_=>by kernel_rfl
theorem an2:fE Tryz.prog 159 Tryz.f159 [(0,ad3)]:=⟨Tryz.func159,Tryz.call159,bB (by kernel_rfl) (aJ an1 (by kernel_rfl) fz)⟩
theorem afb:av Tryz.prog 159 an0:=ay a8U 8 an2 _ _ _ _ (by decide) (λx=>by rw[Rf];kernel_rfl)
end
end Go.Proofs.YtldlihheppdhnaaGreat
namespace Go.Proofs.YtldlihheppdhnaaGreat
noncomputable section
def afc:Con:=aP false [tN] [tMN,tI] λx=>xS x.1
def auG:Cx:=cx [(62,a3W),(111,a8R),(112,amV)] []
theorem afd:au Tryz.prog auG:=au.of mixed aA (fc ⟨PS,fc ⟨ZU,fc ⟨af6,fz⟩⟩⟩) fz
theorem a8V:av Tryz.prog 60 afc:=ay afd 8 ⟨Tryz.func60,Tryz.call60,ah⟩ _ _ _ _ (by decide) (λx=>by rw[Rh];kernel_rfl)
def a8W:Con:=aP true [tMN] [.bool] λx=>dn x.1
def afe:Cx:=cx [] []
theorem aff:au Tryz.prog afe:=au.of mixed aA fz fz
theorem auH(r):bX afe [] (dZ afe 8) Tryz.f114 (jC [tMN] (r,())) [] 0 (kJ [.bool])=p9 r:=by cases r<;>kernel_rfl
theorem ZV:av Tryz.prog 114 a8W:=ay aff 8 ⟨Tryz.func114,Tryz.call114,ah⟩ _ _ _ _ (by decide) (λx=>by rw[Ah];exact auH x.1)
def an3:Con:=aP true [tMN,tN] [tN] λx=>qG x.1 x.2.1
def afg:Cx:=cx [(115,a6J),(111,a8R)] []
theorem afh:au Tryz.prog afg:=au.of mixed aA (fc ⟨Vd,fc ⟨ZU,fz⟩⟩) fz
theorem auI(r)(a):bX afg [] (dZ afg 8) Tryz.f227 (jC [tMN,tN] (r,a,())) [] 0 (kJ [tN])=um r a:=by cases r<;>kernel_rfl
theorem afi:av Tryz.prog 227 an3:=ay afh 8 ⟨Tryz.func227,Tryz.call227,ah⟩ _ _ _ _ (by decide) (λx=>by rw[Dm];exact auI x.1 x.2.1)
def an4:Con:=aP true [(.arr 6 tU),tU,tN] [(.arr 6 tU)] λx=>iO x.1 x.2.1 x.2.2.1
def auJ:Cx:=cx [(202,abS),(203,Tn)] []
theorem afj:au Tryz.prog auJ:=au.of mixed aA (fc ⟨a3V,fc ⟨PN,fz⟩⟩) fz
theorem afk:av Tryz.prog 208 an4:=ay afj 8 ⟨Tryz.func208,Tryz.call208,ah⟩ _ _ _ _ (by decide) (λx=>by rw[NC];kernel_rfl)
def abU:Con:=aP true [tMN,tN,tN] [tN] λx=>cK x.1 x.2.1 x.2.2.1
def afl:Cx:=cx [(208,an4),(155,a8M),(115,a6J)] []
theorem afm:au Tryz.prog afl:=au.of mixed aA (fc ⟨afk,fc ⟨ZT,fc ⟨Vd,fz⟩⟩⟩) fz
theorem auK(r)(a)(b):bX afl [] (dZ afl 8) Tryz.f165 (jC [tMN,tN,tN] (r,a,b,())) [] 0 (kJ [tN])=rz r a b:=by cases r<;>kernel_rfl
theorem a3Y:av Tryz.prog 165 abU:=ay afm 8 ⟨Tryz.func165,Tryz.call165,ah⟩ _ _ _ _ (by decide) (λx=>by rw[BF];exact auK x.1 x.2.1 x.2.2.1)
def an5:Con:=aP true [tMN,tN] [tN] λx=>og x.1 x.2.1
def afn:Cx:=cx [(114,a8W),(227,an3),(165,abU)] []
theorem afo:au Tryz.prog afn:=au.of mixed aA (fc ⟨ZV,fc ⟨afi,fc ⟨a3Y,fz⟩⟩⟩) fz
theorem auL(r)(a):bX afn [] (dZ afn 8) Tryz.f207 (jC [tMN,tN] (r,a,())) [] 0 (kJ [tN])=rA r a:=by cases r<;>kernel_rfl
theorem afp:av Tryz.prog 207 an5:=ay afo 8 ⟨Tryz.func207,Tryz.call207,ah⟩ _ _ _ _ (by decide) (λx=>by rw[BH];exact auL x.1 x.2.1)
abbrev an6:Shape:= { sl:=[(0,(.pz (.pair tN (.pair tU (.pair tN tN))))),(pc 4 (.arr 16 tN) 1),(pc 5 (.arr 16 tN) 2),(pc 6 tN 3),(pv 7 tI)],ob:=[(pv 1 (.arr 16 tN)),(pv 2 (.arr 16 tN)),(pv 3 tN)],lo:=4,nx:=4 }
abbrev an7:List Ex:=[(.normal, { sl:=[(pc 4 (.arr 16 tN) 1),(pc 5 (.arr 16 tN) 2)],ob:=[(pv 1 (.arr 16 tN)),(pv 2 (.arr 16 tN))],lo:=4,nx:=4 })]
def an8:Code:=aW (aU Tryz.f161) 0
def a8X:Lp:=dA an6 an7 30 fu
def an9:Con:=aP true [tMN,tN] [(.arr 16 tN)] λx=>pE x.1 x.2.1
def afq:Cx:=cx [(207,an5),(165,abU)] []
theorem a8Y:au Tryz.prog afq:=au.of mixed aA (fc ⟨afp,fc ⟨a3Y,fz⟩⟩) fz
theorem ana:bV Tryz.prog 0 (.loop an8) a8X:=aK a8Y 8 (ah) _ _ _ _ (by decide) λ_=>by kernel_rfl
theorem anb:fE Tryz.prog 161 Tryz.f161 [(0,a8X)]:=⟨Tryz.func161,Tryz.call161,bB (by kernel_rfl) (aJ ana (by kernel_rfl) fz)⟩
theorem auM(r)(a):bX afq [(0,a8X)] (dZ afq 8) Tryz.f161 (jC [tMN,tN] (r,a,())) [] 0 (kJ [(.arr 16 tN)])=nG r a:=by cases r<;>kernel_rfl
theorem afr:av Tryz.prog 161 an9:=ay a8Y 8 anb _ _ _ _ (by decide) (λx=>by rw[yV];exact auM x.1 x.2.1)
def anc:Con:=aP true [tN,tI] [tI] λx=>pF x.1 x.2.1
def auN:Cx:=cx [(163,amF),(164,aeQ),(108,aeL)] []
theorem afs:au Tryz.prog auN:=au.of mixed aA (fc ⟨aeU,fc ⟨a8L,fc ⟨a8J,fz⟩⟩⟩) fz
theorem aft:av Tryz.prog 162 anc:=ay afs 8 ⟨Tryz.func162,Tryz.call162,ah⟩ _ _ _ _ (by decide) (λx=>by rw[yX];kernel_rfl)
abbrev ane:Shape:= { sl:=[(0,(.pz (.pair tN (.pair tU (.pair tN tN))))),(2,(.sz tN)),(pc 6 tN 0),(8,(.w 264 (.arr 16 tN) 1)),(pv 9 tI),(33,(.sz tN)),(pv 34 tI),(pv 35 tI)],ob:=[(pv 0 tN)],lo:=1,nx:=2 }
abbrev anf:List Ex:=[(.normal, { sl:=[(0,(.pz (.pair tN (.pair tU (.pair tN tN))))),(2,(.sz tN)),(pc 6 tN 0),(8,(.w 264 (.arr 16 tN) 2)),(pv 9 tI)],ob:=[(pv 0 tN)],lo:=2,nx:=3 })]
def ang:Code:=aW (aU Tryz.f116) 0
def a8Z:Lp:=dA ane anf 98 gU
abbrev anh:Shape:= { sl:=[(0,(.pz (.pair tN (.pair tU (.pair tN tN))))),(2,(.sz tN)),(pc 6 tN 0),(8,(.w 264 (.arr 16 tN) 5)),(12,(.c ⟨.fn,(.mk 162 [])⟩)),(pc 13 tN 3),(pv 14 tI),(74,(.sz tN)),(pv 75 tI),(pv 76 tI)],ob:=[(pv 0 tN),(pv 3 tN)],lo:=5,nx:=6 }
abbrev ani:List Ex:=[(.normal, { sl:=[(0,(.pz (.pair tN (.pair tU (.pair tN tN))))),(2,(.sz tN)),(pc 6 tN 0),(8,(.w 264 (.arr 16 tN) 6)),(12,(.c ⟨.fn,(.mk 162 [])⟩)),(pc 13 tN 3),(pv 14 tI)],ob:=[(pv 0 tN),(pv 3 tN)],lo:=6,nx:=7 })]
def anj:Code:=aW (aU Tryz.f116) 6
def a5w:Lp:=dA anh ani 98 gV
abbrev a5x:Shape:= { sl:=[(0,(.pz (.pair tN (.pair tU (.pair tN tN))))),(2,(.sz tN)),(pc 6 tN 0),(8,(.w 264 (.arr 16 tN) 4)),(12,(.c ⟨.fn,(.mk 162 [])⟩)),(pc 13 tN 3),(pv 14 tI)],ob:=[(pv 0 tN),(pv 3 tN)],lo:=4,nx:=5 }
abbrev ad4:List Ex:=[(.normal, { sl:=[(0,(.pz (.pair tN (.pair tU (.pair tN tN))))),(pc 6 tN 0),(pc 13 tN 3)],ob:=[(pv 0 tN),(pv 3 tN)],lo:=5,nx:=5 })]
def ad5:Code:=aW (aU Tryz.f116) 2
def a90:Lp:=dA a5x ad4 98 eX
def afu:Con:=aP true [tMN,(.sl tN),(.sl tN)] [tN,tI] λx=>fJ x.1 x.2.1.1 x.2.1.2 x.2.2.1.1 x.2.2.1.2
def a92:Cx:=cx [(114,a8W),(161,an9),(61,abT),(165,abU),(162,anc),(62,a3W)] []
theorem ZW:au Tryz.prog a92:=au.of mixed aA (fc ⟨ZV,fc ⟨afr,fc ⟨a3X,fc ⟨a3Y,fc ⟨aft,fc ⟨PS,fz⟩⟩⟩⟩⟩⟩) fz
theorem ank:bV Tryz.prog 0 (.loop ang) a8Z:=aK ZW 8 (ah) _ _ _ _ (by decide) λ_=>by kernel_rfl
theorem ad6:bV Tryz.prog 6 (.loop anj) a5w:=aK ZW 8 (ah) _ _ _ _ (by decide) λ_=>by kernel_rfl
theorem anl(x:a5x.X):zX a92 [(6,a5w)] (dZ a92 8) ad5 (a5x.mkS 98 x) (qg 2 a5x ad4)=eX x:=by kernel_rfl
theorem anm:bV Tryz.prog 2 (.loop ad5) a90:=aK ZW 8 (bB (by kernel_rfl) (aJ ad6 (by kernel_rfl) fz)) _ _ _ _ (by decide) anl
theorem ano:fE Tryz.prog 116 Tryz.f116 [(0,a8Z),(6,a5w),(2,a90)]:=⟨Tryz.func116,Tryz.call116,bB (by kernel_rfl) (aJ ank (by kernel_rfl) (aJ ad6 (by kernel_rfl) (aJ anm (by kernel_rfl) fz)))⟩
theorem auO(r)(nbases)(bases)(nexps)(exps):bX a92 [(0,a8Z),(6,a5w),(2,a90)] (dZ a92 8) Tryz.f116 (jC [tMN,(.sl tN),(.sl tN)] (r,(nbases,bases),(nexps,exps),())) [] 0 (kJ [tN,tI])=rC r nbases bases nexps exps:=by cases r<;>kernel_rfl
theorem a94:av Tryz.prog 116 afu:=ay ZW 8 ano _ _ _ _ (by decide) (λx=>by rw[BI];exact auO x.1 x.2.1.1 x.2.1.2 x.2.2.1.1 x.2.2.1.2)
def a95:Con:=aP true [tMN,tN,tN] [tN] λx=>aR x.1 x.2.1 x.2.2.1
def afv:Cx:=cx [(116,afu)] []
theorem afw:au Tryz.prog afv:=au.of mixed aA (fc ⟨a94,fz⟩) fz
theorem auP(r)(a)(e):bX afv [] (dZ afv 8) Tryz.f64 (jC [tMN,tN,tN] (r,a,e,())) [] 0 (kJ [tN])=uq r a e:=by cases r<;>kernel_rfl
theorem ZX:av Tryz.prog 64 a95:=ay afw 8 ⟨Tryz.func64,Tryz.call64,ah⟩ _ _ _ _ (by decide) (λx=>by rw[Dn];exact auP x.1 x.2.1 x.2.2.1)
def abV:Con:=aP true [tMN,tN] [.bool] λx=>d9 x.1 x.2.1
def afx:Cx:=cx [(114,a8W),(115,a6J)] []
theorem afy:au Tryz.prog afx:=au.of mixed aA (fc ⟨ZV,fc ⟨Vd,fz⟩⟩) fz
theorem auQ(r)(a):bX afx [] (dZ afx 8) Tryz.f63 (jC [tMN,tN] (r,a,())) [] 0 (kJ [.bool])=wZ r a:=by cases r<;>kernel_rfl
theorem a3Z:av Tryz.prog 63 abV:=ay afy 8 ⟨Tryz.func63,Tryz.call63,ah⟩ _ _ _ _ (by decide) (λx=>by rw[FC];exact auQ x.1 x.2.1)
def anp:Con:=aP true [tMN] [tN] λx=>oh x.1
def afz:Cx:=cx [(114,a8W)] []
theorem afA:au Tryz.prog afz:=au.of mixed aA (fc ⟨ZV,fz⟩) fz
theorem auR(r):bX afz [] (dZ afz 8) Tryz.f231 (jC [tMN] (r,())) [] 0 (kJ [tN])=zA r:=by cases r<;>kernel_rfl
theorem afB:av Tryz.prog 231 anp:=ay afA 8 ⟨Tryz.func231,Tryz.call231,ah⟩ _ _ _ _ (by decide) (λx=>by rw[I6];exact auR x.1)
end
end Go.Proofs.YtldlihheppdhnaaGreat
namespace Go.Proofs.YtldlihheppdhnaaGreat
noncomputable section
abbrev anq:Shape:= { sl:=[(pv 0 tI),(3,(.v .bool)),(pv 11 tI),(pv 12 tI)],ob:=[],lo:=0,nx:=0 }
abbrev anr:List Ex:=[(.normal, { sl:=[(3,(.v .bool))],ob:=[],lo:=0,nx:=0 })]
def ant:Code:=aW (aU Tryz.f109) 0
def ad7:Lp:=dA anq anr 31 dV
def anu:Con:=aP true [tI] [.bool] λx=>BK x.1
def auS:Cx:=cx [] []
theorem a96:au Tryz.prog auS:=au.of mixed aA fz fz
theorem anv:bV Tryz.prog 0 (.loop ant) ad7:=aK a96 8 (ah) _ _ _ _ (by decide) λ_=>by kernel_rfl
theorem anw:fE Tryz.prog 109 Tryz.f109 [(0,ad7)]:=⟨Tryz.func109,Tryz.call109,bB (by kernel_rfl) (aJ anv (by kernel_rfl) fz)⟩
theorem afC:av Tryz.prog 109 anu:=ay a96 8 anw _ _ _ _ (by decide) (λx=>by rw[I7];kernel_rfl)
def anx:Con:=aP true [tN,tN,tI] [.bool] λx=>ED x.1 x.2.1 x.2.2.1
def auT:Cx:=cx [(60,afc),(62,a3W),(155,a8M),(156,af7),(157,af3),(115,a6J),(64,a95),(158,amW),(159,an0)] []
theorem afD:au Tryz.prog auT:=au.of mixed aA (fc ⟨a8V,fc ⟨PS,fc ⟨ZT,fc ⟨a8T,fc ⟨a8S,fc ⟨Vd,fc ⟨ZX,fc ⟨afa,fc ⟨afb,fz⟩⟩⟩⟩⟩⟩⟩⟩⟩) fz
theorem afE:av Tryz.prog 110 anx:=ay afD 8 ⟨Tryz.func110,Tryz.call110,ah⟩ _ _ _ _ (by decide) (λx=>by rw[Kr];kernel_rfl)
abbrev anz:Shape:= { sl:=[(0,(.sz (.pair tN tI))),(pv 5 tI)],ob:=[],lo:=0,nx:=0 }
abbrev anA:List Ex:=[(.ret, { sl:=[(pv 2 tI)],ob:=[],lo:=0,nx:=0 }),(.normal, { sl:=[],ob:=[],lo:=0,nx:=0 })]
def anB:Code:=aW (aU Tryz.f59) 0
def ad8:Lp:=dA anz anA 60 gG
def anC:Con:=aP true [(.sl (.pair tN tI))] [tI] λx=>sV x.1.1 x.1.2
def auU:Cx:=cx [(108,aeL),(109,anu),(110,anx)] []
theorem a97:au Tryz.prog auU:=au.of mixed aA (fc ⟨a8J,fc ⟨afC,fc ⟨afE,fz⟩⟩⟩) fz
theorem anD:bV Tryz.prog 0 (.loop anB) ad8:=aK a97 8 (ah) _ _ _ _ (by decide) λ_=>by kernel_rfl
theorem anE:fE Tryz.prog 59 Tryz.f59 [(0,ad8)]:=⟨Tryz.func59,Tryz.call59,bB (by kernel_rfl) (aJ anD (by kernel_rfl) fz)⟩
theorem afF:av Tryz.prog 59 anC:=ay a97 8 anE _ _ _ _ (by decide) (λx=>by rw[I9];kernel_rfl)
end
end Go.Proofs.YtldlihheppdhnaaGreat
namespace Go.Proofs.YtldlihheppdhnaaGreat
noncomputable section
def anF:Con:=aP false [(.pair (.sl (.pair tN tI)) tN)] [(.ptr tGR),tI] λx=>sW x.1
def auV:Cx:=cx [(59,anC),(60,afc),(61,abT),(62,a3W),(63,abV),(64,a95)] []
theorem afG:au Tryz.prog auV:=au.of mixed aA (fc ⟨afF,fc ⟨a8V,fc ⟨a3X,fc ⟨PS,fc ⟨a3Z,fc ⟨ZX,fz⟩⟩⟩⟩⟩⟩) fz
theorem afH:av Tryz.prog 22 anF:=ay afG 8 ⟨Tryz.func22,Tryz.call22,ah⟩ _ _ _ _ (by decide) (λx=>by rw[ND];kernel_rfl)
def abW:Con:=aP false [(.ptr tGR)] [tMN] λx=>dD x.1
def afI:Cx:=cx [] []
theorem afJ:au Tryz.prog afI:=au.of mixed aA fz fz
theorem auW(g):bX afI [] (dZ afI 8) Tryz.f65 (jC [(.ptr tGR)] (g,())) [] 0 (kJ [tMN])=lV g:=by cases g<;>kernel_rfl
theorem a4a:av Tryz.prog 65 abW:=ay afJ 8 ⟨Tryz.func65,Tryz.call65,ah⟩ _ _ _ _ (by decide) (λx=>by rw[xV];exact auW x.1)
def abX:Con:=aP false [(.ptr tGR)] [tMN] λx=>bP x.1
def afK:Cx:=cx [] []
theorem afL:au Tryz.prog afK:=au.of mixed aA fz fz
theorem auX(g):bX afK [] (dZ afK 8) Tryz.f213 (jC [(.ptr tGR)] (g,())) [] 0 (kJ [tMN])=nH g:=by cases g<;>kernel_rfl
theorem a4b:av Tryz.prog 213 abX:=ay afL 8 ⟨Tryz.func213,Tryz.call213,ah⟩ _ _ _ _ (by decide) (λx=>by rw[yY];exact auX x.1)
def anG:Con:=aP true [(.ptr tGR)] [tN] λx=>eG x.1
def afM:Cx:=cx [(65,abW),(231,anp)] []
theorem afN:au Tryz.prog afM:=au.of mixed aA (fc ⟨a4a,fc ⟨afB,fz⟩⟩) fz
theorem auY(g):bX afM [] (dZ afM 8) Tryz.f214 (jC [(.ptr tGR)] (g,())) [] 0 (kJ [tN])=uw g:=by cases g<;>kernel_rfl
theorem afO:av Tryz.prog 214 anG:=ay afN 8 ⟨Tryz.func214,Tryz.call214,ah⟩ _ _ _ _ (by decide) (λx=>by rw[Dq];exact auY x.1)
def anH:Con:=aP true [(.ptr tGR)] [tN] λx=>qH x.1
def afP:Cx:=cx [] []
theorem afQ:au Tryz.prog afP:=au.of mixed aA fz fz
theorem auZ(g):bX afP [] (dZ afP 8) Tryz.f216 (jC [(.ptr tGR)] (g,())) [] 0 (kJ [tN])=Al g:=by cases g<;>kernel_rfl
theorem afR:av Tryz.prog 216 anH:=ay afQ 8 ⟨Tryz.func216,Tryz.call216,ah⟩ _ _ _ _ (by decide) (λx=>by rw[Dp];exact auZ x.1)
end
end Go.Proofs.YtldlihheppdhnaaGreat
namespace Go.Proofs.YtldlihheppdhnaaGreat
noncomputable section
abbrev anI:Shape:= { sl:=[(pc 1 tN 0),(pc 2 (.arr 256 .bool) 1),(pc 3 (.arr 256 .bool) 2),(pv 4 tI)],ob:=[(pv 0 tN),(pv 1 (.arr 256 .bool)),(pv 2 (.arr 256 .bool))],lo:=3,nx:=3 }
abbrev anJ:List Ex:=[(.normal, { sl:=[(pc 2 (.arr 256 .bool) 1),(pc 3 (.arr 256 .bool) 2)],ob:=[(pv 1 (.arr 256 .bool)),(pv 2 (.arr 256 .bool))],lo:=3,nx:=3 })]
def anK:Code:=aW (aU Tryz.f118) 0
def ad9:Lp:=dA anI anJ 22 vZ
def a98:Con:=aP true [tN] [(.arr 256 .bool)] λx=>Ia x.1
def av0:Cx:=cx [] []
theorem a99:au Tryz.prog av0:=au.of mixed aA fz fz
theorem anL:bV Tryz.prog 0 (.loop anK) ad9:=aK a99 8 (ah) _ _ _ _ (by decide) λ_=>by kernel_rfl
theorem anM:fE Tryz.prog 118 Tryz.f118 [(0,ad9)]:=⟨Tryz.func118,Tryz.call118,bB (by kernel_rfl) (aJ anL (by kernel_rfl) fz)⟩
theorem ZY:av Tryz.prog 118 a98:=ay a99 8 anM _ _ _ _ (by decide) (λx=>by rw[Yo];kernel_rfl)
abbrev anN:Shape:= { sl:=[(pc 3 (.arr 256 .bool) 1),(pv 4 tI)],ob:=[(pv 1 (.arr 256 .bool))],lo:=2,nx:=2 }
abbrev anO:List Ex:=[(.ret, { sl:=[(pv 2 tI)],ob:=[],lo:=2,nx:=2 }),(.normal, { sl:=[],ob:=[],lo:=2,nx:=2 })]
def anP:Code:=aW (aU Tryz.f117) 0
def ada:Lp:=dA anN anO 16 ou
def abY:Con:=aP true [tN] [tI] λx=>Js x.1
def av1:Cx:=cx [(118,a98)] []
theorem a9a:au Tryz.prog av1:=au.of mixed aA (fc ⟨ZY,fz⟩) fz
theorem anQ:bV Tryz.prog 0 (.loop anP) ada:=aK a9a 8 (ah) _ _ _ _ (by decide) λ_=>by kernel_rfl
theorem anR:fE Tryz.prog 117 Tryz.f117 [(0,ada)]:=⟨Tryz.func117,Tryz.call117,bB (by kernel_rfl) (aJ anQ (by kernel_rfl) fz)⟩
theorem a4c:av Tryz.prog 117 abY:=ay a9a 8 anR _ _ _ _ (by decide) (λx=>by rw[UF];kernel_rfl)
abbrev anS:Shape:= { sl:=[(pv 4 tI),(pc 5 (.arr 256 .bool) 1),(pv 6 tI)],ob:=[(pv 1 (.arr 256 .bool))],lo:=2,nx:=2 }
abbrev anT:List Ex:=[(.normal, { sl:=[(pv 4 tI)],ob:=[],lo:=2,nx:=2 })]
def anU:Code:=aW (aU Tryz.f68) 0
def adb:Lp:=dA anS anT 24 ow
def afS:Con:=aP true [tN] [tI,.bool] λx=>EG x.1
def av2:Cx:=cx [(117,abY),(118,a98)] []
theorem a9b:au Tryz.prog av2:=au.of mixed aA (fc ⟨a4c,fc ⟨ZY,fz⟩⟩) fz
theorem anV:bV Tryz.prog 0 (.loop anU) adb:=aK a9b 8 (ah) _ _ _ _ (by decide) λ_=>by kernel_rfl
theorem anW:fE Tryz.prog 68 Tryz.f68 [(0,adb)]:=⟨Tryz.func68,Tryz.call68,bB (by kernel_rfl) (aJ anV (by kernel_rfl) fz)⟩
theorem a9c:av Tryz.prog 68 afS:=ay a9b 8 anW _ _ _ _ (by decide) (λx=>by rw[UH];kernel_rfl)
abbrev anX:Shape:= { sl:=[(pc 1 (.arr 256 .bool) 0),(pc 2 tN 1),(pc 3 tN 2),(pv 4 tI)],ob:=[(pv 0 (.arr 256 .bool)),(pv 1 tN),(pv 2 tN)],lo:=3,nx:=3 }
abbrev anY:List Ex:=[(.normal, { sl:=[(pc 2 tN 1),(pc 3 tN 2)],ob:=[(pv 1 tN),(pv 2 tN)],lo:=3,nx:=3 })]
def anZ:Code:=aW (aU Tryz.f119) 0
def ade:Lp:=dA anX anY 25 om
def ao0:Con:=aP true [(.arr 256 .bool)] [tN] λx=>Tj x.1
def av3:Cx:=cx [] []
theorem a9d:au Tryz.prog av3:=au.of mixed aA fz fz
theorem ao1:bV Tryz.prog 0 (.loop anZ) ade:=aK a9d 8 (ah) _ _ _ _ (by decide) λ_=>by kernel_rfl
theorem ao2:fE Tryz.prog 119 Tryz.f119 [(0,ade)]:=⟨Tryz.func119,Tryz.call119,bB (by kernel_rfl) (aJ ao1 (by kernel_rfl) fz)⟩
theorem afT:av Tryz.prog 119 ao0:=ay a9d 8 ao2 _ _ _ _ (by decide) (λx=>by rw[Ux];kernel_rfl)
abbrev ao3:Shape:= { sl:=[(pv 0 tI),(pc 2 tN 0),(pc 3 (.arr 256 .bool) 1),(pv 4 tI)],ob:=[(pv 0 tN),(pv 1 (.arr 256 .bool))],lo:=2,nx:=2 }
abbrev ao4:List Ex:=[(.normal, { sl:=[(pc 2 tN 0),(pc 3 (.arr 256 .bool) 1)],ob:=[(pv 0 tN),(pv 1 (.arr 256 .bool))],lo:=2,nx:=2 })]
def ao5:Code:=aW (aU Tryz.f71) 0
def adf:Lp:=dA ao3 ao4 23 oq
def a6K:Con:=aP true [tI] [tN] λx=>aT x.1
def av4:Cx:=cx [(119,ao0)] []
theorem a9e:au Tryz.prog av4:=au.of mixed aA (fc ⟨afT,fz⟩) fz
theorem ao6:bV Tryz.prog 0 (.loop ao5) adf:=aK a9e 8 (ah) _ _ _ _ (by decide) λ_=>by kernel_rfl
theorem ao7:fE Tryz.prog 71 Tryz.f71 [(0,adf)]:=⟨Tryz.func71,Tryz.call71,bB (by kernel_rfl) (aJ ao6 (by kernel_rfl) fz)⟩
theorem Ve:av Tryz.prog 71 a6K:=ay a9e 8 ao7 _ _ _ _ (by decide) (λx=>by rw[Uz];kernel_rfl)
abbrev ao8:Shape:= { sl:=[(pc 5 (.arr 256 .bool) 2),(pc 6 (.arr 256 .bool) 3),(pv 7 tI)],ob:=[(pv 2 (.arr 256 .bool)),(pv 3 (.arr 256 .bool))],lo:=4,nx:=4 }
abbrev ao9:List Ex:=[(.ret, { sl:=[(pv 4 tI)],ob:=[],lo:=4,nx:=4 }),(.normal, { sl:=[],ob:=[],lo:=4,nx:=4 })]
def aoa:Code:=aW (aU Tryz.f166) 0
def adg:Lp:=dA ao8 ao9 26 jK
def aob:Con:=aP true [tN,tN] [tI] λx=>Tk x.1 x.2.1
def av5:Cx:=cx [(118,a98)] []
theorem a9f:au Tryz.prog av5:=au.of mixed aA (fc ⟨ZY,fz⟩) fz
theorem aoc:bV Tryz.prog 0 (.loop aoa) adg:=aK a9f 8 (ah) _ _ _ _ (by decide) λ_=>by kernel_rfl
theorem aod:fE Tryz.prog 166 Tryz.f166 [(0,adg)]:=⟨Tryz.func166,Tryz.call166,bB (by kernel_rfl) (aJ aoc (by kernel_rfl) fz)⟩
theorem afU:av Tryz.prog 166 aob:=ay a9f 8 aod _ _ _ _ (by decide) (λx=>by rw[UD];kernel_rfl)
def afV:Con:=aP true [tN,tI] [tI] λx=>NG x.1 x.2.1
def av6:Cx:=cx [(118,a98)] []
theorem afW:au Tryz.prog av6:=au.of mixed aA (fc ⟨ZY,fz⟩) fz
theorem a9g:av Tryz.prog 174 afV:=ay afW 8 ⟨Tryz.func174,Tryz.call174,ah⟩ _ _ _ _ (by decide) (λx=>by rw[UK];kernel_rfl)
abbrev aoe:Shape:= { sl:=[(pc 1 tN 0),(4,(.w 5 (.int .u8) 2)),(pv 5 tI),(pv 6 tI),(pv 7 tI)],ob:=[(pv 0 tN)],lo:=2,nx:=3 }
abbrev aof:List Ex:=[(.normal, { sl:=[(pc 1 tN 0),(4,(.w 5 (.int .u8) 3)),(pv 5 tI),(pv 6 tI)],ob:=[(pv 0 tN)],lo:=3,nx:=4 })]
def aog:Code:=aW (aU Tryz.f128) 2
def a9h:Lp:=dA aoe aof 40 mP
abbrev a5y:Shape:= { sl:=[(pc 1 tN 0),(4,(.w 5 (.int .u8) 1)),(pv 5 tI)],ob:=[(pv 0 tN)],lo:=1,nx:=2 }
abbrev adh:List Ex:=[(.normal, { sl:=[(4,(.w 5 (.int .u8) 2))],ob:=[],lo:=2,nx:=3 })]
def adi:Code:=aW (aU Tryz.f128) 0
def adj:Lp:=dA a5y adh 40 jW
def aoh:Con:=aP true [tN] [.str] λx=>Jt x.1
def afX:Cx:=cx [(117,abY),(174,afV)] []
theorem a4d:au Tryz.prog afX:=au.of mixed aA (fc ⟨a4c,fc ⟨a9g,fz⟩⟩) fz
theorem adk:bV Tryz.prog 2 (.loop aog) a9h:=aK a4d 8 (ah) _ _ _ _ (by decide) λ_=>by kernel_rfl
theorem aoi(x:a5y.X):zX afX [(2,a9h)] (dZ afX 8) adi (a5y.mkS 40 x) (qg 0 a5y adh)=jW x:=by kernel_rfl
theorem aoj:bV Tryz.prog 0 (.loop adi) adj:=aK a4d 8 (bB (by kernel_rfl) (aJ adk (by kernel_rfl) fz)) _ _ _ _ (by decide) aoi
theorem aok:fE Tryz.prog 128 Tryz.f128 [(2,a9h),(0,adj)]:=⟨Tryz.func128,Tryz.call128,bB (by kernel_rfl) (aJ adk (by kernel_rfl) (aJ aoj (by kernel_rfl) fz))⟩
theorem afY:av Tryz.prog 128 aoh:=ay a4d 8 aok _ _ _ _ (by decide) (λx=>by rw[NH];kernel_rfl)
end
end Go.Proofs.YtldlihheppdhnaaGreat
namespace Go.Proofs.YtldlihheppdhnaaGreat
noncomputable section
def aol:Con:=aP false [] [(.pair (.sl (.pair tN tI)) tN)] λx=>Jz
def av7:Cx:=cx [] []
theorem afZ:au Tryz.prog av7:=au.of mixed aA fz fz
theorem ag0:av Tryz.prog 67 aol:=ay afZ 8 ⟨Tryz.func67,Tryz.call67,ah⟩ _ _ _ _ (by decide) (λx=>by rw[NV];kernel_rfl)
def aom:Con:=aP false [] [(.pair (.sl (.pair tN tI)) tN)] λx=>Jy
def av8:Cx:=cx [] []
theorem ag1:au Tryz.prog av8:=au.of mixed aA fz fz
theorem ag2:av Tryz.prog 23 aom:=ay ag1 8 ⟨Tryz.func23,Tryz.call23,ah⟩ _ _ _ _ (by decide) (λx=>by rw[NU];kernel_rfl)
def aon:Con:=aP false [tI] [(.pair (.sl (.pair tN tI)) tN)] λx=>NW x.1
def av9:Cx:=cx [(67,aol),(23,aom)] []
theorem ag3:au Tryz.prog av9:=au.of mixed aA (fc ⟨ag0,fc ⟨ag2,fz⟩⟩) fz
theorem ag4:av Tryz.prog 25 aon:=ay ag3 8 ⟨Tryz.func25,Tryz.call25,ah⟩ _ _ _ _ (by decide) (λx=>by rw[Rp];kernel_rfl)
def aoo:Con:=aP true [(.pair (.sl (.pair tN tI)) tN)] [tN] λx=>a5t x.1
def ava:Cx:=cx [] []
theorem ag5:au Tryz.prog ava:=au.of mixed aA fz fz
theorem ag6:av Tryz.prog 69 aoo:=ay ag5 8 ⟨Tryz.func69,Tryz.call69,ah⟩ _ _ _ _ (by decide) (λx=>by rw[a1z];kernel_rfl)
def aop:Con:=aP true [(.pair (.sl (.pair tN tI)) tN)] [tN] λx=>a5u x.1
def avb:Cx:=cx [] []
theorem ag7:au Tryz.prog avb:=au.of mixed aA fz fz
theorem ag8:av Tryz.prog 70 aop:=ay ag7 8 ⟨Tryz.func70,Tryz.call70,ah⟩ _ _ _ _ (by decide) (λx=>by rw[a1A];kernel_rfl)
end
end Go.Proofs.YtldlihheppdhnaaGreat
namespace Go.Proofs.YtldlihheppdhnaaGreat
noncomputable section
def ag9:Con:=aP true [tI,tI,tI] [tI] λx=>zP x.1 x.2.1 x.2.2.1
def avc:Cx:=cx [(202,abS),(226,aeH)] []
theorem aga:au Tryz.prog avc:=au.of mixed aA (fc ⟨a3V,fc ⟨a8I,fz⟩⟩) fz
theorem a9i:av Tryz.prog 211 ag9:=ay aga 8 ⟨Tryz.func211,Tryz.call211,ah⟩ _ _ _ _ (by decide) (λx=>by rw[NS];kernel_rfl)
abbrev aoq:Shape:= { sl:=[(pv 0 tI),(pv 2 tI),(pc 4 tN 0),(pv 7 tI),(pv 8 tI)],ob:=[(pv 0 tN)],lo:=1,nx:=1 }
abbrev aor:List Ex:=[(.normal, { sl:=[(pv 7 tI)],ob:=[],lo:=1,nx:=1 })]
def aos:Code:=aW (aU Tryz.f210) 0
def adl:Lp:=dA aoq aor 31 jY
def aot:Con:=aP true [tI,tN,tI] [tI] λx=>Jw x.1 x.2.1 x.2.2.1
def avd:Cx:=cx [(117,abY),(211,ag9),(174,afV)] []
theorem a9j:au Tryz.prog avd:=au.of mixed aA (fc ⟨a4c,fc ⟨a9i,fc ⟨a9g,fz⟩⟩⟩) fz
theorem aou:bV Tryz.prog 0 (.loop aos) adl:=aK a9j 8 (ah) _ _ _ _ (by decide) λ_=>by kernel_rfl
theorem aov:fE Tryz.prog 210 Tryz.f210 [(0,adl)]:=⟨Tryz.func210,Tryz.call210,bB (by kernel_rfl) (aJ aou (by kernel_rfl) fz)⟩
theorem agb:av Tryz.prog 210 aot:=ay a9j 8 aov _ _ _ _ (by decide) (λx=>by rw[NT];kernel_rfl)
end
end Go.Proofs.YtldlihheppdhnaaGreat
namespace Go.Proofs.YtldlihheppdhnaaGreat
noncomputable section
def aow:Con:=aP true [(.pair (.sl (.pair tN tI)) tN)] [(.pair tI (.pair tI tI))] λx=>LW x.1
def ave:Cx:=cx [(69,aoo),(68,afS),(70,aop)] []
theorem agc:au Tryz.prog ave:=au.of mixed aA (fc ⟨ag6,fc ⟨a9c,fc ⟨ag8,fz⟩⟩⟩) fz
theorem agd:av Tryz.prog 26 aow:=ay agc 8 ⟨Tryz.func26,Tryz.call26,ah⟩ _ _ _ _ (by decide) (λx=>by rw[Yr];kernel_rfl)
def aox:Con:=aP true [(.pair tI (.pair tI tI)),tI,tN] [tI] λx=>NZ x.1 x.2.1 x.2.2.1
def avf:Cx:=cx [(210,aot)] []
theorem agf:au Tryz.prog avf:=au.of mixed aA (fc ⟨agb,fz⟩) fz
theorem agh:av Tryz.prog 168 aox:=ay agf 8 ⟨Tryz.func168,Tryz.call168,ah⟩ _ _ _ _ (by decide) (λx=>by rw[Vb];kernel_rfl)
end
end Go.Proofs.YtldlihheppdhnaaGreat
namespace Go.Proofs.YtldlihheppdhnaaGreat
noncomputable section
abbrev aoy:Shape:= { sl:=[(pc 2 tN 0),(pc 3 tN 1),(pc 4 (.arr 32 tI) 2),(pc 5 (.arr 32 tI) 3),(pv 6 tI)],ob:=[(pv 0 tN),(pv 1 tN),(pv 2 (.arr 32 tI)),(pv 3 (.arr 32 tI))],lo:=4,nx:=4 }
abbrev aoz:List Ex:=[(.normal, { sl:=[(pc 4 (.arr 32 tI) 2),(pc 5 (.arr 32 tI) 3)],ob:=[(pv 2 (.arr 32 tI)),(pv 3 (.arr 32 tI))],lo:=4,nx:=4 })]
def aoA:Code:=aW (aU Tryz.f229) 0
def adn:Lp:=dA aoy aoz 38 w9
def aoB:Con:=aP true [tN,tN] [(.arr 32 tI)] λx=>UM x.1 x.2.1
def avg:Cx:=cx [] []
theorem a9k:au Tryz.prog avg:=au.of mixed aA fz fz
theorem aoC:bV Tryz.prog 0 (.loop aoA) adn:=aK a9k 8 (ah) _ _ _ _ (by decide) λ_=>by kernel_rfl
theorem aoD:fE Tryz.prog 229 Tryz.f229 [(0,adn)]:=⟨Tryz.func229,Tryz.call229,bB (by kernel_rfl) (aJ aoC (by kernel_rfl) fz)⟩
theorem agi:av Tryz.prog 229 aoB:=ay a9k 8 aoD _ _ _ _ (by decide) (λx=>by rw[Yp];kernel_rfl)
abbrev aoE:Shape:= { sl:=[(pc 2 (.arr 32 tI) 0),(pc 4 (.arr 32 tI) 1),(pc 5 (.arr 32 tI) 2),(pv 6 tI),(pv 7 tI)],ob:=[(pv 0 (.arr 32 tI)),(pv 1 (.arr 32 tI)),(pv 2 (.arr 32 tI))],lo:=3,nx:=3 }
abbrev aoF:List Ex:=[(.normal, { sl:=[(pc 4 (.arr 32 tI) 1),(pc 5 (.arr 32 tI) 2)],ob:=[(pv 1 (.arr 32 tI)),(pv 2 (.arr 32 tI))],lo:=3,nx:=3 })]
def aoG:Code:=aW (aU Tryz.f236) 0
def ado:Lp:=dA aoE aoF 28 mQ
def aoH:Con:=aP true [(.arr 32 tI),tI] [(.arr 32 tI)] λx=>Ju x.1 x.2.1
def avh:Cx:=cx [] []
theorem a9l:au Tryz.prog avh:=au.of mixed aA fz fz
theorem aoI:bV Tryz.prog 0 (.loop aoG) ado:=aK a9l 8 (ah) _ _ _ _ (by decide) λ_=>by kernel_rfl
theorem aoJ:fE Tryz.prog 236 Tryz.f236 [(0,ado)]:=⟨Tryz.func236,Tryz.call236,bB (by kernel_rfl) (aJ aoI (by kernel_rfl) fz)⟩
theorem agj:av Tryz.prog 236 aoH:=ay a9l 8 aoJ _ _ _ _ (by decide) (λx=>by rw[NM];kernel_rfl)
abbrev aoK:Shape:= { sl:=[(pc 2 (.arr 32 tI) 0),(pc 3 (.arr 32 tI) 1),(pv 5 tI)],ob:=[(pv 0 (.arr 32 tI)),(pv 1 (.arr 32 tI))],lo:=2,nx:=2 }
abbrev aoL:List Ex:=[(.ret, { sl:=[(4,(.v .bool))],ob:=[],lo:=2,nx:=2 }),(.normal, { sl:=[],ob:=[],lo:=2,nx:=2 })]
def aoM:Code:=aW (aU Tryz.f237) 0
def adp:Lp:=dA aoK aoL 24 jX
def aoN:Con:=aP true [(.arr 32 tI),(.arr 32 tI)] [.bool] λx=>Jv x.1 x.2.1
def avi:Cx:=cx [] []
theorem a9m:au Tryz.prog avi:=au.of mixed aA fz fz
theorem aoO:bV Tryz.prog 0 (.loop aoM) adp:=aK a9m 8 (ah) _ _ _ _ (by decide) λ_=>by kernel_rfl
theorem aoP:fE Tryz.prog 237 Tryz.f237 [(0,adp)]:=⟨Tryz.func237,Tryz.call237,bB (by kernel_rfl) (aJ aoO (by kernel_rfl) fz)⟩
theorem agk:av Tryz.prog 237 aoN:=ay a9m 8 aoP _ _ _ _ (by decide) (λx=>by rw[NN];kernel_rfl)
abbrev aoQ:Shape:= { sl:=[(pc 2 (.arr 32 tI) 0),(pc 3 (.arr 32 tI) 1),(pc 4 (.arr 32 tI) 2),(pv 5 tI),(pc 6 (.arr 32 tI) 3),(pv 7 tI)],ob:=[(pv 0 (.arr 32 tI)),(pv 1 (.arr 32 tI)),(pv 2 (.arr 32 tI)),(pv 3 (.arr 32 tI))],lo:=4,nx:=4 }
abbrev aoR:List Ex:=[(.normal, { sl:=[(pc 4 (.arr 32 tI) 2),(pc 6 (.arr 32 tI) 3)],ob:=[(pv 2 (.arr 32 tI)),(pv 3 (.arr 32 tI))],lo:=4,nx:=4 })]
def aoS:Code:=aW (aU Tryz.f238) 0
def adq:Lp:=dA aoQ aoR 31 lW
def aoT:Con:=aP true [(.arr 32 tI),(.arr 32 tI)] [(.arr 32 tI)] λx=>NQ x.1 x.2.1
def avj:Cx:=cx [] []
theorem a9n:au Tryz.prog avj:=au.of mixed aA fz fz
theorem aoU:bV Tryz.prog 0 (.loop aoS) adq:=aK a9n 8 (ah) _ _ _ _ (by decide) λ_=>by kernel_rfl
theorem aoV:fE Tryz.prog 238 Tryz.f238 [(0,adq)]:=⟨Tryz.func238,Tryz.call238,bB (by kernel_rfl) (aJ aoU (by kernel_rfl) fz)⟩
theorem agl:av Tryz.prog 238 aoT:=ay a9n 8 aoV _ _ _ _ (by decide) (λx=>by rw[Ro];kernel_rfl)
abbrev aoW:Shape:= { sl:=[(pc 2 (.arr 32 tI) 0),(pc 3 (.arr 32 tI) 1),(pc 4 (.arr 32 tI) 2),(pc 5 (.arr 32 tI) 3),(pc 6 (.arr 32 tI) 4),(pc 7 (.arr 32 tI) 5),(pv 8 tI)],ob:=[(pv 0 (.arr 32 tI)),(pv 1 (.arr 32 tI)),(pv 2 (.arr 32 tI)),(pv 3 (.arr 32 tI)),(pv 4 (.arr 32 tI)),(pv 5 (.arr 32 tI))],lo:=6,nx:=6 }
abbrev aoX:List Ex:=[(.normal, { sl:=[(pc 4 (.arr 32 tI) 2),(pc 5 (.arr 32 tI) 3),(pc 6 (.arr 32 tI) 4),(pc 7 (.arr 32 tI) 5)],ob:=[(pv 2 (.arr 32 tI)),(pv 3 (.arr 32 tI)),(pv 4 (.arr 32 tI)),(pv 5 (.arr 32 tI))],lo:=6,nx:=6 })]
def aoY:Code:=aW (aU Tryz.f228) 0
def adr:Lp:=dA aoW aoX 45 jg
def aoZ:Con:=aP true [(.arr 32 tI),(.arr 32 tI)] [(.arr 32 tI),(.arr 32 tI)] λx=>EH x.1 x.2.1
def avk:Cx:=cx [(236,aoH),(237,aoN),(238,aoT)] []
theorem a9o:au Tryz.prog avk:=au.of mixed aA (fc ⟨agj,fc ⟨agk,fc ⟨agl,fz⟩⟩⟩) fz
theorem ap0:bV Tryz.prog 0 (.loop aoY) adr:=aK a9o 8 (ah) _ _ _ _ (by decide) λ_=>by kernel_rfl
theorem ap1:fE Tryz.prog 228 Tryz.f228 [(0,adr)]:=⟨Tryz.func228,Tryz.call228,bB (by kernel_rfl) (aJ ap0 (by kernel_rfl) fz)⟩
theorem agm:av Tryz.prog 228 aoZ:=ay a9o 8 ap1 _ _ _ _ (by decide) (λx=>by rw[Kz];kernel_rfl)
abbrev ap2:Shape:= { sl:=[(pc 1 (.arr 32 tI) 0),(pc 2 tN 1),(pc 3 tN 2),(pc 4 tN 3),(pc 5 tN 4),(pv 6 tI)],ob:=[(pv 0 (.arr 32 tI)),(pv 1 tN),(pv 2 tN),(pv 3 tN),(pv 4 tN)],lo:=5,nx:=5 }
abbrev ap3:List Ex:=[(.normal, { sl:=[(pc 2 tN 1),(pc 3 tN 2),(pc 4 tN 3),(pc 5 tN 4)],ob:=[(pv 1 tN),(pv 2 tN),(pv 3 tN),(pv 4 tN)],lo:=5,nx:=5 })]
def ap4:Code:=aW (aU Tryz.f230) 0
def ads:Lp:=dA ap2 ap3 48 pG
def ap5:Con:=aP true [(.arr 32 tI)] [tN,tN] λx=>NK x.1
def avl:Cx:=cx [] []
theorem a9p:au Tryz.prog avl:=au.of mixed aA fz fz
theorem ap6:bV Tryz.prog 0 (.loop ap4) ads:=aK a9p 8 (ah) _ _ _ _ (by decide) λ_=>by kernel_rfl
theorem ap7:fE Tryz.prog 230 Tryz.f230 [(0,ads)]:=⟨Tryz.func230,Tryz.call230,bB (by kernel_rfl) (aJ ap6 (by kernel_rfl) fz)⟩
theorem agn:av Tryz.prog 230 ap5:=ay a9p 8 ap7 _ _ _ _ (by decide) (λx=>by rw[Rn];kernel_rfl)
def ap8:Con:=aP true [tN,tN,tN] [tN,tI] λx=>NR x.1 x.2.1 x.2.2.1
def avm:Cx:=cx [(229,aoB),(228,aoZ),(230,ap5)] []
theorem agp:au Tryz.prog avm:=au.of mixed aA (fc ⟨agi,fc ⟨agm,fc ⟨agn,fz⟩⟩⟩) fz
theorem agq:av Tryz.prog 209 ap8:=ay agp 8 ⟨Tryz.func209,Tryz.call209,ah⟩ _ _ _ _ (by decide) (λx=>by rw[UU];kernel_rfl)
end
end Go.Proofs.YtldlihheppdhnaaGreat
namespace Go.Proofs.YtldlihheppdhnaaGreat
noncomputable section
def ap9:Con:=aP true [tN,tI] [tI] λx=>ZQ x.1 x.2.1
def avn:Cx:=cx [(71,a6K),(209,ap8),(68,afS)] []
theorem agr:au Tryz.prog avn:=au.of mixed aA (fc ⟨Ve,fc ⟨agq,fc ⟨a9c,fz⟩⟩⟩) fz
theorem ags:av Tryz.prog 167 ap9:=ay agr 8 ⟨Tryz.func167,Tryz.call167,ah⟩ _ _ _ _ (by decide) (λx=>by rw[Yq];kernel_rfl)
abbrev apa:Shape:= { sl:=[(0,(.sz tN)),(pv 1 tI),(5,(.w 3 tI 0)),(pv 6 tI)],ob:=[],lo:=0,nx:=1 }
abbrev apb:List Ex:=[(.normal, { sl:=[(5,(.w 3 tI 1))],ob:=[],lo:=1,nx:=2 })]
def apc:Code:=aW (aU Tryz.f121) 0
def adt:Lp:=dA apa apb 23 sZ
def apd:Con:=aP false [(.sl tN),tI] [(.sl tI)] λx=>x9 x.1.1 x.1.2 x.2.1
def avo:Cx:=cx [(167,ap9)] []
theorem a9q:au Tryz.prog avo:=au.of mixed aA (fc ⟨ags,fz⟩) fz
theorem ape:bV Tryz.prog 0 (.loop apc) adt:=aK a9q 8 (ah) _ _ _ _ (by decide) λ_=>by kernel_rfl
theorem apf:fE Tryz.prog 121 Tryz.f121 [(0,adt)]:=⟨Tryz.func121,Tryz.call121,bB (by kernel_rfl) (aJ ape (by kernel_rfl) fz)⟩
theorem agt:av Tryz.prog 121 apd:=ay a9q 8 apf _ _ _ _ (by decide) (λx=>by rw[V9];kernel_rfl)
def apg:Con:=aP true [tI,tI,tI] [tI] λx=>NY x.1 x.2.1 x.2.2.1
def avp:Cx:=cx [(211,ag9)] []
theorem agu:au Tryz.prog avp:=au.of mixed aA (fc ⟨a9i,fz⟩) fz
theorem agv:av Tryz.prog 170 apg:=ay agu 8 ⟨Tryz.func170,Tryz.call170,ah⟩ _ _ _ _ (by decide) (λx=>by rw[V7];kernel_rfl)
def aph:Con:=aP true [tI,tI,tI] [tI] λx=>Tm x.1 x.2.1 x.2.2.1
def avq:Cx:=cx [] []
theorem agw:au Tryz.prog avq:=au.of mixed aA fz fz
theorem agx:av Tryz.prog 169 aph:=ay agw 8 ⟨Tryz.func169,Tryz.call169,ah⟩ _ _ _ _ (by decide) (λx=>by rw[V5];kernel_rfl)
end
end Go.Proofs.YtldlihheppdhnaaGreat
namespace Go.Proofs.YtldlihheppdhnaaGreat
noncomputable def apj:Con:=aP true [(.ptr tGR),tN] [.bool] λx=>Ih x.1 x.2.1
noncomputable def agy:Cx:=cx [(65,abW),(63,abV)] []
theorem agz:au Tryz.prog agy:=au.of mixed aA (fc ⟨a4a,fc ⟨a3Z,fz⟩⟩) fz
theorem avr(g)(a):bX agy [] (dZ agy 8) Tryz.f181 (jC [(.ptr tGR),tN] (g,a,())) [] 0 (kJ [.bool])=JA g a:=by cases g<;>kernel_rfl
theorem agA:av Tryz.prog 181 apj:=ay agz 8 ⟨Tryz.func181,Tryz.call181,ah⟩ _ _ _ _ (by decide) (λx=>by rw[Rs];exact avr x.1 x.2.1)
end Go.Proofs.YtldlihheppdhnaaGreat
namespace Go.Proofs.YtldlihheppdhnaaGreat
noncomputable section
def agB:Con:=aP true [(.ptr tGR),tN] [.bool] λx=>O1 x.1 x.2.1
def agC:Cx:=cx [(213,abX),(63,abV),(214,anG),(64,a95),(62,a3W)] []
theorem agD:au Tryz.prog agC:=au.of mixed aA (fc ⟨a4b,fc ⟨a3Z,fc ⟨afO,fc ⟨ZX,fc ⟨PS,fz⟩⟩⟩⟩⟩) fz
theorem avs(g)(a):bX agC [] (dZ agC 8) Tryz.f180 (jC [(.ptr tGR),tN] (g,a,())) [] 0 (kJ [.bool])=JC g a:=by cases g<;>kernel_rfl
theorem a9r:av Tryz.prog 180 agB:=ay agD 8 ⟨Tryz.func180,Tryz.call180,ah⟩ _ _ _ _ (by decide) (λx=>by rw[Ru];exact avs x.1 x.2.1)
def apk:Con:=aP true [(.ptr tGR),tN,tN] [tN] λx=>Dr x.1 x.2.1 x.2.2.1
def agE:Cx:=cx [(213,abX),(64,a95)] []
theorem agF:au Tryz.prog agE:=au.of mixed aA (fc ⟨a4b,fc ⟨ZX,fz⟩⟩) fz
theorem avt(g)(a)(e):bX agE [] (dZ agE 8) Tryz.f215 (jC [(.ptr tGR),tN,tN] (g,a,e,())) [] 0 (kJ [tN])=EI g a e:=by cases g<;>kernel_rfl
theorem agG:av Tryz.prog 215 apk:=ay agF 8 ⟨Tryz.func215,Tryz.call215,ah⟩ _ _ _ _ (by decide) (λx=>by rw[O0];exact avt x.1 x.2.1 x.2.2.1)
def apl:Con:=aP true [(.ptr tGR),tN] [tN] λx=>Ij x.1 x.2.1
def agH:Cx:=cx [(216,anH),(215,apk)] []
theorem agI:au Tryz.prog agH:=au.of mixed aA (fc ⟨afR,fc ⟨agG,fz⟩⟩) fz
theorem avu(g)(e):bX agH [] (dZ agH 8) Tryz.f182 (jC [(.ptr tGR),tN] (g,e,())) [] 0 (kJ [tN])=JB g e:=by cases g<;>kernel_rfl
theorem agJ:av Tryz.prog 182 apl:=ay agI 8 ⟨Tryz.func182,Tryz.call182,ah⟩ _ _ _ _ (by decide) (λx=>by rw[Rt];exact avu x.1 x.2.1)
def apm:Con:=aP true [(.ptr tGR),(.sl tN),(.sl tN)] [tN,tI] λx=>BN x.1 x.2.1.1 x.2.1.2 x.2.2.1.1 x.2.2.1.2
def agK:Cx:=cx [(213,abX),(116,afu)] []
theorem agL:au Tryz.prog agK:=au.of mixed aA (fc ⟨a4b,fc ⟨a94,fz⟩⟩) fz
theorem avv(g)(nbases)(bases)(nexps)(exps):bX agK [] (dZ agK 8) Tryz.f217 (jC [(.ptr tGR),(.sl tN),(.sl tN)] (g,(nbases,bases),(nexps,exps),())) [] 0 (kJ [tN,tI])=zB g nbases bases nexps exps:=by cases g<;>kernel_rfl
theorem agM:av Tryz.prog 217 apm:=ay agL 8 ⟨Tryz.func217,Tryz.call217,ah⟩ _ _ _ _ (by decide) (λx=>by rw[Ii];exact avv x.1 x.2.1.1 x.2.1.2 x.2.2.1.1 x.2.2.1.2)
end
end Go.Proofs.YtldlihheppdhnaaGreat
