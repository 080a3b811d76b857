/-
  The functions of the program are the plain ones.
-/
import Derived.Test.YtldlihheppdhnaaGreatProg
import Derived.Test.YtldlihheppdhnaaGreatDenM
import Derived.KernelRfl
import Derived.Test.YtldlihheppdhnaaGreatPlA
set_option linter.unusedVariables false
set_option linter.unusedSimpArgs false
set_option maxRecDepth 100000
set_option maxHeartbeats 0
namespace Go.Pl
end Go.Pl
open Go Go.Den Go.Pl
namespace Go.Proofs.YtldlihheppdhnaaGreat
noncomputable section
abbrev tN:Ty:=.arr 4 (.int .u64)
abbrev tU:Ty:=.int .u64
abbrev tI:Ty:=.int .i64
abbrev pc(i:Nat)(t:Ty)(r:Nat):Nat×Pat:=(i,.c ⟨.ptr t,.rf r []⟩)
abbrev pv(i:Nat)(t:Ty):Nat×Pat:=(i,.v t)
theorem fc {α:Type _} {p:α→Prop} {a:α} {l:List α}(h:p a∧ ∀x∈l,p x): ∀x∈a::l,p x:=awS.2 h
theorem fz {α:Type _} {p:α→Prop} : ∀x∈([]:List α),p x:=List.forall_mem_nil _
abbrev oSV(s:Nat)(q:Option Nat)(a:Nat)(w:Pat):Nat×Pat:=(0,.p (.pz tGR) (.p (.v tI) (.p (.v tI) (.p (.v tI) (.p (.v tI) (.p (.c ⟨.ptr tSP,.rf s []⟩) (.p (.bg .str tRC a q) w)))))))
abbrev oSP(s a b:Nat):Nat×Pat:=(s,.p (.v tI) (.p (.v tI) (.p (.w 9 .str a) (.m tI tI b))))
abbrev oS(a b c:Nat)(l:List (Nat×Pat)):List (Nat×Pat):=oSV 1 none a (.sz tOU)::oSP 1 b c::l
abbrev oW(a b c d:Nat)(l:List (Nat×Pat)):List (Nat×Pat):=oSV 1 none a (.w 60 tOU b)::oSP 1 c d::l
abbrev ZZ0:Pat:=.p (.v tVA) (.p (.v .str) (.p (.c ⟨(.ptr tVT),(.rf 2 [])⟩) (.p (.c ⟨(.ptr tVT),(.rf 3 [])⟩) (.v (.arr 4 tCL)))))
abbrev ZZ1:Pat:=.p (.pz tGR) (.p (.v tI) (.p (.v tI) (.p (.v tI) (.p (.v tI) (.p (.c ⟨(.ptr tSP),(.rf 4 [])⟩) (.p (.bg .str tRC 5 (some 1)) (.w 60 tOU 6)))))))
abbrev ZZ2:Pat:=.p (.v tI) (.p (.v tI) (.p (.v .str) (.p (.v (.pair tI tI)) (.p (.v .str) (.p (.sz (.sl tN)) (.sz tN))))))
abbrev ZZ3:Pat:=.p (.v tI) (.p (.v tI) (.p (.w 9 .str 7) (.m tI tI 8)))
abbrev ZZ4:Pat:=.p (.v tVA) (.p (.v .str) (.p (.c ⟨(.ptr tVT),(.rf 1 [])⟩) (.p (.c ⟨(.ptr tVT),(.rf 2 [])⟩) (.v (.arr 4 tCL)))))
abbrev ZZ5:Pat:=.p (.pz tGR) (.p (.v tI) (.p (.v tI) (.p (.v tI) (.p (.v tI) (.p (.c ⟨(.ptr tSP),(.rf 4 [])⟩) (.p (.bg .str tRC 51 (some 1)) (.w 60 tOU 52)))))))
abbrev ZZ6:Pat:=.p (.v tVA) (.p (.v .str) (.p (.c ⟨(.ptr tVT),(.rf 16 [])⟩) (.p (.c ⟨(.ptr tVT),(.rf 17 [])⟩) (.v (.arr 4 tCL)))))
abbrev ZZ7:Pat:=.p (.v tI) (.p (.v tI) (.p (.w 9 .str 1) (.m tI tI 2)))
abbrev fd(n:String)(t o b:Nat)(p:= "")(e:=false):Field:=⟨n,t,o,e, "",p,b⟩
abbrev asc:Ty:=.arr 256 .bool
abbrev aiZ:Ty:=.sl (.int .u8)
abbrev y44:Ty:=.sl (.int .i64)
abbrev ase:Ty:=.ptr (.int .u8)
abbrev asf:Ty:=.sl (.int .u64)
abbrev asg:Ty:=.sl (.int .u32)
abbrev ash:Ty:=.arr 8 (.int .u8)
abbrev y75:Ty:=.arr 4 (.int .u64)
abbrev asi:Ty:=.arr 8 (.int .i64)
abbrev aj0:Ty:=.arr 8 (.int .u32)
abbrev aj1:Ty:=.arr 64 (.int .u8)
abbrev asj:Ty:=.arr 8 (.int .u64)
abbrev asl:Ty:=.arr 6 (.int .u64)
abbrev asn:Ty:=.arr 64 (.int .i64)
abbrev aso:Ty:=.arr 64 (.int .u32)
abbrev asq:Ty:=.arr 32 (.int .i64)
abbrev y39:Ty:=.sl y75
abbrev aj2:Ty:=.arr 16 y75
abbrev y31:Ty:=.pair (.int .i64) (.int .i64)
abbrev y38:Ty:=.sl y39
abbrev asr:Ty:=.pair (.sp 244) aiZ
abbrev asu:Ty:=.sl aj2
abbrev aj3:Ty:=.pair y75 (.int .i64)
abbrev asv:Ty:=.pair (.int .i64) y75
abbrev aaE:Ty:=.pair y31 .str
abbrev y72:Ty:=.sl aj3
abbrev aj4:Ty:=.pair (.int .i64) y39
abbrev y26:Ty:=.pair (.int .i64) y31
abbrev asw:Ty:=.ptr aaE
abbrev y85:Ty:=.sl aj4
abbrev aj5:Ty:=.arr 2 aaE
abbrev aj6:Ty:=.pair (.int .i64) (.pair (.int .i64) (.pair (.sl .str) .mp))
abbrev aj7:Ty:=.arr 4 aj5
abbrev aj8:Ty:=.pair (.int .i64) aaE
abbrev y64:Ty:=.ptr aj6
abbrev y115:Ty:=.sl aj8
abbrev aj9:Ty:=.arr 7 aj7
abbrev y77:Ty:=.pair y72 y75
abbrev y46:Ty:=.pair (.int .i64) (.pair (.int .i64) (.pair (.sl .str) y44))
abbrev aja:Ty:=.pair .bool (.pair aj0 (.pair aj1 (.int .i64)))
abbrev asx:Ty:=.ptr aja
abbrev ajb:Ty:=.pair (.int .i64) aj9
abbrev y97:Ty:=.ptr ajb
abbrev ajc:Ty:=.pair y75 (.pair (.int .u64) (.pair y75 y75))
abbrev adq:Ty:=.ptr ajc
abbrev y96:Ty:=.pair y31 (.pair .str (.pair (.st y39) (.st y75)))
abbrev y99:Ty:=.pair y96 (.int .i64)
abbrev y114:Ty:=.pair y31 (.pair .str (.pair y38 (.pair y39 (.int .i64))))
abbrev asy:Ty:=.sl y99
abbrev ajd:Ty:=.ptr y99
abbrev aje:Ty:=.arr 2 y99
abbrev ajf:Ty:=.arr 2 y114
abbrev y33:Ty:=.pair (.int .i64) (.pair (.int .i64) (.pair (.int .i64) (.pair (.int .i64) (.pair y31 y31))))
abbrev asz:Ty:=.sl ajd
abbrev y22:Ty:=.sl y33
abbrev y41:Ty:=.pair (.int .i64) (.pair (.int .i64) (.pair .str (.pair y31 (.pair .str (.pair y38 y39)))))
abbrev y57:Ty:=.sl y41
abbrev y60:Ty:=.pair (.int .i64) y41
abbrev y35:Ty:=.sl y60
abbrev ajg:Ty:=.pair adq adq
abbrev y157:Ty:=.pair ajg y75
abbrev y63:Ty:=.ptr y157
abbrev y102:Ty:=.pair aje (.pair y99 y31)
abbrev ajh:Ty:=.pair ajf (.pair y114 y31)
abbrev aji:Ty:=.arr 4 y102
abbrev ajj:Ty:=.arr 4 ajh
abbrev y67:Ty:=.pair y63 (.pair (.int .i64) (.pair (.int .i64) (.pair (.int .i64) (.pair (.int .i64) (.pair y64 (.pair .mp y35))))))
abbrev y23:Ty:=.ptr y67
abbrev y68:Ty:=.sl y23
abbrev ajk:Ty:=.pair .str (.pair y114 (.pair y115 (.pair y115 ajj)))
abbrev y47:Ty:=.sl ajk
abbrev ajl:Ty:=.pair y96 (.pair .str (.pair y97 (.pair y97 aji)))
abbrev y90:Ty:=.ptr ajl
abbrev y49:Ty:=.pair y26 (.pair (.int .i64) (.pair (.int .i64) (.pair (.int .i64) (.pair (.int .i64) (.pair y46 (.pair y47 y35))))))
abbrev y24:Ty:=.ptr y49
abbrev q3:Nat×TI:=(3,⟨(TypeDesc.int IntKind.i64),(.int .i64),8⟩)
abbrev q4:Nat×TI:=(4,⟨TypeDesc.bool,.bool,1⟩)
abbrev q5:Nat×TI:=(5,⟨(TypeDesc.int IntKind.u8),(.int .u8),1⟩)
abbrev q9:Nat×TI:=(9,⟨TypeDesc.string,.str,16⟩)
abbrev q22:Nat×TI:=(22,⟨(TypeDesc.slice 33),y22,24⟩)
abbrev q23:Nat×TI:=(23,⟨(TypeDesc.pointer 67),y23,8⟩)
abbrev q24:Nat×TI:=(24,⟨(TypeDesc.pointer 49),y24,8⟩)
abbrev q26:Nat×TI:=(26,⟨(TypeDesc.struct #[fd "P" 3 0 0,fd "Q" 3 1 8,fd "G" 3 2 16]),y26,24⟩)
abbrev q31:Nat×TI:=(31,⟨(TypeDesc.struct #[fd "Seq" 3 0 0,fd "Client" 3 1 8]),y31,16⟩)
abbrev q33:Nat×TI:=(33,⟨(TypeDesc.struct #[fd "From" 3 0 0,fd "Kind" 3 1 8,fd "Op" 3 2 16,fd "Key" 3 3 24,fd "Stamp" 31 4 32,fd "Value" 3 6 48,fd "Share" 3 7 56]),y33,64⟩)
abbrev q35:Nat×TI:=(35,⟨(TypeDesc.slice 60),y35,24⟩)
abbrev q38:Nat×TI:=(38,⟨(TypeDesc.slice 39),y38,24⟩)
abbrev q39:Nat×TI:=(39,⟨(TypeDesc.slice 75),y39,24⟩)
abbrev q41:Nat×TI:=(41,⟨(TypeDesc.struct #[fd "Kind" 3 0 0,fd "Op" 3 1 8,fd "Key" 9 2 16,fd "Stamp" 31 3 32,fd "Digest" 9 5 48,fd "Matrix" 38 6 64,fd "Ys" 39 7 88]),y41,112⟩)
abbrev q43:Nat×TI:=(43,⟨(TypeDesc.slice 9),(.sl .str),24⟩)
abbrev q44:Nat×TI:=(44,⟨(TypeDesc.slice 3),y44,24⟩)
abbrev q46:Nat×TI:=(46,⟨(TypeDesc.struct #[fd "N" 3 0 0,fd "M" 3 1 8,fd "Keys" 43 2 16,fd "Ends" 44 3 40]),y46,64⟩)
abbrev q47:Nat×TI:=(47,⟨(TypeDesc.slice 121),y47,24⟩)
abbrev q49:Nat×TI:=(49,⟨(TypeDesc.struct #[fd "G" 26 0 0,fd "T" 3 3 24,fd "I" 3 4 32,fd "N" 3 5 40,fd "M" 3 6 48,fd "Space" 46 7 56,fd "Records" 47 11 120,fd "Out" 35 12 144]),y49,168⟩)
abbrev q57:Nat×TI:=(57,⟨(TypeDesc.slice 41),y57,24⟩)
abbrev q60:Nat×TI:=(60,⟨(TypeDesc.struct #[fd "To" 3 0 0,fd "M" 41 1 8]),y60,120⟩)
abbrev q63:Nat×TI:=(63,⟨(TypeDesc.pointer 157),y63,8⟩)
abbrev q64:Nat×TI:=(64,⟨(TypeDesc.pointer 171),y64,8⟩)
abbrev q65:Nat×TI:=(65,⟨(TypeDesc.map 9 90),.mp,8⟩)
abbrev q67:Nat×TI:=(67,⟨(TypeDesc.struct #[fd "g" 63 0 0 "sacristy/server",fd "t" 3 1 8 "sacristy/server",fd "number" 3 2 16 "sacristy/server",fd "n" 3 3 24 "sacristy/server",fd "m" 3 4 32 "sacristy/server",fd "space" 64 5 40 "sacristy/server",fd "records" 65 6 48 "sacristy/server",fd "out" 35 7 56 "sacristy/server"]),y67,80⟩)
abbrev q68:Nat×TI:=(68,⟨(TypeDesc.slice 23),y68,24⟩)
abbrev q69:Nat×TI:=(69,⟨(TypeDesc.int IntKind.i64),(.int .i64),8⟩)
abbrev q72:Nat×TI:=(72,⟨(TypeDesc.slice 149),y72,24⟩)
abbrev q73:Nat×TI:=(73,⟨(TypeDesc.int IntKind.u64),(.int .u64),8⟩)
abbrev q75:Nat×TI:=(75,⟨(TypeDesc.array 4 73),y75,32⟩)
abbrev q77:Nat×TI:=(77,⟨(TypeDesc.struct #[fd "Chain" 72 0 0,fd "G" 75 1 24]),y77,56⟩)
abbrev q82:Nat×TI:=(82,⟨(TypeDesc.int IntKind.u64),(.int .u64),8⟩)
abbrev q85:Nat×TI:=(85,⟨(TypeDesc.slice 125),y85,24⟩)
abbrev q90:Nat×TI:=(90,⟨(TypeDesc.pointer 105),y90,8⟩)
abbrev q96:Nat×TI:=(96,⟨(TypeDesc.struct #[fd "stamp" 31 0 0 "sacristy/server",fd "digest" 9 2 16 "sacristy/server",fd "m" 38 3 32 "sacristy/server",fd "ys" 39 4 56 "sacristy/server"]),y96,80⟩)
abbrev q97:Nat×TI:=(97,⟨(TypeDesc.pointer 226),y97,8⟩)
abbrev q99:Nat×TI:=(99,⟨(TypeDesc.struct #[fd "value" 96 0 0 "sacristy/server" true,fd "op" 3 5 80 "sacristy/server"]),y99,88⟩)
abbrev ajm:Nat×TI:=(100,⟨(TypeDesc.array 2 99),aje,176⟩)
abbrev ajn:Nat×TI:=(102,⟨(TypeDesc.struct #[fd "props" 100 0 0 "sacristy/server",fd "waits" 99 12 176 "sacristy/server",fd "op" 3 18 264 "sacristy/server",fd "left" 3 19 272 "sacristy/server"]),y102,280⟩)
abbrev ajo:Nat×TI:=(103,⟨(TypeDesc.array 4 102),aji,1120⟩)
abbrev ajp:Nat×TI:=(105,⟨(TypeDesc.struct #[fd "value" 96 0 0 "sacristy/server" true,fd "key" 9 5 80 "sacristy/server",fd "echoes" 97 6 96 "sacristy/server",fd "readies" 97 7 104 "sacristy/server",fd "clients" 103 8 112 "sacristy/server"]),ajl,1232⟩)
abbrev ajq:Nat×TI:=(114,⟨(TypeDesc.struct #[fd "Stamp" 31 0 0,fd "Digest" 9 2 16,fd "Matrix" 38 3 32,fd "Ys" 39 4 56,fd "Op" 3 5 80]),y114,88⟩)
abbrev ajr:Nat×TI:=(115,⟨(TypeDesc.slice 137),y115,24⟩)
abbrev ajs:Nat×TI:=(116,⟨(TypeDesc.array 2 114),ajf,176⟩)
abbrev ajt:Nat×TI:=(118,⟨(TypeDesc.struct #[fd "Props" 116 0 0,fd "Waits" 114 12 176,fd "Op" 3 18 264,fd "Left" 3 19 272]),ajh,280⟩)
abbrev aju:Nat×TI:=(119,⟨(TypeDesc.array 4 118),ajj,1120⟩)
abbrev ajv:Nat×TI:=(121,⟨(TypeDesc.struct #[fd "Key" 9 0 0,fd "Held" 114 1 16,fd "Echoes" 115 7 104,fd "Readies" 115 8 128,fd "Clients" 119 9 152]),ajk,1272⟩)
abbrev ajw:Nat×TI:=(125,⟨(TypeDesc.struct #[fd "I" 3 0 0,fd "Ys" 39 1 8]),aj4,32⟩)
abbrev ajx:Nat×TI:=(137,⟨(TypeDesc.struct #[fd "Server" 3 0 0,fd "Stamp" 31 1 8,fd "Digest" 9 3 24]),aj8,40⟩)
abbrev ajy:Nat×TI:=(145,⟨(TypeDesc.pointer 201),adq,8⟩)
abbrev ajz:Nat×TI:=(149,⟨(TypeDesc.struct #[fd "N" 75 0 0,fd "A" 3 4 32]),aj3,40⟩)
abbrev ajA:Nat×TI:=(155,⟨(TypeDesc.struct #[fd "ring" 145 0 0 "sacristy/group",fd "field" 145 1 8 "sacristy/group"]),ajg,16⟩)
abbrev ajB:Nat×TI:=(157,⟨(TypeDesc.struct #[fd "rings" 155 0 0 "sacristy/group" true,fd "g" 75 2 16 "sacristy/group"]),y157,48⟩)
abbrev ajC:Nat×TI:=(169,⟨(TypeDesc.map 3 3),.mp,8⟩)
abbrev ajD:Nat×TI:=(171,⟨(TypeDesc.struct #[fd "servers" 3 0 0 "sacristy/space",fd "clients" 3 1 8 "sacristy/space",fd "keys" 43 2 16 "sacristy/space",fd "used" 169 3 40 "sacristy/space"]),aj6,48⟩)
abbrev ajE:Nat×TI:=(174,⟨(TypeDesc.pointer 177),asw,8⟩)
abbrev ajF:Nat×TI:=(177,⟨(TypeDesc.struct #[fd "stamp" 31 0 0 "sacristy/votes",fd "digest" 9 2 16 "sacristy/votes"]),aaE,32⟩)
abbrev ajG:Nat×TI:=(188,⟨(TypeDesc.pointer 99),ajd,8⟩)
abbrev ajH:Nat×TI:=(201,⟨(TypeDesc.struct #[fd "m" 75 0 0 "sacristy/mont",fd "inv" 73 4 32 "sacristy/mont",fd "one" 75 5 40 "sacristy/mont",fd "square" 75 9 72 "sacristy/mont"]),ajc,104⟩)
abbrev ajI:Nat×TI:=(208,⟨(TypeDesc.array 256 4),asc,256⟩)
abbrev ajJ:Nat×TI:=(215,⟨(TypeDesc.slice 5),aiZ,24⟩)
abbrev ajK:Nat×TI:=(217,⟨(TypeDesc.array 8 3),asi,64⟩)
abbrev ajL:Nat×TI:=(222,⟨(TypeDesc.array 2 177),aj5,64⟩)
abbrev ajM:Nat×TI:=(223,⟨(TypeDesc.array 4 222),aj7,256⟩)
abbrev ajN:Nat×TI:=(224,⟨(TypeDesc.array 7 223),aj9,1792⟩)
abbrev ajO:Nat×TI:=(226,⟨(TypeDesc.struct #[fd "n" 3 0 0 "sacristy/votes",fd "places" 224 1 8 "sacristy/votes"]),ajb,1800⟩)
abbrev ajP:Nat×TI:=(233,⟨(TypeDesc.struct #[fd "I" 3 0 0,fd "Y" 75 1 8]),asv,40⟩)
abbrev ajQ:Nat×TI:=(238,⟨(TypeDesc.pointer 290),asx,8⟩)
abbrev ajR:Nat×TI:=(242,⟨(TypeDesc.pointer 244),(.sp 244),8⟩)
abbrev ajS:Nat×TI:=(244,⟨(TypeDesc.struct #[fd "addr" 242 0 0 "strings",fd "buf" 215 1 8 "strings"]),asr,32⟩)
abbrev ajT:Nat×TI:=(263,⟨(TypeDesc.slice 264),asu,24⟩)
abbrev ajU:Nat×TI:=(264,⟨(TypeDesc.array 16 75),aj2,512⟩)
abbrev ajV:Nat×TI:=(270,⟨(TypeDesc.array 64 3),asn,512⟩)
abbrev ajW:Nat×TI:=(281,⟨(TypeDesc.func #[9,9] #[3] false),.fn,8⟩)
abbrev ajX:Nat×TI:=(283,⟨(TypeDesc.slice 99),asy,24⟩)
abbrev ajY:Nat×TI:=(284,⟨(TypeDesc.slice 188),asz,24⟩)
abbrev ajZ:Nat×TI:=(285,⟨(TypeDesc.int IntKind.u32),(.int .u32),4⟩)
abbrev ak0:Nat×TI:=(286,⟨(TypeDesc.array 8 285),aj0,32⟩)
abbrev ak1:Nat×TI:=(288,⟨(TypeDesc.array 64 5),aj1,64⟩)
abbrev ak2:Nat×TI:=(290,⟨(TypeDesc.struct #[fd "given" 4 0 0 "sacristy/sha",fd "words" 286 1 4 "sacristy/sha",fd "rest" 288 9 36 "sacristy/sha",fd "n" 3 73 104 "sacristy/sha"]),aja,112⟩)
abbrev ak3:Nat×TI:=(292,⟨(TypeDesc.array 8 5),ash,8⟩)
abbrev ak4:Nat×TI:=(293,⟨(TypeDesc.pointer 5),ase,8⟩)
abbrev ak5:Nat×TI:=(300,⟨(TypeDesc.array 8 73),asj,64⟩)
abbrev ak6:Nat×TI:=(303,⟨(TypeDesc.slice 73),asf,24⟩)
abbrev ak7:Nat×TI:=(306,⟨(TypeDesc.array 6 73),asl,48⟩)
abbrev ak8:Nat×TI:=(313,⟨(TypeDesc.array 64 285),aso,256⟩)
abbrev ak9:Nat×TI:=(317,⟨(TypeDesc.slice 285),asg,24⟩)
abbrev akb:Nat×TI:=(322,⟨(TypeDesc.array 32 3),asq,256⟩)
def ti:List (Nat×TI):=[q3,q4,q5,q9,q22,q23,q24,q26,q31,q33,q35,q38,q39,q41,q43,q44,q46,q47,q49,q57,q60,q63,q64,q65,q67,q68,q69,q72,q73,q75,q77,q82,q85,q90,q96,q97,q99,ajm,ajn,ajo,ajp,ajq,ajr,ajs,ajt,aju,ajv,ajw,ajx,ajy,ajz,ajA,ajB,ajC,ajD,ajE,ajF,ajG,ajH,ajI,ajJ,ajK,ajL,ajM,ajN,ajO,ajP,ajQ,ajR,ajS,ajT,ajU,ajV,ajW,ajX,ajY,ajZ,ak0,ak1,ak2,ak3,ak4,ak5,ak6,ak7,ak8,ak9,akb]
theorem tq {q:Nat×TI}(u:Tryz.prog.underlying q.1=some q.2.desc)(s:jS ti q.2)(i:(Tryz.prog.info? q.1).map (fun i=>(i.size,i.bytes))=some (q.2.ty.size,q.2.bytes):=by kernel_rfl)(z:(Tryz.prog.info? q.1).bind (fun i=>i.zero)=some (mkV q.2.ty q.2.ty.zcells):=by kernel_rfl)(h: ∀T0,q.2.ty.head=some T0→T0=q.1:=by intro _ h; cases h<;>rfl)(e:q.2.ty.agg=true→q.2.ty.flat=true→Tryz.prog.eqGuardType Tryz.prog.depth q.1=false∧Tryz.prog.stoodInHeld q.1=false∧(∀fs,q.2.desc= .struct fs→fs.size≠1)∧q.2.ty.dep≤10000:=by first|exact fun h=>absurd h (by decide)|exact fun _ h=>absurd h (by decide)|exact fun _ _=>⟨by kernel_rfl,by kernel_rfl,(by intro fs h; cases h<;>decide),by decide⟩):TI1 Tryz.prog ti q:=⟨u,i,z,s,h,e⟩
theorem ti3:TI1 Tryz.prog ti q3:=tq Tryz.underlying3 rfl
theorem ti4:TI1 Tryz.prog ti q4:=tq Tryz.underlying4 rfl
theorem ti5:TI1 Tryz.prog ti q5:=tq Tryz.underlying5 rfl
theorem ti9:TI1 Tryz.prog ti q9:=tq Tryz.underlying9 rfl
theorem asA:TI1 Tryz.prog ti q22:=tq Tryz.underlying22 ⟨_,rfl,rfl,by decide⟩
theorem asB:TI1 Tryz.prog ti q23:=tq Tryz.underlying23 (.inl ⟨_,rfl⟩)
theorem asC:TI1 Tryz.prog ti q24:=tq Tryz.underlying24 (.inl ⟨_,rfl⟩)
theorem asD:TI1 Tryz.prog ti q26:=tq Tryz.underlying26 ⟨rfl,⟨rfl,by decide,⟨_,rfl,rfl,by decide⟩,⟨rfl,by decide,⟨_,rfl,rfl,by decide⟩,⟨rfl,by decide,_,rfl,rfl,by decide⟩⟩⟩⟩
theorem asE:TI1 Tryz.prog ti q31:=tq Tryz.underlying31 ⟨rfl,⟨rfl,by decide,⟨_,rfl,rfl,by decide⟩,⟨rfl,by decide,_,rfl,rfl,by decide⟩⟩⟩
theorem asF:TI1 Tryz.prog ti q33:=tq Tryz.underlying33 ⟨rfl,⟨rfl,by decide,⟨_,rfl,rfl,by decide⟩,⟨rfl,by decide,⟨_,rfl,rfl,by decide⟩,⟨rfl,by decide,⟨_,rfl,rfl,by decide⟩,⟨rfl,by decide,⟨_,rfl,rfl,by decide⟩,⟨rfl,by decide,⟨_,rfl,rfl,by decide⟩,⟨rfl,by decide,⟨_,rfl,rfl,by decide⟩,⟨rfl,by decide,_,rfl,rfl,by decide⟩⟩⟩⟩⟩⟩⟩⟩
theorem asG:TI1 Tryz.prog ti q35:=tq Tryz.underlying35 ⟨_,rfl,rfl,by decide⟩
theorem asH:TI1 Tryz.prog ti q38:=tq Tryz.underlying38 ⟨_,rfl,rfl,by decide⟩
theorem asI:TI1 Tryz.prog ti q39:=tq Tryz.underlying39 ⟨_,rfl,rfl,by decide⟩
theorem asJ:TI1 Tryz.prog ti q41:=tq Tryz.underlying41 ⟨rfl,⟨rfl,by decide,⟨_,rfl,rfl,by decide⟩,⟨rfl,by decide,⟨_,rfl,rfl,by decide⟩,⟨rfl,by decide,⟨_,rfl,rfl,by decide⟩,⟨rfl,by decide,⟨_,rfl,rfl,by decide⟩,⟨rfl,by decide,⟨_,rfl,rfl,by decide⟩,⟨rfl,by decide,⟨_,rfl,rfl,by decide⟩,⟨rfl,by decide,_,rfl,rfl,by decide⟩⟩⟩⟩⟩⟩⟩⟩
theorem asK:TI1 Tryz.prog ti q43:=tq Tryz.underlying43 ⟨_,rfl,rfl,by decide⟩
theorem asL:TI1 Tryz.prog ti q44:=tq Tryz.underlying44 ⟨_,rfl,rfl,by decide⟩
theorem asM:TI1 Tryz.prog ti q46:=tq Tryz.underlying46 ⟨rfl,⟨rfl,by decide,⟨_,rfl,rfl,by decide⟩,⟨rfl,by decide,⟨_,rfl,rfl,by decide⟩,⟨rfl,by decide,⟨_,rfl,rfl,by decide⟩,⟨rfl,by decide,_,rfl,rfl,by decide⟩⟩⟩⟩⟩
theorem asN:TI1 Tryz.prog ti q47:=tq Tryz.underlying47 ⟨_,rfl,rfl,by decide⟩
theorem asO:TI1 Tryz.prog ti q49:=tq Tryz.underlying49 ⟨rfl,⟨rfl,by decide,⟨_,rfl,rfl,by decide⟩,⟨rfl,by decide,⟨_,rfl,rfl,by decide⟩,⟨rfl,by decide,⟨_,rfl,rfl,by decide⟩,⟨rfl,by decide,⟨_,rfl,rfl,by decide⟩,⟨rfl,by decide,⟨_,rfl,rfl,by decide⟩,⟨rfl,by decide,⟨_,rfl,rfl,by decide⟩,⟨rfl,by decide,⟨_,rfl,rfl,by decide⟩,⟨rfl,by decide,_,rfl,rfl,by decide⟩⟩⟩⟩⟩⟩⟩⟩⟩
theorem asP:TI1 Tryz.prog ti q57:=tq Tryz.underlying57 ⟨_,rfl,rfl,by decide⟩
theorem asQ:TI1 Tryz.prog ti q60:=tq Tryz.underlying60 ⟨rfl,⟨rfl,by decide,⟨_,rfl,rfl,by decide⟩,⟨rfl,by decide,_,rfl,rfl,by decide⟩⟩⟩
theorem asR:TI1 Tryz.prog ti q63:=tq Tryz.underlying63 (.inl ⟨_,rfl⟩)
theorem asS:TI1 Tryz.prog ti q64:=tq Tryz.underlying64 (.inl ⟨_,rfl⟩)
theorem asT:TI1 Tryz.prog ti q65:=tq Tryz.underlying65 rfl
theorem asU:TI1 Tryz.prog ti q67:=tq Tryz.underlying67 ⟨rfl,⟨rfl,by decide,⟨_,rfl,rfl,by decide⟩,⟨rfl,by decide,⟨_,rfl,rfl,by decide⟩,⟨rfl,by decide,⟨_,rfl,rfl,by decide⟩,⟨rfl,by decide,⟨_,rfl,rfl,by decide⟩,⟨rfl,by decide,⟨_,rfl,rfl,by decide⟩,⟨rfl,by decide,⟨_,rfl,rfl,by decide⟩,⟨rfl,by decide,⟨_,rfl,rfl,by decide⟩,⟨rfl,by decide,_,rfl,rfl,by decide⟩⟩⟩⟩⟩⟩⟩⟩⟩
theorem asV:TI1 Tryz.prog ti q68:=tq Tryz.underlying68 ⟨_,rfl,rfl,by decide⟩
theorem asW:TI1 Tryz.prog ti q69:=tq Tryz.underlying69 rfl
theorem asX:TI1 Tryz.prog ti q72:=tq Tryz.underlying72 ⟨_,rfl,rfl,by decide⟩
theorem asY:TI1 Tryz.prog ti q73:=tq Tryz.underlying73 rfl
theorem asZ:TI1 Tryz.prog ti q75:=tq Tryz.underlying75 ⟨_,rfl,rfl,by decide,by decide⟩
theorem at1:TI1 Tryz.prog ti q77:=tq Tryz.underlying77 ⟨rfl,⟨rfl,by decide,⟨_,rfl,rfl,by decide⟩,⟨rfl,by decide,_,rfl,rfl,by decide⟩⟩⟩
theorem at5:TI1 Tryz.prog ti q82:=tq Tryz.underlying82 rfl
theorem at6:TI1 Tryz.prog ti q85:=tq Tryz.underlying85 ⟨_,rfl,rfl,by decide⟩
theorem at7:TI1 Tryz.prog ti q90:=tq Tryz.underlying90 (.inl ⟨_,rfl⟩)
theorem ata:TI1 Tryz.prog ti q96:=tq Tryz.underlying96 ⟨rfl,⟨rfl,by decide,⟨_,rfl,rfl,by decide⟩,⟨rfl,by decide,⟨_,rfl,rfl,by decide⟩,⟨rfl,by decide,⟨_,rfl,rfl,by decide⟩,⟨rfl,by decide,_,rfl,rfl,by decide⟩⟩⟩⟩⟩
theorem atb:TI1 Tryz.prog ti q97:=tq Tryz.underlying97 (.inl ⟨_,rfl⟩)
theorem atc:TI1 Tryz.prog ti q99:=tq Tryz.underlying99 ⟨rfl,⟨rfl,by decide,⟨_,rfl,rfl,by decide⟩,⟨rfl,by decide,_,rfl,rfl,by decide⟩⟩⟩
theorem akc:TI1 Tryz.prog ti ajm:=tq Tryz.underlying100 ⟨_,rfl,rfl,by decide,by decide⟩
theorem akd:TI1 Tryz.prog ti ajn:=tq Tryz.underlying102 ⟨rfl,⟨rfl,by decide,⟨_,rfl,rfl,by decide⟩,⟨rfl,by decide,⟨_,rfl,rfl,by decide⟩,⟨rfl,by decide,⟨_,rfl,rfl,by decide⟩,⟨rfl,by decide,_,rfl,rfl,by decide⟩⟩⟩⟩⟩
theorem ake:TI1 Tryz.prog ti ajo:=tq Tryz.underlying103 ⟨_,rfl,rfl,by decide,by decide⟩
theorem akf:TI1 Tryz.prog ti ajp:=tq Tryz.underlying105 ⟨rfl,⟨rfl,by decide,⟨_,rfl,rfl,by decide⟩,⟨rfl,by decide,⟨_,rfl,rfl,by decide⟩,⟨rfl,by decide,⟨_,rfl,rfl,by decide⟩,⟨rfl,by decide,⟨_,rfl,rfl,by decide⟩,⟨rfl,by decide,_,rfl,rfl,by decide⟩⟩⟩⟩⟩⟩
theorem akg:TI1 Tryz.prog ti ajq:=tq Tryz.underlying114 ⟨rfl,⟨rfl,by decide,⟨_,rfl,rfl,by decide⟩,⟨rfl,by decide,⟨_,rfl,rfl,by decide⟩,⟨rfl,by decide,⟨_,rfl,rfl,by decide⟩,⟨rfl,by decide,⟨_,rfl,rfl,by decide⟩,⟨rfl,by decide,_,rfl,rfl,by decide⟩⟩⟩⟩⟩⟩
theorem akh:TI1 Tryz.prog ti ajr:=tq Tryz.underlying115 ⟨_,rfl,rfl,by decide⟩
theorem aki:TI1 Tryz.prog ti ajs:=tq Tryz.underlying116 ⟨_,rfl,rfl,by decide,by decide⟩
theorem akj:TI1 Tryz.prog ti ajt:=tq Tryz.underlying118 ⟨rfl,⟨rfl,by decide,⟨_,rfl,rfl,by decide⟩,⟨rfl,by decide,⟨_,rfl,rfl,by decide⟩,⟨rfl,by decide,⟨_,rfl,rfl,by decide⟩,⟨rfl,by decide,_,rfl,rfl,by decide⟩⟩⟩⟩⟩
theorem akk:TI1 Tryz.prog ti aju:=tq Tryz.underlying119 ⟨_,rfl,rfl,by decide,by decide⟩
theorem akl:TI1 Tryz.prog ti ajv:=tq Tryz.underlying121 ⟨rfl,⟨rfl,by decide,⟨_,rfl,rfl,by decide⟩,⟨rfl,by decide,⟨_,rfl,rfl,by decide⟩,⟨rfl,by decide,⟨_,rfl,rfl,by decide⟩,⟨rfl,by decide,⟨_,rfl,rfl,by decide⟩,⟨rfl,by decide,_,rfl,rfl,by decide⟩⟩⟩⟩⟩⟩
theorem akm:TI1 Tryz.prog ti ajw:=tq Tryz.underlying125 ⟨rfl,⟨rfl,by decide,⟨_,rfl,rfl,by decide⟩,⟨rfl,by decide,_,rfl,rfl,by decide⟩⟩⟩
theorem akn:TI1 Tryz.prog ti ajx:=tq Tryz.underlying137 ⟨rfl,⟨rfl,by decide,⟨_,rfl,rfl,by decide⟩,⟨rfl,by decide,⟨_,rfl,rfl,by decide⟩,⟨rfl,by decide,_,rfl,rfl,by decide⟩⟩⟩⟩
theorem ako:TI1 Tryz.prog ti ajy:=tq Tryz.underlying145 (.inl ⟨_,rfl⟩)
theorem akp:TI1 Tryz.prog ti ajz:=tq Tryz.underlying149 ⟨rfl,⟨rfl,by decide,⟨_,rfl,rfl,by decide⟩,⟨rfl,by decide,_,rfl,rfl,by decide⟩⟩⟩
theorem akq:TI1 Tryz.prog ti ajA:=tq Tryz.underlying155 ⟨rfl,⟨rfl,by decide,⟨_,rfl,rfl,by decide⟩,⟨rfl,by decide,_,rfl,rfl,by decide⟩⟩⟩
theorem akr:TI1 Tryz.prog ti ajB:=tq Tryz.underlying157 ⟨rfl,⟨rfl,by decide,⟨_,rfl,rfl,by decide⟩,⟨rfl,by decide,_,rfl,rfl,by decide⟩⟩⟩
theorem aks:TI1 Tryz.prog ti ajC:=tq Tryz.underlying169 rfl
theorem akt:TI1 Tryz.prog ti ajD:=tq Tryz.underlying171 ⟨rfl,⟨rfl,by decide,⟨_,rfl,rfl,by decide⟩,⟨rfl,by decide,⟨_,rfl,rfl,by decide⟩,⟨rfl,by decide,⟨_,rfl,rfl,by decide⟩,⟨rfl,by decide,_,rfl,rfl,by decide⟩⟩⟩⟩⟩
theorem aku:TI1 Tryz.prog ti ajE:=tq Tryz.underlying174 (.inl ⟨_,rfl⟩)
theorem akv:TI1 Tryz.prog ti ajF:=tq Tryz.underlying177 ⟨rfl,⟨rfl,by decide,⟨_,rfl,rfl,by decide⟩,⟨rfl,by decide,_,rfl,rfl,by decide⟩⟩⟩
theorem akw:TI1 Tryz.prog ti ajG:=tq Tryz.underlying188 (.inl ⟨_,rfl⟩)
theorem akx:TI1 Tryz.prog ti ajH:=tq Tryz.underlying201 ⟨rfl,⟨rfl,by decide,⟨_,rfl,rfl,by decide⟩,⟨rfl,by decide,⟨_,rfl,rfl,by decide⟩,⟨rfl,by decide,⟨_,rfl,rfl,by decide⟩,⟨rfl,by decide,_,rfl,rfl,by decide⟩⟩⟩⟩⟩
theorem aky:TI1 Tryz.prog ti ajI:=tq Tryz.underlying208 ⟨_,rfl,rfl,by decide,by decide⟩
theorem akz:TI1 Tryz.prog ti ajJ:=tq Tryz.underlying215 ⟨_,rfl,rfl,by decide⟩
theorem akA:TI1 Tryz.prog ti ajK:=tq Tryz.underlying217 ⟨_,rfl,rfl,by decide,by decide⟩
theorem akB:TI1 Tryz.prog ti ajL:=tq Tryz.underlying222 ⟨_,rfl,rfl,by decide,by decide⟩
theorem akC:TI1 Tryz.prog ti ajM:=tq Tryz.underlying223 ⟨_,rfl,rfl,by decide,by decide⟩
theorem akD:TI1 Tryz.prog ti ajN:=tq Tryz.underlying224 ⟨_,rfl,rfl,by decide,by decide⟩
theorem akE:TI1 Tryz.prog ti ajO:=tq Tryz.underlying226 ⟨rfl,⟨rfl,by decide,⟨_,rfl,rfl,by decide⟩,⟨rfl,by decide,_,rfl,rfl,by decide⟩⟩⟩
theorem akF:TI1 Tryz.prog ti ajP:=tq Tryz.underlying233 ⟨rfl,⟨rfl,by decide,⟨_,rfl,rfl,by decide⟩,⟨rfl,by decide,_,rfl,rfl,by decide⟩⟩⟩
theorem akG:TI1 Tryz.prog ti ajQ:=tq Tryz.underlying238 (.inl ⟨_,rfl⟩)
theorem akH:TI1 Tryz.prog ti ajR:=tq Tryz.underlying242 (.inr ⟨_,rfl⟩)
theorem akI:TI1 Tryz.prog ti ajS:=tq Tryz.underlying244 ⟨rfl,⟨rfl,by decide,⟨_,rfl,rfl,by decide⟩,⟨rfl,by decide,_,rfl,rfl,by decide⟩⟩⟩
theorem akJ:TI1 Tryz.prog ti ajT:=tq Tryz.underlying263 ⟨_,rfl,rfl,by decide⟩
theorem akK:TI1 Tryz.prog ti ajU:=tq Tryz.underlying264 ⟨_,rfl,rfl,by decide,by decide⟩
theorem akL:TI1 Tryz.prog ti ajV:=tq Tryz.underlying270 ⟨_,rfl,rfl,by decide,by decide⟩
theorem akM:TI1 Tryz.prog ti ajW:=tq Tryz.underlying281 rfl
theorem akN:TI1 Tryz.prog ti ajX:=tq Tryz.underlying283 ⟨_,rfl,rfl,by decide⟩
theorem akO:TI1 Tryz.prog ti ajY:=tq Tryz.underlying284 ⟨_,rfl,rfl,by decide⟩
theorem akP:TI1 Tryz.prog ti ajZ:=tq Tryz.underlying285 rfl
theorem akQ:TI1 Tryz.prog ti ak0:=tq Tryz.underlying286 ⟨_,rfl,rfl,by decide,by decide⟩
theorem akR:TI1 Tryz.prog ti ak1:=tq Tryz.underlying288 ⟨_,rfl,rfl,by decide,by decide⟩
theorem akS:TI1 Tryz.prog ti ak2:=tq Tryz.underlying290 ⟨rfl,⟨rfl,by decide,⟨_,rfl,rfl,by decide⟩,⟨rfl,by decide,⟨_,rfl,rfl,by decide⟩,⟨rfl,by decide,⟨_,rfl,rfl,by decide⟩,⟨rfl,by decide,_,rfl,rfl,by decide⟩⟩⟩⟩⟩
theorem akT:TI1 Tryz.prog ti ak3:=tq Tryz.underlying292 ⟨_,rfl,rfl,by decide,by decide⟩
theorem akU:TI1 Tryz.prog ti ak4:=tq Tryz.underlying293 (.inl ⟨_,rfl⟩)
theorem akV:TI1 Tryz.prog ti ak5:=tq Tryz.underlying300 ⟨_,rfl,rfl,by decide,by decide⟩
theorem akW:TI1 Tryz.prog ti ak6:=tq Tryz.underlying303 ⟨_,rfl,rfl,by decide⟩
theorem akX:TI1 Tryz.prog ti ak7:=tq Tryz.underlying306 ⟨_,rfl,rfl,by decide,by decide⟩
theorem akY:TI1 Tryz.prog ti ak8:=tq Tryz.underlying313 ⟨_,rfl,rfl,by decide,by decide⟩
theorem akZ:TI1 Tryz.prog ti ak9:=tq Tryz.underlying317 ⟨_,rfl,rfl,by decide⟩
theorem al0:TI1 Tryz.prog ti akb:=tq Tryz.underlying322 ⟨_,rfl,rfl,by decide,by decide⟩
def cx(a:List (FuncId×Con))(b:List (FuncId×Func×List (Nat×Lp))):Cx:= { ti:=ti,con:=a,fns:=b,un:=6 }
theorem aA:wM Tryz.prog ti:=wM.of (awS.2 ⟨ti3,awS.2 ⟨ti4,awS.2 ⟨ti5,awS.2 ⟨ti9,awS.2 ⟨asA,awS.2 ⟨asB,awS.2 ⟨asC,awS.2 ⟨asD,awS.2 ⟨asE,awS.2 ⟨asF,awS.2 ⟨asG,awS.2 ⟨asH,awS.2 ⟨asI,awS.2 ⟨asJ,awS.2 ⟨asK,awS.2 ⟨asL,awS.2 ⟨asM,awS.2 ⟨asN,awS.2 ⟨asO,awS.2 ⟨asP,awS.2 ⟨asQ,awS.2 ⟨asR,awS.2 ⟨asS,awS.2 ⟨asT,awS.2 ⟨asU,awS.2 ⟨asV,awS.2 ⟨asW,awS.2 ⟨asX,awS.2 ⟨asY,awS.2 ⟨asZ,awS.2 ⟨at1,awS.2 ⟨at5,awS.2 ⟨at6,awS.2 ⟨at7,awS.2 ⟨ata,awS.2 ⟨atb,awS.2 ⟨atc,awS.2 ⟨akc,awS.2 ⟨akd,awS.2 ⟨ake,awS.2 ⟨akf,awS.2 ⟨akg,awS.2 ⟨akh,awS.2 ⟨aki,awS.2 ⟨akj,awS.2 ⟨akk,awS.2 ⟨akl,awS.2 ⟨akm,awS.2 ⟨akn,awS.2 ⟨ako,awS.2 ⟨akp,awS.2 ⟨akq,awS.2 ⟨akr,awS.2 ⟨aks,awS.2 ⟨akt,awS.2 ⟨aku,awS.2 ⟨akv,awS.2 ⟨akw,awS.2 ⟨akx,awS.2 ⟨aky,awS.2 ⟨akz,awS.2 ⟨akA,awS.2 ⟨akB,awS.2 ⟨akC,awS.2 ⟨akD,awS.2 ⟨akE,awS.2 ⟨akF,awS.2 ⟨akG,awS.2 ⟨akH,awS.2 ⟨akI,awS.2 ⟨akJ,awS.2 ⟨akK,awS.2 ⟨akL,awS.2 ⟨akM,awS.2 ⟨akN,awS.2 ⟨akO,awS.2 ⟨akP,awS.2 ⟨akQ,awS.2 ⟨akR,awS.2 ⟨akS,awS.2 ⟨akT,awS.2 ⟨akU,awS.2 ⟨akV,awS.2 ⟨akW,awS.2 ⟨akX,awS.2 ⟨akY,awS.2 ⟨akZ,awS.2 ⟨al0,List.forall_mem_nil _⟩⟩⟩⟩⟩⟩⟩⟩⟩⟩⟩⟩⟩⟩⟩⟩⟩⟩⟩⟩⟩⟩⟩⟩⟩⟩⟩⟩⟩⟩⟩⟩⟩⟩⟩⟩⟩⟩⟩⟩⟩⟩⟩⟩⟩⟩⟩⟩⟩⟩⟩⟩⟩⟩⟩⟩⟩⟩⟩⟩⟩⟩⟩⟩⟩⟩⟩⟩⟩⟩⟩⟩⟩⟩⟩⟩⟩⟩⟩⟩⟩⟩⟩⟩⟩⟩⟩⟩)
theorem mixed:Tryz.prog.follows .mixedOrders=true:=by kernel_rfl
def a4k:Con:=aP false [u64,u64,u64] [u64,u64] fun x=>EA x.1 x.2.1 x.2.2.1
theorem a5v:av Tryz.prog 200 a4k:=a6Y Tryz.func200 (by kernel_rfl) (by kernel_rfl) (by kernel_rfl) (by kernel_rfl)
def RN:Con:=aP false [u64,u64,u64] [u64,u64] fun x=>bP x.1 x.2.1 x.2.2.1
theorem OB:av Tryz.prog 203 RN:=a6X Tryz.func203 (by kernel_rfl) (by kernel_rfl) (by kernel_rfl) (by kernel_rfl)
end
end Go.Proofs.YtldlihheppdhnaaGreat
namespace Go.Proofs.YtldlihheppdhnaaGreat
noncomputable section
def adr:Con:=aP true [tU] [tI] fun x=>bits_Len64 x.1
def atd:Cx:=cx [] []
theorem ads:au Tryz.prog atd:=au.of mixed aA fz fz
theorem a7n:av Tryz.prog 113 adr:=ay ads 8 ⟨Tryz.func113,Tryz.call113,ah⟩ _ _ _ _ (by decide) (fun x=>by rw[Jw]; kernel_rfl)
def al1:Con:=aP true [tU] [tI] fun x=>bits_LeadingZeros64 x.1
def ate:Cx:=cx [(113,adr)] []
theorem adt:au Tryz.prog ate:=au.of mixed aA (fc ⟨a7n,fz⟩) fz
theorem adu:av Tryz.prog 235 al1:=ay adt 8 ⟨Tryz.func235,Tryz.call235,ah⟩ _ _ _ _ (by decide) (fun x=>by rw[sH]; kernel_rfl)
abbrev al2:Shape:= { sl:=[(pv 2 tU),(pv 8 tU),(pv 9 tU),(pv 10 tU),(pv 11 tU),(pv 13 tU),(pv 14 tU),(pv 15 tU),(pv 16 tU)],ob:=[],lo:=0,nx:=0 }
abbrev al3:List Ex:=[(.normal, { sl:=[(pv 2 tU),(pv 8 tU),(pv 9 tU),(pv 10 tU),(pv 11 tU),(pv 13 tU),(pv 14 tU),(pv 15 tU)],ob:=[],lo:=0,nx:=0 })]
def al4:Code:=aY (aV Tryz.f226) 0
def abB:Lp:=dA al2 al3 135 fA
abbrev al5:Shape:= { sl:=[(pv 2 tU),(pv 8 tU),(pv 9 tU),(pv 10 tU),(pv 14 tU),(pv 15 tU),(pv 16 tU),(pv 17 tU),(pv 18 tU)],ob:=[],lo:=0,nx:=0 }
abbrev al6:List Ex:=[(.normal, { sl:=[(pv 2 tU),(pv 8 tU),(pv 14 tU),(pv 15 tU),(pv 17 tU),(pv 18 tU)],ob:=[],lo:=0,nx:=0 })]
def al7:Code:=aY (aV Tryz.f226) 2
def abC:Lp:=dA al5 al6 135 fB
def adv:Con:=aP true [tU,tU,tU] [tU,tU] fun x=>ni x.1 x.2.1 x.2.2.1
def atf:Cx:=cx [(235,al1)] []
theorem a2J:au Tryz.prog atf:=au.of mixed aA (fc ⟨adu,fz⟩) fz
theorem al8:bU Tryz.prog 0 (.loop al4) abB:=aK a2J 8 (ah) _ _ _ _ (by decide) fun _=>by kernel_rfl
theorem al9:bU Tryz.prog 2 (.loop al7) abC:=aK a2J 8 (ah) _ _ _ _ (by decide) fun _=>by kernel_rfl
theorem ala:dZ Tryz.prog 226 Tryz.f226 [(0,abB),(2,abC)]:=⟨Tryz.func226,Tryz.call226,bA (by kernel_rfl) (aJ al8 (by kernel_rfl) (aJ al9 (by kernel_rfl) fz))⟩
theorem a7o:av Tryz.prog 226 adv:=ay a2J 8 ala _ _ _ _ (by decide) (fun x=>by rw[Jy]; kernel_rfl)
def aaF:Con:=aP true [tU,tU] [tU,tU] fun x=>bits_Mul64 x.1 x.2.1
def atg:Cx:=cx [] []
theorem adw:au Tryz.prog atg:=au.of mixed aA fz fz
theorem a2K:av Tryz.prog 202 aaF:=ay adw 8 ⟨Tryz.func202,Tryz.call202,ah⟩ _ _ _ _ (by decide) (fun x=>by rw[Jv]; kernel_rfl)
def alb:Con:=aP true [(.int .u32),tI] [(.int .u32)] fun x=>sI x.1 x.2.1
def ath:Cx:=cx [] []
theorem adx:au Tryz.prog ath:=au.of mixed aA fz fz
theorem ady:av Tryz.prog 234 alb:=ay adx 8 ⟨Tryz.func234,Tryz.call234,ah⟩ _ _ _ _ (by decide) (fun x=>by rw[wS]; kernel_rfl)
end
end Go.Proofs.YtldlihheppdhnaaGreat
namespace Go.Proofs.YtldlihheppdhnaaGreat
noncomputable section
def adz:Con:=aP true [tN] [tI,.bool] fun x=>Mk x.1
def ati:Cx:=cx [] []
theorem adA:au Tryz.prog ati:=au.of mixed aA fz fz
theorem a7p:av Tryz.prog 108 adz:=ay adA 8 ⟨Tryz.func108,Tryz.call108,ah⟩ _ _ _ _ (by decide) (fun x=>by rw[Tz]; kernel_rfl)
def a2L:Con:=aP true [tI] [tN] fun x=>bZ x.1
def atj:Cx:=cx [] []
theorem adB:au Tryz.prog atj:=au.of mixed aA fz fz
theorem OC:av Tryz.prog 62 a2L:=ay adB 8 ⟨Tryz.func62,Tryz.call62,ah⟩ _ _ _ _ (by decide) (fun x=>by rw[Xy]; kernel_rfl)
def alc:Con:=aP true [tN,tI] [tI] fun x=>Au x.1 x.2.1
def atl:Cx:=cx [] []
theorem adC:au Tryz.prog atl:=au.of mixed aA fz fz
theorem adD:av Tryz.prog 206 alc:=ay adC 8 ⟨Tryz.func206,Tryz.call206,ah⟩ _ _ _ _ (by decide) (fun x=>by rw[Tf]; kernel_rfl)
abbrev ald:Shape:= { sl:=[(pc 2 tN 0),(pc 4 tN 1),(pc 5 tN 2),(pv 6 tI),(pv 7 tI),(pv 8 tI)],ob:=[(pv 0 tN),(pv 1 tN),(pv 2 tN)],lo:=3,nx:=3 }
abbrev ale:List Ex:=[(.normal, { sl:=[(pc 4 tN 1),(pc 5 tN 2)],ob:=[(pv 1 tN),(pv 2 tN)],lo:=3,nx:=3 })]
def alf:Code:=aY (aV Tryz.f164) 0
def abD:Lp:=dA ald ale 51 nk
def adE:Con:=aP true [tN,tI] [tN] fun x=>Ti x.1 x.2.1
def atm:Cx:=cx [] []
theorem a7q:au Tryz.prog atm:=au.of mixed aA fz fz
theorem alg:bU Tryz.prog 0 (.loop alf) abD:=aK a7q 8 (ah) _ _ _ _ (by decide) fun _=>by kernel_rfl
theorem alh:dZ Tryz.prog 164 Tryz.f164 [(0,abD)]:=⟨Tryz.func164,Tryz.call164,bA (by kernel_rfl) (aJ alg (by kernel_rfl) fz)⟩
theorem a7r:av Tryz.prog 164 adE:=ay a7q 8 alh _ _ _ _ (by decide) (fun x=>by rw[Xx]; kernel_rfl)
def a7s:Con:=aP true [tN,tN] [tN,tI] fun x=>w9 x.1 x.2.1
def atn:Cx:=cx [(200,a4k)] []
theorem adF:au Tryz.prog atn:=au.of mixed aA (fc ⟨a5v,fz⟩) fz
theorem YU:av Tryz.prog 155 a7s:=ay adF 8 ⟨Tryz.func155,Tryz.call155,ah⟩ _ _ _ _ (by decide) (fun x=>by rw[Tk]; kernel_rfl)
def a5w:Con:=aP true [tN,tN] [tI] fun x=>yH x.1 x.2.1
def ato:Cx:=cx [] []
theorem adG:au Tryz.prog ato:=au.of mixed aA fz fz
theorem Ue:av Tryz.prog 115 a5w:=ay adG 8 ⟨Tryz.func115,Tryz.call115,ah⟩ _ _ _ _ (by decide) (fun x=>by rw[Tn]; kernel_rfl)
def aaG:Con:=aP true [tN] [tI] fun x=>yI x.1
def atp:Cx:=cx [(113,adr)] []
theorem adH:au Tryz.prog atp:=au.of mixed aA (fc ⟨a7n,fz⟩) fz
theorem a2M:av Tryz.prog 61 aaG:=ay adH 8 ⟨Tryz.func61,Tryz.call61,ah⟩ _ _ _ _ (by decide) (fun x=>by rw[Tv]; kernel_rfl)
abbrev ali:Shape:= { sl:=[(pc 2 tN 0),(pc 4 tN 1),(pc 5 tN 2),(pv 6 tI),(pv 7 tI),(pv 20 tI),(pv 21 tI)],ob:=[(pv 0 tN),(pv 1 tN),(pv 2 tN)],lo:=3,nx:=3 }
abbrev alj:List Ex:=[(.normal, { sl:=[(pc 4 tN 1),(pc 5 tN 2)],ob:=[(pv 1 tN),(pv 2 tN)],lo:=3,nx:=3 })]
def alk:Code:=aY (aV Tryz.f163) 0
def abE:Lp:=dA ali alj 54 kX
def alm:Con:=aP true [tN,tI] [tN] fun x=>Gb x.1 x.2.1
def atq:Cx:=cx [] []
theorem a7t:au Tryz.prog atq:=au.of mixed aA fz fz
theorem aln:bU Tryz.prog 0 (.loop alk) abE:=aK a7t 8 (ah) _ _ _ _ (by decide) fun _=>by kernel_rfl
theorem alo:dZ Tryz.prog 163 Tryz.f163 [(0,abE)]:=⟨Tryz.func163,Tryz.call163,bA (by kernel_rfl) (aJ aln (by kernel_rfl) fz)⟩
theorem adI:av Tryz.prog 163 alm:=ay a7t 8 alo _ _ _ _ (by decide) (fun x=>by rw[Qb]; kernel_rfl)
def alp:Con:=aP true [tN,tN] [tN,tI] fun x=>RH x.1 x.2.1
def atr:Cx:=cx [(203,RN)] []
theorem adJ:au Tryz.prog atr:=au.of mixed aA (fc ⟨OB,fz⟩) fz
theorem adK:av Tryz.prog 204 alp:=ay adJ 8 ⟨Tryz.func204,Tryz.call204,ah⟩ _ _ _ _ (by decide) (fun x=>by rw[Tq]; kernel_rfl)
abbrev alq:Shape:= { sl:=[(pc 1 tN 0),(pv 3 tI),(4,(.w 5 (.int .u8) 2)),(pv 12 tI),(pv 13 tI)],ob:=[(pv 0 tN)],lo:=2,nx:=3 }
abbrev alr:List Ex:=[(.normal, { sl:=[(4,(.w 5 (.int .u8) 3))],ob:=[],lo:=3,nx:=4 })]
def als:Code:=aY (aV Tryz.f147) 0
def abF:Lp:=dA alq alr 34 lV
def alu:Con:=aP true [tN] [.str] fun x=>Il x.1
def att:Cx:=cx [(61,aaG)] []
theorem a7u:au Tryz.prog att:=au.of mixed aA (fc ⟨a2M,fz⟩) fz
theorem alv:bU Tryz.prog 0 (.loop als) abF:=aK a7u 8 (ah) _ _ _ _ (by decide) fun _=>by kernel_rfl
theorem alx:dZ Tryz.prog 147 Tryz.f147 [(0,abF)]:=⟨Tryz.func147,Tryz.call147,bA (by kernel_rfl) (aJ alv (by kernel_rfl) fz)⟩
theorem adL:av Tryz.prog 147 alu:=ay a7u 8 alx _ _ _ _ (by decide) (fun x=>by rw[Ml]; kernel_rfl)
end
end Go.Proofs.YtldlihheppdhnaaGreat
namespace Go.Proofs.YtldlihheppdhnaaGreat
noncomputable section
def aly:Con:=aP true [tN,tU,tU] [tN,tN] fun x=>DC x.1 x.2.1 x.2.2.1
def atu:Cx:=cx [(226,adv)] []
theorem adM:au Tryz.prog atu:=au.of mixed aA (fc ⟨a7o,fz⟩) fz
theorem adN:av Tryz.prog 205 aly:=ay adM 8 ⟨Tryz.func205,Tryz.call205,ah⟩ _ _ _ _ (by decide) (fun x=>by rw[JA]; kernel_rfl)
abbrev alz:Shape:= { sl:=[(pc 3 tN 0),(pc 4 tN 1),(pc 5 tN 2),(pc 6 tN 3),(pc 7 tN 4),(pc 8 tN 5),(pv 25 tI)],ob:=[(pv 0 tN),(pv 1 tN),(pv 2 tN),(pv 3 tN),(pv 4 tN),(pv 5 tN)],lo:=6,nx:=6 }
abbrev alA:List Ex:=[(.normal, { sl:=[(pc 4 tN 1),(pc 6 tN 3),(pc 7 tN 4),(pc 8 tN 5)],ob:=[(pv 1 tN),(pv 3 tN),(pv 4 tN),(pv 5 tN)],lo:=6,nx:=6 })]
def alB:Code:=aY (aV Tryz.f160) 0
def abG:Lp:=dA alz alA 68 fO
def adO:Con:=aP true [tN,tN,tN] [tN,tN] fun x=>rJ x.1 x.2.1 x.2.2.1
def atv:Cx:=cx [(205,aly),(206,alc),(164,adE),(155,a7s),(115,a5w)] []
theorem a7v:au Tryz.prog atv:=au.of mixed aA (fc ⟨adN,fc ⟨adD,fc ⟨a7r,fc ⟨YU,fc ⟨Ue,fz⟩⟩⟩⟩⟩) fz
theorem alC:bU Tryz.prog 0 (.loop alB) abG:=aK a7v 8 (ah) _ _ _ _ (by decide) fun _=>by kernel_rfl
theorem alD:dZ Tryz.prog 160 Tryz.f160 [(0,abG)]:=⟨Tryz.func160,Tryz.call160,bA (by kernel_rfl) (aJ alC (by kernel_rfl) fz)⟩
theorem a7w:av Tryz.prog 160 adO:=ay a7v 8 alD _ _ _ _ (by decide) (fun x=>by rw[Gd]; kernel_rfl)
def a7x:Con:=aP true [tN,tN,tN] [tN,tI] fun x=>sJ x.1 x.2.1 x.2.2.1
def atw:Cx:=cx [(160,adO)] []
theorem adP:au Tryz.prog atw:=au.of mixed aA (fc ⟨a7w,fz⟩) fz
theorem YV:av Tryz.prog 111 a7x:=ay adP 8 ⟨Tryz.func111,Tryz.call111,ah⟩ _ _ _ _ (by decide) (fun x=>by rw[Qd]; kernel_rfl)
def adQ:Con:=aP true [tN,tN] [tN,tN] fun x=>Ct x.1 x.2.1
def atx:Cx:=cx [(202,aaF),(203,RN)] [(201,Tryz.f201,[])]
theorem adR:au Tryz.prog atx:=au.of mixed aA (fc ⟨a2K,fc ⟨OB,fz⟩⟩) (fc ⟨⟨Tryz.func201,Tryz.call201,ah⟩,fz⟩)
theorem a7y:av Tryz.prog 157 adQ:=ay adR 8 ⟨Tryz.func157,Tryz.call157,ah⟩ _ _ _ _ (by decide) (fun x=>by rw[Qc]; kernel_rfl)
def alE:Con:=aP true [tN,tN,tN] [tN,tI] fun x=>Av x.1 x.2.1 x.2.2.1
def aty:Cx:=cx [(157,adQ),(111,a7x)] []
theorem adS:au Tryz.prog aty:=au.of mixed aA (fc ⟨a7y,fc ⟨YV,fz⟩⟩) fz
theorem adT:av Tryz.prog 112 alE:=ay adS 8 ⟨Tryz.func112,Tryz.call112,ah⟩ _ _ _ _ (by decide) (fun x=>by rw[Gf]; kernel_rfl)
def adU:Con:=aP true [tN,tN] [tN,tN,tI] fun x=>Cu x.1 x.2.1
def atz:Cx:=cx [(160,adO)] []
theorem adV:au Tryz.prog atz:=au.of mixed aA (fc ⟨a7w,fz⟩) fz
theorem a7z:av Tryz.prog 156 adU:=ay adV 8 ⟨Tryz.func156,Tryz.call156,ah⟩ _ _ _ _ (by decide) (fun x=>by rw[Qe]; kernel_rfl)
def alF:Con:=aP true [tN,tN,tN] [tN,tI] fun x=>nu x.1 x.2.1 x.2.2.1
def atA:Cx:=cx [(111,a7x),(155,a7s),(204,alp)] []
theorem adW:au Tryz.prog atA:=au.of mixed aA (fc ⟨YV,fc ⟨YU,fc ⟨adK,fz⟩⟩⟩) fz
theorem adX:av Tryz.prog 158 alF:=ay adW 8 ⟨Tryz.func158,Tryz.call158,ah⟩ _ _ _ _ (by decide) (fun x=>by rw[Gg]; kernel_rfl)
abbrev alG:Shape:= { sl:=[(pc 2 tN 0),(pc 3 tN 1),(pc 4 tN 2)],ob:=[(pv 0 tN),(pv 1 tN),(pv 2 tN)],lo:=3,nx:=3 }
abbrev alH:List Ex:=[(.normal, { sl:=[(pc 2 tN 0),(pc 4 tN 2)],ob:=[(pv 0 tN),(pv 2 tN)],lo:=3,nx:=3 })]
def alI:Code:=aY (aV Tryz.f159) 0
def abH:Lp:=dA alG alH 21 kY
def alJ:Con:=aP true [tN,tN] [tN] fun x=>zx x.1 x.2.1
def atB:Cx:=cx [(156,adU)] []
theorem a7A:au Tryz.prog atB:=au.of mixed aA (fc ⟨a7z,fz⟩) fz
theorem alK:bU Tryz.prog 0 (.loop alI) abH:=aK a7A 8 (ah) _ _ _ _ (by decide) fun _=>by kernel_rfl
theorem alL:dZ Tryz.prog 159 Tryz.f159 [(0,abH)]:=⟨Tryz.func159,Tryz.call159,bA (by kernel_rfl) (aJ alK (by kernel_rfl) fz)⟩
theorem adY:av Tryz.prog 159 alJ:=ay a7A 8 alL _ _ _ _ (by decide) (fun x=>by rw[Qf]; kernel_rfl)
end
end Go.Proofs.YtldlihheppdhnaaGreat
namespace Go.Proofs.YtldlihheppdhnaaGreat
noncomputable section
def adZ:Con:=aP false [tN] [tMN,tI] fun x=>wT x.1
def atC:Cx:=cx [(62,a2L),(111,a7x),(112,alE)] []
theorem ae0:au Tryz.prog atC:=au.of mixed aA (fc ⟨OC,fc ⟨YV,fc ⟨adT,fz⟩⟩⟩) fz
theorem a7B:av Tryz.prog 60 adZ:=ay ae0 8 ⟨Tryz.func60,Tryz.call60,ah⟩ _ _ _ _ (by decide) (fun x=>by rw[Qg]; kernel_rfl)
def a7C:Con:=aP true [tMN] [.bool] fun x=>d9 x.1
def ae1:Cx:=cx [] []
theorem ae2:au Tryz.prog ae1:=au.of mixed aA fz fz
theorem atD(r):bV ae1 [] (dU ae1 8) Tryz.f114 (jf [tMN] (r,())) [] 0 (jR [.bool])=om r:=by cases r<;>kernel_rfl
theorem YW:av Tryz.prog 114 a7C:=ay ae2 8 ⟨Tryz.func114,Tryz.call114,ah⟩ _ _ _ _ (by decide) (fun x=>by rw[zy]; exact atD x.1)
def alM:Con:=aP true [tMN,tN] [tN] fun x=>qb x.1 x.2.1
def ae3:Cx:=cx [(115,a5w),(111,a7x)] []
theorem ae4:au Tryz.prog ae3:=au.of mixed aA (fc ⟨Ue,fc ⟨YV,fz⟩⟩) fz
theorem atE(r)(a):bV ae3 [] (dU ae3 8) Tryz.f227 (jf [tMN,tN] (r,a,())) [] 0 (jR [tN])=sM r a:=by cases r<;>kernel_rfl
theorem ae5:av Tryz.prog 227 alM:=ay ae4 8 ⟨Tryz.func227,Tryz.call227,ah⟩ _ _ _ _ (by decide) (fun x=>by rw[Cv]; exact atE x.1 x.2.1)
def alN:Con:=aP true [(.arr 6 tU),tU,tN] [(.arr 6 tU)] fun x=>iw x.1 x.2.1 x.2.2.1
def atF:Cx:=cx [(202,aaF),(203,RN)] []
theorem ae6:au Tryz.prog atF:=au.of mixed aA (fc ⟨a2K,fc ⟨OB,fz⟩⟩) fz
theorem ae7:av Tryz.prog 208 alN:=ay ae6 8 ⟨Tryz.func208,Tryz.call208,ah⟩ _ _ _ _ (by decide) (fun x=>by rw[Mt]; kernel_rfl)
def aaH:Con:=aP true [tMN,tN,tN] [tN] fun x=>cu x.1 x.2.1 x.2.2.1
def ae8:Cx:=cx [(208,alN),(155,a7s),(115,a5w)] []
theorem ae9:au Tryz.prog ae8:=au.of mixed aA (fc ⟨ae7,fc ⟨YU,fc ⟨Ue,fz⟩⟩⟩) fz
theorem atG(r)(a)(b):bV ae8 [] (dU ae8 8) Tryz.f165 (jf [tMN,tN,tN] (r,a,b,())) [] 0 (jR [tN])=qE r a b:=by cases r<;>kernel_rfl
theorem a2N:av Tryz.prog 165 aaH:=ay ae9 8 ⟨Tryz.func165,Tryz.call165,ah⟩ _ _ _ _ (by decide) (fun x=>by rw[Aw]; exact atG x.1 x.2.1 x.2.2.1)
def alO:Con:=aP true [tMN,tN] [tN] fun x=>nA x.1 x.2.1
def aea:Cx:=cx [(114,a7C),(227,alM),(165,aaH)] []
theorem aeb:au Tryz.prog aea:=au.of mixed aA (fc ⟨YW,fc ⟨ae5,fc ⟨a2N,fz⟩⟩⟩) fz
theorem atH(r)(a):bV aea [] (dU aea 8) Tryz.f207 (jf [tMN,tN] (r,a,())) [] 0 (jR [tN])=qF r a:=by cases r<;>kernel_rfl
theorem aec:av Tryz.prog 207 alO:=ay aeb 8 ⟨Tryz.func207,Tryz.call207,ah⟩ _ _ _ _ (by decide) (fun x=>by rw[Ay]; exact atH x.1 x.2.1)
abbrev alP:Shape:= { sl:=[(0,(.pz (.pair tN (.pair tU (.pair tN tN))))),(pc 4 (.arr 16 tN) 1),(pc 5 (.arr 16 tN) 2),(pc 6 tN 3),(pv 7 tI)],ob:=[(pv 1 (.arr 16 tN)),(pv 2 (.arr 16 tN)),(pv 3 tN)],lo:=4,nx:=4 }
abbrev alQ:List Ex:=[(.normal, { sl:=[(pc 4 (.arr 16 tN) 1),(pc 5 (.arr 16 tN) 2)],ob:=[(pv 1 (.arr 16 tN)),(pv 2 (.arr 16 tN))],lo:=4,nx:=4 })]
def alR:Code:=aY (aV Tryz.f161) 0
def a7D:Lp:=dA alP alQ 30 eP
def alS:Con:=aP true [tMN,tN] [(.arr 16 tN)] fun x=>oq x.1 x.2.1
def aed:Cx:=cx [(207,alO),(165,aaH)] []
theorem a7E:au Tryz.prog aed:=au.of mixed aA (fc ⟨aec,fc ⟨a2N,fz⟩⟩) fz
theorem alT:bU Tryz.prog 0 (.loop alR) a7D:=aK a7E 8 (ah) _ _ _ _ (by decide) fun _=>by kernel_rfl
theorem alU:dZ Tryz.prog 161 Tryz.f161 [(0,a7D)]:=⟨Tryz.func161,Tryz.call161,bA (by kernel_rfl) (aJ alT (by kernel_rfl) fz)⟩
theorem atI(r)(a):bV aed [(0,a7D)] (dU aed 8) Tryz.f161 (jf [tMN,tN] (r,a,())) [] 0 (jR [(.arr 16 tN)])=mI r a:=by cases r<;>kernel_rfl
theorem aee:av Tryz.prog 161 alS:=ay a7E 8 alU _ _ _ _ (by decide) (fun x=>by rw[xX]; exact atI x.1 x.2.1)
def alV:Con:=aP true [tN,tI] [tI] fun x=>ou x.1 x.2.1
def atJ:Cx:=cx [(163,alm),(164,adE),(108,adz)] []
theorem aef:au Tryz.prog atJ:=au.of mixed aA (fc ⟨adI,fc ⟨a7r,fc ⟨a7p,fz⟩⟩⟩) fz
theorem aeg:av Tryz.prog 162 alV:=ay aef 8 ⟨Tryz.func162,Tryz.call162,ah⟩ _ _ _ _ (by decide) (fun x=>by rw[xY]; kernel_rfl)
abbrev alW:Shape:= { sl:=[(0,(.pz (.pair tN (.pair tU (.pair tN tN))))),(2,(.sz tN)),(pc 6 tN 0),(8,(.w 264 (.arr 16 tN) 1)),(pv 9 tI),(33,(.sz tN)),(pv 34 tI),(pv 35 tI)],ob:=[(pv 0 tN)],lo:=1,nx:=2 }
abbrev alX:List Ex:=[(.normal, { sl:=[(0,(.pz (.pair tN (.pair tU (.pair tN tN))))),(2,(.sz tN)),(pc 6 tN 0),(8,(.w 264 (.arr 16 tN) 2)),(pv 9 tI)],ob:=[(pv 0 tN)],lo:=2,nx:=3 })]
def alY:Code:=aY (aV Tryz.f116) 0
def a7F:Lp:=dA alW alX 98 gF
abbrev alZ:Shape:= { sl:=[(0,(.pz (.pair tN (.pair tU (.pair tN tN))))),(2,(.sz tN)),(pc 6 tN 0),(8,(.w 264 (.arr 16 tN) 5)),(12,(.c ⟨.fn,(.mk 162 [])⟩)),(pc 13 tN 3),(pv 14 tI),(74,(.sz tN)),(pv 75 tI),(pv 76 tI)],ob:=[(pv 0 tN),(pv 3 tN)],lo:=5,nx:=6 }
abbrev am0:List Ex:=[(.normal, { sl:=[(0,(.pz (.pair tN (.pair tU (.pair tN tN))))),(2,(.sz tN)),(pc 6 tN 0),(8,(.w 264 (.arr 16 tN) 6)),(12,(.c ⟨.fn,(.mk 162 [])⟩)),(pc 13 tN 3),(pv 14 tI)],ob:=[(pv 0 tN),(pv 3 tN)],lo:=6,nx:=7 })]
def am1:Code:=aY (aV Tryz.f116) 6
def a4l:Lp:=dA alZ am0 98 gG
abbrev a4m:Shape:= { sl:=[(0,(.pz (.pair tN (.pair tU (.pair tN tN))))),(2,(.sz tN)),(pc 6 tN 0),(8,(.w 264 (.arr 16 tN) 4)),(12,(.c ⟨.fn,(.mk 162 [])⟩)),(pc 13 tN 3),(pv 14 tI)],ob:=[(pv 0 tN),(pv 3 tN)],lo:=4,nx:=5 }
abbrev abI:List Ex:=[(.normal, { sl:=[(0,(.pz (.pair tN (.pair tU (.pair tN tN))))),(pc 6 tN 0),(pc 13 tN 3)],ob:=[(pv 0 tN),(pv 3 tN)],lo:=5,nx:=5 })]
def abJ:Code:=aY (aV Tryz.f116) 2
def a7G:Lp:=dA a4m abI 98 eF
def aeh:Con:=aP true [tMN,(.sl tN),(.sl tN)] [tN,tI] fun x=>fC x.1 x.2.1.1 x.2.1.2 x.2.2.1.1 x.2.2.1.2
def a7H:Cx:=cx [(114,a7C),(161,alS),(61,aaG),(165,aaH),(162,alV),(62,a2L)] []
theorem YX:au Tryz.prog a7H:=au.of mixed aA (fc ⟨YW,fc ⟨aee,fc ⟨a2M,fc ⟨a2N,fc ⟨aeg,fc ⟨OC,fz⟩⟩⟩⟩⟩⟩) fz
theorem am2:bU Tryz.prog 0 (.loop alY) a7F:=aK YX 8 (ah) _ _ _ _ (by decide) fun _=>by kernel_rfl
theorem abK:bU Tryz.prog 6 (.loop am1) a4l:=aK YX 8 (ah) _ _ _ _ (by decide) fun _=>by kernel_rfl
theorem am3(x:a4m.X):Cj a7H [(6,a4l)] (dU a7H 8) abJ (a4m.mkS 98 x) (uP 2 a4m abI)=eF x:=by kernel_rfl
theorem am4:bU Tryz.prog 2 (.loop abJ) a7G:=aK YX 8 (bA (by kernel_rfl) (aJ abK (by kernel_rfl) fz)) _ _ _ _ (by decide) am3
theorem am5:dZ Tryz.prog 116 Tryz.f116 [(0,a7F),(6,a4l),(2,a7G)]:=⟨Tryz.func116,Tryz.call116,bA (by kernel_rfl) (aJ am2 (by kernel_rfl) (aJ abK (by kernel_rfl) (aJ am4 (by kernel_rfl) fz)))⟩
theorem atK(r)(nbases)(bases)(nexps)(exps):bV a7H [(0,a7F),(6,a4l),(2,a7G)] (dU a7H 8) Tryz.f116 (jf [tMN,(.sl tN),(.sl tN)] (r,(nbases,bases),(nexps,exps),())) [] 0 (jR [tN,tI])=qG r nbases bases nexps exps:=by cases r<;>kernel_rfl
theorem a7I:av Tryz.prog 116 aeh:=ay YX 8 am5 _ _ _ _ (by decide) (fun x=>by rw[Az]; exact atK x.1 x.2.1.1 x.2.1.2 x.2.2.1.1 x.2.2.1.2)
def a7J:Con:=aP true [tMN,tN,tN] [tN] fun x=>aS x.1 x.2.1 x.2.2.1
def aei:Cx:=cx [(116,aeh)] []
theorem aej:au Tryz.prog aei:=au.of mixed aA (fc ⟨a7I,fz⟩) fz
theorem atL(r)(a)(e):bV aei [] (dU aei 8) Tryz.f64 (jf [tMN,tN,tN] (r,a,e,())) [] 0 (jR [tN])=sO r a e:=by cases r<;>kernel_rfl
theorem YZ:av Tryz.prog 64 a7J:=ay aej 8 ⟨Tryz.func64,Tryz.call64,ah⟩ _ _ _ _ (by decide) (fun x=>by rw[Cw]; exact atL x.1 x.2.1 x.2.2.1)
def aaI:Con:=aP true [tMN,tN] [.bool] fun x=>cO x.1 x.2.1
def aek:Cx:=cx [(114,a7C),(115,a5w)] []
theorem ael:au Tryz.prog aek:=au.of mixed aA (fc ⟨YW,fc ⟨Ue,fz⟩⟩) fz
theorem atM(r)(a):bV aek [] (dU aek 8) Tryz.f63 (jf [tMN,tN] (r,a,())) [] 0 (jR [.bool])=wh r a:=by cases r<;>kernel_rfl
theorem a2O:av Tryz.prog 63 aaI:=ay ael 8 ⟨Tryz.func63,Tryz.call63,ah⟩ _ _ _ _ (by decide) (fun x=>by rw[EF]; exact atM x.1 x.2.1)
def am6:Con:=aP true [tMN] [tN] fun x=>nC x.1
def aem:Cx:=cx [(114,a7C)] []
theorem aen:au Tryz.prog aem:=au.of mixed aA (fc ⟨YW,fz⟩) fz
theorem atO(r):bV aem [] (dU aem 8) Tryz.f231 (jf [tMN] (r,())) [] 0 (jR [tN])=yJ r:=by cases r<;>kernel_rfl
theorem aeo:av Tryz.prog 231 am6:=ay aen 8 ⟨Tryz.func231,Tryz.call231,ah⟩ _ _ _ _ (by decide) (fun x=>by rw[Gm]; exact atO x.1)
end
end Go.Proofs.YtldlihheppdhnaaGreat
namespace Go.Proofs.YtldlihheppdhnaaGreat
noncomputable section
abbrev am7:Shape:= { sl:=[(pv 0 tI),(3,(.v .bool)),(pv 11 tI),(pv 12 tI)],ob:=[],lo:=0,nx:=0 }
abbrev am8:List Ex:=[(.normal, { sl:=[(3,(.v .bool))],ob:=[],lo:=0,nx:=0 })]
def am9:Code:=aY (aV Tryz.f109) 0
def abL:Lp:=dA am7 am8 31 dN
def ama:Con:=aP true [tI] [.bool] fun x=>AB x.1
def atP:Cx:=cx [] []
theorem a7K:au Tryz.prog atP:=au.of mixed aA fz fz
theorem amb:bU Tryz.prog 0 (.loop am9) abL:=aK a7K 8 (ah) _ _ _ _ (by decide) fun _=>by kernel_rfl
theorem amc:dZ Tryz.prog 109 Tryz.f109 [(0,abL)]:=⟨Tryz.func109,Tryz.call109,bA (by kernel_rfl) (aJ amb (by kernel_rfl) fz)⟩
theorem aep:av Tryz.prog 109 ama:=ay a7K 8 amc _ _ _ _ (by decide) (fun x=>by rw[Gn]; kernel_rfl)
def amd:Con:=aP true [tN,tN,tI] [.bool] fun x=>DN x.1 x.2.1 x.2.2.1
def atQ:Cx:=cx [(60,adZ),(62,a2L),(155,a7s),(156,adU),(157,adQ),(115,a5w),(64,a7J),(158,alF),(159,alJ)] []
theorem aer:au Tryz.prog atQ:=au.of mixed aA (fc ⟨a7B,fc ⟨OC,fc ⟨YU,fc ⟨a7z,fc ⟨a7y,fc ⟨Ue,fc ⟨YZ,fc ⟨adX,fc ⟨adY,fz⟩⟩⟩⟩⟩⟩⟩⟩⟩) fz
theorem aes:av Tryz.prog 110 amd:=ay aer 8 ⟨Tryz.func110,Tryz.call110,ah⟩ _ _ _ _ (by decide) (fun x=>by rw[JB]; kernel_rfl)
abbrev ame:Shape:= { sl:=[(0,(.sz (.pair tN tI))),(pv 5 tI)],ob:=[],lo:=0,nx:=0 }
abbrev amf:List Ex:=[(.ret, { sl:=[(pv 2 tI)],ob:=[],lo:=0,nx:=0 }),(.normal, { sl:=[],ob:=[],lo:=0,nx:=0 })]
def amg:Code:=aY (aV Tryz.f59) 0
def abM:Lp:=dA ame amf 60 fP
def amh:Con:=aP true [(.sl (.pair tN tI))] [tI] fun x=>rM x.1.1 x.1.2
def atS:Cx:=cx [(108,adz),(109,ama),(110,amd)] []
theorem a7L:au Tryz.prog atS:=au.of mixed aA (fc ⟨a7p,fc ⟨aep,fc ⟨aes,fz⟩⟩⟩) fz
theorem ami:bU Tryz.prog 0 (.loop amg) abM:=aK a7L 8 (ah) _ _ _ _ (by decide) fun _=>by kernel_rfl
theorem amj:dZ Tryz.prog 59 Tryz.f59 [(0,abM)]:=⟨Tryz.func59,Tryz.call59,bA (by kernel_rfl) (aJ ami (by kernel_rfl) fz)⟩
theorem aeu:av Tryz.prog 59 amh:=ay a7L 8 amj _ _ _ _ (by decide) (fun x=>by rw[Gq]; kernel_rfl)
end
end Go.Proofs.YtldlihheppdhnaaGreat
namespace Go.Proofs.YtldlihheppdhnaaGreat
noncomputable section
def amk:Con:=aP false [(.pair (.sl (.pair tN tI)) tN)] [(.ptr tGR),tI] fun x=>rO x.1
def atU:Cx:=cx [(59,amh),(60,adZ),(61,aaG),(62,a2L),(63,aaI),(64,a7J)] []
theorem aev:au Tryz.prog atU:=au.of mixed aA (fc ⟨aeu,fc ⟨a7B,fc ⟨a2M,fc ⟨OC,fc ⟨a2O,fc ⟨YZ,fz⟩⟩⟩⟩⟩⟩) fz
theorem aew:av Tryz.prog 22 amk:=ay aev 8 ⟨Tryz.func22,Tryz.call22,ah⟩ _ _ _ _ (by decide) (fun x=>by rw[Mw]; kernel_rfl)
def aaJ:Con:=aP false [(.ptr tGR)] [tMN] fun x=>dB x.1
def aex:Cx:=cx [] []
theorem aey:au Tryz.prog aex:=au.of mixed aA fz fz
theorem atV(g):bV aex [] (dU aex 8) Tryz.f65 (jf [(.ptr tGR)] (g,())) [] 0 (jR [tMN])=kZ g:=by cases g<;>kernel_rfl
theorem a2P:av Tryz.prog 65 aaJ:=ay aey 8 ⟨Tryz.func65,Tryz.call65,ah⟩ _ _ _ _ (by decide) (fun x=>by rw[wV]; exact atV x.1)
def aaK:Con:=aP false [(.ptr tGR)] [tMN] fun x=>bO x.1
def aez:Cx:=cx [] []
theorem aeA:au Tryz.prog aez:=au.of mixed aA fz fz
theorem atW(g):bV aez [] (dU aez 8) Tryz.f213 (jf [(.ptr tGR)] (g,())) [] 0 (jR [tMN])=mJ g:=by cases g<;>kernel_rfl
theorem a2Q:av Tryz.prog 213 aaK:=ay aeA 8 ⟨Tryz.func213,Tryz.call213,ah⟩ _ _ _ _ (by decide) (fun x=>by rw[xZ]; exact atW x.1)
def aml:Con:=aP true [(.ptr tGR)] [tN] fun x=>dW x.1
def aeB:Cx:=cx [(65,aaJ),(231,am6)] []
theorem aeC:au Tryz.prog aeB:=au.of mixed aA (fc ⟨a2P,fc ⟨aeo,fz⟩⟩) fz
theorem atX(g):bV aeB [] (dU aeB 8) Tryz.f214 (jf [(.ptr tGR)] (g,())) [] 0 (jR [tN])=sP g:=by cases g<;>kernel_rfl
theorem aeD:av Tryz.prog 214 aml:=ay aeC 8 ⟨Tryz.func214,Tryz.call214,ah⟩ _ _ _ _ (by decide) (fun x=>by rw[Cz]; exact atX x.1)
def amm:Con:=aP true [(.ptr tGR)] [tN] fun x=>qc x.1
def aeE:Cx:=cx [] []
theorem aeF:au Tryz.prog aeE:=au.of mixed aA fz fz
theorem atY(g):bV aeE [] (dU aeE 8) Tryz.f216 (jf [(.ptr tGR)] (g,())) [] 0 (jR [tN])=zD g:=by cases g<;>kernel_rfl
theorem aeG:av Tryz.prog 216 amm:=ay aeF 8 ⟨Tryz.func216,Tryz.call216,ah⟩ _ _ _ _ (by decide) (fun x=>by rw[Cy]; exact atY x.1)
end
end Go.Proofs.YtldlihheppdhnaaGreat
namespace Go.Proofs.YtldlihheppdhnaaGreat
noncomputable section
abbrev amn:Shape:= { sl:=[(pc 1 tN 0),(pc 2 (.arr 256 .bool) 1),(pc 3 (.arr 256 .bool) 2),(pv 4 tI)],ob:=[(pv 0 tN),(pv 1 (.arr 256 .bool)),(pv 2 (.arr 256 .bool))],lo:=3,nx:=3 }
abbrev amo:List Ex:=[(.normal, { sl:=[(pc 2 (.arr 256 .bool) 1),(pc 3 (.arr 256 .bool) 2)],ob:=[(pv 1 (.arr 256 .bool)),(pv 2 (.arr 256 .bool))],lo:=3,nx:=3 })]
def amq:Code:=aY (aV Tryz.f118) 0
def abN:Lp:=dA amn amo 22 uT
def a7M:Con:=aP true [tN] [(.arr 256 .bool)] fun x=>Gr x.1
def atZ:Cx:=cx [] []
theorem a7N:au Tryz.prog atZ:=au.of mixed aA fz fz
theorem amr:bU Tryz.prog 0 (.loop amq) abN:=aK a7N 8 (ah) _ _ _ _ (by decide) fun _=>by kernel_rfl
theorem ams:dZ Tryz.prog 118 Tryz.f118 [(0,abN)]:=⟨Tryz.func118,Tryz.call118,bA (by kernel_rfl) (aJ amr (by kernel_rfl) fz)⟩
theorem Z0:av Tryz.prog 118 a7M:=ay a7N 8 ams _ _ _ _ (by decide) (fun x=>by rw[Xz]; kernel_rfl)
abbrev amt:Shape:= { sl:=[(pc 3 (.arr 256 .bool) 1),(pv 4 tI)],ob:=[(pv 1 (.arr 256 .bool))],lo:=2,nx:=2 }
abbrev amu:List Ex:=[(.ret, { sl:=[(pv 2 tI)],ob:=[],lo:=2,nx:=2 }),(.normal, { sl:=[],ob:=[],lo:=2,nx:=2 })]
def amv:Code:=aY (aV Tryz.f117) 0
def abO:Lp:=dA amt amu 16 nG
def aaL:Con:=aP true [tN] [tI] fun x=>Im x.1
def au0:Cx:=cx [(118,a7M)] []
theorem a7O:au Tryz.prog au0:=au.of mixed aA (fc ⟨Z0,fz⟩) fz
theorem amw:bU Tryz.prog 0 (.loop amv) abO:=aK a7O 8 (ah) _ _ _ _ (by decide) fun _=>by kernel_rfl
theorem amx:dZ Tryz.prog 117 Tryz.f117 [(0,abO)]:=⟨Tryz.func117,Tryz.call117,bA (by kernel_rfl) (aJ amw (by kernel_rfl) fz)⟩
theorem a2R:av Tryz.prog 117 aaL:=ay a7O 8 amx _ _ _ _ (by decide) (fun x=>by rw[TN]; kernel_rfl)
abbrev amy:Shape:= { sl:=[(pv 4 tI),(pc 5 (.arr 256 .bool) 1),(pv 6 tI)],ob:=[(pv 1 (.arr 256 .bool))],lo:=2,nx:=2 }
abbrev amz:List Ex:=[(.normal, { sl:=[(pv 4 tI)],ob:=[],lo:=2,nx:=2 })]
def amA:Code:=aY (aV Tryz.f68) 0
def abP:Lp:=dA amy amz 24 nH
def aeH:Con:=aP true [tN] [tI,.bool] fun x=>DT x.1
def au1:Cx:=cx [(117,aaL),(118,a7M)] []
theorem a7P:au Tryz.prog au1:=au.of mixed aA (fc ⟨a2R,fc ⟨Z0,fz⟩⟩) fz
theorem amB:bU Tryz.prog 0 (.loop amA) abP:=aK a7P 8 (ah) _ _ _ _ (by decide) fun _=>by kernel_rfl
theorem amC:dZ Tryz.prog 68 Tryz.f68 [(0,abP)]:=⟨Tryz.func68,Tryz.call68,bA (by kernel_rfl) (aJ amB (by kernel_rfl) fz)⟩
theorem a7Q:av Tryz.prog 68 aeH:=ay a7P 8 amC _ _ _ _ (by decide) (fun x=>by rw[TQ]; kernel_rfl)
abbrev amD:Shape:= { sl:=[(pc 1 (.arr 256 .bool) 0),(pc 2 tN 1),(pc 3 tN 2),(pv 4 tI)],ob:=[(pv 0 (.arr 256 .bool)),(pv 1 tN),(pv 2 tN)],lo:=3,nx:=3 }
abbrev amE:List Ex:=[(.normal, { sl:=[(pc 2 tN 1),(pc 3 tN 2)],ob:=[(pv 1 tN),(pv 2 tN)],lo:=3,nx:=3 })]
def amF:Code:=aY (aV Tryz.f119) 0
def abQ:Lp:=dA amD amE 25 nD
def amG:Con:=aP true [(.arr 256 .bool)] [tN] fun x=>RI x.1
def au2:Cx:=cx [] []
theorem a7R:au Tryz.prog au2:=au.of mixed aA fz fz
theorem amH:bU Tryz.prog 0 (.loop amF) abQ:=aK a7R 8 (ah) _ _ _ _ (by decide) fun _=>by kernel_rfl
theorem amI:dZ Tryz.prog 119 Tryz.f119 [(0,abQ)]:=⟨Tryz.func119,Tryz.call119,bA (by kernel_rfl) (aJ amH (by kernel_rfl) fz)⟩
theorem aeI:av Tryz.prog 119 amG:=ay a7R 8 amI _ _ _ _ (by decide) (fun x=>by rw[TF]; kernel_rfl)
abbrev amJ:Shape:= { sl:=[(pv 0 tI),(pc 2 tN 0),(pc 3 (.arr 256 .bool) 1),(pv 4 tI)],ob:=[(pv 0 tN),(pv 1 (.arr 256 .bool))],lo:=2,nx:=2 }
abbrev amK:List Ex:=[(.normal, { sl:=[(pc 2 tN 0),(pc 3 (.arr 256 .bool) 1)],ob:=[(pv 0 tN),(pv 1 (.arr 256 .bool))],lo:=2,nx:=2 })]
def amL:Code:=aY (aV Tryz.f71) 0
def abR:Lp:=dA amJ amK 23 nE
def a5x:Con:=aP true [tI] [tN] fun x=>aU x.1
def au3:Cx:=cx [(119,amG)] []
theorem a7S:au Tryz.prog au3:=au.of mixed aA (fc ⟨aeI,fz⟩) fz
theorem amM:bU Tryz.prog 0 (.loop amL) abR:=aK a7S 8 (ah) _ _ _ _ (by decide) fun _=>by kernel_rfl
theorem amN:dZ Tryz.prog 71 Tryz.f71 [(0,abR)]:=⟨Tryz.func71,Tryz.call71,bA (by kernel_rfl) (aJ amM (by kernel_rfl) fz)⟩
theorem Uf:av Tryz.prog 71 a5x:=ay a7S 8 amN _ _ _ _ (by decide) (fun x=>by rw[TH]; kernel_rfl)
abbrev amO:Shape:= { sl:=[(pc 5 (.arr 256 .bool) 2),(pc 6 (.arr 256 .bool) 3),(pv 7 tI)],ob:=[(pv 2 (.arr 256 .bool)),(pv 3 (.arr 256 .bool))],lo:=4,nx:=4 }
abbrev amP:List Ex:=[(.ret, { sl:=[(pv 4 tI)],ob:=[],lo:=4,nx:=4 }),(.normal, { sl:=[],ob:=[],lo:=4,nx:=4 })]
def amQ:Code:=aY (aV Tryz.f166) 0
def abS:Lp:=dA amO amP 26 jo
def amR:Con:=aP true [tN,tN] [tI] fun x=>RJ x.1 x.2.1
def au4:Cx:=cx [(118,a7M)] []
theorem a7T:au Tryz.prog au4:=au.of mixed aA (fc ⟨Z0,fz⟩) fz
theorem amS:bU Tryz.prog 0 (.loop amQ) abS:=aK a7T 8 (ah) _ _ _ _ (by decide) fun _=>by kernel_rfl
theorem amT:dZ Tryz.prog 166 Tryz.f166 [(0,abS)]:=⟨Tryz.func166,Tryz.call166,bA (by kernel_rfl) (aJ amS (by kernel_rfl) fz)⟩
theorem aeJ:av Tryz.prog 166 amR:=ay a7T 8 amT _ _ _ _ (by decide) (fun x=>by rw[TL]; kernel_rfl)
def aeK:Con:=aP true [tN,tI] [tI] fun x=>Mx x.1 x.2.1
def au5:Cx:=cx [(118,a7M)] []
theorem aeL:au Tryz.prog au5:=au.of mixed aA (fc ⟨Z0,fz⟩) fz
theorem a7U:av Tryz.prog 174 aeK:=ay aeL 8 ⟨Tryz.func174,Tryz.call174,ah⟩ _ _ _ _ (by decide) (fun x=>by rw[TS]; kernel_rfl)
abbrev amU:Shape:= { sl:=[(pc 1 tN 0),(4,(.w 5 (.int .u8) 2)),(pv 5 tI),(pv 6 tI),(pv 7 tI)],ob:=[(pv 0 tN)],lo:=2,nx:=3 }
abbrev amV:List Ex:=[(.normal, { sl:=[(pc 1 tN 0),(4,(.w 5 (.int .u8) 3)),(pv 5 tI),(pv 6 tI)],ob:=[(pv 0 tN)],lo:=3,nx:=4 })]
def amW:Code:=aY (aV Tryz.f128) 2
def a7V:Lp:=dA amU amV 40 lW
abbrev a4n:Shape:= { sl:=[(pc 1 tN 0),(4,(.w 5 (.int .u8) 1)),(pv 5 tI)],ob:=[(pv 0 tN)],lo:=1,nx:=2 }
abbrev abT:List Ex:=[(.normal, { sl:=[(4,(.w 5 (.int .u8) 2))],ob:=[],lo:=2,nx:=3 })]
def abU:Code:=aY (aV Tryz.f128) 0
def abV:Lp:=dA a4n abT 40 jD
def amX:Con:=aP true [tN] [.str] fun x=>Io x.1
def aeM:Cx:=cx [(117,aaL),(174,aeK)] []
theorem a2S:au Tryz.prog aeM:=au.of mixed aA (fc ⟨a2R,fc ⟨a7U,fz⟩⟩) fz
theorem abW:bU Tryz.prog 2 (.loop amW) a7V:=aK a2S 8 (ah) _ _ _ _ (by decide) fun _=>by kernel_rfl
theorem amY(x:a4n.X):Cj aeM [(2,a7V)] (dU aeM 8) abU (a4n.mkS 40 x) (uP 0 a4n abT)=jD x:=by kernel_rfl
theorem amZ:bU Tryz.prog 0 (.loop abU) abV:=aK a2S 8 (bA (by kernel_rfl) (aJ abW (by kernel_rfl) fz)) _ _ _ _ (by decide) amY
theorem an0:dZ Tryz.prog 128 Tryz.f128 [(2,a7V),(0,abV)]:=⟨Tryz.func128,Tryz.call128,bA (by kernel_rfl) (aJ abW (by kernel_rfl) (aJ amZ (by kernel_rfl) fz))⟩
theorem aeN:av Tryz.prog 128 amX:=ay a2S 8 an0 _ _ _ _ (by decide) (fun x=>by rw[MB]; kernel_rfl)
end
end Go.Proofs.YtldlihheppdhnaaGreat
namespace Go.Proofs.YtldlihheppdhnaaGreat
noncomputable section
def an1:Con:=aP false [] [(.pair (.sl (.pair tN tI)) tN)] fun x=>Iw
def au6:Cx:=cx [] []
theorem aeO:au Tryz.prog au6:=au.of mixed aA fz fz
theorem aeP:av Tryz.prog 67 an1:=ay aeO 8 ⟨Tryz.func67,Tryz.call67,ah⟩ _ _ _ _ (by decide) (fun x=>by rw[MP]; kernel_rfl)
def an2:Con:=aP false [] [(.pair (.sl (.pair tN tI)) tN)] fun x=>Iu
def au7:Cx:=cx [] []
theorem aeQ:au Tryz.prog au7:=au.of mixed aA fz fz
theorem aeR:av Tryz.prog 23 an2:=ay aeQ 8 ⟨Tryz.func23,Tryz.call23,ah⟩ _ _ _ _ (by decide) (fun x=>by rw[MO]; kernel_rfl)
def an3:Con:=aP false [tI] [(.pair (.sl (.pair tN tI)) tN)] fun x=>MQ x.1
def au8:Cx:=cx [(67,an1),(23,an2)] []
theorem aeS:au Tryz.prog au8:=au.of mixed aA (fc ⟨aeP,fc ⟨aeR,fz⟩⟩) fz
theorem aeT:av Tryz.prog 25 an3:=ay aeS 8 ⟨Tryz.func25,Tryz.call25,ah⟩ _ _ _ _ (by decide) (fun x=>by rw[Qo]; kernel_rfl)
def an4:Con:=aP true [(.pair (.sl (.pair tN tI)) tN)] [tN] fun x=>a4i x.1
def au9:Cx:=cx [] []
theorem aeU:au Tryz.prog au9:=au.of mixed aA fz fz
theorem aeV:av Tryz.prog 69 an4:=ay aeU 8 ⟨Tryz.func69,Tryz.call69,ah⟩ _ _ _ _ (by decide) (fun x=>by rw[a0B]; kernel_rfl)
def an5:Con:=aP true [(.pair (.sl (.pair tN tI)) tN)] [tN] fun x=>a4j x.1
def aua:Cx:=cx [] []
theorem aeW:au Tryz.prog aua:=au.of mixed aA fz fz
theorem aeX:av Tryz.prog 70 an5:=ay aeW 8 ⟨Tryz.func70,Tryz.call70,ah⟩ _ _ _ _ (by decide) (fun x=>by rw[a0C]; kernel_rfl)
end
end Go.Proofs.YtldlihheppdhnaaGreat
namespace Go.Proofs.YtldlihheppdhnaaGreat
noncomputable section
def aeY:Con:=aP true [tI,tI,tI] [tI] fun x=>yZ x.1 x.2.1 x.2.2.1
def aub:Cx:=cx [(202,aaF),(226,adv)] []
theorem aeZ:au Tryz.prog aub:=au.of mixed aA (fc ⟨a2K,fc ⟨a7o,fz⟩⟩) fz
theorem a7W:av Tryz.prog 211 aeY:=ay aeZ 8 ⟨Tryz.func211,Tryz.call211,ah⟩ _ _ _ _ (by decide) (fun x=>by rw[MK]; kernel_rfl)
abbrev an6:Shape:= { sl:=[(pv 0 tI),(pv 2 tI),(pc 4 tN 0),(pv 7 tI),(pv 8 tI)],ob:=[(pv 0 tN)],lo:=1,nx:=1 }
abbrev an7:List Ex:=[(.normal, { sl:=[(pv 7 tI)],ob:=[],lo:=1,nx:=1 })]
def an8:Code:=aY (aV Tryz.f210) 0
def abX:Lp:=dA an6 an7 31 jF
def an9:Con:=aP true [tI,tN,tI] [tI] fun x=>Ir x.1 x.2.1 x.2.2.1
def auc:Cx:=cx [(117,aaL),(211,aeY),(174,aeK)] []
theorem a7X:au Tryz.prog auc:=au.of mixed aA (fc ⟨a2R,fc ⟨a7W,fc ⟨a7U,fz⟩⟩⟩) fz
theorem ana:bU Tryz.prog 0 (.loop an8) abX:=aK a7X 8 (ah) _ _ _ _ (by decide) fun _=>by kernel_rfl
theorem anb:dZ Tryz.prog 210 Tryz.f210 [(0,abX)]:=⟨Tryz.func210,Tryz.call210,bA (by kernel_rfl) (aJ ana (by kernel_rfl) fz)⟩
theorem af0:av Tryz.prog 210 an9:=ay a7X 8 anb _ _ _ _ (by decide) (fun x=>by rw[ML]; kernel_rfl)
end
end Go.Proofs.YtldlihheppdhnaaGreat
namespace Go.Proofs.YtldlihheppdhnaaGreat
noncomputable section
def anc:Con:=aP true [(.pair (.sl (.pair tN tI)) tN)] [(.pair tI (.pair tI tI))] fun x=>KT x.1
def aud:Cx:=cx [(69,an4),(68,aeH),(70,an5)] []
theorem af2:au Tryz.prog aud:=au.of mixed aA (fc ⟨aeV,fc ⟨a7Q,fc ⟨aeX,fz⟩⟩⟩) fz
theorem af3:av Tryz.prog 26 anc:=ay af2 8 ⟨Tryz.func26,Tryz.call26,ah⟩ _ _ _ _ (by decide) (fun x=>by rw[XC]; kernel_rfl)
def ane:Con:=aP true [(.pair tI (.pair tI tI)),tI,tN] [tI] fun x=>MV x.1 x.2.1 x.2.2.1
def aue:Cx:=cx [(210,an9)] []
theorem af4:au Tryz.prog aue:=au.of mixed aA (fc ⟨af0,fz⟩) fz
theorem af5:av Tryz.prog 168 ane:=ay af4 8 ⟨Tryz.func168,Tryz.call168,ah⟩ _ _ _ _ (by decide) (fun x=>by rw[Ud]; kernel_rfl)
end
end Go.Proofs.YtldlihheppdhnaaGreat
namespace Go.Proofs.YtldlihheppdhnaaGreat
noncomputable section
abbrev anf:Shape:= { sl:=[(pc 2 tN 0),(pc 3 tN 1),(pc 4 (.arr 32 tI) 2),(pc 5 (.arr 32 tI) 3),(pv 6 tI)],ob:=[(pv 0 tN),(pv 1 tN),(pv 2 (.arr 32 tI)),(pv 3 (.arr 32 tI))],lo:=4,nx:=4 }
abbrev ang:List Ex:=[(.normal, { sl:=[(pc 4 (.arr 32 tI) 2),(pc 5 (.arr 32 tI) 3)],ob:=[(pv 2 (.arr 32 tI)),(pv 3 (.arr 32 tI))],lo:=4,nx:=4 })]
def anh:Code:=aY (aV Tryz.f229) 0
def abY:Lp:=dA anf ang 38 uU
def ani:Con:=aP true [tN,tN] [(.arr 32 tI)] fun x=>TU x.1 x.2.1
def auf:Cx:=cx [] []
theorem a7Y:au Tryz.prog auf:=au.of mixed aA fz fz
theorem anj:bU Tryz.prog 0 (.loop anh) abY:=aK a7Y 8 (ah) _ _ _ _ (by decide) fun _=>by kernel_rfl
theorem ank:dZ Tryz.prog 229 Tryz.f229 [(0,abY)]:=⟨Tryz.func229,Tryz.call229,bA (by kernel_rfl) (aJ anj (by kernel_rfl) fz)⟩
theorem af6:av Tryz.prog 229 ani:=ay a7Y 8 ank _ _ _ _ (by decide) (fun x=>by rw[XA]; kernel_rfl)
abbrev anl:Shape:= { sl:=[(pc 2 (.arr 32 tI) 0),(pc 4 (.arr 32 tI) 1),(pc 5 (.arr 32 tI) 2),(pv 6 tI),(pv 7 tI)],ob:=[(pv 0 (.arr 32 tI)),(pv 1 (.arr 32 tI)),(pv 2 (.arr 32 tI))],lo:=3,nx:=3 }
abbrev anm:List Ex:=[(.normal, { sl:=[(pc 4 (.arr 32 tI) 1),(pc 5 (.arr 32 tI) 2)],ob:=[(pv 1 (.arr 32 tI)),(pv 2 (.arr 32 tI))],lo:=3,nx:=3 })]
def ano:Code:=aY (aV Tryz.f236) 0
def abZ:Lp:=dA anl anm 28 lX
def anp:Con:=aP true [(.arr 32 tI),tI] [(.arr 32 tI)] fun x=>Ip x.1 x.2.1
def aug:Cx:=cx [] []
theorem a7Z:au Tryz.prog aug:=au.of mixed aA fz fz
theorem anq:bU Tryz.prog 0 (.loop ano) abZ:=aK a7Z 8 (ah) _ _ _ _ (by decide) fun _=>by kernel_rfl
theorem anr:dZ Tryz.prog 236 Tryz.f236 [(0,abZ)]:=⟨Tryz.func236,Tryz.call236,bA (by kernel_rfl) (aJ anq (by kernel_rfl) fz)⟩
theorem af7:av Tryz.prog 236 anp:=ay a7Z 8 anr _ _ _ _ (by decide) (fun x=>by rw[MF]; kernel_rfl)
abbrev ant:Shape:= { sl:=[(pc 2 (.arr 32 tI) 0),(pc 3 (.arr 32 tI) 1),(pv 5 tI)],ob:=[(pv 0 (.arr 32 tI)),(pv 1 (.arr 32 tI))],lo:=2,nx:=2 }
abbrev anu:List Ex:=[(.ret, { sl:=[(4,(.v .bool))],ob:=[],lo:=2,nx:=2 }),(.normal, { sl:=[],ob:=[],lo:=2,nx:=2 })]
def anv:Code:=aY (aV Tryz.f237) 0
def ac0:Lp:=dA ant anu 24 jE
def anw:Con:=aP true [(.arr 32 tI),(.arr 32 tI)] [.bool] fun x=>Iq x.1 x.2.1
def auh:Cx:=cx [] []
theorem a81:au Tryz.prog auh:=au.of mixed aA fz fz
theorem anx:bU Tryz.prog 0 (.loop anv) ac0:=aK a81 8 (ah) _ _ _ _ (by decide) fun _=>by kernel_rfl
theorem anz:dZ Tryz.prog 237 Tryz.f237 [(0,ac0)]:=⟨Tryz.func237,Tryz.call237,bA (by kernel_rfl) (aJ anx (by kernel_rfl) fz)⟩
theorem af8:av Tryz.prog 237 anw:=ay a81 8 anz _ _ _ _ (by decide) (fun x=>by rw[MG]; kernel_rfl)
abbrev anA:Shape:= { sl:=[(pc 2 (.arr 32 tI) 0),(pc 3 (.arr 32 tI) 1),(pc 4 (.arr 32 tI) 2),(pv 5 tI),(pc 6 (.arr 32 tI) 3),(pv 7 tI)],ob:=[(pv 0 (.arr 32 tI)),(pv 1 (.arr 32 tI)),(pv 2 (.arr 32 tI)),(pv 3 (.arr 32 tI))],lo:=4,nx:=4 }
abbrev anB:List Ex:=[(.normal, { sl:=[(pc 4 (.arr 32 tI) 2),(pc 6 (.arr 32 tI) 3)],ob:=[(pv 2 (.arr 32 tI)),(pv 3 (.arr 32 tI))],lo:=4,nx:=4 })]
def anC:Code:=aY (aV Tryz.f238) 0
def ac1:Lp:=dA anA anB 31 l8
def anD:Con:=aP true [(.arr 32 tI),(.arr 32 tI)] [(.arr 32 tI)] fun x=>MI x.1 x.2.1
def aui:Cx:=cx [] []
theorem a88:au Tryz.prog aui:=au.of mixed aA fz fz
theorem anE:bU Tryz.prog 0 (.loop anC) ac1:=aK a88 8 (ah) _ _ _ _ (by decide) fun _=>by kernel_rfl
theorem anF:dZ Tryz.prog 238 Tryz.f238 [(0,ac1)]:=⟨Tryz.func238,Tryz.call238,bA (by kernel_rfl) (aJ anE (by kernel_rfl) fz)⟩
theorem af9:av Tryz.prog 238 anD:=ay a88 8 anF _ _ _ _ (by decide) (fun x=>by rw[Qn]; kernel_rfl)
abbrev anG:Shape:= { sl:=[(pc 2 (.arr 32 tI) 0),(pc 3 (.arr 32 tI) 1),(pc 4 (.arr 32 tI) 2),(pc 5 (.arr 32 tI) 3),(pc 6 (.arr 32 tI) 4),(pc 7 (.arr 32 tI) 5),(pv 8 tI)],ob:=[(pv 0 (.arr 32 tI)),(pv 1 (.arr 32 tI)),(pv 2 (.arr 32 tI)),(pv 3 (.arr 32 tI)),(pv 4 (.arr 32 tI)),(pv 5 (.arr 32 tI))],lo:=6,nx:=6 }
abbrev anH:List Ex:=[(.normal, { sl:=[(pc 4 (.arr 32 tI) 2),(pc 5 (.arr 32 tI) 3),(pc 6 (.arr 32 tI) 4),(pc 7 (.arr 32 tI) 5)],ob:=[(pv 2 (.arr 32 tI)),(pv 3 (.arr 32 tI)),(pv 4 (.arr 32 tI)),(pv 5 (.arr 32 tI))],lo:=6,nx:=6 })]
def anI:Code:=aY (aV Tryz.f228) 0
def ac2:Lp:=dA anG anH 45 iU
def anJ:Con:=aP true [(.arr 32 tI),(.arr 32 tI)] [(.arr 32 tI),(.arr 32 tI)] fun x=>DU x.1 x.2.1
def auj:Cx:=cx [(236,anp),(237,anw),(238,anD)] []
theorem a8a:au Tryz.prog auj:=au.of mixed aA (fc ⟨af7,fc ⟨af8,fc ⟨af9,fz⟩⟩⟩) fz
theorem anK:bU Tryz.prog 0 (.loop anI) ac2:=aK a8a 8 (ah) _ _ _ _ (by decide) fun _=>by kernel_rfl
theorem anL:dZ Tryz.prog 228 Tryz.f228 [(0,ac2)]:=⟨Tryz.func228,Tryz.call228,bA (by kernel_rfl) (aJ anK (by kernel_rfl) fz)⟩
theorem afa:av Tryz.prog 228 anJ:=ay a8a 8 anL _ _ _ _ (by decide) (fun x=>by rw[JH]; kernel_rfl)
abbrev anM:Shape:= { sl:=[(pc 1 (.arr 32 tI) 0),(pc 2 tN 1),(pc 3 tN 2),(pc 4 tN 3),(pc 5 tN 4),(pv 6 tI)],ob:=[(pv 0 (.arr 32 tI)),(pv 1 tN),(pv 2 tN),(pv 3 tN),(pv 4 tN)],lo:=5,nx:=5 }
abbrev anN:List Ex:=[(.normal, { sl:=[(pc 2 tN 1),(pc 3 tN 2),(pc 4 tN 3),(pc 5 tN 4)],ob:=[(pv 1 tN),(pv 2 tN),(pv 3 tN),(pv 4 tN)],lo:=5,nx:=5 })]
def anO:Code:=aY (aV Tryz.f230) 0
def ac3:Lp:=dA anM anN 48 ow
def anP:Con:=aP true [(.arr 32 tI)] [tN,tN] fun x=>ME x.1
def auk:Cx:=cx [] []
theorem a8b:au Tryz.prog auk:=au.of mixed aA fz fz
theorem anQ:bU Tryz.prog 0 (.loop anO) ac3:=aK a8b 8 (ah) _ _ _ _ (by decide) fun _=>by kernel_rfl
theorem anR:dZ Tryz.prog 230 Tryz.f230 [(0,ac3)]:=⟨Tryz.func230,Tryz.call230,bA (by kernel_rfl) (aJ anQ (by kernel_rfl) fz)⟩
theorem afb:av Tryz.prog 230 anP:=ay a8b 8 anR _ _ _ _ (by decide) (fun x=>by rw[Qm]; kernel_rfl)
def anS:Con:=aP true [tN,tN,tN] [tN,tI] fun x=>MJ x.1 x.2.1 x.2.2.1
def aul:Cx:=cx [(229,ani),(228,anJ),(230,anP)] []
theorem afc:au Tryz.prog aul:=au.of mixed aA (fc ⟨af6,fc ⟨afa,fc ⟨afb,fz⟩⟩⟩) fz
theorem afd:av Tryz.prog 209 anS:=ay afc 8 ⟨Tryz.func209,Tryz.call209,ah⟩ _ _ _ _ (by decide) (fun x=>by rw[U1]; kernel_rfl)
end
end Go.Proofs.YtldlihheppdhnaaGreat
namespace Go.Proofs.YtldlihheppdhnaaGreat
noncomputable section
def anT:Con:=aP true [tN,tI] [tI] fun x=>YS x.1 x.2.1
def aum:Cx:=cx [(71,a5x),(209,anS),(68,aeH)] []
theorem afe:au Tryz.prog aum:=au.of mixed aA (fc ⟨Uf,fc ⟨afd,fc ⟨a7Q,fz⟩⟩⟩) fz
theorem aff:av Tryz.prog 167 anT:=ay afe 8 ⟨Tryz.func167,Tryz.call167,ah⟩ _ _ _ _ (by decide) (fun x=>by rw[XB]; kernel_rfl)
abbrev anU:Shape:= { sl:=[(0,(.sz tN)),(pv 1 tI),(5,(.w 3 tI 0)),(pv 6 tI)],ob:=[],lo:=0,nx:=1 }
abbrev anV:List Ex:=[(.normal, { sl:=[(5,(.w 3 tI 1))],ob:=[],lo:=1,nx:=2 })]
def anW:Code:=aY (aV Tryz.f121) 0
def ac4:Lp:=dA anU anV 23 rP
def anX:Con:=aP false [(.sl tN),tI] [(.sl tI)] fun x=>wm x.1.1 x.1.2 x.2.1
def aun:Cx:=cx [(167,anT)] []
theorem a8c:au Tryz.prog aun:=au.of mixed aA (fc ⟨aff,fz⟩) fz
theorem anY:bU Tryz.prog 0 (.loop anW) ac4:=aK a8c 8 (ah) _ _ _ _ (by decide) fun _=>by kernel_rfl
theorem anZ:dZ Tryz.prog 121 Tryz.f121 [(0,ac4)]:=⟨Tryz.func121,Tryz.call121,bA (by kernel_rfl) (aJ anY (by kernel_rfl) fz)⟩
theorem afg:av Tryz.prog 121 anX:=ay a8c 8 anZ _ _ _ _ (by decide) (fun x=>by rw[Ub]; kernel_rfl)
def ao0:Con:=aP true [tI,tI,tI] [tI] fun x=>MR x.1 x.2.1 x.2.2.1
def auo:Cx:=cx [(211,aeY)] []
theorem afh:au Tryz.prog auo:=au.of mixed aA (fc ⟨a7W,fz⟩) fz
theorem afi:av Tryz.prog 170 ao0:=ay afh 8 ⟨Tryz.func170,Tryz.call170,ah⟩ _ _ _ _ (by decide) (fun x=>by rw[U7]; kernel_rfl)
def ao1:Con:=aP true [tI,tI,tI] [tI] fun x=>RL x.1 x.2.1 x.2.2.1
def aup:Cx:=cx [] []
theorem afj:au Tryz.prog aup:=au.of mixed aA fz fz
theorem afk:av Tryz.prog 169 ao1:=ay afj 8 ⟨Tryz.func169,Tryz.call169,ah⟩ _ _ _ _ (by decide) (fun x=>by rw[U5]; kernel_rfl)
abbrev ao2:Shape:= { sl:=[(0,(.sz tN)),(1,(.sz tN)),(pv 5 tI)],ob:=[],lo:=0,nx:=0 }
abbrev ao3:List Ex:=[(.ret, { sl:=[(4,(.v .bool))],ob:=[],lo:=0,nx:=0 }),(.normal, { sl:=[],ob:=[],lo:=0,nx:=0 })]
def ao4:Code:=aY (aV Tryz.f76) 0
def ac5:Lp:=dA ao2 ao3 26 l9
def afl:Con:=aP true [(.sl tN),(.sl tN)] [.bool] fun x=>Gx x.1.1 x.1.2 x.2.1.1 x.2.1.2
def auq:Cx:=cx [] []
theorem a8d:au Tryz.prog auq:=au.of mixed aA fz fz
theorem ao5:bU Tryz.prog 0 (.loop ao4) ac5:=aK a8d 8 (ah) _ _ _ _ (by decide) fun _=>by kernel_rfl
theorem ao6:dZ Tryz.prog 76 Tryz.f76 [(0,ac5)]:=⟨Tryz.func76,Tryz.call76,bA (by kernel_rfl) (aJ ao5 (by kernel_rfl) fz)⟩
theorem a8e:av Tryz.prog 76 afl:=ay a8d 8 ao6 _ _ _ _ (by decide) (fun x=>by rw[Qp]; kernel_rfl)
end
end Go.Proofs.YtldlihheppdhnaaGreat
namespace Go.Proofs.YtldlihheppdhnaaGreat
noncomputable def ao7:Con:=aP true [(.ptr tGR),tN] [.bool] fun x=>Gy x.1 x.2.1
noncomputable def afm:Cx:=cx [(65,aaJ),(63,aaI)] []
theorem afn:au Tryz.prog afm:=au.of mixed aA (fc ⟨a2P,fc ⟨a2O,fz⟩⟩) fz
theorem aur(g)(a):bV afm [] (dU afm 8) Tryz.f181 (jf [(.ptr tGR),tN] (g,a,())) [] 0 (jR [.bool])=Iy g a:=by cases g<;>kernel_rfl
theorem afo:av Tryz.prog 181 ao7:=ay afn 8 ⟨Tryz.func181,Tryz.call181,ah⟩ _ _ _ _ (by decide) (fun x=>by rw[Qr]; exact aur x.1 x.2.1)
end Go.Proofs.YtldlihheppdhnaaGreat
namespace Go.Proofs.YtldlihheppdhnaaGreat
noncomputable section
def afp:Con:=aP true [(.ptr tGR),tN] [.bool] fun x=>MX x.1 x.2.1
def afq:Cx:=cx [(213,aaK),(63,aaI),(214,aml),(64,a7J),(62,a2L)] []
theorem afr:au Tryz.prog afq:=au.of mixed aA (fc ⟨a2Q,fc ⟨a2O,fc ⟨aeD,fc ⟨YZ,fc ⟨OC,fz⟩⟩⟩⟩⟩) fz
theorem aus(g)(a):bV afq [] (dU afq 8) Tryz.f180 (jf [(.ptr tGR),tN] (g,a,())) [] 0 (jR [.bool])=IB g a:=by cases g<;>kernel_rfl
theorem a8f:av Tryz.prog 180 afp:=ay afr 8 ⟨Tryz.func180,Tryz.call180,ah⟩ _ _ _ _ (by decide) (fun x=>by rw[Qt]; exact aus x.1 x.2.1)
def ao8:Con:=aP true [(.ptr tGR),tN,tN] [tN] fun x=>CB x.1 x.2.1 x.2.2.1
def afs:Cx:=cx [(213,aaK),(64,a7J)] []
theorem aft:au Tryz.prog afs:=au.of mixed aA (fc ⟨a2Q,fc ⟨YZ,fz⟩⟩) fz
theorem aut(g)(a)(e):bV afs [] (dU afs 8) Tryz.f215 (jf [(.ptr tGR),tN,tN] (g,a,e,())) [] 0 (jR [tN])=DW g a e:=by cases g<;>kernel_rfl
theorem afu:av Tryz.prog 215 ao8:=ay aft 8 ⟨Tryz.func215,Tryz.call215,ah⟩ _ _ _ _ (by decide) (fun x=>by rw[MW]; exact aut x.1 x.2.1 x.2.2.1)
def ao9:Con:=aP true [(.ptr tGR),tN] [tN] fun x=>GD x.1 x.2.1
def afv:Cx:=cx [(216,amm),(215,ao8)] []
theorem afw:au Tryz.prog afv:=au.of mixed aA (fc ⟨aeG,fc ⟨afu,fz⟩⟩) fz
theorem auu(g)(e):bV afv [] (dU afv 8) Tryz.f182 (jf [(.ptr tGR),tN] (g,e,())) [] 0 (jR [tN])=Iz g e:=by cases g<;>kernel_rfl
theorem afx:av Tryz.prog 182 ao9:=ay afw 8 ⟨Tryz.func182,Tryz.call182,ah⟩ _ _ _ _ (by decide) (fun x=>by rw[Qs]; exact auu x.1 x.2.1)
def aoa:Con:=aP true [(.ptr tGR),(.sl tN),(.sl tN)] [tN,tI] fun x=>AO x.1 x.2.1.1 x.2.1.2 x.2.2.1.1 x.2.2.1.2
def afy:Cx:=cx [(213,aaK),(116,aeh)] []
theorem afz:au Tryz.prog afy:=au.of mixed aA (fc ⟨a2Q,fc ⟨a7I,fz⟩⟩) fz
theorem auv(g)(nbases)(bases)(nexps)(exps):bV afy [] (dU afy 8) Tryz.f217 (jf [(.ptr tGR),(.sl tN),(.sl tN)] (g,(nbases,bases),(nexps,exps),())) [] 0 (jR [tN,tI])=yL g nbases bases nexps exps:=by cases g<;>kernel_rfl
theorem afA:av Tryz.prog 217 aoa:=ay afz 8 ⟨Tryz.func217,Tryz.call217,ah⟩ _ _ _ _ (by decide) (fun x=>by rw[Gz]; exact auv x.1 x.2.1.1 x.2.1.2 x.2.2.1.1 x.2.2.1.2)
end
end Go.Proofs.YtldlihheppdhnaaGreat
