/-
  The functions of the program are the plain ones.
-/
import Derived.Test.YtldlihheppdhnaaGreatProg
import Derived.Test.YtldlihheppdhnaaGreatDenM
import Derived.KernelRfl
import Derived.Test.YtldlihheppdhnaaGreatPlA
set_option linter.unusedVariables false
set_option linter.unusedSimpArgs false
set_option maxRecDepth 100000
set_option maxHeartbeats 0
namespace Go.Pl
end Go.Pl
open Go Go.Den Go.Pl
namespace Go.Proofs.YtldlihheppdhnaaGreat
noncomputable section
abbrev tN:Ty:=.arr 4 (.int .u64)
abbrev tU:Ty:=.int .u64
abbrev tI:Ty:=.int .i64
abbrev pc(i:Nat)(t:Ty)(r:Nat):Nat×Pat:=(i,.c ⟨.ptr t,.rf r []⟩)
abbrev pv(i:Nat)(t:Ty):Nat×Pat:=(i,.v t)
theorem fc {α:Type _}{p:α->Prop}{a:α}{l:List α}(h:p a/\ ∀x∈l,p x): ∀x∈a::l,p x:=axf.2 h
theorem fz {α:Type _}{p:α->Prop} : ∀x∈([]:List α),p x:=List.forall_mem_nil _
abbrev oSV(s:Nat)(q:Option Nat)(a:Nat)(w:Pat):Nat×Pat:=(0,.p (.pz tGR) (.p (.v tI) (.p (.v tI) (.p (.v tI) (.p (.v tI) (.p (.c ⟨.ptr tSP,.rf s []⟩) (.p (.bg .str tRC a q) w)))))))
abbrev oSP(s a b:Nat):Nat×Pat:=(s,.p (.v tI) (.p (.v tI) (.p (.w 9 .str a) (.m tI tI b))))
abbrev oS(a b c:Nat)(l:List (Nat×Pat)):List (Nat×Pat):=oSV 1 none a (.sz tOU)::oSP 1 b c::l
abbrev oW(a b c d:Nat)(l:List (Nat×Pat)):List (Nat×Pat):=oSV 1 none a (.w 60 tOU b)::oSP 1 c d::l
abbrev ZZ0:Pat:=.p (.v tVA) (.p (.v .str) (.p (.c ⟨(.ptr tVT),(.rf 2 [])⟩) (.p (.c ⟨(.ptr tVT),(.rf 3 [])⟩) (.v (.arr 4 tCL)))))
abbrev ZZ1:Pat:=.p (.pz tGR) (.p (.v tI) (.p (.v tI) (.p (.v tI) (.p (.v tI) (.p (.c ⟨(.ptr tSP),(.rf 4 [])⟩) (.p (.bg .str tRC 5 (some 1)) (.w 60 tOU 6)))))))
abbrev ZZ2:Pat:=.p (.v tI) (.p (.v tI) (.p (.v .str) (.p (.v (.pair tI tI)) (.p (.v .str) (.p (.sz (.sl tN)) (.sz tN))))))
abbrev ZZ3:Pat:=.p (.v tI) (.p (.v tI) (.p (.w 9 .str 7) (.m tI tI 8)))
abbrev ZZ4:Pat:=.p (.v tVA) (.p (.v .str) (.p (.c ⟨(.ptr tVT),(.rf 1 [])⟩) (.p (.c ⟨(.ptr tVT),(.rf 2 [])⟩) (.v (.arr 4 tCL)))))
abbrev ZZ5:Pat:=.p (.pz tGR) (.p (.v tI) (.p (.v tI) (.p (.v tI) (.p (.v tI) (.p (.c ⟨(.ptr tSP),(.rf 4 [])⟩) (.p (.bg .str tRC 51 (some 1)) (.w 60 tOU 52)))))))
abbrev ZZ6:Pat:=.p (.v tVA) (.p (.v .str) (.p (.c ⟨(.ptr tVT),(.rf 16 [])⟩) (.p (.c ⟨(.ptr tVT),(.rf 17 [])⟩) (.v (.arr 4 tCL)))))
abbrev ZZ7:Pat:=.p (.v tI) (.p (.v tI) (.p (.w 9 .str 1) (.m tI tI 2)))
abbrev fd(n:String)(t o b:Nat)(p:= "")(e:=false):Field:=⟨n,t,o,e, "",p,b⟩
abbrev asF:Ty:=.arr 256 .bool
abbrev aju:Ty:=.sl (.int .u8)
abbrev y44:Ty:=.sl (.int .i64)
abbrev asG:Ty:=.ptr (.int .u8)
abbrev asH:Ty:=.sl (.int .u64)
abbrev asI:Ty:=.sl (.int .u32)
abbrev asJ:Ty:=.arr 8 (.int .u8)
abbrev y75:Ty:=.arr 4 (.int .u64)
abbrev asK:Ty:=.arr 8 (.int .i64)
abbrev ajv:Ty:=.arr 8 (.int .u32)
abbrev ajw:Ty:=.arr 64 (.int .u8)
abbrev asL:Ty:=.arr 8 (.int .u64)
abbrev asM:Ty:=.arr 6 (.int .u64)
abbrev asN:Ty:=.arr 64 (.int .i64)
abbrev asO:Ty:=.arr 64 (.int .u32)
abbrev asP:Ty:=.arr 32 (.int .i64)
abbrev y39:Ty:=.sl y75
abbrev ajx:Ty:=.arr 16 y75
abbrev y31:Ty:=.pair (.int .i64) (.int .i64)
abbrev y38:Ty:=.sl y39
abbrev asQ:Ty:=.pair (.sp 244) aju
abbrev asR:Ty:=.sl ajx
abbrev ajy:Ty:=.pair y75 (.int .i64)
abbrev asS:Ty:=.pair (.int .i64) y75
abbrev ab5:Ty:=.pair y31 .str
abbrev y72:Ty:=.sl ajy
abbrev ajz:Ty:=.pair (.int .i64) y39
abbrev y26:Ty:=.pair (.int .i64) y31
abbrev asT:Ty:=.ptr ab5
abbrev y85:Ty:=.sl ajz
abbrev ajA:Ty:=.arr 2 ab5
abbrev ajB:Ty:=.pair (.int .i64) (.pair (.int .i64) (.pair (.sl .str) .mp))
abbrev ajC:Ty:=.arr 4 ajA
abbrev ajD:Ty:=.pair (.int .i64) ab5
abbrev y64:Ty:=.ptr ajB
abbrev y115:Ty:=.sl ajD
abbrev ajE:Ty:=.arr 7 ajC
abbrev y77:Ty:=.pair y72 y75
abbrev y46:Ty:=.pair (.int .i64) (.pair (.int .i64) (.pair (.sl .str) y44))
abbrev ajF:Ty:=.pair .bool (.pair ajv (.pair ajw (.int .i64)))
abbrev asU:Ty:=.ptr ajF
abbrev ajG:Ty:=.pair (.int .i64) ajE
abbrev y97:Ty:=.ptr ajG
abbrev ajH:Ty:=.pair y75 (.pair (.int .u64) (.pair y75 y75))
abbrev adT:Ty:=.ptr ajH
abbrev y96:Ty:=.pair y31 (.pair .str (.pair (.st y39) (.st y75)))
abbrev y99:Ty:=.pair y96 (.int .i64)
abbrev y114:Ty:=.pair y31 (.pair .str (.pair y38 (.pair y39 (.int .i64))))
abbrev asV:Ty:=.sl y99
abbrev ajI:Ty:=.ptr y99
abbrev ajJ:Ty:=.arr 2 y99
abbrev ajK:Ty:=.arr 2 y114
abbrev y33:Ty:=.pair (.int .i64) (.pair (.int .i64) (.pair (.int .i64) (.pair (.int .i64) (.pair y31 y31))))
abbrev asW:Ty:=.sl ajI
abbrev y22:Ty:=.sl y33
abbrev y41:Ty:=.pair (.int .i64) (.pair (.int .i64) (.pair .str (.pair y31 (.pair .str (.pair y38 y39)))))
abbrev y57:Ty:=.sl y41
abbrev y60:Ty:=.pair (.int .i64) y41
abbrev y35:Ty:=.sl y60
abbrev ajL:Ty:=.pair adT adT
abbrev y157:Ty:=.pair ajL y75
abbrev y63:Ty:=.ptr y157
abbrev y102:Ty:=.pair ajJ (.pair y99 y31)
abbrev ajM:Ty:=.pair ajK (.pair y114 y31)
abbrev ajN:Ty:=.arr 4 y102
abbrev ajO:Ty:=.arr 4 ajM
abbrev y67:Ty:=.pair y63 (.pair (.int .i64) (.pair (.int .i64) (.pair (.int .i64) (.pair (.int .i64) (.pair y64 (.pair .mp y35))))))
abbrev y23:Ty:=.ptr y67
abbrev y68:Ty:=.sl y23
abbrev ajP:Ty:=.pair .str (.pair y114 (.pair y115 (.pair y115 ajO)))
abbrev y47:Ty:=.sl ajP
abbrev ajQ:Ty:=.pair y96 (.pair .str (.pair y97 (.pair y97 ajN)))
abbrev y90:Ty:=.ptr ajQ
abbrev y49:Ty:=.pair y26 (.pair (.int .i64) (.pair (.int .i64) (.pair (.int .i64) (.pair (.int .i64) (.pair y46 (.pair y47 y35))))))
abbrev y24:Ty:=.ptr y49
abbrev q3:Nat×TI:=(3,⟨(TypeDesc.int IntKind.i64),(.int .i64),8⟩)
abbrev q4:Nat×TI:=(4,⟨TypeDesc.bool,.bool,1⟩)
abbrev q5:Nat×TI:=(5,⟨(TypeDesc.int IntKind.u8),(.int .u8),1⟩)
abbrev q9:Nat×TI:=(9,⟨TypeDesc.string,.str,16⟩)
abbrev q22:Nat×TI:=(22,⟨(TypeDesc.slice 33),y22,24⟩)
abbrev q23:Nat×TI:=(23,⟨(TypeDesc.pointer 67),y23,8⟩)
abbrev q24:Nat×TI:=(24,⟨(TypeDesc.pointer 49),y24,8⟩)
abbrev q26:Nat×TI:=(26,⟨(TypeDesc.struct #[fd "P" 3 0 0,fd "Q" 3 1 8,fd "G" 3 2 16]),y26,24⟩)
abbrev q31:Nat×TI:=(31,⟨(TypeDesc.struct #[fd "Seq" 3 0 0,fd "Client" 3 1 8]),y31,16⟩)
abbrev q33:Nat×TI:=(33,⟨(TypeDesc.struct #[fd "From" 3 0 0,fd "Kind" 3 1 8,fd "Op" 3 2 16,fd "Key" 3 3 24,fd "Stamp" 31 4 32,fd "Value" 3 6 48,fd "Share" 3 7 56]),y33,64⟩)
abbrev q35:Nat×TI:=(35,⟨(TypeDesc.slice 60),y35,24⟩)
abbrev q38:Nat×TI:=(38,⟨(TypeDesc.slice 39),y38,24⟩)
abbrev q39:Nat×TI:=(39,⟨(TypeDesc.slice 75),y39,24⟩)
abbrev q41:Nat×TI:=(41,⟨(TypeDesc.struct #[fd "Kind" 3 0 0,fd "Op" 3 1 8,fd "Key" 9 2 16,fd "Stamp" 31 3 32,fd "Digest" 9 5 48,fd "Matrix" 38 6 64,fd "Ys" 39 7 88]),y41,112⟩)
abbrev q43:Nat×TI:=(43,⟨(TypeDesc.slice 9),(.sl .str),24⟩)
abbrev q44:Nat×TI:=(44,⟨(TypeDesc.slice 3),y44,24⟩)
abbrev q46:Nat×TI:=(46,⟨(TypeDesc.struct #[fd "N" 3 0 0,fd "M" 3 1 8,fd "Keys" 43 2 16,fd "Ends" 44 3 40]),y46,64⟩)
abbrev q47:Nat×TI:=(47,⟨(TypeDesc.slice 121),y47,24⟩)
abbrev q49:Nat×TI:=(49,⟨(TypeDesc.struct #[fd "G" 26 0 0,fd "T" 3 3 24,fd "I" 3 4 32,fd "N" 3 5 40,fd "M" 3 6 48,fd "Space" 46 7 56,fd "Records" 47 11 120,fd "Out" 35 12 144]),y49,168⟩)
abbrev q57:Nat×TI:=(57,⟨(TypeDesc.slice 41),y57,24⟩)
abbrev q60:Nat×TI:=(60,⟨(TypeDesc.struct #[fd "To" 3 0 0,fd "M" 41 1 8]),y60,120⟩)
abbrev q63:Nat×TI:=(63,⟨(TypeDesc.pointer 157),y63,8⟩)
abbrev q64:Nat×TI:=(64,⟨(TypeDesc.pointer 171),y64,8⟩)
abbrev q65:Nat×TI:=(65,⟨(TypeDesc.map 9 90),.mp,8⟩)
abbrev q67:Nat×TI:=(67,⟨(TypeDesc.struct #[fd "g" 63 0 0 "sacristy/server",fd "t" 3 1 8 "sacristy/server",fd "number" 3 2 16 "sacristy/server",fd "n" 3 3 24 "sacristy/server",fd "m" 3 4 32 "sacristy/server",fd "space" 64 5 40 "sacristy/server",fd "records" 65 6 48 "sacristy/server",fd "out" 35 7 56 "sacristy/server"]),y67,80⟩)
abbrev q68:Nat×TI:=(68,⟨(TypeDesc.slice 23),y68,24⟩)
abbrev q69:Nat×TI:=(69,⟨(TypeDesc.int IntKind.i64),(.int .i64),8⟩)
abbrev q72:Nat×TI:=(72,⟨(TypeDesc.slice 149),y72,24⟩)
abbrev q73:Nat×TI:=(73,⟨(TypeDesc.int IntKind.u64),(.int .u64),8⟩)
abbrev q75:Nat×TI:=(75,⟨(TypeDesc.array 4 73),y75,32⟩)
abbrev q77:Nat×TI:=(77,⟨(TypeDesc.struct #[fd "Chain" 72 0 0,fd "G" 75 1 24]),y77,56⟩)
abbrev q82:Nat×TI:=(82,⟨(TypeDesc.int IntKind.u64),(.int .u64),8⟩)
abbrev q85:Nat×TI:=(85,⟨(TypeDesc.slice 125),y85,24⟩)
abbrev q90:Nat×TI:=(90,⟨(TypeDesc.pointer 105),y90,8⟩)
abbrev q96:Nat×TI:=(96,⟨(TypeDesc.struct #[fd "stamp" 31 0 0 "sacristy/server",fd "digest" 9 2 16 "sacristy/server",fd "m" 38 3 32 "sacristy/server",fd "ys" 39 4 56 "sacristy/server"]),y96,80⟩)
abbrev q97:Nat×TI:=(97,⟨(TypeDesc.pointer 226),y97,8⟩)
abbrev q99:Nat×TI:=(99,⟨(TypeDesc.struct #[fd "value" 96 0 0 "sacristy/server" true,fd "op" 3 5 80 "sacristy/server"]),y99,88⟩)
abbrev ajR:Nat×TI:=(100,⟨(TypeDesc.array 2 99),ajJ,176⟩)
abbrev ajS:Nat×TI:=(102,⟨(TypeDesc.struct #[fd "props" 100 0 0 "sacristy/server",fd "waits" 99 12 176 "sacristy/server",fd "op" 3 18 264 "sacristy/server",fd "left" 3 19 272 "sacristy/server"]),y102,280⟩)
abbrev ajT:Nat×TI:=(103,⟨(TypeDesc.array 4 102),ajN,1120⟩)
abbrev ajU:Nat×TI:=(105,⟨(TypeDesc.struct #[fd "value" 96 0 0 "sacristy/server" true,fd "key" 9 5 80 "sacristy/server",fd "echoes" 97 6 96 "sacristy/server",fd "readies" 97 7 104 "sacristy/server",fd "clients" 103 8 112 "sacristy/server"]),ajQ,1232⟩)
abbrev ajV:Nat×TI:=(114,⟨(TypeDesc.struct #[fd "Stamp" 31 0 0,fd "Digest" 9 2 16,fd "Matrix" 38 3 32,fd "Ys" 39 4 56,fd "Op" 3 5 80]),y114,88⟩)
abbrev ajW:Nat×TI:=(115,⟨(TypeDesc.slice 137),y115,24⟩)
abbrev ajX:Nat×TI:=(116,⟨(TypeDesc.array 2 114),ajK,176⟩)
abbrev ajY:Nat×TI:=(118,⟨(TypeDesc.struct #[fd "Props" 116 0 0,fd "Waits" 114 12 176,fd "Op" 3 18 264,fd "Left" 3 19 272]),ajM,280⟩)
abbrev ajZ:Nat×TI:=(119,⟨(TypeDesc.array 4 118),ajO,1120⟩)
abbrev ak0:Nat×TI:=(121,⟨(TypeDesc.struct #[fd "Key" 9 0 0,fd "Held" 114 1 16,fd "Echoes" 115 7 104,fd "Readies" 115 8 128,fd "Clients" 119 9 152]),ajP,1272⟩)
abbrev ak1:Nat×TI:=(125,⟨(TypeDesc.struct #[fd "I" 3 0 0,fd "Ys" 39 1 8]),ajz,32⟩)
abbrev ak2:Nat×TI:=(137,⟨(TypeDesc.struct #[fd "Server" 3 0 0,fd "Stamp" 31 1 8,fd "Digest" 9 3 24]),ajD,40⟩)
abbrev ak3:Nat×TI:=(145,⟨(TypeDesc.pointer 201),adT,8⟩)
abbrev ak4:Nat×TI:=(149,⟨(TypeDesc.struct #[fd "N" 75 0 0,fd "A" 3 4 32]),ajy,40⟩)
abbrev ak5:Nat×TI:=(155,⟨(TypeDesc.struct #[fd "ring" 145 0 0 "sacristy/group",fd "field" 145 1 8 "sacristy/group"]),ajL,16⟩)
abbrev ak6:Nat×TI:=(157,⟨(TypeDesc.struct #[fd "rings" 155 0 0 "sacristy/group" true,fd "g" 75 2 16 "sacristy/group"]),y157,48⟩)
abbrev ak7:Nat×TI:=(169,⟨(TypeDesc.map 3 3),.mp,8⟩)
abbrev ak8:Nat×TI:=(171,⟨(TypeDesc.struct #[fd "servers" 3 0 0 "sacristy/space",fd "clients" 3 1 8 "sacristy/space",fd "keys" 43 2 16 "sacristy/space",fd "used" 169 3 40 "sacristy/space"]),ajB,48⟩)
abbrev ak9:Nat×TI:=(174,⟨(TypeDesc.pointer 177),asT,8⟩)
abbrev akb:Nat×TI:=(177,⟨(TypeDesc.struct #[fd "stamp" 31 0 0 "sacristy/votes",fd "digest" 9 2 16 "sacristy/votes"]),ab5,32⟩)
abbrev akc:Nat×TI:=(188,⟨(TypeDesc.pointer 99),ajI,8⟩)
abbrev akd:Nat×TI:=(201,⟨(TypeDesc.struct #[fd "m" 75 0 0 "sacristy/mont",fd "inv" 73 4 32 "sacristy/mont",fd "one" 75 5 40 "sacristy/mont",fd "square" 75 9 72 "sacristy/mont"]),ajH,104⟩)
abbrev ake:Nat×TI:=(208,⟨(TypeDesc.array 256 4),asF,256⟩)
abbrev akf:Nat×TI:=(215,⟨(TypeDesc.slice 5),aju,24⟩)
abbrev akg:Nat×TI:=(217,⟨(TypeDesc.array 8 3),asK,64⟩)
abbrev akh:Nat×TI:=(222,⟨(TypeDesc.array 2 177),ajA,64⟩)
abbrev aki:Nat×TI:=(223,⟨(TypeDesc.array 4 222),ajC,256⟩)
abbrev akj:Nat×TI:=(224,⟨(TypeDesc.array 7 223),ajE,1792⟩)
abbrev akk:Nat×TI:=(226,⟨(TypeDesc.struct #[fd "n" 3 0 0 "sacristy/votes",fd "places" 224 1 8 "sacristy/votes"]),ajG,1800⟩)
abbrev akl:Nat×TI:=(233,⟨(TypeDesc.struct #[fd "I" 3 0 0,fd "Y" 75 1 8]),asS,40⟩)
abbrev akm:Nat×TI:=(238,⟨(TypeDesc.pointer 290),asU,8⟩)
abbrev akn:Nat×TI:=(242,⟨(TypeDesc.pointer 244),(.sp 244),8⟩)
abbrev ako:Nat×TI:=(244,⟨(TypeDesc.struct #[fd "addr" 242 0 0 "strings",fd "buf" 215 1 8 "strings"]),asQ,32⟩)
abbrev akp:Nat×TI:=(263,⟨(TypeDesc.slice 264),asR,24⟩)
abbrev akq:Nat×TI:=(264,⟨(TypeDesc.array 16 75),ajx,512⟩)
abbrev akr:Nat×TI:=(270,⟨(TypeDesc.array 64 3),asN,512⟩)
abbrev aks:Nat×TI:=(281,⟨(TypeDesc.func #[9,9] #[3] false),.fn,8⟩)
abbrev akt:Nat×TI:=(283,⟨(TypeDesc.slice 99),asV,24⟩)
abbrev aku:Nat×TI:=(284,⟨(TypeDesc.slice 188),asW,24⟩)
abbrev akv:Nat×TI:=(285,⟨(TypeDesc.int IntKind.u32),(.int .u32),4⟩)
abbrev akw:Nat×TI:=(286,⟨(TypeDesc.array 8 285),ajv,32⟩)
abbrev akx:Nat×TI:=(288,⟨(TypeDesc.array 64 5),ajw,64⟩)
abbrev aky:Nat×TI:=(290,⟨(TypeDesc.struct #[fd "given" 4 0 0 "sacristy/sha",fd "words" 286 1 4 "sacristy/sha",fd "rest" 288 9 36 "sacristy/sha",fd "n" 3 73 104 "sacristy/sha"]),ajF,112⟩)
abbrev akz:Nat×TI:=(292,⟨(TypeDesc.array 8 5),asJ,8⟩)
abbrev akA:Nat×TI:=(293,⟨(TypeDesc.pointer 5),asG,8⟩)
abbrev akB:Nat×TI:=(300,⟨(TypeDesc.array 8 73),asL,64⟩)
abbrev akC:Nat×TI:=(303,⟨(TypeDesc.slice 73),asH,24⟩)
abbrev akD:Nat×TI:=(306,⟨(TypeDesc.array 6 73),asM,48⟩)
abbrev akE:Nat×TI:=(313,⟨(TypeDesc.array 64 285),asO,256⟩)
abbrev akF:Nat×TI:=(317,⟨(TypeDesc.slice 285),asI,24⟩)
abbrev akG:Nat×TI:=(322,⟨(TypeDesc.array 32 3),asP,256⟩)
def ti:List (Nat×TI):=[q3,q4,q5,q9,q22,q23,q24,q26,q31,q33,q35,q38,q39,q41,q43,q44,q46,q47,q49,q57,q60,q63,q64,q65,q67,q68,q69,q72,q73,q75,q77,q82,q85,q90,q96,q97,q99,ajR,ajS,ajT,ajU,ajV,ajW,ajX,ajY,ajZ,ak0,ak1,ak2,ak3,ak4,ak5,ak6,ak7,ak8,ak9,akb,akc,akd,ake,akf,akg,akh,aki,akj,akk,akl,akm,akn,ako,akp,akq,akr,aks,akt,aku,akv,akw,akx,aky,akz,akA,akB,akC,akD,akE,akF,akG]
theorem tq {q:Nat×TI}(u:Tryz.prog.underlying q.1=some q.2.desc)(s:kE ti q.2)(i:(Tryz.prog.info? q.1).map (λi=>(i.size,i.bytes))=some (q.2.ty.size,q.2.bytes):=by kernel_rfl)(z:(Tryz.prog.info? q.1).bind (λi=>i.zero)=some (mkV q.2.ty q.2.ty.zcells):=by kernel_rfl)(h: ∀T0,q.2.ty.head=some T0->T0=q.1:=by intro _ h;cases h<;>rfl)(e:q.2.ty.agg=true->q.2.ty.flat=true->Tryz.prog.eqGuardType Tryz.prog.depth q.1=false/\Tryz.prog.stoodInHeld q.1=false/\(∀fs,q.2.desc= .struct fs->fs.size≠1)/\q.2.ty.dep<=10000:=by first|exact λh=>absurd h (by decide)|exact λ_ h=>absurd h (by decide)|exact λ_ _=>⟨by kernel_rfl,by kernel_rfl,(by intro fs h;cases h<;>decide),by decide⟩):TI1 Tryz.prog ti q:=⟨u,i,z,s,h,e⟩
theorem ti3:TI1 Tryz.prog ti q3:=tq Tryz.underlying3 rfl
theorem ti4:TI1 Tryz.prog ti q4:=tq Tryz.underlying4 rfl
theorem ti5:TI1 Tryz.prog ti q5:=tq Tryz.underlying5 rfl
theorem ti9:TI1 Tryz.prog ti q9:=tq Tryz.underlying9 rfl
theorem asX:TI1 Tryz.prog ti q22:=tq Tryz.underlying22 ⟨_,rfl,rfl,by decide⟩
theorem asY:TI1 Tryz.prog ti q23:=tq Tryz.underlying23 (.inl ⟨_,rfl⟩)
theorem asZ:TI1 Tryz.prog ti q24:=tq Tryz.underlying24 (.inl ⟨_,rfl⟩)
theorem at1:TI1 Tryz.prog ti q26:=tq Tryz.underlying26 ⟨rfl,⟨rfl,by decide,⟨_,rfl,rfl,by decide⟩,⟨rfl,by decide,⟨_,rfl,rfl,by decide⟩,⟨rfl,by decide,_,rfl,rfl,by decide⟩⟩⟩⟩
theorem at5:TI1 Tryz.prog ti q31:=tq Tryz.underlying31 ⟨rfl,⟨rfl,by decide,⟨_,rfl,rfl,by decide⟩,⟨rfl,by decide,_,rfl,rfl,by decide⟩⟩⟩
theorem at6:TI1 Tryz.prog ti q33:=tq Tryz.underlying33 ⟨rfl,⟨rfl,by decide,⟨_,rfl,rfl,by decide⟩,⟨rfl,by decide,⟨_,rfl,rfl,by decide⟩,⟨rfl,by decide,⟨_,rfl,rfl,by decide⟩,⟨rfl,by decide,⟨_,rfl,rfl,by decide⟩,⟨rfl,by decide,⟨_,rfl,rfl,by decide⟩,⟨rfl,by decide,⟨_,rfl,rfl,by decide⟩,⟨rfl,by decide,_,rfl,rfl,by decide⟩⟩⟩⟩⟩⟩⟩⟩
theorem at7:TI1 Tryz.prog ti q35:=tq Tryz.underlying35 ⟨_,rfl,rfl,by decide⟩
theorem ata:TI1 Tryz.prog ti q38:=tq Tryz.underlying38 ⟨_,rfl,rfl,by decide⟩
theorem atb:TI1 Tryz.prog ti q39:=tq Tryz.underlying39 ⟨_,rfl,rfl,by decide⟩
theorem atc:TI1 Tryz.prog ti q41:=tq Tryz.underlying41 ⟨rfl,⟨rfl,by decide,⟨_,rfl,rfl,by decide⟩,⟨rfl,by decide,⟨_,rfl,rfl,by decide⟩,⟨rfl,by decide,⟨_,rfl,rfl,by decide⟩,⟨rfl,by decide,⟨_,rfl,rfl,by decide⟩,⟨rfl,by decide,⟨_,rfl,rfl,by decide⟩,⟨rfl,by decide,⟨_,rfl,rfl,by decide⟩,⟨rfl,by decide,_,rfl,rfl,by decide⟩⟩⟩⟩⟩⟩⟩⟩
theorem atd:TI1 Tryz.prog ti q43:=tq Tryz.underlying43 ⟨_,rfl,rfl,by decide⟩
theorem ate:TI1 Tryz.prog ti q44:=tq Tryz.underlying44 ⟨_,rfl,rfl,by decide⟩
theorem atf:TI1 Tryz.prog ti q46:=tq Tryz.underlying46 ⟨rfl,⟨rfl,by decide,⟨_,rfl,rfl,by decide⟩,⟨rfl,by decide,⟨_,rfl,rfl,by decide⟩,⟨rfl,by decide,⟨_,rfl,rfl,by decide⟩,⟨rfl,by decide,_,rfl,rfl,by decide⟩⟩⟩⟩⟩
theorem atg:TI1 Tryz.prog ti q47:=tq Tryz.underlying47 ⟨_,rfl,rfl,by decide⟩
theorem ath:TI1 Tryz.prog ti q49:=tq Tryz.underlying49 ⟨rfl,⟨rfl,by decide,⟨_,rfl,rfl,by decide⟩,⟨rfl,by decide,⟨_,rfl,rfl,by decide⟩,⟨rfl,by decide,⟨_,rfl,rfl,by decide⟩,⟨rfl,by decide,⟨_,rfl,rfl,by decide⟩,⟨rfl,by decide,⟨_,rfl,rfl,by decide⟩,⟨rfl,by decide,⟨_,rfl,rfl,by decide⟩,⟨rfl,by decide,⟨_,rfl,rfl,by decide⟩,⟨rfl,by decide,_,rfl,rfl,by decide⟩⟩⟩⟩⟩⟩⟩⟩⟩
theorem ati:TI1 Tryz.prog ti q57:=tq Tryz.underlying57 ⟨_,rfl,rfl,by decide⟩
theorem atj:TI1 Tryz.prog ti q60:=tq Tryz.underlying60 ⟨rfl,⟨rfl,by decide,⟨_,rfl,rfl,by decide⟩,⟨rfl,by decide,_,rfl,rfl,by decide⟩⟩⟩
theorem atl:TI1 Tryz.prog ti q63:=tq Tryz.underlying63 (.inl ⟨_,rfl⟩)
theorem atm:TI1 Tryz.prog ti q64:=tq Tryz.underlying64 (.inl ⟨_,rfl⟩)
theorem atn:TI1 Tryz.prog ti q65:=tq Tryz.underlying65 rfl
theorem ato:TI1 Tryz.prog ti q67:=tq Tryz.underlying67 ⟨rfl,⟨rfl,by decide,⟨_,rfl,rfl,by decide⟩,⟨rfl,by decide,⟨_,rfl,rfl,by decide⟩,⟨rfl,by decide,⟨_,rfl,rfl,by decide⟩,⟨rfl,by decide,⟨_,rfl,rfl,by decide⟩,⟨rfl,by decide,⟨_,rfl,rfl,by decide⟩,⟨rfl,by decide,⟨_,rfl,rfl,by decide⟩,⟨rfl,by decide,⟨_,rfl,rfl,by decide⟩,⟨rfl,by decide,_,rfl,rfl,by decide⟩⟩⟩⟩⟩⟩⟩⟩⟩
theorem atp:TI1 Tryz.prog ti q68:=tq Tryz.underlying68 ⟨_,rfl,rfl,by decide⟩
theorem atq:TI1 Tryz.prog ti q69:=tq Tryz.underlying69 rfl
theorem atr:TI1 Tryz.prog ti q72:=tq Tryz.underlying72 ⟨_,rfl,rfl,by decide⟩
theorem att:TI1 Tryz.prog ti q73:=tq Tryz.underlying73 rfl
theorem atu:TI1 Tryz.prog ti q75:=tq Tryz.underlying75 ⟨_,rfl,rfl,by decide,by decide⟩
theorem atv:TI1 Tryz.prog ti q77:=tq Tryz.underlying77 ⟨rfl,⟨rfl,by decide,⟨_,rfl,rfl,by decide⟩,⟨rfl,by decide,_,rfl,rfl,by decide⟩⟩⟩
theorem atw:TI1 Tryz.prog ti q82:=tq Tryz.underlying82 rfl
theorem atx:TI1 Tryz.prog ti q85:=tq Tryz.underlying85 ⟨_,rfl,rfl,by decide⟩
theorem aty:TI1 Tryz.prog ti q90:=tq Tryz.underlying90 (.inl ⟨_,rfl⟩)
theorem atz:TI1 Tryz.prog ti q96:=tq Tryz.underlying96 ⟨rfl,⟨rfl,by decide,⟨_,rfl,rfl,by decide⟩,⟨rfl,by decide,⟨_,rfl,rfl,by decide⟩,⟨rfl,by decide,⟨_,rfl,rfl,by decide⟩,⟨rfl,by decide,_,rfl,rfl,by decide⟩⟩⟩⟩⟩
theorem atA:TI1 Tryz.prog ti q97:=tq Tryz.underlying97 (.inl ⟨_,rfl⟩)
theorem atB:TI1 Tryz.prog ti q99:=tq Tryz.underlying99 ⟨rfl,⟨rfl,by decide,⟨_,rfl,rfl,by decide⟩,⟨rfl,by decide,_,rfl,rfl,by decide⟩⟩⟩
theorem akH:TI1 Tryz.prog ti ajR:=tq Tryz.underlying100 ⟨_,rfl,rfl,by decide,by decide⟩
theorem akI:TI1 Tryz.prog ti ajS:=tq Tryz.underlying102 ⟨rfl,⟨rfl,by decide,⟨_,rfl,rfl,by decide⟩,⟨rfl,by decide,⟨_,rfl,rfl,by decide⟩,⟨rfl,by decide,⟨_,rfl,rfl,by decide⟩,⟨rfl,by decide,_,rfl,rfl,by decide⟩⟩⟩⟩⟩
theorem akJ:TI1 Tryz.prog ti ajT:=tq Tryz.underlying103 ⟨_,rfl,rfl,by decide,by decide⟩
theorem akK:TI1 Tryz.prog ti ajU:=tq Tryz.underlying105 ⟨rfl,⟨rfl,by decide,⟨_,rfl,rfl,by decide⟩,⟨rfl,by decide,⟨_,rfl,rfl,by decide⟩,⟨rfl,by decide,⟨_,rfl,rfl,by decide⟩,⟨rfl,by decide,⟨_,rfl,rfl,by decide⟩,⟨rfl,by decide,_,rfl,rfl,by decide⟩⟩⟩⟩⟩⟩
theorem akL:TI1 Tryz.prog ti ajV:=tq Tryz.underlying114 ⟨rfl,⟨rfl,by decide,⟨_,rfl,rfl,by decide⟩,⟨rfl,by decide,⟨_,rfl,rfl,by decide⟩,⟨rfl,by decide,⟨_,rfl,rfl,by decide⟩,⟨rfl,by decide,⟨_,rfl,rfl,by decide⟩,⟨rfl,by decide,_,rfl,rfl,by decide⟩⟩⟩⟩⟩⟩
theorem akM:TI1 Tryz.prog ti ajW:=tq Tryz.underlying115 ⟨_,rfl,rfl,by decide⟩
theorem akN:TI1 Tryz.prog ti ajX:=tq Tryz.underlying116 ⟨_,rfl,rfl,by decide,by decide⟩
theorem akO:TI1 Tryz.prog ti ajY:=tq Tryz.underlying118 ⟨rfl,⟨rfl,by decide,⟨_,rfl,rfl,by decide⟩,⟨rfl,by decide,⟨_,rfl,rfl,by decide⟩,⟨rfl,by decide,⟨_,rfl,rfl,by decide⟩,⟨rfl,by decide,_,rfl,rfl,by decide⟩⟩⟩⟩⟩
theorem akP:TI1 Tryz.prog ti ajZ:=tq Tryz.underlying119 ⟨_,rfl,rfl,by decide,by decide⟩
theorem akQ:TI1 Tryz.prog ti ak0:=tq Tryz.underlying121 ⟨rfl,⟨rfl,by decide,⟨_,rfl,rfl,by decide⟩,⟨rfl,by decide,⟨_,rfl,rfl,by decide⟩,⟨rfl,by decide,⟨_,rfl,rfl,by decide⟩,⟨rfl,by decide,⟨_,rfl,rfl,by decide⟩,⟨rfl,by decide,_,rfl,rfl,by decide⟩⟩⟩⟩⟩⟩
theorem akR:TI1 Tryz.prog ti ak1:=tq Tryz.underlying125 ⟨rfl,⟨rfl,by decide,⟨_,rfl,rfl,by decide⟩,⟨rfl,by decide,_,rfl,rfl,by decide⟩⟩⟩
theorem akS:TI1 Tryz.prog ti ak2:=tq Tryz.underlying137 ⟨rfl,⟨rfl,by decide,⟨_,rfl,rfl,by decide⟩,⟨rfl,by decide,⟨_,rfl,rfl,by decide⟩,⟨rfl,by decide,_,rfl,rfl,by decide⟩⟩⟩⟩
theorem akT:TI1 Tryz.prog ti ak3:=tq Tryz.underlying145 (.inl ⟨_,rfl⟩)
theorem akU:TI1 Tryz.prog ti ak4:=tq Tryz.underlying149 ⟨rfl,⟨rfl,by decide,⟨_,rfl,rfl,by decide⟩,⟨rfl,by decide,_,rfl,rfl,by decide⟩⟩⟩
theorem akV:TI1 Tryz.prog ti ak5:=tq Tryz.underlying155 ⟨rfl,⟨rfl,by decide,⟨_,rfl,rfl,by decide⟩,⟨rfl,by decide,_,rfl,rfl,by decide⟩⟩⟩
theorem akW:TI1 Tryz.prog ti ak6:=tq Tryz.underlying157 ⟨rfl,⟨rfl,by decide,⟨_,rfl,rfl,by decide⟩,⟨rfl,by decide,_,rfl,rfl,by decide⟩⟩⟩
theorem akX:TI1 Tryz.prog ti ak7:=tq Tryz.underlying169 rfl
theorem akY:TI1 Tryz.prog ti ak8:=tq Tryz.underlying171 ⟨rfl,⟨rfl,by decide,⟨_,rfl,rfl,by decide⟩,⟨rfl,by decide,⟨_,rfl,rfl,by decide⟩,⟨rfl,by decide,⟨_,rfl,rfl,by decide⟩,⟨rfl,by decide,_,rfl,rfl,by decide⟩⟩⟩⟩⟩
theorem akZ:TI1 Tryz.prog ti ak9:=tq Tryz.underlying174 (.inl ⟨_,rfl⟩)
theorem al0:TI1 Tryz.prog ti akb:=tq Tryz.underlying177 ⟨rfl,⟨rfl,by decide,⟨_,rfl,rfl,by decide⟩,⟨rfl,by decide,_,rfl,rfl,by decide⟩⟩⟩
theorem al1:TI1 Tryz.prog ti akc:=tq Tryz.underlying188 (.inl ⟨_,rfl⟩)
theorem al2:TI1 Tryz.prog ti akd:=tq Tryz.underlying201 ⟨rfl,⟨rfl,by decide,⟨_,rfl,rfl,by decide⟩,⟨rfl,by decide,⟨_,rfl,rfl,by decide⟩,⟨rfl,by decide,⟨_,rfl,rfl,by decide⟩,⟨rfl,by decide,_,rfl,rfl,by decide⟩⟩⟩⟩⟩
theorem al3:TI1 Tryz.prog ti ake:=tq Tryz.underlying208 ⟨_,rfl,rfl,by decide,by decide⟩
theorem al4:TI1 Tryz.prog ti akf:=tq Tryz.underlying215 ⟨_,rfl,rfl,by decide⟩
theorem al5:TI1 Tryz.prog ti akg:=tq Tryz.underlying217 ⟨_,rfl,rfl,by decide,by decide⟩
theorem al6:TI1 Tryz.prog ti akh:=tq Tryz.underlying222 ⟨_,rfl,rfl,by decide,by decide⟩
theorem al7:TI1 Tryz.prog ti aki:=tq Tryz.underlying223 ⟨_,rfl,rfl,by decide,by decide⟩
theorem al8:TI1 Tryz.prog ti akj:=tq Tryz.underlying224 ⟨_,rfl,rfl,by decide,by decide⟩
theorem al9:TI1 Tryz.prog ti akk:=tq Tryz.underlying226 ⟨rfl,⟨rfl,by decide,⟨_,rfl,rfl,by decide⟩,⟨rfl,by decide,_,rfl,rfl,by decide⟩⟩⟩
theorem ala:TI1 Tryz.prog ti akl:=tq Tryz.underlying233 ⟨rfl,⟨rfl,by decide,⟨_,rfl,rfl,by decide⟩,⟨rfl,by decide,_,rfl,rfl,by decide⟩⟩⟩
theorem alb:TI1 Tryz.prog ti akm:=tq Tryz.underlying238 (.inl ⟨_,rfl⟩)
theorem alc:TI1 Tryz.prog ti akn:=tq Tryz.underlying242 (.inr ⟨_,rfl⟩)
theorem ald:TI1 Tryz.prog ti ako:=tq Tryz.underlying244 ⟨rfl,⟨rfl,by decide,⟨_,rfl,rfl,by decide⟩,⟨rfl,by decide,_,rfl,rfl,by decide⟩⟩⟩
theorem ale:TI1 Tryz.prog ti akp:=tq Tryz.underlying263 ⟨_,rfl,rfl,by decide⟩
theorem alf:TI1 Tryz.prog ti akq:=tq Tryz.underlying264 ⟨_,rfl,rfl,by decide,by decide⟩
theorem alg:TI1 Tryz.prog ti akr:=tq Tryz.underlying270 ⟨_,rfl,rfl,by decide,by decide⟩
theorem alh:TI1 Tryz.prog ti aks:=tq Tryz.underlying281 rfl
theorem ali:TI1 Tryz.prog ti akt:=tq Tryz.underlying283 ⟨_,rfl,rfl,by decide⟩
theorem alj:TI1 Tryz.prog ti aku:=tq Tryz.underlying284 ⟨_,rfl,rfl,by decide⟩
theorem alk:TI1 Tryz.prog ti akv:=tq Tryz.underlying285 rfl
theorem alm:TI1 Tryz.prog ti akw:=tq Tryz.underlying286 ⟨_,rfl,rfl,by decide,by decide⟩
theorem aln:TI1 Tryz.prog ti akx:=tq Tryz.underlying288 ⟨_,rfl,rfl,by decide,by decide⟩
theorem alo:TI1 Tryz.prog ti aky:=tq Tryz.underlying290 ⟨rfl,⟨rfl,by decide,⟨_,rfl,rfl,by decide⟩,⟨rfl,by decide,⟨_,rfl,rfl,by decide⟩,⟨rfl,by decide,⟨_,rfl,rfl,by decide⟩,⟨rfl,by decide,_,rfl,rfl,by decide⟩⟩⟩⟩⟩
theorem alp:TI1 Tryz.prog ti akz:=tq Tryz.underlying292 ⟨_,rfl,rfl,by decide,by decide⟩
theorem alq:TI1 Tryz.prog ti akA:=tq Tryz.underlying293 (.inl ⟨_,rfl⟩)
theorem alr:TI1 Tryz.prog ti akB:=tq Tryz.underlying300 ⟨_,rfl,rfl,by decide,by decide⟩
theorem als:TI1 Tryz.prog ti akC:=tq Tryz.underlying303 ⟨_,rfl,rfl,by decide⟩
theorem alu:TI1 Tryz.prog ti akD:=tq Tryz.underlying306 ⟨_,rfl,rfl,by decide,by decide⟩
theorem alv:TI1 Tryz.prog ti akE:=tq Tryz.underlying313 ⟨_,rfl,rfl,by decide,by decide⟩
theorem alx:TI1 Tryz.prog ti akF:=tq Tryz.underlying317 ⟨_,rfl,rfl,by decide⟩
theorem aly:TI1 Tryz.prog ti akG:=tq Tryz.underlying322 ⟨_,rfl,rfl,by decide,by decide⟩
def cx(a:List (FuncId×Con))(b:List (FuncId×Func×List (Nat×Lp))):Cx:= { ti:=ti,con:=a,fns:=b,un:=6 }
theorem aC:xJ Tryz.prog ti:=xJ.of (axf.2 ⟨ti3,axf.2 ⟨ti4,axf.2 ⟨ti5,axf.2 ⟨ti9,axf.2 ⟨asX,axf.2 ⟨asY,axf.2 ⟨asZ,axf.2 ⟨at1,axf.2 ⟨at5,axf.2 ⟨at6,axf.2 ⟨at7,axf.2 ⟨ata,axf.2 ⟨atb,axf.2 ⟨atc,axf.2 ⟨atd,axf.2 ⟨ate,axf.2 ⟨atf,axf.2 ⟨atg,axf.2 ⟨ath,axf.2 ⟨ati,axf.2 ⟨atj,axf.2 ⟨atl,axf.2 ⟨atm,axf.2 ⟨atn,axf.2 ⟨ato,axf.2 ⟨atp,axf.2 ⟨atq,axf.2 ⟨atr,axf.2 ⟨att,axf.2 ⟨atu,axf.2 ⟨atv,axf.2 ⟨atw,axf.2 ⟨atx,axf.2 ⟨aty,axf.2 ⟨atz,axf.2 ⟨atA,axf.2 ⟨atB,axf.2 ⟨akH,axf.2 ⟨akI,axf.2 ⟨akJ,axf.2 ⟨akK,axf.2 ⟨akL,axf.2 ⟨akM,axf.2 ⟨akN,axf.2 ⟨akO,axf.2 ⟨akP,axf.2 ⟨akQ,axf.2 ⟨akR,axf.2 ⟨akS,axf.2 ⟨akT,axf.2 ⟨akU,axf.2 ⟨akV,axf.2 ⟨akW,axf.2 ⟨akX,axf.2 ⟨akY,axf.2 ⟨akZ,axf.2 ⟨al0,axf.2 ⟨al1,axf.2 ⟨al2,axf.2 ⟨al3,axf.2 ⟨al4,axf.2 ⟨al5,axf.2 ⟨al6,axf.2 ⟨al7,axf.2 ⟨al8,axf.2 ⟨al9,axf.2 ⟨ala,axf.2 ⟨alb,axf.2 ⟨alc,axf.2 ⟨ald,axf.2 ⟨ale,axf.2 ⟨alf,axf.2 ⟨alg,axf.2 ⟨alh,axf.2 ⟨ali,axf.2 ⟨alj,axf.2 ⟨alk,axf.2 ⟨alm,axf.2 ⟨aln,axf.2 ⟨alo,axf.2 ⟨alp,axf.2 ⟨alq,axf.2 ⟨alr,axf.2 ⟨als,axf.2 ⟨alu,axf.2 ⟨alv,axf.2 ⟨alx,axf.2 ⟨aly,List.forall_mem_nil _⟩⟩⟩⟩⟩⟩⟩⟩⟩⟩⟩⟩⟩⟩⟩⟩⟩⟩⟩⟩⟩⟩⟩⟩⟩⟩⟩⟩⟩⟩⟩⟩⟩⟩⟩⟩⟩⟩⟩⟩⟩⟩⟩⟩⟩⟩⟩⟩⟩⟩⟩⟩⟩⟩⟩⟩⟩⟩⟩⟩⟩⟩⟩⟩⟩⟩⟩⟩⟩⟩⟩⟩⟩⟩⟩⟩⟩⟩⟩⟩⟩⟩⟩⟩⟩⟩⟩⟩)
theorem mixed:Tryz.prog.follows .mixedOrders=true:=by kernel_rfl
def a4N:Con:=aQ false [u64,u64,u64] [u64,u64] λx=>EW x.1 x.2.1 x.2.2.1
theorem a5W:aA Tryz.prog 200 a4N:=a7D Tryz.func200 (by kernel_rfl) (by kernel_rfl) (by kernel_rfl) (by kernel_rfl)
def Sr:Con:=aQ false [u64,u64,u64] [u64,u64] λx=>bU x.1 x.2.1 x.2.2.1
theorem OZ:aA Tryz.prog 203 Sr:=a7C Tryz.func203 (by kernel_rfl) (by kernel_rfl) (by kernel_rfl) (by kernel_rfl)
end
end Go.Proofs.YtldlihheppdhnaaGreat
namespace Go.Proofs.YtldlihheppdhnaaGreat
noncomputable section
def adU:Con:=aQ true [tU] [tI] λx=>bits_Len64 x.1
def atC:Cx:=cx [] []
theorem adV:ay Tryz.prog atC:=ay.of mixed aC fz fz
theorem a7R:aA Tryz.prog 113 adU:=aB adV 8 ⟨Tryz.func113,Tryz.call113,ak⟩ _ _ _ _ (by decide) (λx=>by rw[JK];kernel_rfl)
def alz:Con:=aQ true [tU] [tI] λx=>bits_LeadingZeros64 x.1
def atD:Cx:=cx [(113,adU)] []
theorem adW:ay Tryz.prog atD:=ay.of mixed aC (fc ⟨a7R,fz⟩) fz
theorem adX:aA Tryz.prog 235 alz:=aB adW 8 ⟨Tryz.func235,Tryz.call235,ak⟩ _ _ _ _ (by decide) (λx=>by rw[u6];kernel_rfl)
abbrev alA:Shape:= { sl:=[(pv 2 tU),(pv 8 tU),(pv 9 tU),(pv 10 tU),(pv 11 tU),(pv 13 tU),(pv 14 tU),(pv 15 tU),(pv 16 tU)],ob:=[],lo:=0,nx:=0 }
abbrev alB:List Ex:=[(.normal, { sl:=[(pv 2 tU),(pv 8 tU),(pv 9 tU),(pv 10 tU),(pv 11 tU),(pv 13 tU),(pv 14 tU),(pv 15 tU)],ob:=[],lo:=0,nx:=0 })]
def alC:Code:=aY (aW Tryz.f226) 0
def ac3:Lp:=dF alA alB 135 fB
abbrev alD:Shape:= { sl:=[(pv 2 tU),(pv 8 tU),(pv 9 tU),(pv 10 tU),(pv 14 tU),(pv 15 tU),(pv 16 tU),(pv 17 tU),(pv 18 tU)],ob:=[],lo:=0,nx:=0 }
abbrev alE:List Ex:=[(.normal, { sl:=[(pv 2 tU),(pv 8 tU),(pv 14 tU),(pv 15 tU),(pv 17 tU),(pv 18 tU)],ob:=[],lo:=0,nx:=0 })]
def alF:Code:=aY (aW Tryz.f226) 2
def ac4:Lp:=dF alD alE 135 fC
def adY:Con:=aQ true [tU,tU,tU] [tU,tU] λx=>nW x.1 x.2.1 x.2.2.1
def atE:Cx:=cx [(235,alz)] []
theorem a3l:ay Tryz.prog atE:=ay.of mixed aC (fc ⟨adX,fz⟩) fz
theorem alG:bY Tryz.prog 0 (.loop alC) ac3:=aM a3l 8 (ak) _ _ _ _ (by decide) λ_=>by kernel_rfl
theorem alH:bY Tryz.prog 2 (.loop alF) ac4:=aM a3l 8 (ak) _ _ _ _ (by decide) λ_=>by kernel_rfl
theorem alI:eD Tryz.prog 226 Tryz.f226 [(0,ac3),(2,ac4)]:=⟨Tryz.func226,Tryz.call226,bG (by kernel_rfl) (aL alG (by kernel_rfl) (aL alH (by kernel_rfl) fz))⟩
theorem a7S:aA Tryz.prog 226 adY:=aB a3l 8 alI _ _ _ _ (by decide) (λx=>by rw[JL];kernel_rfl)
def ab6:Con:=aQ true [tU,tU] [tU,tU] λx=>bits_Mul64 x.1 x.2.1
def atF:Cx:=cx [] []
theorem adZ:ay Tryz.prog atF:=ay.of mixed aC fz fz
theorem a3m:aA Tryz.prog 202 ab6:=aB adZ 8 ⟨Tryz.func202,Tryz.call202,ak⟩ _ _ _ _ (by decide) (λx=>by rw[JJ];kernel_rfl)
def alJ:Con:=aQ true [(.int .u32),tI] [(.int .u32)] λx=>u7 x.1 x.2.1
def atG:Cx:=cx [] []
theorem ae0:ay Tryz.prog atG:=ay.of mixed aC fz fz
theorem ae1:aA Tryz.prog 234 alJ:=aB ae0 8 ⟨Tryz.func234,Tryz.call234,ak⟩ _ _ _ _ (by decide) (λx=>by rw[xP];kernel_rfl)
end
end Go.Proofs.YtldlihheppdhnaaGreat
namespace Go.Proofs.YtldlihheppdhnaaGreat
noncomputable section
def ae2:Con:=aQ true [tN] [tI,.bool] λx=>MK x.1
def atH:Cx:=cx [] []
theorem ae3:ay Tryz.prog atH:=ay.of mixed aC fz fz
theorem a7T:aA Tryz.prog 108 ae2:=aB ae3 8 ⟨Tryz.func108,Tryz.call108,ak⟩ _ _ _ _ (by decide) (λx=>by rw[U1];kernel_rfl)
def a3n:Con:=aQ true [tI] [tN] λx=>cZ x.1
def atI:Cx:=cx [] []
theorem ae4:ay Tryz.prog atI:=ay.of mixed aC fz fz
theorem P5:aA Tryz.prog 62 a3n:=aB ae4 8 ⟨Tryz.func62,Tryz.call62,ak⟩ _ _ _ _ (by decide) (λx=>by rw[XV];kernel_rfl)
def alK:Con:=aQ true [tN,tI] [tI] λx=>Bc x.1 x.2.1
def atJ:Cx:=cx [] []
theorem ae5:ay Tryz.prog atJ:=ay.of mixed aC fz fz
theorem ae6:aA Tryz.prog 206 alK:=aB ae5 8 ⟨Tryz.func206,Tryz.call206,ak⟩ _ _ _ _ (by decide) (λx=>by rw[TL];kernel_rfl)
abbrev alL:Shape:= { sl:=[(pc 2 tN 0),(pc 4 tN 1),(pc 5 tN 2),(pv 6 tI),(pv 7 tI),(pv 8 tI)],ob:=[(pv 0 tN),(pv 1 tN),(pv 2 tN)],lo:=3,nx:=3 }
abbrev alM:List Ex:=[(.normal, { sl:=[(pc 4 tN 1),(pc 5 tN 2)],ob:=[(pv 1 tN),(pv 2 tN)],lo:=3,nx:=3 })]
def alN:Code:=aY (aW Tryz.f164) 0
def ac5:Lp:=dF alL alM 51 nX
def ae7:Con:=aQ true [tN,tI] [tN] λx=>TN x.1 x.2.1
def atK:Cx:=cx [] []
theorem a7U:ay Tryz.prog atK:=ay.of mixed aC fz fz
theorem alO:bY Tryz.prog 0 (.loop alN) ac5:=aM a7U 8 (ak) _ _ _ _ (by decide) λ_=>by kernel_rfl
theorem alP:eD Tryz.prog 164 Tryz.f164 [(0,ac5)]:=⟨Tryz.func164,Tryz.call164,bG (by kernel_rfl) (aL alO (by kernel_rfl) fz)⟩
theorem a7V:aA Tryz.prog 164 ae7:=aB a7U 8 alP _ _ _ _ (by decide) (λx=>by rw[XU];kernel_rfl)
def a7W:Con:=aQ true [tN,tN] [tN,tI] λx=>wX x.1 x.2.1
def atL:Cx:=cx [(200,a4N)] []
theorem ae8:ay Tryz.prog atL:=ay.of mixed aC (fc ⟨a5W,fz⟩) fz
theorem Zl:aA Tryz.prog 155 a7W:=aB ae8 8 ⟨Tryz.func155,Tryz.call155,ak⟩ _ _ _ _ (by decide) (λx=>by rw[TQ];kernel_rfl)
def a5X:Con:=aQ true [tN,tN] [tI] λx=>zk x.1 x.2.1
def atM:Cx:=cx [] []
theorem ae9:ay Tryz.prog atM:=ay.of mixed aC fz fz
theorem UA:aA Tryz.prog 115 a5X:=aB ae9 8 ⟨Tryz.func115,Tryz.call115,ak⟩ _ _ _ _ (by decide) (λx=>by rw[TS];kernel_rfl)
def ab7:Con:=aQ true [tN] [tI] λx=>zl x.1
def atO:Cx:=cx [(113,adU)] []
theorem aea:ay Tryz.prog atO:=ay.of mixed aC (fc ⟨a7R,fz⟩) fz
theorem a3o:aA Tryz.prog 61 ab7:=aB aea 8 ⟨Tryz.func61,Tryz.call61,ak⟩ _ _ _ _ (by decide) (λx=>by rw[TW];kernel_rfl)
abbrev alQ:Shape:= { sl:=[(pc 2 tN 0),(pc 4 tN 1),(pc 5 tN 2),(pv 6 tI),(pv 7 tI),(pv 20 tI),(pv 21 tI)],ob:=[(pv 0 tN),(pv 1 tN),(pv 2 tN)],lo:=3,nx:=3 }
abbrev alR:List Ex:=[(.normal, { sl:=[(pc 4 tN 1),(pc 5 tN 2)],ob:=[(pv 1 tN),(pv 2 tN)],lo:=3,nx:=3 })]
def alS:Code:=aY (aW Tryz.f163) 0
def ac6:Lp:=dF alQ alR 54 lN
def alT:Con:=aQ true [tN,tI] [tN] λx=>Gt x.1 x.2.1
def atP:Cx:=cx [] []
theorem a7X:ay Tryz.prog atP:=ay.of mixed aC fz fz
theorem alU:bY Tryz.prog 0 (.loop alS) ac6:=aM a7X 8 (ak) _ _ _ _ (by decide) λ_=>by kernel_rfl
theorem alV:eD Tryz.prog 163 Tryz.f163 [(0,ac6)]:=⟨Tryz.func163,Tryz.call163,bG (by kernel_rfl) (aL alU (by kernel_rfl) fz)⟩
theorem aeb:aA Tryz.prog 163 alT:=aB a7X 8 alV _ _ _ _ (by decide) (λx=>by rw[Qt];kernel_rfl)
def alW:Con:=aQ true [tN,tN] [tN,tI] λx=>Sl x.1 x.2.1
def atQ:Cx:=cx [(203,Sr)] []
theorem aec:ay Tryz.prog atQ:=ay.of mixed aC (fc ⟨OZ,fz⟩) fz
theorem aed:aA Tryz.prog 204 alW:=aB aec 8 ⟨Tryz.func204,Tryz.call204,ak⟩ _ _ _ _ (by decide) (λx=>by rw[TU];kernel_rfl)
abbrev alX:Shape:= { sl:=[(pc 1 tN 0),(pv 3 tI),(4,(.w 5 (.int .u8) 2)),(pv 12 tI),(pv 13 tI)],ob:=[(pv 0 tN)],lo:=2,nx:=3 }
abbrev alY:List Ex:=[(.normal, { sl:=[(4,(.w 5 (.int .u8) 3))],ob:=[],lo:=3,nx:=4 })]
def alZ:Code:=aY (aW Tryz.f147) 0
def ac7:Lp:=dF alX alY 34 mK
def am0:Con:=aQ true [tN] [.str] λx=>II x.1
def atS:Cx:=cx [(61,ab7)] []
theorem a7Y:ay Tryz.prog atS:=ay.of mixed aC (fc ⟨a3o,fz⟩) fz
theorem am1:bY Tryz.prog 0 (.loop alZ) ac7:=aM a7Y 8 (ak) _ _ _ _ (by decide) λ_=>by kernel_rfl
theorem am2:eD Tryz.prog 147 Tryz.f147 [(0,ac7)]:=⟨Tryz.func147,Tryz.call147,bG (by kernel_rfl) (aL am1 (by kernel_rfl) fz)⟩
theorem aee:aA Tryz.prog 147 am0:=aB a7Y 8 am2 _ _ _ _ (by decide) (λx=>by rw[ML];kernel_rfl)
end
end Go.Proofs.YtldlihheppdhnaaGreat
namespace Go.Proofs.YtldlihheppdhnaaGreat
noncomputable section
def am3:Con:=aQ true [tN,tU,tU] [tN,tN] λx=>Ea x.1 x.2.1 x.2.2.1
def atU:Cx:=cx [(226,adY)] []
theorem aef:ay Tryz.prog atU:=ay.of mixed aC (fc ⟨a7S,fz⟩) fz
theorem aeg:aA Tryz.prog 205 am3:=aB aef 8 ⟨Tryz.func205,Tryz.call205,ak⟩ _ _ _ _ (by decide) (λx=>by rw[JN];kernel_rfl)
abbrev am4:Shape:= { sl:=[(pc 3 tN 0),(pc 4 tN 1),(pc 5 tN 2),(pc 6 tN 3),(pc 7 tN 4),(pc 8 tN 5),(pv 25 tI)],ob:=[(pv 0 tN),(pv 1 tN),(pv 2 tN),(pv 3 tN),(pv 4 tN),(pv 5 tN)],lo:=6,nx:=6 }
abbrev am5:List Ex:=[(.normal, { sl:=[(pc 4 tN 1),(pc 6 tN 3),(pc 7 tN 4),(pc 8 tN 5)],ob:=[(pv 1 tN),(pv 3 tN),(pv 4 tN),(pv 5 tN)],lo:=6,nx:=6 })]
def am6:Code:=aY (aW Tryz.f160) 0
def ac8:Lp:=dF am4 am5 68 fQ
def aeh:Con:=aQ true [tN,tN,tN] [tN,tN] λx=>sN x.1 x.2.1 x.2.2.1
def atV:Cx:=cx [(205,am3),(206,alK),(164,ae7),(155,a7W),(115,a5X)] []
theorem a7Z:ay Tryz.prog atV:=ay.of mixed aC (fc ⟨aeg,fc ⟨ae6,fc ⟨a7V,fc ⟨Zl,fc ⟨UA,fz⟩⟩⟩⟩⟩) fz
theorem am7:bY Tryz.prog 0 (.loop am6) ac8:=aM a7Z 8 (ak) _ _ _ _ (by decide) λ_=>by kernel_rfl
theorem am8:eD Tryz.prog 160 Tryz.f160 [(0,ac8)]:=⟨Tryz.func160,Tryz.call160,bG (by kernel_rfl) (aL am7 (by kernel_rfl) fz)⟩
theorem a81:aA Tryz.prog 160 aeh:=aB a7Z 8 am8 _ _ _ _ (by decide) (λx=>by rw[Gw];kernel_rfl)
def a88:Con:=aQ true [tN,tN,tN] [tN,tI] λx=>uf x.1 x.2.1 x.2.2.1
def atW:Cx:=cx [(160,aeh)] []
theorem aei:ay Tryz.prog atW:=ay.of mixed aC (fc ⟨a81,fz⟩) fz
theorem Zm:aA Tryz.prog 111 a88:=aB aei 8 ⟨Tryz.func111,Tryz.call111,ak⟩ _ _ _ _ (by decide) (λx=>by rw[Qv];kernel_rfl)
def aej:Con:=aQ true [tN,tN] [tN,tN] λx=>CZ x.1 x.2.1
def atX:Cx:=cx [(202,ab6),(203,Sr)] [(201,Tryz.f201,[])]
theorem aek:ay Tryz.prog atX:=ay.of mixed aC (fc ⟨a3m,fc ⟨OZ,fz⟩⟩) (fc ⟨⟨Tryz.func201,Tryz.call201,ak⟩,fz⟩)
theorem a8a:aA Tryz.prog 157 aej:=aB aek 8 ⟨Tryz.func157,Tryz.call157,ak⟩ _ _ _ _ (by decide) (λx=>by rw[Qu];kernel_rfl)
def am9:Con:=aQ true [tN,tN,tN] [tN,tI] λx=>Bd x.1 x.2.1 x.2.2.1
def atY:Cx:=cx [(157,aej),(111,a88)] []
theorem ael:ay Tryz.prog atY:=ay.of mixed aC (fc ⟨a8a,fc ⟨Zm,fz⟩⟩) fz
theorem aem:aA Tryz.prog 112 am9:=aB ael 8 ⟨Tryz.func112,Tryz.call112,ak⟩ _ _ _ _ (by decide) (λx=>by rw[Gx];kernel_rfl)
def aen:Con:=aQ true [tN,tN] [tN,tN,tI] λx=>D5 x.1 x.2.1
def atZ:Cx:=cx [(160,aeh)] []
theorem aeo:ay Tryz.prog atZ:=ay.of mixed aC (fc ⟨a81,fz⟩) fz
theorem a8b:aA Tryz.prog 156 aen:=aB aeo 8 ⟨Tryz.func156,Tryz.call156,ak⟩ _ _ _ _ (by decide) (λx=>by rw[Qw];kernel_rfl)
def ama:Con:=aQ true [tN,tN,tN] [tN,tI] λx=>nY x.1 x.2.1 x.2.2.1
def au0:Cx:=cx [(111,a88),(155,a7W),(204,alW)] []
theorem aep:ay Tryz.prog au0:=ay.of mixed aC (fc ⟨Zm,fc ⟨Zl,fc ⟨aed,fz⟩⟩⟩) fz
theorem aer:aA Tryz.prog 158 ama:=aB aep 8 ⟨Tryz.func158,Tryz.call158,ak⟩ _ _ _ _ (by decide) (λx=>by rw[Gy];kernel_rfl)
abbrev amb:Shape:= { sl:=[(pc 2 tN 0),(pc 3 tN 1),(pc 4 tN 2)],ob:=[(pv 0 tN),(pv 1 tN),(pv 2 tN)],lo:=3,nx:=3 }
abbrev amc:List Ex:=[(.normal, { sl:=[(pc 2 tN 0),(pc 4 tN 2)],ob:=[(pv 0 tN),(pv 2 tN)],lo:=3,nx:=3 })]
def amd:Code:=aY (aW Tryz.f159) 0
def ac9:Lp:=dF amb amc 21 lQ
def ame:Con:=aQ true [tN,tN] [tN] λx=>zZ x.1 x.2.1
def au1:Cx:=cx [(156,aen)] []
theorem a8c:ay Tryz.prog au1:=ay.of mixed aC (fc ⟨a8b,fz⟩) fz
theorem amf:bY Tryz.prog 0 (.loop amd) ac9:=aM a8c 8 (ak) _ _ _ _ (by decide) λ_=>by kernel_rfl
theorem amg:eD Tryz.prog 159 Tryz.f159 [(0,ac9)]:=⟨Tryz.func159,Tryz.call159,bG (by kernel_rfl) (aL amf (by kernel_rfl) fz)⟩
theorem aes:aA Tryz.prog 159 ame:=aB a8c 8 amg _ _ _ _ (by decide) (λx=>by rw[Qx];kernel_rfl)
end
end Go.Proofs.YtldlihheppdhnaaGreat
namespace Go.Proofs.YtldlihheppdhnaaGreat
noncomputable section
def aeu:Con:=aQ false [tN] [tMN,tI] λx=>xQ x.1
def au2:Cx:=cx [(62,a3n),(111,a88),(112,am9)] []
theorem aev:ay Tryz.prog au2:=ay.of mixed aC (fc ⟨P5,fc ⟨Zm,fc ⟨aem,fz⟩⟩⟩) fz
theorem a8d:aA Tryz.prog 60 aeu:=aB aev 8 ⟨Tryz.func60,Tryz.call60,ak⟩ _ _ _ _ (by decide) (λx=>by rw[Qy];kernel_rfl)
def a8e:Con:=aQ true [tMN] [.bool] λx=>bX x.1
def aew:Cx:=cx [] []
theorem aex:ay Tryz.prog aew:=ay.of mixed aC fz fz
theorem au3(r):cu aew [] (dX aew 8) Tryz.f114 (jv [tMN] (r,())) [] 0 (kD [.bool])=pE r:=by cases r<;>kernel_rfl
theorem Zn:aA Tryz.prog 114 a8e:=aB aex 8 ⟨Tryz.func114,Tryz.call114,ak⟩ _ _ _ _ (by decide) (λx=>by rw[lS];exact au3 x.1)
def amh:Con:=aQ true [tMN,tN] [tN] λx=>qK x.1 x.2.1
def aey:Cx:=cx [(115,a5X),(111,a88)] []
theorem aez:ay Tryz.prog aey:=ay.of mixed aC (fc ⟨UA,fc ⟨Zm,fz⟩⟩) fz
theorem au4(r)(a):cu aey [] (dX aey 8) Tryz.f227 (jv [tMN,tN] (r,a,())) [] 0 (kD [tN])=ug r a:=by cases r<;>kernel_rfl
theorem aeA:aA Tryz.prog 227 amh:=aB aez 8 ⟨Tryz.func227,Tryz.call227,ak⟩ _ _ _ _ (by decide) (λx=>by rw[D6];exact au4 x.1 x.2.1)
def ami:Con:=aQ true [(.arr 6 tU),tU,tN] [(.arr 6 tU)] λx=>iH x.1 x.2.1 x.2.2.1
def au5:Cx:=cx [(202,ab6),(203,Sr)] []
theorem aeB:ay Tryz.prog au5:=ay.of mixed aC (fc ⟨a3m,fc ⟨OZ,fz⟩⟩) fz
theorem aeC:aA Tryz.prog 208 ami:=aB aeB 8 ⟨Tryz.func208,Tryz.call208,ak⟩ _ _ _ _ (by decide) (λx=>by rw[MR];kernel_rfl)
def ab8:Con:=aQ true [tMN,tN,tN] [tN] λx=>d9 x.1 x.2.1 x.2.2.1
def aeD:Cx:=cx [(208,ami),(155,a7W),(115,a5X)] []
theorem aeE:ay Tryz.prog aeD:=ay.of mixed aC (fc ⟨aeC,fc ⟨Zl,fc ⟨UA,fz⟩⟩⟩) fz
theorem au6(r)(a)(b):cu aeD [] (dX aeD 8) Tryz.f165 (jv [tMN,tN,tN] (r,a,b,())) [] 0 (kD [tN])=rE r a b:=by cases r<;>kernel_rfl
theorem a3p:aA Tryz.prog 165 ab8:=aB aeE 8 ⟨Tryz.func165,Tryz.call165,ak⟩ _ _ _ _ (by decide) (λx=>by rw[Bf];exact au6 x.1 x.2.1 x.2.2.1)
def amj:Con:=aQ true [tMN,tN] [tN] λx=>nZ x.1 x.2.1
def aeF:Cx:=cx [(114,a8e),(227,amh),(165,ab8)] []
theorem aeG:ay Tryz.prog aeF:=ay.of mixed aC (fc ⟨Zn,fc ⟨aeA,fc ⟨a3p,fz⟩⟩⟩) fz
theorem au7(r)(a):cu aeF [] (dX aeF 8) Tryz.f207 (jv [tMN,tN] (r,a,())) [] 0 (kD [tN])=rF r a:=by cases r<;>kernel_rfl
theorem aeH:aA Tryz.prog 207 amj:=aB aeG 8 ⟨Tryz.func207,Tryz.call207,ak⟩ _ _ _ _ (by decide) (λx=>by rw[Bg];exact au7 x.1 x.2.1)
abbrev amk:Shape:= { sl:=[(0,(.pz (.pair tN (.pair tU (.pair tN tN))))),(pc 4 (.arr 16 tN) 1),(pc 5 (.arr 16 tN) 2),(pc 6 tN 3),(pv 7 tI)],ob:=[(pv 1 (.arr 16 tN)),(pv 2 (.arr 16 tN)),(pv 3 tN)],lo:=4,nx:=4 }
abbrev aml:List Ex:=[(.normal, { sl:=[(pc 4 (.arr 16 tN) 1),(pc 5 (.arr 16 tN) 2)],ob:=[(pv 1 (.arr 16 tN)),(pv 2 (.arr 16 tN))],lo:=4,nx:=4 })]
def amm:Code:=aY (aW Tryz.f161) 0
def a8f:Lp:=dF amk aml 30 eU
def amn:Con:=aQ true [tMN,tN] [(.arr 16 tN)] λx=>pF x.1 x.2.1
def aeI:Cx:=cx [(207,amj),(165,ab8)] []
theorem a8g:ay Tryz.prog aeI:=ay.of mixed aC (fc ⟨aeH,fc ⟨a3p,fz⟩⟩) fz
theorem amo:bY Tryz.prog 0 (.loop amm) a8f:=aM a8g 8 (ak) _ _ _ _ (by decide) λ_=>by kernel_rfl
theorem amq:eD Tryz.prog 161 Tryz.f161 [(0,a8f)]:=⟨Tryz.func161,Tryz.call161,bG (by kernel_rfl) (aL amo (by kernel_rfl) fz)⟩
theorem au8(r)(a):cu aeI [(0,a8f)] (dX aeI 8) Tryz.f161 (jv [tMN,tN] (r,a,())) [] 0 (kD [(.arr 16 tN)])=nI r a:=by cases r<;>kernel_rfl
theorem aeJ:aA Tryz.prog 161 amn:=aB a8g 8 amq _ _ _ _ (by decide) (λx=>by rw[yO];exact au8 x.1 x.2.1)
def amr:Con:=aQ true [tN,tI] [tI] λx=>pG x.1 x.2.1
def au9:Cx:=cx [(163,alT),(164,ae7),(108,ae2)] []
theorem aeK:ay Tryz.prog au9:=ay.of mixed aC (fc ⟨aeb,fc ⟨a7V,fc ⟨a7T,fz⟩⟩⟩) fz
theorem aeL:aA Tryz.prog 162 amr:=aB aeK 8 ⟨Tryz.func162,Tryz.call162,ak⟩ _ _ _ _ (by decide) (λx=>by rw[yP];kernel_rfl)
abbrev ams:Shape:= { sl:=[(0,(.pz (.pair tN (.pair tU (.pair tN tN))))),(2,(.sz tN)),(pc 6 tN 0),(8,(.w 264 (.arr 16 tN) 1)),(pv 9 tI),(33,(.sz tN)),(pv 34 tI),(pv 35 tI)],ob:=[(pv 0 tN)],lo:=1,nx:=2 }
abbrev amt:List Ex:=[(.normal, { sl:=[(0,(.pz (.pair tN (.pair tU (.pair tN tN))))),(2,(.sz tN)),(pc 6 tN 0),(8,(.w 264 (.arr 16 tN) 2)),(pv 9 tI)],ob:=[(pv 0 tN)],lo:=2,nx:=3 })]
def amu:Code:=aY (aW Tryz.f116) 0
def a8h:Lp:=dF ams amt 98 gI
abbrev amv:Shape:= { sl:=[(0,(.pz (.pair tN (.pair tU (.pair tN tN))))),(2,(.sz tN)),(pc 6 tN 0),(8,(.w 264 (.arr 16 tN) 5)),(12,(.c ⟨.fn,(.mk 162 [])⟩)),(pc 13 tN 3),(pv 14 tI),(74,(.sz tN)),(pv 75 tI),(pv 76 tI)],ob:=[(pv 0 tN),(pv 3 tN)],lo:=5,nx:=6 }
abbrev amw:List Ex:=[(.normal, { sl:=[(0,(.pz (.pair tN (.pair tU (.pair tN tN))))),(2,(.sz tN)),(pc 6 tN 0),(8,(.w 264 (.arr 16 tN) 6)),(12,(.c ⟨.fn,(.mk 162 [])⟩)),(pc 13 tN 3),(pv 14 tI)],ob:=[(pv 0 tN),(pv 3 tN)],lo:=6,nx:=7 })]
def amx:Code:=aY (aW Tryz.f116) 6
def a4O:Lp:=dF amv amw 98 gJ
abbrev a4P:Shape:= { sl:=[(0,(.pz (.pair tN (.pair tU (.pair tN tN))))),(2,(.sz tN)),(pc 6 tN 0),(8,(.w 264 (.arr 16 tN) 4)),(12,(.c ⟨.fn,(.mk 162 [])⟩)),(pc 13 tN 3),(pv 14 tI)],ob:=[(pv 0 tN),(pv 3 tN)],lo:=4,nx:=5 }
abbrev acd:List Ex:=[(.normal, { sl:=[(0,(.pz (.pair tN (.pair tU (.pair tN tN))))),(pc 6 tN 0),(pc 13 tN 3)],ob:=[(pv 0 tN),(pv 3 tN)],lo:=5,nx:=5 })]
def ace:Code:=aY (aW Tryz.f116) 2
def a8i:Lp:=dF a4P acd 98 eH
def aeM:Con:=aQ true [tMN,(.sl tN),(.sl tN)] [tN,tI] λx=>dY x.1 x.2.1.1 x.2.1.2 x.2.2.1.1 x.2.2.1.2
def a8j:Cx:=cx [(114,a8e),(161,amn),(61,ab7),(165,ab8),(162,amr),(62,a3n)] []
theorem Zo:ay Tryz.prog a8j:=ay.of mixed aC (fc ⟨Zn,fc ⟨aeJ,fc ⟨a3o,fc ⟨a3p,fc ⟨aeL,fc ⟨P5,fz⟩⟩⟩⟩⟩⟩) fz
theorem amy:bY Tryz.prog 0 (.loop amu) a8h:=aM Zo 8 (ak) _ _ _ _ (by decide) λ_=>by kernel_rfl
theorem acf:bY Tryz.prog 6 (.loop amx) a4O:=aM Zo 8 (ak) _ _ _ _ (by decide) λ_=>by kernel_rfl
theorem amz(x:a4P.X):CP a8j [(6,a4O)] (dX a8j 8) ace (a4P.mkS 98 x) (vP 2 a4P acd)=eH x:=by kernel_rfl
theorem amA:bY Tryz.prog 2 (.loop ace) a8i:=aM Zo 8 (bG (by kernel_rfl) (aL acf (by kernel_rfl) fz)) _ _ _ _ (by decide) amz
theorem amB:eD Tryz.prog 116 Tryz.f116 [(0,a8h),(6,a4O),(2,a8i)]:=⟨Tryz.func116,Tryz.call116,bG (by kernel_rfl) (aL amy (by kernel_rfl) (aL acf (by kernel_rfl) (aL amA (by kernel_rfl) fz)))⟩
theorem aua(r)(nbases)(bases)(nexps)(exps):cu a8j [(0,a8h),(6,a4O),(2,a8i)] (dX a8j 8) Tryz.f116 (jv [tMN,(.sl tN),(.sl tN)] (r,(nbases,bases),(nexps,exps),())) [] 0 (kD [tN,tI])=mE r nbases bases nexps exps:=by cases r<;>kernel_rfl
theorem a8k:aA Tryz.prog 116 aeM:=aB Zo 8 amB _ _ _ _ (by decide) (λx=>by rw[uj];exact aua x.1 x.2.1.1 x.2.1.2 x.2.2.1.1 x.2.2.1.2)
def a8l:Con:=aQ true [tMN,tN,tN] [tN] λx=>aT x.1 x.2.1 x.2.2.1
def aeN:Cx:=cx [(116,aeM)] []
theorem aeO:ay Tryz.prog aeN:=ay.of mixed aC (fc ⟨a8k,fz⟩) fz
theorem aub(r)(a)(e):cu aeN [] (dX aeN 8) Tryz.f64 (jv [tMN,tN,tN] (r,a,e,())) [] 0 (kD [tN])=um r a e:=by cases r<;>kernel_rfl
theorem Zp:aA Tryz.prog 64 a8l:=aB aeO 8 ⟨Tryz.func64,Tryz.call64,ak⟩ _ _ _ _ (by decide) (λx=>by rw[D7];exact aub x.1 x.2.1 x.2.2.1)
def ab9:Con:=aQ true [tMN,tN] [.bool] λx=>dx x.1 x.2.1
def aeP:Cx:=cx [(114,a8e),(115,a5X)] []
theorem aeQ:ay Tryz.prog aeP:=ay.of mixed aC (fc ⟨Zn,fc ⟨UA,fz⟩⟩) fz
theorem auc(r)(a):cu aeP [] (dX aeP 8) Tryz.f63 (jv [tMN,tN] (r,a,())) [] 0 (kD [.bool])=wY r a:=by cases r<;>kernel_rfl
theorem a3q:aA Tryz.prog 63 ab9:=aB aeQ 8 ⟨Tryz.func63,Tryz.call63,ak⟩ _ _ _ _ (by decide) (λx=>by rw[F3];exact auc x.1 x.2.1)
def amC:Con:=aQ true [tMN] [tN] λx=>fT x.1
def aeR:Cx:=cx [(114,a8e)] []
theorem aeS:ay Tryz.prog aeR:=ay.of mixed aC (fc ⟨Zn,fz⟩) fz
theorem aud(r):cu aeR [] (dX aeR 8) Tryz.f231 (jv [tMN] (r,())) [] 0 (kD [tN])=uo r:=by cases r<;>kernel_rfl
theorem aeT:aA Tryz.prog 231 amC:=aB aeS 8 ⟨Tryz.func231,Tryz.call231,ak⟩ _ _ _ _ (by decide) (λx=>by rw[Ab];exact aud x.1)
end
end Go.Proofs.YtldlihheppdhnaaGreat
namespace Go.Proofs.YtldlihheppdhnaaGreat
noncomputable section
abbrev amD:Shape:= { sl:=[(pv 0 tI),(3,(.v .bool)),(pv 11 tI),(pv 12 tI)],ob:=[],lo:=0,nx:=0 }
abbrev amE:List Ex:=[(.normal, { sl:=[(3,(.v .bool))],ob:=[],lo:=0,nx:=0 })]
def amF:Code:=aY (aW Tryz.f109) 0
def acg:Lp:=dF amD amE 31 dQ
def amG:Con:=aQ true [tI] [.bool] λx=>Bj x.1
def aue:Cx:=cx [] []
theorem a8m:ay Tryz.prog aue:=ay.of mixed aC fz fz
theorem amH:bY Tryz.prog 0 (.loop amF) acg:=aM a8m 8 (ak) _ _ _ _ (by decide) λ_=>by kernel_rfl
theorem amI:eD Tryz.prog 109 Tryz.f109 [(0,acg)]:=⟨Tryz.func109,Tryz.call109,bG (by kernel_rfl) (aL amH (by kernel_rfl) fz)⟩
theorem aeU:aA Tryz.prog 109 amG:=aB a8m 8 amI _ _ _ _ (by decide) (λx=>by rw[GK];kernel_rfl)
def amJ:Con:=aQ true [tN,tN,tI] [.bool] λx=>Eh x.1 x.2.1 x.2.2.1
def auf:Cx:=cx [(60,aeu),(62,a3n),(155,a7W),(156,aen),(157,aej),(115,a5X),(64,a8l),(158,ama),(159,ame)] []
theorem aeV:ay Tryz.prog auf:=ay.of mixed aC (fc ⟨a8d,fc ⟨P5,fc ⟨Zl,fc ⟨a8b,fc ⟨a8a,fc ⟨UA,fc ⟨Zp,fc ⟨aer,fc ⟨aes,fz⟩⟩⟩⟩⟩⟩⟩⟩⟩) fz
theorem aeW:aA Tryz.prog 110 amJ:=aB aeV 8 ⟨Tryz.func110,Tryz.call110,ak⟩ _ _ _ _ (by decide) (λx=>by rw[JO];kernel_rfl)
abbrev amK:Shape:= { sl:=[(0,(.sz (.pair tN tI))),(pv 5 tI)],ob:=[],lo:=0,nx:=0 }
abbrev amL:List Ex:=[(.ret, { sl:=[(pv 2 tI)],ob:=[],lo:=0,nx:=0 }),(.normal, { sl:=[],ob:=[],lo:=0,nx:=0 })]
def amM:Code:=aY (aW Tryz.f59) 0
def ach:Lp:=dF amK amL 60 fU
def amN:Con:=aQ true [(.sl (.pair tN tI))] [tI] λx=>sO x.1.1 x.1.2
def aug:Cx:=cx [(108,ae2),(109,amG),(110,amJ)] []
theorem a8n:ay Tryz.prog aug:=ay.of mixed aC (fc ⟨a7T,fc ⟨aeU,fc ⟨aeW,fz⟩⟩⟩) fz
theorem amO:bY Tryz.prog 0 (.loop amM) ach:=aM a8n 8 (ak) _ _ _ _ (by decide) λ_=>by kernel_rfl
theorem amP:eD Tryz.prog 59 Tryz.f59 [(0,ach)]:=⟨Tryz.func59,Tryz.call59,bG (by kernel_rfl) (aL amO (by kernel_rfl) fz)⟩
theorem aeX:aA Tryz.prog 59 amN:=aB a8n 8 amP _ _ _ _ (by decide) (λx=>by rw[GN];kernel_rfl)
end
end Go.Proofs.YtldlihheppdhnaaGreat
namespace Go.Proofs.YtldlihheppdhnaaGreat
noncomputable section
def aeY:Con:=aQ false [(.pair (.sl (.pair tN tI)) tN)] [(.ptr tGR),tI] λx=>pI x.1
def auh:Cx:=cx [(59,amN),(60,aeu),(61,ab7),(62,a3n),(63,ab9),(64,a8l)] []
theorem aeZ:ay Tryz.prog auh:=ay.of mixed aC (fc ⟨aeX,fc ⟨a8d,fc ⟨a3o,fc ⟨P5,fc ⟨a3q,fc ⟨Zp,fz⟩⟩⟩⟩⟩⟩) fz
theorem a8o:aA Tryz.prog 22 aeY:=aB aeZ 8 ⟨Tryz.func22,Tryz.call22,ak⟩ _ _ _ _ (by decide) (λx=>by rw[MU];kernel_rfl)
def abb:Con:=aQ false [(.ptr tGR)] [tMN] λx=>bZ x.1
def af0:Cx:=cx [] []
theorem af2:ay Tryz.prog af0:=ay.of mixed aC fz fz
theorem aui(g):cu af0 [] (dX af0 8) Tryz.f65 (jv [(.ptr tGR)] (g,())) [] 0 (kD [tMN])=je g:=by cases g<;>kernel_rfl
theorem a3r:aA Tryz.prog 65 abb:=aB af2 8 ⟨Tryz.func65,Tryz.call65,ak⟩ _ _ _ _ (by decide) (λx=>by rw[jF];exact aui x.1)
def abd:Con:=aQ false [(.ptr tGR)] [tMN] λx=>bH x.1
def af3:Cx:=cx [] []
theorem af4:ay Tryz.prog af3:=ay.of mixed aC fz fz
theorem auj(g):cu af3 [] (dX af3 8) Tryz.f213 (jv [(.ptr tGR)] (g,())) [] 0 (kD [tMN])=jE g:=by cases g<;>kernel_rfl
theorem a3s:aA Tryz.prog 213 abd:=aB af4 8 ⟨Tryz.func213,Tryz.call213,ak⟩ _ _ _ _ (by decide) (λx=>by rw[qj];exact auj x.1)
def amQ:Con:=aQ true [(.ptr tGR)] [tN] λx=>dR x.1
def af5:Cx:=cx [(65,abb),(231,amC)] []
theorem af6:ay Tryz.prog af5:=ay.of mixed aC (fc ⟨a3r,fc ⟨aeT,fz⟩⟩) fz
theorem auk(g):cu af5 [] (dX af5 8) Tryz.f214 (jv [(.ptr tGR)] (g,())) [] 0 (kD [tN])=og g:=by cases g<;>kernel_rfl
theorem af7:aA Tryz.prog 214 amQ:=aB af6 8 ⟨Tryz.func214,Tryz.call214,ak⟩ _ _ _ _ (by decide) (λx=>by rw[vU];exact auk x.1)
def amR:Con:=aQ true [(.ptr tGR)] [tN] λx=>qL x.1
def af8:Cx:=cx [] []
theorem af9:ay Tryz.prog af8:=ay.of mixed aC fz fz
theorem aul(g):cu af8 [] (dX af8 8) Tryz.f216 (jv [(.ptr tGR)] (g,())) [] 0 (kD [tN])=Ac g:=by cases g<;>kernel_rfl
theorem afa:aA Tryz.prog 216 amR:=aB af9 8 ⟨Tryz.func216,Tryz.call216,ak⟩ _ _ _ _ (by decide) (λx=>by rw[D8];exact aul x.1)
end
end Go.Proofs.YtldlihheppdhnaaGreat
namespace Go.Proofs.YtldlihheppdhnaaGreat
noncomputable section
abbrev amS:Shape:= { sl:=[(pc 1 tN 0),(pc 2 (.arr 256 .bool) 1),(pc 3 (.arr 256 .bool) 2),(pv 4 tI)],ob:=[(pv 0 tN),(pv 1 (.arr 256 .bool)),(pv 2 (.arr 256 .bool))],lo:=3,nx:=3 }
abbrev amT:List Ex:=[(.normal, { sl:=[(pc 2 (.arr 256 .bool) 1),(pc 3 (.arr 256 .bool) 2)],ob:=[(pv 1 (.arr 256 .bool)),(pv 2 (.arr 256 .bool))],lo:=3,nx:=3 })]
def amU:Code:=aY (aW Tryz.f118) 0
def aci:Lp:=dF amS amT 22 vV
def a8p:Con:=aQ true [tN] [(.arr 256 .bool)] λx=>GQ x.1
def aum:Cx:=cx [] []
theorem a8q:ay Tryz.prog aum:=ay.of mixed aC fz fz
theorem amV:bY Tryz.prog 0 (.loop amU) aci:=aM a8q 8 (ak) _ _ _ _ (by decide) λ_=>by kernel_rfl
theorem amW:eD Tryz.prog 118 Tryz.f118 [(0,aci)]:=⟨Tryz.func118,Tryz.call118,bG (by kernel_rfl) (aL amV (by kernel_rfl) fz)⟩
theorem Zq:aA Tryz.prog 118 a8p:=aB a8q 8 amW _ _ _ _ (by decide) (λx=>by rw[XW];kernel_rfl)
abbrev amX:Shape:= { sl:=[(pc 3 (.arr 256 .bool) 1),(pv 4 tI)],ob:=[(pv 1 (.arr 256 .bool))],lo:=2,nx:=2 }
abbrev amY:List Ex:=[(.ret, { sl:=[(pv 2 tI)],ob:=[],lo:=2,nx:=2 }),(.normal, { sl:=[],ob:=[],lo:=2,nx:=2 })]
def amZ:Code:=aY (aW Tryz.f117) 0
def acj:Lp:=dF amX amY 16 oq
def abe:Con:=aQ true [tN] [tI] λx=>IJ x.1
def aun:Cx:=cx [(118,a8p)] []
theorem a8r:ay Tryz.prog aun:=ay.of mixed aC (fc ⟨Zq,fz⟩) fz
theorem an0:bY Tryz.prog 0 (.loop amZ) acj:=aM a8r 8 (ak) _ _ _ _ (by decide) λ_=>by kernel_rfl
theorem an1:eD Tryz.prog 117 Tryz.f117 [(0,acj)]:=⟨Tryz.func117,Tryz.call117,bG (by kernel_rfl) (aL an0 (by kernel_rfl) fz)⟩
theorem a3t:aA Tryz.prog 117 abe:=aB a8r 8 an1 _ _ _ _ (by decide) (λx=>by rw[Ub];kernel_rfl)
abbrev an2:Shape:= { sl:=[(pv 4 tI),(pc 5 (.arr 256 .bool) 1),(pv 6 tI)],ob:=[(pv 1 (.arr 256 .bool))],lo:=2,nx:=2 }
abbrev an3:List Ex:=[(.normal, { sl:=[(pv 4 tI)],ob:=[],lo:=2,nx:=2 })]
def an4:Code:=aY (aW Tryz.f68) 0
def acn:Lp:=dF an2 an3 24 ow
def afb:Con:=aQ true [tN] [tI,.bool] λx=>Ej x.1
def auo:Cx:=cx [(117,abe),(118,a8p)] []
theorem a8s:ay Tryz.prog auo:=ay.of mixed aC (fc ⟨a3t,fc ⟨Zq,fz⟩⟩) fz
theorem an5:bY Tryz.prog 0 (.loop an4) acn:=aM a8s 8 (ak) _ _ _ _ (by decide) λ_=>by kernel_rfl
theorem an6:eD Tryz.prog 68 Tryz.f68 [(0,acn)]:=⟨Tryz.func68,Tryz.call68,bG (by kernel_rfl) (aL an5 (by kernel_rfl) fz)⟩
theorem a8t:aA Tryz.prog 68 afb:=aB a8s 8 an6 _ _ _ _ (by decide) (λx=>by rw[Ud];kernel_rfl)
abbrev an7:Shape:= { sl:=[(pc 1 (.arr 256 .bool) 0),(pc 2 tN 1),(pc 3 tN 2),(pv 4 tI)],ob:=[(pv 0 (.arr 256 .bool)),(pv 1 tN),(pv 2 tN)],lo:=3,nx:=3 }
abbrev an8:List Ex:=[(.normal, { sl:=[(pc 2 tN 1),(pc 3 tN 2)],ob:=[(pv 1 tN),(pv 2 tN)],lo:=3,nx:=3 })]
def an9:Code:=aY (aW Tryz.f119) 0
def aco:Lp:=dF an7 an8 25 oh
def ana:Con:=aQ true [(.arr 256 .bool)] [tN] λx=>Sm x.1
def aup:Cx:=cx [] []
theorem a8u:ay Tryz.prog aup:=ay.of mixed aC fz fz
theorem anb:bY Tryz.prog 0 (.loop an9) aco:=aM a8u 8 (ak) _ _ _ _ (by decide) λ_=>by kernel_rfl
theorem anc:eD Tryz.prog 119 Tryz.f119 [(0,aco)]:=⟨Tryz.func119,Tryz.call119,bG (by kernel_rfl) (aL anb (by kernel_rfl) fz)⟩
theorem afc:aA Tryz.prog 119 ana:=aB a8u 8 anc _ _ _ _ (by decide) (λx=>by rw[U4];kernel_rfl)
abbrev ane:Shape:= { sl:=[(pv 0 tI),(pc 2 tN 0),(pc 3 (.arr 256 .bool) 1),(pv 4 tI)],ob:=[(pv 0 tN),(pv 1 (.arr 256 .bool))],lo:=2,nx:=2 }
abbrev anf:List Ex:=[(.normal, { sl:=[(pc 2 tN 0),(pc 3 (.arr 256 .bool) 1)],ob:=[(pv 0 tN),(pv 1 (.arr 256 .bool))],lo:=2,nx:=2 })]
def ang:Code:=aY (aW Tryz.f71) 0
def acp:Lp:=dF ane anf 23 om
def a5Y:Con:=aQ true [tI] [tN] λx=>aV x.1
def auq:Cx:=cx [(119,ana)] []
theorem a8v:ay Tryz.prog auq:=ay.of mixed aC (fc ⟨afc,fz⟩) fz
theorem anh:bY Tryz.prog 0 (.loop ang) acp:=aM a8v 8 (ak) _ _ _ _ (by decide) λ_=>by kernel_rfl
theorem ani:eD Tryz.prog 71 Tryz.f71 [(0,acp)]:=⟨Tryz.func71,Tryz.call71,bG (by kernel_rfl) (aL anh (by kernel_rfl) fz)⟩
theorem UC:aA Tryz.prog 71 a5Y:=aB a8v 8 ani _ _ _ _ (by decide) (λx=>by rw[U6];kernel_rfl)
abbrev anj:Shape:= { sl:=[(pc 5 (.arr 256 .bool) 2),(pc 6 (.arr 256 .bool) 3),(pv 7 tI)],ob:=[(pv 2 (.arr 256 .bool)),(pv 3 (.arr 256 .bool))],lo:=4,nx:=4 }
abbrev ank:List Ex:=[(.ret, { sl:=[(pv 4 tI)],ob:=[],lo:=4,nx:=4 }),(.normal, { sl:=[],ob:=[],lo:=4,nx:=4 })]
def anl:Code:=aY (aW Tryz.f166) 0
def acr:Lp:=dF anj ank 26 jG
def anm:Con:=aQ true [tN,tN] [tI] λx=>Sn x.1 x.2.1
def aur:Cx:=cx [(118,a8p)] []
theorem a8w:ay Tryz.prog aur:=ay.of mixed aC (fc ⟨Zq,fz⟩) fz
theorem ano:bY Tryz.prog 0 (.loop anl) acr:=aM a8w 8 (ak) _ _ _ _ (by decide) λ_=>by kernel_rfl
theorem anp:eD Tryz.prog 166 Tryz.f166 [(0,acr)]:=⟨Tryz.func166,Tryz.call166,bG (by kernel_rfl) (aL ano (by kernel_rfl) fz)⟩
theorem afd:aA Tryz.prog 166 anm:=aB a8w 8 anp _ _ _ _ (by decide) (λx=>by rw[U9];kernel_rfl)
def afe:Con:=aQ true [tN,tI] [tI] λx=>MV x.1 x.2.1
def aus:Cx:=cx [(118,a8p)] []
theorem aff:ay Tryz.prog aus:=ay.of mixed aC (fc ⟨Zq,fz⟩) fz
theorem a8x:aA Tryz.prog 174 afe:=aB aff 8 ⟨Tryz.func174,Tryz.call174,ak⟩ _ _ _ _ (by decide) (λx=>by rw[Uf];kernel_rfl)
abbrev anq:Shape:= { sl:=[(pc 1 tN 0),(4,(.w 5 (.int .u8) 2)),(pv 5 tI),(pv 6 tI),(pv 7 tI)],ob:=[(pv 0 tN)],lo:=2,nx:=3 }
abbrev anr:List Ex:=[(.normal, { sl:=[(pc 1 tN 0),(4,(.w 5 (.int .u8) 3)),(pv 5 tI),(pv 6 tI)],ob:=[(pv 0 tN)],lo:=3,nx:=4 })]
def ant:Code:=aY (aW Tryz.f128) 2
def a8y:Lp:=dF anq anr 40 mM
abbrev a4Q:Shape:= { sl:=[(pc 1 tN 0),(4,(.w 5 (.int .u8) 1)),(pv 5 tI)],ob:=[(pv 0 tN)],lo:=1,nx:=2 }
abbrev acs:List Ex:=[(.normal, { sl:=[(4,(.w 5 (.int .u8) 2))],ob:=[],lo:=2,nx:=3 })]
def acu:Code:=aY (aW Tryz.f128) 0
def acv:Lp:=dF a4Q acs 40 jQ
def anu:Con:=aQ true [tN] [.str] λx=>IK x.1
def afg:Cx:=cx [(117,abe),(174,afe)] []
theorem a3u:ay Tryz.prog afg:=ay.of mixed aC (fc ⟨a3t,fc ⟨a8x,fz⟩⟩) fz
theorem acw:bY Tryz.prog 2 (.loop ant) a8y:=aM a3u 8 (ak) _ _ _ _ (by decide) λ_=>by kernel_rfl
theorem anv(x:a4Q.X):CP afg [(2,a8y)] (dX afg 8) acu (a4Q.mkS 40 x) (vP 0 a4Q acs)=jQ x:=by kernel_rfl
theorem anw:bY Tryz.prog 0 (.loop acu) acv:=aM a3u 8 (bG (by kernel_rfl) (aL acw (by kernel_rfl) fz)) _ _ _ _ (by decide) anv
theorem anx:eD Tryz.prog 128 Tryz.f128 [(2,a8y),(0,acv)]:=⟨Tryz.func128,Tryz.call128,bG (by kernel_rfl) (aL acw (by kernel_rfl) (aL anw (by kernel_rfl) fz))⟩
theorem afh:aA Tryz.prog 128 anu:=aB a3u 8 anx _ _ _ _ (by decide) (λx=>by rw[MW];kernel_rfl)
end
end Go.Proofs.YtldlihheppdhnaaGreat
namespace Go.Proofs.YtldlihheppdhnaaGreat
noncomputable section
def anz:Con:=aQ false [] [(.pair (.sl (.pair tN tI)) tN)] λx=>IV
def aut:Cx:=cx [] []
theorem afi:ay Tryz.prog aut:=ay.of mixed aC fz fz
theorem afj:aA Tryz.prog 67 anz:=aB afi 8 ⟨Tryz.func67,Tryz.call67,ak⟩ _ _ _ _ (by decide) (λx=>by rw[Nh];kernel_rfl)
def afk:Con:=aQ false [] [(.pair (.sl (.pair tN tI)) tN)] λx=>D9
def auu:Cx:=cx [] []
theorem afl:ay Tryz.prog auu:=ay.of mixed aC fz fz
theorem a8z:aA Tryz.prog 23 afk:=aB afl 8 ⟨Tryz.func23,Tryz.call23,ak⟩ _ _ _ _ (by decide) (λx=>by rw[Ng];kernel_rfl)
def anA:Con:=aQ false [tI] [(.pair (.sl (.pair tN tI)) tN)] λx=>Ni x.1
def auv:Cx:=cx [(67,anz),(23,afk)] []
theorem afm:ay Tryz.prog auv:=ay.of mixed aC (fc ⟨afj,fc ⟨a8z,fz⟩⟩) fz
theorem afn:aA Tryz.prog 25 anA:=aB afm 8 ⟨Tryz.func25,Tryz.call25,ak⟩ _ _ _ _ (by decide) (λx=>by rw[QG];kernel_rfl)
def anB:Con:=aQ true [(.pair (.sl (.pair tN tI)) tN)] [tN] λx=>a4L x.1
def auw:Cx:=cx [] []
theorem afo:ay Tryz.prog auw:=ay.of mixed aC fz fz
theorem afp:aA Tryz.prog 69 anB:=aB afo 8 ⟨Tryz.func69,Tryz.call69,ak⟩ _ _ _ _ (by decide) (λx=>by rw[a10];kernel_rfl)
def anC:Con:=aQ true [(.pair (.sl (.pair tN tI)) tN)] [tN] λx=>a4M x.1
def auy:Cx:=cx [] []
theorem afq:ay Tryz.prog auy:=ay.of mixed aC fz fz
theorem afr:aA Tryz.prog 70 anC:=aB afq 8 ⟨Tryz.func70,Tryz.call70,ak⟩ _ _ _ _ (by decide) (λx=>by rw[a11];kernel_rfl)
end
end Go.Proofs.YtldlihheppdhnaaGreat
namespace Go.Proofs.YtldlihheppdhnaaGreat
noncomputable section
def afs:Con:=aQ true [tI,tI,tI] [tI] λx=>zI x.1 x.2.1 x.2.2.1
def auz:Cx:=cx [(202,ab6),(226,adY)] []
theorem aft:ay Tryz.prog auz:=ay.of mixed aC (fc ⟨a3m,fc ⟨a7S,fz⟩⟩) fz
theorem a8A:aA Tryz.prog 211 afs:=aB aft 8 ⟨Tryz.func211,Tryz.call211,ak⟩ _ _ _ _ (by decide) (λx=>by rw[Nc];kernel_rfl)
abbrev anD:Shape:= { sl:=[(pv 0 tI),(pv 2 tI),(pc 4 tN 0),(pv 7 tI),(pv 8 tI)],ob:=[(pv 0 tN)],lo:=1,nx:=1 }
abbrev anE:List Ex:=[(.normal, { sl:=[(pv 7 tI)],ob:=[],lo:=1,nx:=1 })]
def anF:Code:=aY (aW Tryz.f210) 0
def acy:Lp:=dF anD anE 31 jS
def anG:Con:=aQ true [tI,tN,tI] [tI] λx=>IU x.1 x.2.1 x.2.2.1
def auA:Cx:=cx [(117,abe),(211,afs),(174,afe)] []
theorem a8B:ay Tryz.prog auA:=ay.of mixed aC (fc ⟨a3t,fc ⟨a8A,fc ⟨a8x,fz⟩⟩⟩) fz
theorem anH:bY Tryz.prog 0 (.loop anF) acy:=aM a8B 8 (ak) _ _ _ _ (by decide) λ_=>by kernel_rfl
theorem anI:eD Tryz.prog 210 Tryz.f210 [(0,acy)]:=⟨Tryz.func210,Tryz.call210,bG (by kernel_rfl) (aL anH (by kernel_rfl) fz)⟩
theorem afu:aA Tryz.prog 210 anG:=aB a8B 8 anI _ _ _ _ (by decide) (λx=>by rw[Nf];kernel_rfl)
end
end Go.Proofs.YtldlihheppdhnaaGreat
namespace Go.Proofs.YtldlihheppdhnaaGreat
noncomputable section
def anJ:Con:=aQ true [(.pair (.sl (.pair tN tI)) tN)] [(.pair tI (.pair tI tI))] λx=>Lg x.1
def auB:Cx:=cx [(69,anB),(68,afb),(70,anC)] []
theorem afv:ay Tryz.prog auB:=ay.of mixed aC (fc ⟨afp,fc ⟨a8t,fc ⟨afr,fz⟩⟩⟩) fz
theorem afw:aA Tryz.prog 26 anJ:=aB afv 8 ⟨Tryz.func26,Tryz.call26,ak⟩ _ _ _ _ (by decide) (λx=>by rw[Y0];kernel_rfl)
def anK:Con:=aQ true [(.pair tI (.pair tI tI)),tI,tN] [tI] λx=>Nl x.1 x.2.1 x.2.2.1
def auC:Cx:=cx [(210,anG)] []
theorem afx:ay Tryz.prog auC:=ay.of mixed aC (fc ⟨afu,fz⟩) fz
theorem afy:aA Tryz.prog 168 anK:=aB afx 8 ⟨Tryz.func168,Tryz.call168,ak⟩ _ _ _ _ (by decide) (λx=>by rw[Uz];kernel_rfl)
end
end Go.Proofs.YtldlihheppdhnaaGreat
namespace Go.Proofs.YtldlihheppdhnaaGreat
noncomputable section
abbrev anL:Shape:= { sl:=[(pc 2 tN 0),(pc 3 tN 1),(pc 4 (.arr 32 tI) 2),(pc 5 (.arr 32 tI) 3),(pv 6 tI)],ob:=[(pv 0 tN),(pv 1 tN),(pv 2 (.arr 32 tI)),(pv 3 (.arr 32 tI))],lo:=4,nx:=4 }
abbrev anM:List Ex:=[(.normal, { sl:=[(pc 4 (.arr 32 tI) 2),(pc 5 (.arr 32 tI) 3)],ob:=[(pv 2 (.arr 32 tI)),(pv 3 (.arr 32 tI))],lo:=4,nx:=4 })]
def anN:Code:=aY (aW Tryz.f229) 0
def acz:Lp:=dF anL anM 38 vW
def anO:Con:=aQ true [tN,tN] [(.arr 32 tI)] λx=>Uh x.1 x.2.1
def auD:Cx:=cx [] []
theorem a8C:ay Tryz.prog auD:=ay.of mixed aC fz fz
theorem anP:bY Tryz.prog 0 (.loop anN) acz:=aM a8C 8 (ak) _ _ _ _ (by decide) λ_=>by kernel_rfl
theorem anQ:eD Tryz.prog 229 Tryz.f229 [(0,acz)]:=⟨Tryz.func229,Tryz.call229,bG (by kernel_rfl) (aL anP (by kernel_rfl) fz)⟩
theorem afz:aA Tryz.prog 229 anO:=aB a8C 8 anQ _ _ _ _ (by decide) (λx=>by rw[XY];kernel_rfl)
abbrev anR:Shape:= { sl:=[(pc 2 (.arr 32 tI) 0),(pc 4 (.arr 32 tI) 1),(pc 5 (.arr 32 tI) 2),(pv 6 tI),(pv 7 tI)],ob:=[(pv 0 (.arr 32 tI)),(pv 1 (.arr 32 tI)),(pv 2 (.arr 32 tI))],lo:=3,nx:=3 }
abbrev anS:List Ex:=[(.normal, { sl:=[(pc 4 (.arr 32 tI) 1),(pc 5 (.arr 32 tI) 2)],ob:=[(pv 1 (.arr 32 tI)),(pv 2 (.arr 32 tI))],lo:=3,nx:=3 })]
def anT:Code:=aY (aW Tryz.f236) 0
def acA:Lp:=dF anR anS 28 mO
def anU:Con:=aQ true [(.arr 32 tI),tI] [(.arr 32 tI)] λx=>IL x.1 x.2.1
def auE:Cx:=cx [] []
theorem a8D:ay Tryz.prog auE:=ay.of mixed aC fz fz
theorem anV:bY Tryz.prog 0 (.loop anT) acA:=aM a8D 8 (ak) _ _ _ _ (by decide) λ_=>by kernel_rfl
theorem anW:eD Tryz.prog 236 Tryz.f236 [(0,acA)]:=⟨Tryz.func236,Tryz.call236,bG (by kernel_rfl) (aL anV (by kernel_rfl) fz)⟩
theorem afA:aA Tryz.prog 236 anU:=aB a8D 8 anW _ _ _ _ (by decide) (λx=>by rw[N7];kernel_rfl)
abbrev anX:Shape:= { sl:=[(pc 2 (.arr 32 tI) 0),(pc 3 (.arr 32 tI) 1),(pv 5 tI)],ob:=[(pv 0 (.arr 32 tI)),(pv 1 (.arr 32 tI))],lo:=2,nx:=2 }
abbrev anY:List Ex:=[(.ret, { sl:=[(4,(.v .bool))],ob:=[],lo:=2,nx:=2 }),(.normal, { sl:=[],ob:=[],lo:=2,nx:=2 })]
def anZ:Code:=aY (aW Tryz.f237) 0
def acB:Lp:=dF anX anY 24 jR
def ao0:Con:=aQ true [(.arr 32 tI),(.arr 32 tI)] [.bool] λx=>IQ x.1 x.2.1
def auF:Cx:=cx [] []
theorem a8E:ay Tryz.prog auF:=ay.of mixed aC fz fz
theorem ao1:bY Tryz.prog 0 (.loop anZ) acB:=aM a8E 8 (ak) _ _ _ _ (by decide) λ_=>by kernel_rfl
theorem ao2:eD Tryz.prog 237 Tryz.f237 [(0,acB)]:=⟨Tryz.func237,Tryz.call237,bG (by kernel_rfl) (aL ao1 (by kernel_rfl) fz)⟩
theorem afB:aA Tryz.prog 237 ao0:=aB a8E 8 ao2 _ _ _ _ (by decide) (λx=>by rw[N8];kernel_rfl)
abbrev ao3:Shape:= { sl:=[(pc 2 (.arr 32 tI) 0),(pc 3 (.arr 32 tI) 1),(pc 4 (.arr 32 tI) 2),(pv 5 tI),(pc 6 (.arr 32 tI) 3),(pv 7 tI)],ob:=[(pv 0 (.arr 32 tI)),(pv 1 (.arr 32 tI)),(pv 2 (.arr 32 tI)),(pv 3 (.arr 32 tI))],lo:=4,nx:=4 }
abbrev ao4:List Ex:=[(.normal, { sl:=[(pc 4 (.arr 32 tI) 2),(pc 6 (.arr 32 tI) 3)],ob:=[(pv 2 (.arr 32 tI)),(pv 3 (.arr 32 tI))],lo:=4,nx:=4 })]
def ao5:Code:=aY (aW Tryz.f238) 0
def acC:Lp:=dF ao3 ao4 31 lT
def ao6:Con:=aQ true [(.arr 32 tI),(.arr 32 tI)] [(.arr 32 tI)] λx=>Na x.1 x.2.1
def auG:Cx:=cx [] []
theorem a8F:ay Tryz.prog auG:=ay.of mixed aC fz fz
theorem ao7:bY Tryz.prog 0 (.loop ao5) acC:=aM a8F 8 (ak) _ _ _ _ (by decide) λ_=>by kernel_rfl
theorem ao8:eD Tryz.prog 238 Tryz.f238 [(0,acC)]:=⟨Tryz.func238,Tryz.call238,bG (by kernel_rfl) (aL ao7 (by kernel_rfl) fz)⟩
theorem afC:aA Tryz.prog 238 ao6:=aB a8F 8 ao8 _ _ _ _ (by decide) (λx=>by rw[QF];kernel_rfl)
abbrev ao9:Shape:= { sl:=[(pc 2 (.arr 32 tI) 0),(pc 3 (.arr 32 tI) 1),(pc 4 (.arr 32 tI) 2),(pc 5 (.arr 32 tI) 3),(pc 6 (.arr 32 tI) 4),(pc 7 (.arr 32 tI) 5),(pv 8 tI)],ob:=[(pv 0 (.arr 32 tI)),(pv 1 (.arr 32 tI)),(pv 2 (.arr 32 tI)),(pv 3 (.arr 32 tI)),(pv 4 (.arr 32 tI)),(pv 5 (.arr 32 tI))],lo:=6,nx:=6 }
abbrev aoa:List Ex:=[(.normal, { sl:=[(pc 4 (.arr 32 tI) 2),(pc 5 (.arr 32 tI) 3),(pc 6 (.arr 32 tI) 4),(pc 7 (.arr 32 tI) 5)],ob:=[(pv 2 (.arr 32 tI)),(pv 3 (.arr 32 tI)),(pv 4 (.arr 32 tI)),(pv 5 (.arr 32 tI))],lo:=6,nx:=6 })]
def aob:Code:=aY (aW Tryz.f228) 0
def acD:Lp:=dF ao9 aoa 45 jf
def aoc:Con:=aQ true [(.arr 32 tI),(.arr 32 tI)] [(.arr 32 tI),(.arr 32 tI)] λx=>El x.1 x.2.1
def auH:Cx:=cx [(236,anU),(237,ao0),(238,ao6)] []
theorem a8G:ay Tryz.prog auH:=ay.of mixed aC (fc ⟨afA,fc ⟨afB,fc ⟨afC,fz⟩⟩⟩) fz
theorem aod:bY Tryz.prog 0 (.loop aob) acD:=aM a8G 8 (ak) _ _ _ _ (by decide) λ_=>by kernel_rfl
theorem aoe:eD Tryz.prog 228 Tryz.f228 [(0,acD)]:=⟨Tryz.func228,Tryz.call228,bG (by kernel_rfl) (aL aod (by kernel_rfl) fz)⟩
theorem afD:aA Tryz.prog 228 aoc:=aB a8G 8 aoe _ _ _ _ (by decide) (λx=>by rw[JY];kernel_rfl)
abbrev aof:Shape:= { sl:=[(pc 1 (.arr 32 tI) 0),(pc 2 tN 1),(pc 3 tN 2),(pc 4 tN 3),(pc 5 tN 4),(pv 6 tI)],ob:=[(pv 0 (.arr 32 tI)),(pv 1 tN),(pv 2 tN),(pv 3 tN),(pv 4 tN)],lo:=5,nx:=5 }
abbrev aog:List Ex:=[(.normal, { sl:=[(pc 2 tN 1),(pc 3 tN 2),(pc 4 tN 3),(pc 5 tN 4)],ob:=[(pv 1 tN),(pv 2 tN),(pv 3 tN),(pv 4 tN)],lo:=5,nx:=5 })]
def aoh:Code:=aY (aW Tryz.f230) 0
def acE:Lp:=dF aof aog 48 pJ
def aoi:Con:=aQ true [(.arr 32 tI)] [tN,tN] λx=>MZ x.1
def auI:Cx:=cx [] []
theorem a8H:ay Tryz.prog auI:=ay.of mixed aC fz fz
theorem aoj:bY Tryz.prog 0 (.loop aoh) acE:=aM a8H 8 (ak) _ _ _ _ (by decide) λ_=>by kernel_rfl
theorem aok:eD Tryz.prog 230 Tryz.f230 [(0,acE)]:=⟨Tryz.func230,Tryz.call230,bG (by kernel_rfl) (aL aoj (by kernel_rfl) fz)⟩
theorem afE:aA Tryz.prog 230 aoi:=aB a8H 8 aok _ _ _ _ (by decide) (λx=>by rw[QE];kernel_rfl)
def aol:Con:=aQ true [tN,tN,tN] [tN,tI] λx=>Nb x.1 x.2.1 x.2.2.1
def auJ:Cx:=cx [(229,anO),(228,aoc),(230,aoi)] []
theorem afF:ay Tryz.prog auJ:=ay.of mixed aC (fc ⟨afz,fc ⟨afD,fc ⟨afE,fz⟩⟩⟩) fz
theorem afG:aA Tryz.prog 209 aol:=aB afF 8 ⟨Tryz.func209,Tryz.call209,ak⟩ _ _ _ _ (by decide) (λx=>by rw[Um];kernel_rfl)
end
end Go.Proofs.YtldlihheppdhnaaGreat
namespace Go.Proofs.YtldlihheppdhnaaGreat
noncomputable section
def aom:Con:=aQ true [tN,tI] [tI] λx=>Zj x.1 x.2.1
def auK:Cx:=cx [(71,a5Y),(209,aol),(68,afb)] []
theorem afH:ay Tryz.prog auK:=ay.of mixed aC (fc ⟨UC,fc ⟨afG,fc ⟨a8t,fz⟩⟩⟩) fz
theorem afI:aA Tryz.prog 167 aom:=aB afH 8 ⟨Tryz.func167,Tryz.call167,ak⟩ _ _ _ _ (by decide) (λx=>by rw[XZ];kernel_rfl)
abbrev aon:Shape:= { sl:=[(0,(.sz tN)),(pv 1 tI),(5,(.w 3 tI 0)),(pv 6 tI)],ob:=[],lo:=0,nx:=1 }
abbrev aoo:List Ex:=[(.normal, { sl:=[(5,(.w 3 tI 1))],ob:=[],lo:=1,nx:=2 })]
def aop:Code:=aY (aW Tryz.f121) 0
def acF:Lp:=dF aon aoo 23 sP
def aoq:Con:=aQ false [(.sl tN),tI] [(.sl tI)] λx=>wZ x.1.1 x.1.2 x.2.1
def auL:Cx:=cx [(167,aom)] []
theorem a8I:ay Tryz.prog auL:=ay.of mixed aC (fc ⟨afI,fz⟩) fz
theorem aor:bY Tryz.prog 0 (.loop aop) acF:=aM a8I 8 (ak) _ _ _ _ (by decide) λ_=>by kernel_rfl
theorem aos:eD Tryz.prog 121 Tryz.f121 [(0,acF)]:=⟨Tryz.func121,Tryz.call121,bG (by kernel_rfl) (aL aor (by kernel_rfl) fz)⟩
theorem afJ:aA Tryz.prog 121 aoq:=aB a8I 8 aos _ _ _ _ (by decide) (λx=>by rw[Ux];kernel_rfl)
def aot:Con:=aQ true [tI,tI,tI] [tI] λx=>Nj x.1 x.2.1 x.2.2.1
def auM:Cx:=cx [(211,afs)] []
theorem afK:ay Tryz.prog auM:=ay.of mixed aC (fc ⟨a8A,fz⟩) fz
theorem afL:aA Tryz.prog 170 aot:=aB afK 8 ⟨Tryz.func170,Tryz.call170,ak⟩ _ _ _ _ (by decide) (λx=>by rw[Ut];kernel_rfl)
def aou:Con:=aQ true [tI,tI,tI] [tI] λx=>Sq x.1 x.2.1 x.2.2.1
def auN:Cx:=cx [] []
theorem afM:ay Tryz.prog auN:=ay.of mixed aC fz fz
theorem afN:aA Tryz.prog 169 aou:=aB afM 8 ⟨Tryz.func169,Tryz.call169,ak⟩ _ _ _ _ (by decide) (λx=>by rw[Ur];kernel_rfl)
abbrev aov:Shape:= { sl:=[(0,(.sz tN)),(1,(.sz tN)),(pv 5 tI)],ob:=[],lo:=0,nx:=0 }
abbrev aow:List Ex:=[(.ret, { sl:=[(4,(.v .bool))],ob:=[],lo:=0,nx:=0 }),(.normal, { sl:=[],ob:=[],lo:=0,nx:=0 })]
def aox:Code:=aY (aW Tryz.f76) 0
def acG:Lp:=dF aov aow 26 lU
def afO:Con:=aQ true [(.sl tN),(.sl tN)] [.bool] λx=>GZ x.1.1 x.1.2 x.2.1.1 x.2.1.2
def auO:Cx:=cx [] []
theorem a8J:ay Tryz.prog auO:=ay.of mixed aC fz fz
theorem aoy:bY Tryz.prog 0 (.loop aox) acG:=aM a8J 8 (ak) _ _ _ _ (by decide) λ_=>by kernel_rfl
theorem aoz:eD Tryz.prog 76 Tryz.f76 [(0,acG)]:=⟨Tryz.func76,Tryz.call76,bG (by kernel_rfl) (aL aoy (by kernel_rfl) fz)⟩
theorem a8K:aA Tryz.prog 76 afO:=aB a8J 8 aoz _ _ _ _ (by decide) (λx=>by rw[QH];kernel_rfl)
end
end Go.Proofs.YtldlihheppdhnaaGreat
namespace Go.Proofs.YtldlihheppdhnaaGreat
noncomputable def aoA:Con:=aQ true [(.ptr tGR),tN] [.bool] λx=>H6 x.1 x.2.1
noncomputable def afP:Cx:=cx [(65,abb),(63,ab9)] []
theorem afQ:ay Tryz.prog afP:=ay.of mixed aC (fc ⟨a3r,fc ⟨a3q,fz⟩⟩) fz
theorem auP(g)(a):cu afP [] (dX afP 8) Tryz.f181 (jv [(.ptr tGR),tN] (g,a,())) [] 0 (kD [.bool])=IW g a:=by cases g<;>kernel_rfl
theorem afR:aA Tryz.prog 181 aoA:=aB afQ 8 ⟨Tryz.func181,Tryz.call181,ak⟩ _ _ _ _ (by decide) (λx=>by rw[QJ];exact auP x.1 x.2.1)
end Go.Proofs.YtldlihheppdhnaaGreat
namespace Go.Proofs.YtldlihheppdhnaaGreat
noncomputable section
def afS:Con:=aQ true [(.ptr tGR),tN] [.bool] λx=>Np x.1 x.2.1
def afT:Cx:=cx [(213,abd),(63,ab9),(214,amQ),(64,a8l),(62,a3n)] []
theorem afU:ay Tryz.prog afT:=ay.of mixed aC (fc ⟨a3s,fc ⟨a3q,fc ⟨af7,fc ⟨Zp,fc ⟨P5,fz⟩⟩⟩⟩⟩) fz
theorem auQ(g)(a):cu afT [] (dX afT 8) Tryz.f180 (jv [(.ptr tGR),tN] (g,a,())) [] 0 (kD [.bool])=IY g a:=by cases g<;>kernel_rfl
theorem a8L:aA Tryz.prog 180 afS:=aB afU 8 ⟨Tryz.func180,Tryz.call180,ak⟩ _ _ _ _ (by decide) (λx=>by rw[QL];exact auQ x.1 x.2.1)
def aoB:Con:=aQ true [(.ptr tGR),tN,tN] [tN] λx=>Da x.1 x.2.1 x.2.2.1
def afV:Cx:=cx [(213,abd),(64,a8l)] []
theorem afW:ay Tryz.prog afV:=ay.of mixed aC (fc ⟨a3s,fc ⟨Zp,fz⟩⟩) fz
theorem auR(g)(a)(e):cu afV [] (dX afV 8) Tryz.f215 (jv [(.ptr tGR),tN,tN] (g,a,e,())) [] 0 (kD [tN])=En g a e:=by cases g<;>kernel_rfl
theorem afX:aA Tryz.prog 215 aoB:=aB afW 8 ⟨Tryz.func215,Tryz.call215,ak⟩ _ _ _ _ (by decide) (λx=>by rw[Nn];exact auR x.1 x.2.1 x.2.2.1)
def aoC:Con:=aQ true [(.ptr tGR),tN] [tN] λx=>H8 x.1 x.2.1
def afY:Cx:=cx [(216,amR),(215,aoB)] []
theorem afZ:ay Tryz.prog afY:=ay.of mixed aC (fc ⟨afa,fc ⟨afX,fz⟩⟩) fz
theorem auS(g)(e):cu afY [] (dX afY 8) Tryz.f182 (jv [(.ptr tGR),tN] (g,e,())) [] 0 (kD [tN])=IX g e:=by cases g<;>kernel_rfl
theorem ag0:aA Tryz.prog 182 aoC:=aB afZ 8 ⟨Tryz.func182,Tryz.call182,ak⟩ _ _ _ _ (by decide) (λx=>by rw[QK];exact auS x.1 x.2.1)
def aoD:Con:=aQ true [(.ptr tGR),(.sl tN),(.sl tN)] [tN,tI] λx=>Bo x.1 x.2.1.1 x.2.1.2 x.2.2.1.1 x.2.2.1.2
def ag1:Cx:=cx [(213,abd),(116,aeM)] []
theorem ag2:ay Tryz.prog ag1:=ay.of mixed aC (fc ⟨a3s,fc ⟨a8k,fz⟩⟩) fz
theorem auT(g)(nbases)(bases)(nexps)(exps):cu ag1 [] (dX ag1 8) Tryz.f217 (jv [(.ptr tGR),(.sl tN),(.sl tN)] (g,(nbases,bases),(nexps,exps),())) [] 0 (kD [tN,tI])=zn g nbases bases nexps exps:=by cases g<;>kernel_rfl
theorem ag3:aA Tryz.prog 217 aoD:=aB ag2 8 ⟨Tryz.func217,Tryz.call217,ak⟩ _ _ _ _ (by decide) (λx=>by rw[H7];exact auT x.1 x.2.1.1 x.2.1.2 x.2.2.1.1 x.2.2.1.2)
end
end Go.Proofs.YtldlihheppdhnaaGreat
