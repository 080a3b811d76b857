/-
  The functions of the program are the plain ones.
-/
import Derived.Test.YtlohbhpbkieoeaaGreatProg
import Derived.Test.YtlohbhpbkieoeaaGreatDenD
import Derived.KernelRfl
import Derived.Test.YtlohbhpbkieoeaaGreatDenM
import Derived.Test.YtlohbhpbkieoeaaGreatPlA
set_option linter.unusedVariables false
set_option linter.unusedSimpArgs false
set_option maxRecDepth 100000
set_option maxHeartbeats 0
namespace Go.Pl
end Go.Pl
open Go Go.Den Go.Pl
namespace Go.Proofs.YtlohbhpbkieoeaaGreat
noncomputable section
abbrev tN:Ty:=.arr 4 (.int .u64)
abbrev tU:Ty:=.int .u64
abbrev tI:Ty:=.int .i64
abbrev pc(i:Nat)(t:Ty)(r:Nat):Nat×Pat:=(i,.c ⟨.ptr t,.rf r []⟩)
abbrev pv(i:Nat)(t:Ty):Nat×Pat:=(i,.v t)
theorem fc {α:Type _}{p:α->Prop}{a:α}{l:List α}(h:p a/\ ∀x∈l,p x): ∀x∈a::l,p x:=awt.2 h
theorem fz {α:Type _}{p:α->Prop} : ∀x∈([]:List α),p x:=List.forall_mem_nil _
abbrev oSV(s:Nat)(q:Option Nat)(a:Nat)(w:Pat):Nat×Pat:=(0,.p (.pz tGR) (.p (.v tI) (.p (.v tI) (.p (.v tI) (.p (.v tI) (.p (.c ⟨.ptr tSP,.rf s []⟩) (.p (.bg .str tRC a q) w)))))))
abbrev oSP(s a b:Nat):Nat×Pat:=(s,.p (.v tI) (.p (.v tI) (.p (.w 9 .str a) (.m tI tI b))))
abbrev oS(a b c:Nat)(l:List (Nat×Pat)):List (Nat×Pat):=oSV 1 none a (.sz tOU)::oSP 1 b c::l
abbrev ZZ0:Pat:=.p (.v tVA) (.p (.v .str) (.p (.c ⟨(.ptr tVT),(.rf 2 [])⟩) (.p (.c ⟨(.ptr tVT),(.rf 3 [])⟩) (.v (.arr 4 tCL)))))
abbrev ZZ1:Pat:=.p (.v tI) (.p (.v tI) (.p (.v tI) (.p (.sz tI) (.sz tR))))
abbrev ZZ2:Pat:=.p (.v (.pair tI tI)) (.p (.v .str) (.p (.sz (.sl tN)) (.p (.sz tN) (.v tI))))
abbrev ZZ3:Pat:=.p (.pz tGR) (.p (.v tI) (.p (.v tI) (.p (.v tI) (.p (.v tI) (.p (.c ⟨(.ptr tSP),(.rf 4 [])⟩) (.p (.bg .str tRC 18 (some 1)) (.sz tOU)))))))
abbrev ZZ4:Pat:=.p (.v .str) (.p ZZ2 (.p (.sz tV) (.p (.sz tV) (.sz tT))))
abbrev ZZ5:Pat:=.p (.pz tGR) (.p (.v tI) (.p (.v tI) (.p (.v tI) (.p (.v tI) (.p (.c ⟨(.ptr tSP),(.rf 4 [])⟩) (.p (.bg .str tRC 14 (some 1)) (.sz tOU)))))))
abbrev ZZ6:Pat:=.p (.v tI) (.p (.v tI) (.p (.w 9 .str 19) (.m tI tI 20)))
abbrev ZZ7:Pat:=.p (.v tVA) (.p (.v .str) (.p (.c ⟨(.ptr tVT),(.rf 19 [])⟩) (.p (.c ⟨(.ptr tVT),(.rf 49 [])⟩) (.v (.arr 4 tCL)))))
abbrev ZZ8:Pat:=.p (.v tI) (.p (.v tI) (.p (.w 9 .str 15) (.m tI tI 16)))
abbrev ZZ9:Pat:=.p (.v tI) (.p (.v tI) (.p (.w 9 .str 6) (.m tI tI 7)))
abbrev ZZa:Pat:=.p (.pz tGR) (.p (.v tI) (.p (.v tI) (.p (.v tI) (.p (.v tI) (.p (.c ⟨(.ptr tSP),(.rf 4 [])⟩) (.p (.bg .str tRC 22 (some 1)) (.sz tOU)))))))
abbrev ZZb:Pat:=.p (.pz tGR) (.p (.v tI) (.p (.v tI) (.p (.v tI) (.p (.v tI) (.p (.c ⟨(.ptr tSP),(.rf 4 [])⟩) (.p (.bg .str tRC 10 (some 1)) (.sz tOU)))))))
abbrev ZZc:Pat:=.p (.pz tGR) (.p (.v tI) (.p (.v tI) (.p (.v tI) (.p (.v tI) (.p (.c ⟨(.ptr tSP),(.rf 4 [])⟩) (.p (.bg .str tRC 5 (some 1)) (.sz tOU)))))))
abbrev ZZd:Pat:=.p (.v tVA) (.p (.v .str) (.p (.c ⟨(.ptr tVT),(.rf 26 [])⟩) (.p (.c ⟨(.ptr tVT),(.rf 27 [])⟩) (.v (.arr 4 tCL)))))
abbrev ZZe:Pat:=.p (.v tI) (.p (.v tI) (.p (.w 9 .str 11) (.m tI tI 12)))
abbrev ZZf:Pat:=.p (.v tI) (.p (.v tI) (.p (.v tI) (.p (.c ⟨(.sl tI),.nil⟩) (.c ⟨(.sl tR),.nil⟩))))
abbrev fd(n:String)(t o b:Nat)(p:= "")(e:=false):Field:=⟨n,t,o,e, "",p,b⟩
abbrev y70:Ty:=.sl (.int .u8)
abbrev aso:Ty:=.arr 256 .bool
abbrev y22:Ty:=.sl (.int .i64)
abbrev asq:Ty:=.ptr (.int .u8)
abbrev asr:Ty:=.sl (.int .u64)
abbrev asu:Ty:=.sl (.int .u32)
abbrev aiO:Ty:=.pair .str .bool
abbrev asv:Ty:=.arr 8 (.int .u8)
abbrev y35:Ty:=.arr 4 (.int .u64)
abbrev asw:Ty:=.arr 8 (.int .i64)
abbrev aiP:Ty:=.arr 8 (.int .u32)
abbrev aiQ:Ty:=.arr 64 (.int .u8)
abbrev asx:Ty:=.arr 8 (.int .u64)
abbrev asy:Ty:=.arr 6 (.int .u64)
abbrev asz:Ty:=.arr 64 (.int .i64)
abbrev asA:Ty:=.arr 64 (.int .u32)
abbrev asB:Ty:=.arr 32 (.int .i64)
abbrev asC:Ty:=.ptr aiO
abbrev y53:Ty:=.sl y35
abbrev aiR:Ty:=.arr 16 y35
abbrev y50:Ty:=.pair (.int .i64) (.int .i64)
abbrev y52:Ty:=.sl y53
abbrev aiS:Ty:=.pair (.sp 131) y70
abbrev asD:Ty:=.sl aiR
abbrev y77:Ty:=.pair y35 (.int .i64)
abbrev asE:Ty:=.pair (.int .i64) y35
abbrev aaP:Ty:=.pair y50 .str
abbrev y32:Ty:=.sl y77
abbrev asF:Ty:=.pair (.int .i64) y53
abbrev asG:Ty:=.pair aiS .bool
abbrev y44:Ty:=.pair (.int .i64) y50
abbrev asH:Ty:=.ptr aaP
abbrev aiT:Ty:=.arr 2 aaP
abbrev y160:Ty:=.pair (.int .i64) (.pair (.int .i64) (.pair (.sl .str) .mp))
abbrev aiU:Ty:=.arr 4 aiT
abbrev y62:Ty:=.pair (.int .i64) aaP
abbrev y88:Ty:=.ptr y160
abbrev y56:Ty:=.sl y62
abbrev aiV:Ty:=.arr 7 aiU
abbrev y37:Ty:=.pair y32 y35
abbrev asI:Ty:=.pair (.int .i64) (.pair (.int .i64) (.pair (.sl .str) y22))
abbrev aiW:Ty:=.pair .bool (.pair aiP (.pair aiQ (.int .i64)))
abbrev asJ:Ty:=.ptr aiW
abbrev aiX:Ty:=.pair (.int .i64) aiV
abbrev y114:Ty:=.ptr aiX
abbrev y150:Ty:=.pair y35 (.pair (.int .u64) (.pair y35 y35))
abbrev y73:Ty:=.ptr y150
abbrev y113:Ty:=.pair y50 (.pair .str (.pair (.st y53) (.st y35)))
abbrev y55:Ty:=.pair y50 (.pair .str (.pair y52 (.pair y53 (.int .i64))))
abbrev adP:Ty:=.pair y113 (.int .i64)
abbrev asK:Ty:=.sl y55
abbrev aiY:Ty:=.arr 2 adP
abbrev aiZ:Ty:=.pair (.int .i64) (.pair (.int .i64) (.pair .str (.pair y50 (.pair .str (.pair y52 y53)))))
abbrev aj0:Ty:=.pair (.int .i64) aiZ
abbrev y92:Ty:=.sl aj0
abbrev y83:Ty:=.pair y73 y73
abbrev y85:Ty:=.pair y83 y35
abbrev y28:Ty:=.ptr y85
abbrev aj1:Ty:=.pair aiY (.pair adP y50)
abbrev aj2:Ty:=.arr 4 aj1
abbrev y64:Ty:=.pair y55 (.pair y55 (.pair y55 y50))
abbrev y57:Ty:=.sl y64
abbrev y94:Ty:=.pair y28 (.pair (.int .i64) (.pair (.int .i64) (.pair (.int .i64) (.pair (.int .i64) (.pair y88 (.pair .mp y92))))))
abbrev y39:Ty:=.ptr y94
abbrev aj3:Ty:=.pair y113 (.pair .str (.pair y114 (.pair y114 aj2)))
abbrev y95:Ty:=.ptr aj3
abbrev y59:Ty:=.pair .str (.pair y55 (.pair y56 (.pair y56 y57)))
abbrev y23:Ty:=.sl y59
abbrev y25:Ty:=.pair (.int .i64) (.pair (.int .i64) (.pair (.int .i64) (.pair y22 y23)))
abbrev q3:Nat×TI:=(3,⟨(TypeDesc.int IntKind.i64),(.int .i64),8⟩)
abbrev q4:Nat×TI:=(4,⟨TypeDesc.bool,.bool,1⟩)
abbrev q5:Nat×TI:=(5,⟨(TypeDesc.int IntKind.u8),(.int .u8),1⟩)
abbrev q9:Nat×TI:=(9,⟨TypeDesc.string,.str,16⟩)
abbrev q22:Nat×TI:=(22,⟨(TypeDesc.slice 3),y22,24⟩)
abbrev q23:Nat×TI:=(23,⟨(TypeDesc.slice 59),y23,24⟩)
abbrev q25:Nat×TI:=(25,⟨(TypeDesc.struct #[fd "T" 3 0 0,fd "Number" 3 1 8,fd "Clients" 3 2 16,fd "Used" 22 3 24,fd "Records" 23 4 48]),y25,72⟩)
abbrev q28:Nat×TI:=(28,⟨(TypeDesc.pointer 85),y28,8⟩)
abbrev q29:Nat×TI:=(29,⟨(TypeDesc.int IntKind.i64),(.int .i64),8⟩)
abbrev q32:Nat×TI:=(32,⟨(TypeDesc.slice 77),y32,24⟩)
abbrev q33:Nat×TI:=(33,⟨(TypeDesc.int IntKind.u64),(.int .u64),8⟩)
abbrev q35:Nat×TI:=(35,⟨(TypeDesc.array 4 33),y35,32⟩)
abbrev q37:Nat×TI:=(37,⟨(TypeDesc.struct #[fd "Chain" 32 0 0,fd "G" 35 1 24]),y37,56⟩)
abbrev q39:Nat×TI:=(39,⟨(TypeDesc.pointer 94),y39,8⟩)
abbrev q44:Nat×TI:=(44,⟨(TypeDesc.struct #[fd "P" 3 0 0,fd "Q" 3 1 8,fd "G" 3 2 16]),y44,24⟩)
abbrev q50:Nat×TI:=(50,⟨(TypeDesc.struct #[fd "Seq" 3 0 0,fd "Client" 3 1 8]),y50,16⟩)
abbrev q52:Nat×TI:=(52,⟨(TypeDesc.slice 53),y52,24⟩)
abbrev q53:Nat×TI:=(53,⟨(TypeDesc.slice 35),y53,24⟩)
abbrev q55:Nat×TI:=(55,⟨(TypeDesc.struct #[fd "Stamp" 50 0 0,fd "Digest" 9 2 16,fd "Matrix" 52 3 32,fd "Ys" 53 4 56,fd "Op" 3 5 80]),y55,88⟩)
abbrev q56:Nat×TI:=(56,⟨(TypeDesc.slice 62),y56,24⟩)
abbrev q57:Nat×TI:=(57,⟨(TypeDesc.slice 64),y57,24⟩)
abbrev q59:Nat×TI:=(59,⟨(TypeDesc.struct #[fd "Key" 9 0 0,fd "Held" 55 1 16,fd "Echoes" 56 7 104,fd "Readies" 56 8 128,fd "Clients" 57 9 152]),y59,176⟩)
abbrev q62:Nat×TI:=(62,⟨(TypeDesc.struct #[fd "Server" 3 0 0,fd "Stamp" 50 1 8,fd "Digest" 9 3 24]),y62,40⟩)
abbrev q64:Nat×TI:=(64,⟨(TypeDesc.struct #[fd "Even" 55 0 0,fd "Odd" 55 6 88,fd "Waits" 55 12 176,fd "Op" 3 18 264,fd "Left" 3 19 272]),y64,280⟩)
abbrev q70:Nat×TI:=(70,⟨(TypeDesc.slice 5),y70,24⟩)
abbrev q73:Nat×TI:=(73,⟨(TypeDesc.pointer 150),y73,8⟩)
abbrev q77:Nat×TI:=(77,⟨(TypeDesc.struct #[fd "N" 35 0 0,fd "A" 3 4 32]),y77,40⟩)
abbrev q83:Nat×TI:=(83,⟨(TypeDesc.struct #[fd "ring" 73 0 0 "sacristy/group",fd "field" 73 1 8 "sacristy/group"]),y83,16⟩)
abbrev q85:Nat×TI:=(85,⟨(TypeDesc.struct #[fd "rings" 83 0 0 "sacristy/group" true,fd "g" 35 2 16 "sacristy/group"]),y85,48⟩)
abbrev q87:Nat×TI:=(87,⟨(TypeDesc.slice 9),(.sl .str),24⟩)
abbrev q88:Nat×TI:=(88,⟨(TypeDesc.pointer 160),y88,8⟩)
abbrev q91:Nat×TI:=(91,⟨(TypeDesc.map 9 95),.mp,8⟩)
abbrev q92:Nat×TI:=(92,⟨(TypeDesc.slice 315),y92,24⟩)
abbrev q94:Nat×TI:=(94,⟨(TypeDesc.struct #[fd "g" 28 0 0 "sacristy/server",fd "t" 3 1 8 "sacristy/server",fd "number" 3 2 16 "sacristy/server",fd "n" 3 3 24 "sacristy/server",fd "m" 3 4 32 "sacristy/server",fd "space" 88 5 40 "sacristy/server",fd "records" 91 6 48 "sacristy/server",fd "out" 92 7 56 "sacristy/server"]),y94,80⟩)
abbrev q95:Nat×TI:=(95,⟨(TypeDesc.pointer 122),y95,8⟩)
abbrev aj4:Nat×TI:=(100,⟨(TypeDesc.struct #[fd "N" 3 0 0,fd "M" 3 1 8,fd "Keys" 87 2 16,fd "Ends" 22 3 40]),asI,64⟩)
abbrev aj5:Nat×TI:=(103,⟨(TypeDesc.slice 55),asK,24⟩)
abbrev aj6:Nat×TI:=(113,⟨(TypeDesc.struct #[fd "stamp" 50 0 0 "sacristy/server",fd "digest" 9 2 16 "sacristy/server",fd "m" 52 3 32 "sacristy/server",fd "ys" 53 4 56 "sacristy/server"]),y113,80⟩)
abbrev aj7:Nat×TI:=(114,⟨(TypeDesc.pointer 231),y114,8⟩)
abbrev aj8:Nat×TI:=(116,⟨(TypeDesc.struct #[fd "value" 113 0 0 "sacristy/server" true,fd "op" 3 5 80 "sacristy/server"]),adP,88⟩)
abbrev aj9:Nat×TI:=(117,⟨(TypeDesc.array 2 116),aiY,176⟩)
abbrev aja:Nat×TI:=(119,⟨(TypeDesc.struct #[fd "props" 117 0 0 "sacristy/server",fd "waits" 116 12 176 "sacristy/server",fd "op" 3 18 264 "sacristy/server",fd "left" 3 19 272 "sacristy/server"]),aj1,280⟩)
abbrev ajb:Nat×TI:=(120,⟨(TypeDesc.array 4 119),aj2,1120⟩)
abbrev ajc:Nat×TI:=(122,⟨(TypeDesc.struct #[fd "value" 113 0 0 "sacristy/server" true,fd "key" 9 5 80 "sacristy/server",fd "echoes" 114 6 96 "sacristy/server",fd "readies" 114 7 104 "sacristy/server",fd "clients" 120 8 112 "sacristy/server"]),aj3,1232⟩)
abbrev ajd:Nat×TI:=(129,⟨(TypeDesc.pointer 131),(.sp 131),8⟩)
abbrev aje:Nat×TI:=(131,⟨(TypeDesc.struct #[fd "addr" 129 0 0 "strings",fd "buf" 70 1 8 "strings"]),aiS,32⟩)
abbrev ajf:Nat×TI:=(133,⟨(TypeDesc.struct #[fd "Builder" 131 0 0 "" true,fd "bad" 4 2 32 "sacristy/keep"]),asG,40⟩)
abbrev ajg:Nat×TI:=(137,⟨(TypeDesc.pointer 139),asC,8⟩)
abbrev ajh:Nat×TI:=(139,⟨(TypeDesc.struct #[fd "rest" 9 0 0 "sacristy/keep",fd "bad" 4 1 16 "sacristy/keep"]),aiO,24⟩)
abbrev aji:Nat×TI:=(144,⟨(TypeDesc.array 8 3),asw,64⟩)
abbrev ajj:Nat×TI:=(150,⟨(TypeDesc.struct #[fd "m" 35 0 0 "sacristy/mont",fd "inv" 33 4 32 "sacristy/mont",fd "one" 35 5 40 "sacristy/mont",fd "square" 35 9 72 "sacristy/mont"]),y150,104⟩)
abbrev ajk:Nat×TI:=(158,⟨(TypeDesc.map 3 3),.mp,8⟩)
abbrev ajl:Nat×TI:=(160,⟨(TypeDesc.struct #[fd "servers" 3 0 0 "sacristy/space",fd "clients" 3 1 8 "sacristy/space",fd "keys" 87 2 16 "sacristy/space",fd "used" 158 3 40 "sacristy/space"]),y160,48⟩)
abbrev ajm:Nat×TI:=(174,⟨(TypeDesc.struct #[fd "I" 3 0 0,fd "Ys" 53 1 8]),asF,32⟩)
abbrev ajn:Nat×TI:=(177,⟨(TypeDesc.array 256 4),aso,256⟩)
abbrev ajo:Nat×TI:=(193,⟨(TypeDesc.pointer 5),asq,8⟩)
abbrev ajp:Nat×TI:=(195,⟨(TypeDesc.int IntKind.u64),(.int .u64),8⟩)
abbrev ajq:Nat×TI:=(198,⟨(TypeDesc.pointer 247),asJ,8⟩)
abbrev ajr:Nat×TI:=(200,⟨(TypeDesc.array 64 3),asz,512⟩)
abbrev ajs:Nat×TI:=(211,⟨(TypeDesc.slice 212),asD,24⟩)
abbrev ajt:Nat×TI:=(212,⟨(TypeDesc.array 16 35),aiR,512⟩)
abbrev aju:Nat×TI:=(222,⟨(TypeDesc.struct #[fd "I" 3 0 0,fd "Y" 35 1 8]),asE,40⟩)
abbrev ajv:Nat×TI:=(226,⟨(TypeDesc.struct #[fd "stamp" 50 0 0 "sacristy/votes",fd "digest" 9 2 16 "sacristy/votes"]),aaP,32⟩)
abbrev ajw:Nat×TI:=(227,⟨(TypeDesc.array 2 226),aiT,64⟩)
abbrev ajx:Nat×TI:=(228,⟨(TypeDesc.array 4 227),aiU,256⟩)
abbrev ajy:Nat×TI:=(229,⟨(TypeDesc.array 7 228),aiV,1792⟩)
abbrev ajz:Nat×TI:=(231,⟨(TypeDesc.struct #[fd "n" 3 0 0 "sacristy/votes",fd "places" 229 1 8 "sacristy/votes"]),aiX,1800⟩)
abbrev ajA:Nat×TI:=(232,⟨(TypeDesc.pointer 226),asH,8⟩)
abbrev ajB:Nat×TI:=(242,⟨(TypeDesc.int IntKind.u32),(.int .u32),4⟩)
abbrev ajC:Nat×TI:=(243,⟨(TypeDesc.array 8 242),aiP,32⟩)
abbrev ajD:Nat×TI:=(245,⟨(TypeDesc.array 64 5),aiQ,64⟩)
abbrev ajE:Nat×TI:=(247,⟨(TypeDesc.struct #[fd "given" 4 0 0 "sacristy/sha",fd "words" 243 1 4 "sacristy/sha",fd "rest" 245 9 36 "sacristy/sha",fd "n" 3 73 104 "sacristy/sha"]),aiW,112⟩)
abbrev ajF:Nat×TI:=(249,⟨(TypeDesc.array 8 5),asv,8⟩)
abbrev ajG:Nat×TI:=(253,⟨(TypeDesc.array 8 33),asx,64⟩)
abbrev ajH:Nat×TI:=(256,⟨(TypeDesc.slice 33),asr,24⟩)
abbrev ajI:Nat×TI:=(259,⟨(TypeDesc.array 6 33),asy,48⟩)
abbrev ajJ:Nat×TI:=(271,⟨(TypeDesc.array 64 242),asA,256⟩)
abbrev ajK:Nat×TI:=(275,⟨(TypeDesc.slice 242),asu,24⟩)
abbrev ajL:Nat×TI:=(290,⟨(TypeDesc.array 32 3),asB,256⟩)
abbrev ajM:Nat×TI:=(313,⟨(TypeDesc.struct #[fd "Kind" 3 0 0,fd "Op" 3 1 8,fd "Key" 9 2 16,fd "Stamp" 50 3 32,fd "Digest" 9 5 48,fd "Matrix" 52 6 64,fd "Ys" 53 7 88]),aiZ,112⟩)
abbrev ajN:Nat×TI:=(315,⟨(TypeDesc.struct #[fd "To" 3 0 0,fd "M" 313 1 8]),aj0,120⟩)
def ti:List (Nat×TI):=[q3,q4,q5,q9,q22,q23,q25,q28,q29,q32,q33,q35,q37,q39,q44,q50,q52,q53,q55,q56,q57,q59,q62,q64,q70,q73,q77,q83,q85,q87,q88,q91,q92,q94,q95,aj4,aj5,aj6,aj7,aj8,aj9,aja,ajb,ajc,ajd,aje,ajf,ajg,ajh,aji,ajj,ajk,ajl,ajm,ajn,ajo,ajp,ajq,ajr,ajs,ajt,aju,ajv,ajw,ajx,ajy,ajz,ajA,ajB,ajC,ajD,ajE,ajF,ajG,ajH,ajI,ajJ,ajK,ajL,ajM,ajN]
theorem tq {q:Nat×TI}(u:Tryz.prog.underlying q.1=some q.2.desc)(s:kM ti q.2)(i:(Tryz.prog.info? q.1).map (λi=>(i.size,i.bytes))=some (q.2.ty.size,q.2.bytes):=by kernel_rfl)(z:(Tryz.prog.info? q.1).bind (λi=>i.zero)=some (mkV q.2.ty q.2.ty.zcells):=by kernel_rfl)(h: ∀T0,q.2.ty.head=some T0->T0=q.1:=by intro _ h;cases h<;>rfl)(e:q.2.ty.agg=true->q.2.ty.flat=true->Tryz.prog.eqGuardType Tryz.prog.depth q.1=false/\Tryz.prog.stoodInHeld q.1=false/\(∀fs,q.2.desc= .struct fs->fs.size≠1)/\q.2.ty.dep<=10000:=by first|exact λh=>absurd h (by decide)|exact λ_ h=>absurd h (by decide)|exact λ_ _=>⟨by kernel_rfl,by kernel_rfl,(by intro fs h;cases h<;>decide),by decide⟩):TI1 Tryz.prog ti q:=⟨u,i,z,s,h,e⟩
theorem ti3:TI1 Tryz.prog ti q3:=tq Tryz.underlying3 rfl
theorem ti4:TI1 Tryz.prog ti q4:=tq Tryz.underlying4 rfl
theorem ti5:TI1 Tryz.prog ti q5:=tq Tryz.underlying5 rfl
theorem ti9:TI1 Tryz.prog ti q9:=tq Tryz.underlying9 rfl
theorem asL:TI1 Tryz.prog ti q22:=tq Tryz.underlying22 ⟨_,rfl,rfl,by decide⟩
theorem asM:TI1 Tryz.prog ti q23:=tq Tryz.underlying23 ⟨_,rfl,rfl,by decide⟩
theorem asN:TI1 Tryz.prog ti q25:=tq Tryz.underlying25 ⟨rfl,⟨rfl,by decide,⟨_,rfl,rfl,by decide⟩,⟨rfl,by decide,⟨_,rfl,rfl,by decide⟩,⟨rfl,by decide,⟨_,rfl,rfl,by decide⟩,⟨rfl,by decide,⟨_,rfl,rfl,by decide⟩,⟨rfl,by decide,_,rfl,rfl,by decide⟩⟩⟩⟩⟩⟩
theorem asO:TI1 Tryz.prog ti q28:=tq Tryz.underlying28 (.inl ⟨_,rfl⟩)
theorem asP:TI1 Tryz.prog ti q29:=tq Tryz.underlying29 rfl
theorem asQ:TI1 Tryz.prog ti q32:=tq Tryz.underlying32 ⟨_,rfl,rfl,by decide⟩
theorem asR:TI1 Tryz.prog ti q33:=tq Tryz.underlying33 rfl
theorem asS:TI1 Tryz.prog ti q35:=tq Tryz.underlying35 ⟨_,rfl,rfl,by decide,by decide⟩
theorem asT:TI1 Tryz.prog ti q37:=tq Tryz.underlying37 ⟨rfl,⟨rfl,by decide,⟨_,rfl,rfl,by decide⟩,⟨rfl,by decide,_,rfl,rfl,by decide⟩⟩⟩
theorem asU:TI1 Tryz.prog ti q39:=tq Tryz.underlying39 (.inl ⟨_,rfl⟩)
theorem asV:TI1 Tryz.prog ti q44:=tq Tryz.underlying44 ⟨rfl,⟨rfl,by decide,⟨_,rfl,rfl,by decide⟩,⟨rfl,by decide,⟨_,rfl,rfl,by decide⟩,⟨rfl,by decide,_,rfl,rfl,by decide⟩⟩⟩⟩
theorem asW:TI1 Tryz.prog ti q50:=tq Tryz.underlying50 ⟨rfl,⟨rfl,by decide,⟨_,rfl,rfl,by decide⟩,⟨rfl,by decide,_,rfl,rfl,by decide⟩⟩⟩
theorem asX:TI1 Tryz.prog ti q52:=tq Tryz.underlying52 ⟨_,rfl,rfl,by decide⟩
theorem asY:TI1 Tryz.prog ti q53:=tq Tryz.underlying53 ⟨_,rfl,rfl,by decide⟩
theorem asZ:TI1 Tryz.prog ti q55:=tq Tryz.underlying55 ⟨rfl,⟨rfl,by decide,⟨_,rfl,rfl,by decide⟩,⟨rfl,by decide,⟨_,rfl,rfl,by decide⟩,⟨rfl,by decide,⟨_,rfl,rfl,by decide⟩,⟨rfl,by decide,⟨_,rfl,rfl,by decide⟩,⟨rfl,by decide,_,rfl,rfl,by decide⟩⟩⟩⟩⟩⟩
theorem at0:TI1 Tryz.prog ti q56:=tq Tryz.underlying56 ⟨_,rfl,rfl,by decide⟩
theorem at1:TI1 Tryz.prog ti q57:=tq Tryz.underlying57 ⟨_,rfl,rfl,by decide⟩
theorem at5:TI1 Tryz.prog ti q59:=tq Tryz.underlying59 ⟨rfl,⟨rfl,by decide,⟨_,rfl,rfl,by decide⟩,⟨rfl,by decide,⟨_,rfl,rfl,by decide⟩,⟨rfl,by decide,⟨_,rfl,rfl,by decide⟩,⟨rfl,by decide,⟨_,rfl,rfl,by decide⟩,⟨rfl,by decide,_,rfl,rfl,by decide⟩⟩⟩⟩⟩⟩
theorem at6:TI1 Tryz.prog ti q62:=tq Tryz.underlying62 ⟨rfl,⟨rfl,by decide,⟨_,rfl,rfl,by decide⟩,⟨rfl,by decide,⟨_,rfl,rfl,by decide⟩,⟨rfl,by decide,_,rfl,rfl,by decide⟩⟩⟩⟩
theorem at7:TI1 Tryz.prog ti q64:=tq Tryz.underlying64 ⟨rfl,⟨rfl,by decide,⟨_,rfl,rfl,by decide⟩,⟨rfl,by decide,⟨_,rfl,rfl,by decide⟩,⟨rfl,by decide,⟨_,rfl,rfl,by decide⟩,⟨rfl,by decide,⟨_,rfl,rfl,by decide⟩,⟨rfl,by decide,_,rfl,rfl,by decide⟩⟩⟩⟩⟩⟩
theorem ata:TI1 Tryz.prog ti q70:=tq Tryz.underlying70 ⟨_,rfl,rfl,by decide⟩
theorem atb:TI1 Tryz.prog ti q73:=tq Tryz.underlying73 (.inl ⟨_,rfl⟩)
theorem atc:TI1 Tryz.prog ti q77:=tq Tryz.underlying77 ⟨rfl,⟨rfl,by decide,⟨_,rfl,rfl,by decide⟩,⟨rfl,by decide,_,rfl,rfl,by decide⟩⟩⟩
theorem atd:TI1 Tryz.prog ti q83:=tq Tryz.underlying83 ⟨rfl,⟨rfl,by decide,⟨_,rfl,rfl,by decide⟩,⟨rfl,by decide,_,rfl,rfl,by decide⟩⟩⟩
theorem ate:TI1 Tryz.prog ti q85:=tq Tryz.underlying85 ⟨rfl,⟨rfl,by decide,⟨_,rfl,rfl,by decide⟩,⟨rfl,by decide,_,rfl,rfl,by decide⟩⟩⟩
theorem atf:TI1 Tryz.prog ti q87:=tq Tryz.underlying87 ⟨_,rfl,rfl,by decide⟩
theorem atg:TI1 Tryz.prog ti q88:=tq Tryz.underlying88 (.inl ⟨_,rfl⟩)
theorem ath:TI1 Tryz.prog ti q91:=tq Tryz.underlying91 rfl
theorem ati:TI1 Tryz.prog ti q92:=tq Tryz.underlying92 ⟨_,rfl,rfl,by decide⟩
theorem atj:TI1 Tryz.prog ti q94:=tq Tryz.underlying94 ⟨rfl,⟨rfl,by decide,⟨_,rfl,rfl,by decide⟩,⟨rfl,by decide,⟨_,rfl,rfl,by decide⟩,⟨rfl,by decide,⟨_,rfl,rfl,by decide⟩,⟨rfl,by decide,⟨_,rfl,rfl,by decide⟩,⟨rfl,by decide,⟨_,rfl,rfl,by decide⟩,⟨rfl,by decide,⟨_,rfl,rfl,by decide⟩,⟨rfl,by decide,⟨_,rfl,rfl,by decide⟩,⟨rfl,by decide,_,rfl,rfl,by decide⟩⟩⟩⟩⟩⟩⟩⟩⟩
theorem atl:TI1 Tryz.prog ti q95:=tq Tryz.underlying95 (.inl ⟨_,rfl⟩)
theorem ajO:TI1 Tryz.prog ti aj4:=tq Tryz.underlying100 ⟨rfl,⟨rfl,by decide,⟨_,rfl,rfl,by decide⟩,⟨rfl,by decide,⟨_,rfl,rfl,by decide⟩,⟨rfl,by decide,⟨_,rfl,rfl,by decide⟩,⟨rfl,by decide,_,rfl,rfl,by decide⟩⟩⟩⟩⟩
theorem ajP:TI1 Tryz.prog ti aj5:=tq Tryz.underlying103 ⟨_,rfl,rfl,by decide⟩
theorem ajQ:TI1 Tryz.prog ti aj6:=tq Tryz.underlying113 ⟨rfl,⟨rfl,by decide,⟨_,rfl,rfl,by decide⟩,⟨rfl,by decide,⟨_,rfl,rfl,by decide⟩,⟨rfl,by decide,⟨_,rfl,rfl,by decide⟩,⟨rfl,by decide,_,rfl,rfl,by decide⟩⟩⟩⟩⟩
theorem ajR:TI1 Tryz.prog ti aj7:=tq Tryz.underlying114 (.inl ⟨_,rfl⟩)
theorem ajS:TI1 Tryz.prog ti aj8:=tq Tryz.underlying116 ⟨rfl,⟨rfl,by decide,⟨_,rfl,rfl,by decide⟩,⟨rfl,by decide,_,rfl,rfl,by decide⟩⟩⟩
theorem ajT:TI1 Tryz.prog ti aj9:=tq Tryz.underlying117 ⟨_,rfl,rfl,by decide,by decide⟩
theorem ajU:TI1 Tryz.prog ti aja:=tq Tryz.underlying119 ⟨rfl,⟨rfl,by decide,⟨_,rfl,rfl,by decide⟩,⟨rfl,by decide,⟨_,rfl,rfl,by decide⟩,⟨rfl,by decide,⟨_,rfl,rfl,by decide⟩,⟨rfl,by decide,_,rfl,rfl,by decide⟩⟩⟩⟩⟩
theorem ajV:TI1 Tryz.prog ti ajb:=tq Tryz.underlying120 ⟨_,rfl,rfl,by decide,by decide⟩
theorem ajW:TI1 Tryz.prog ti ajc:=tq Tryz.underlying122 ⟨rfl,⟨rfl,by decide,⟨_,rfl,rfl,by decide⟩,⟨rfl,by decide,⟨_,rfl,rfl,by decide⟩,⟨rfl,by decide,⟨_,rfl,rfl,by decide⟩,⟨rfl,by decide,⟨_,rfl,rfl,by decide⟩,⟨rfl,by decide,_,rfl,rfl,by decide⟩⟩⟩⟩⟩⟩
theorem ajX:TI1 Tryz.prog ti ajd:=tq Tryz.underlying129 (.inr ⟨_,rfl⟩)
theorem ajY:TI1 Tryz.prog ti aje:=tq Tryz.underlying131 ⟨rfl,⟨rfl,by decide,⟨_,rfl,rfl,by decide⟩,⟨rfl,by decide,_,rfl,rfl,by decide⟩⟩⟩
theorem ajZ:TI1 Tryz.prog ti ajf:=tq Tryz.underlying133 ⟨rfl,⟨rfl,by decide,⟨_,rfl,rfl,by decide⟩,⟨rfl,by decide,_,rfl,rfl,by decide⟩⟩⟩
theorem ak0:TI1 Tryz.prog ti ajg:=tq Tryz.underlying137 (.inl ⟨_,rfl⟩)
theorem ak1:TI1 Tryz.prog ti ajh:=tq Tryz.underlying139 ⟨rfl,⟨rfl,by decide,⟨_,rfl,rfl,by decide⟩,⟨rfl,by decide,_,rfl,rfl,by decide⟩⟩⟩
theorem ak2:TI1 Tryz.prog ti aji:=tq Tryz.underlying144 ⟨_,rfl,rfl,by decide,by decide⟩
theorem ak3:TI1 Tryz.prog ti ajj:=tq Tryz.underlying150 ⟨rfl,⟨rfl,by decide,⟨_,rfl,rfl,by decide⟩,⟨rfl,by decide,⟨_,rfl,rfl,by decide⟩,⟨rfl,by decide,⟨_,rfl,rfl,by decide⟩,⟨rfl,by decide,_,rfl,rfl,by decide⟩⟩⟩⟩⟩
theorem ak4:TI1 Tryz.prog ti ajk:=tq Tryz.underlying158 rfl
theorem ak5:TI1 Tryz.prog ti ajl:=tq Tryz.underlying160 ⟨rfl,⟨rfl,by decide,⟨_,rfl,rfl,by decide⟩,⟨rfl,by decide,⟨_,rfl,rfl,by decide⟩,⟨rfl,by decide,⟨_,rfl,rfl,by decide⟩,⟨rfl,by decide,_,rfl,rfl,by decide⟩⟩⟩⟩⟩
theorem ak6:TI1 Tryz.prog ti ajm:=tq Tryz.underlying174 ⟨rfl,⟨rfl,by decide,⟨_,rfl,rfl,by decide⟩,⟨rfl,by decide,_,rfl,rfl,by decide⟩⟩⟩
theorem ak7:TI1 Tryz.prog ti ajn:=tq Tryz.underlying177 ⟨_,rfl,rfl,by decide,by decide⟩
theorem ak8:TI1 Tryz.prog ti ajo:=tq Tryz.underlying193 (.inl ⟨_,rfl⟩)
theorem ak9:TI1 Tryz.prog ti ajp:=tq Tryz.underlying195 rfl
theorem akb:TI1 Tryz.prog ti ajq:=tq Tryz.underlying198 (.inl ⟨_,rfl⟩)
theorem akc:TI1 Tryz.prog ti ajr:=tq Tryz.underlying200 ⟨_,rfl,rfl,by decide,by decide⟩
theorem akd:TI1 Tryz.prog ti ajs:=tq Tryz.underlying211 ⟨_,rfl,rfl,by decide⟩
theorem ake:TI1 Tryz.prog ti ajt:=tq Tryz.underlying212 ⟨_,rfl,rfl,by decide,by decide⟩
theorem akf:TI1 Tryz.prog ti aju:=tq Tryz.underlying222 ⟨rfl,⟨rfl,by decide,⟨_,rfl,rfl,by decide⟩,⟨rfl,by decide,_,rfl,rfl,by decide⟩⟩⟩
theorem akg:TI1 Tryz.prog ti ajv:=tq Tryz.underlying226 ⟨rfl,⟨rfl,by decide,⟨_,rfl,rfl,by decide⟩,⟨rfl,by decide,_,rfl,rfl,by decide⟩⟩⟩
theorem akh:TI1 Tryz.prog ti ajw:=tq Tryz.underlying227 ⟨_,rfl,rfl,by decide,by decide⟩
theorem aki:TI1 Tryz.prog ti ajx:=tq Tryz.underlying228 ⟨_,rfl,rfl,by decide,by decide⟩
theorem akj:TI1 Tryz.prog ti ajy:=tq Tryz.underlying229 ⟨_,rfl,rfl,by decide,by decide⟩
theorem akk:TI1 Tryz.prog ti ajz:=tq Tryz.underlying231 ⟨rfl,⟨rfl,by decide,⟨_,rfl,rfl,by decide⟩,⟨rfl,by decide,_,rfl,rfl,by decide⟩⟩⟩
theorem akl:TI1 Tryz.prog ti ajA:=tq Tryz.underlying232 (.inl ⟨_,rfl⟩)
theorem akm:TI1 Tryz.prog ti ajB:=tq Tryz.underlying242 rfl
theorem akn:TI1 Tryz.prog ti ajC:=tq Tryz.underlying243 ⟨_,rfl,rfl,by decide,by decide⟩
theorem ako:TI1 Tryz.prog ti ajD:=tq Tryz.underlying245 ⟨_,rfl,rfl,by decide,by decide⟩
theorem akp:TI1 Tryz.prog ti ajE:=tq Tryz.underlying247 ⟨rfl,⟨rfl,by decide,⟨_,rfl,rfl,by decide⟩,⟨rfl,by decide,⟨_,rfl,rfl,by decide⟩,⟨rfl,by decide,⟨_,rfl,rfl,by decide⟩,⟨rfl,by decide,_,rfl,rfl,by decide⟩⟩⟩⟩⟩
theorem akq:TI1 Tryz.prog ti ajF:=tq Tryz.underlying249 ⟨_,rfl,rfl,by decide,by decide⟩
theorem akr:TI1 Tryz.prog ti ajG:=tq Tryz.underlying253 ⟨_,rfl,rfl,by decide,by decide⟩
theorem aks:TI1 Tryz.prog ti ajH:=tq Tryz.underlying256 ⟨_,rfl,rfl,by decide⟩
theorem akt:TI1 Tryz.prog ti ajI:=tq Tryz.underlying259 ⟨_,rfl,rfl,by decide,by decide⟩
theorem aku:TI1 Tryz.prog ti ajJ:=tq Tryz.underlying271 ⟨_,rfl,rfl,by decide,by decide⟩
theorem akv:TI1 Tryz.prog ti ajK:=tq Tryz.underlying275 ⟨_,rfl,rfl,by decide⟩
theorem akw:TI1 Tryz.prog ti ajL:=tq Tryz.underlying290 ⟨_,rfl,rfl,by decide,by decide⟩
theorem akx:TI1 Tryz.prog ti ajM:=tq Tryz.underlying313 ⟨rfl,⟨rfl,by decide,⟨_,rfl,rfl,by decide⟩,⟨rfl,by decide,⟨_,rfl,rfl,by decide⟩,⟨rfl,by decide,⟨_,rfl,rfl,by decide⟩,⟨rfl,by decide,⟨_,rfl,rfl,by decide⟩,⟨rfl,by decide,⟨_,rfl,rfl,by decide⟩,⟨rfl,by decide,⟨_,rfl,rfl,by decide⟩,⟨rfl,by decide,_,rfl,rfl,by decide⟩⟩⟩⟩⟩⟩⟩⟩
theorem aky:TI1 Tryz.prog ti ajN:=tq Tryz.underlying315 ⟨rfl,⟨rfl,by decide,⟨_,rfl,rfl,by decide⟩,⟨rfl,by decide,_,rfl,rfl,by decide⟩⟩⟩
def cx(a:List (FuncId×Con))(b:List (FuncId×Func×List (Nat×Lp))):Cx:= { ti:=ti,con:=a,fns:=b,un:=6 }
theorem aD:wL Tryz.prog ti:=wL.of (awt.2 ⟨ti3,awt.2 ⟨ti4,awt.2 ⟨ti5,awt.2 ⟨ti9,awt.2 ⟨asL,awt.2 ⟨asM,awt.2 ⟨asN,awt.2 ⟨asO,awt.2 ⟨asP,awt.2 ⟨asQ,awt.2 ⟨asR,awt.2 ⟨asS,awt.2 ⟨asT,awt.2 ⟨asU,awt.2 ⟨asV,awt.2 ⟨asW,awt.2 ⟨asX,awt.2 ⟨asY,awt.2 ⟨asZ,awt.2 ⟨at0,awt.2 ⟨at1,awt.2 ⟨at5,awt.2 ⟨at6,awt.2 ⟨at7,awt.2 ⟨ata,awt.2 ⟨atb,awt.2 ⟨atc,awt.2 ⟨atd,awt.2 ⟨ate,awt.2 ⟨atf,awt.2 ⟨atg,awt.2 ⟨ath,awt.2 ⟨ati,awt.2 ⟨atj,awt.2 ⟨atl,awt.2 ⟨ajO,awt.2 ⟨ajP,awt.2 ⟨ajQ,awt.2 ⟨ajR,awt.2 ⟨ajS,awt.2 ⟨ajT,awt.2 ⟨ajU,awt.2 ⟨ajV,awt.2 ⟨ajW,awt.2 ⟨ajX,awt.2 ⟨ajY,awt.2 ⟨ajZ,awt.2 ⟨ak0,awt.2 ⟨ak1,awt.2 ⟨ak2,awt.2 ⟨ak3,awt.2 ⟨ak4,awt.2 ⟨ak5,awt.2 ⟨ak6,awt.2 ⟨ak7,awt.2 ⟨ak8,awt.2 ⟨ak9,awt.2 ⟨akb,awt.2 ⟨akc,awt.2 ⟨akd,awt.2 ⟨ake,awt.2 ⟨akf,awt.2 ⟨akg,awt.2 ⟨akh,awt.2 ⟨aki,awt.2 ⟨akj,awt.2 ⟨akk,awt.2 ⟨akl,awt.2 ⟨akm,awt.2 ⟨akn,awt.2 ⟨ako,awt.2 ⟨akp,awt.2 ⟨akq,awt.2 ⟨akr,awt.2 ⟨aks,awt.2 ⟨akt,awt.2 ⟨aku,awt.2 ⟨akv,awt.2 ⟨akw,awt.2 ⟨akx,awt.2 ⟨aky,List.forall_mem_nil _⟩⟩⟩⟩⟩⟩⟩⟩⟩⟩⟩⟩⟩⟩⟩⟩⟩⟩⟩⟩⟩⟩⟩⟩⟩⟩⟩⟩⟩⟩⟩⟩⟩⟩⟩⟩⟩⟩⟩⟩⟩⟩⟩⟩⟩⟩⟩⟩⟩⟩⟩⟩⟩⟩⟩⟩⟩⟩⟩⟩⟩⟩⟩⟩⟩⟩⟩⟩⟩⟩⟩⟩⟩⟩⟩⟩⟩⟩⟩⟩⟩)
theorem mixed:Tryz.prog.follows .mixedOrders=true:=by kernel_rfl
def a4h:Con:=aO false [u64,u64,u64] [u64,u64] λx=>EH x.1 x.2.1 x.2.2.1
theorem a5z:aA Tryz.prog 140 a4h:=a6J Tryz.func140 (by kernel_rfl) (by kernel_rfl) (by kernel_rfl) (by kernel_rfl)
def RX:Con:=aO false [u64,u64,u64] [u64,u64] λx=>bG x.1 x.2.1 x.2.2.1
theorem Pd:aA Tryz.prog 143 RX:=a6I Tryz.func143 (by kernel_rfl) (by kernel_rfl) (by kernel_rfl) (by kernel_rfl)
end
end Go.Proofs.YtlohbhpbkieoeaaGreat
namespace Go.Proofs.YtlohbhpbkieoeaaGreat
noncomputable section
def akz:Con:=aO true [(.int .u32),tI] [(.int .u32)] λx=>sW x.1 x.2.1
def atm:Cx:=cx [] []
theorem adQ:av Tryz.prog atm:=av.of mixed aD fz fz
theorem adR:aA Tryz.prog 180 akz:=aB adQ 8 ⟨Tryz.func180,Tryz.call180,ah⟩ _ _ _ _ (by decide) (λx=>by rw[wR];kernel_rfl)
def adS:Con:=aO true [tU] [tI] λx=>bits_Len64 x.1
def atn:Cx:=cx [] []
theorem adT:av Tryz.prog atn:=av.of mixed aD fz fz
theorem a6X:aA Tryz.prog 64 adS:=aB adT 8 ⟨Tryz.func64,Tryz.call64,ah⟩ _ _ _ _ (by decide) (λx=>by rw[JF];kernel_rfl)
def akA:Con:=aO true [tU] [tI] λx=>bits_LeadingZeros64 x.1
def ato:Cx:=cx [(64,adS)] []
theorem adU:av Tryz.prog ato:=av.of mixed aD (fc ⟨a6X,fz⟩) fz
theorem adV:aA Tryz.prog 181 akA:=aB adU 8 ⟨Tryz.func181,Tryz.call181,ah⟩ _ _ _ _ (by decide) (λx=>by rw[sV];kernel_rfl)
abbrev akB:Shape:= { sl:=[(pv 2 tU),(pv 8 tU),(pv 9 tU),(pv 10 tU),(pv 11 tU),(pv 13 tU),(pv 14 tU),(pv 15 tU),(pv 16 tU)],ob:=[],lo:=0,nx:=0 }
abbrev akC:List Ex:=[(.normal, { sl:=[(pv 2 tU),(pv 8 tU),(pv 9 tU),(pv 10 tU),(pv 11 tU),(pv 13 tU),(pv 14 tU),(pv 15 tU)],ob:=[],lo:=0,nx:=0 })]
def akD:Code:=aK (aI Tryz.f165) 0
def abH:Lp:=bF akB akC 135 eU
abbrev akE:Shape:= { sl:=[(pv 2 tU),(pv 8 tU),(pv 9 tU),(pv 10 tU),(pv 14 tU),(pv 15 tU),(pv 16 tU),(pv 17 tU),(pv 18 tU)],ob:=[],lo:=0,nx:=0 }
abbrev akF:List Ex:=[(.normal, { sl:=[(pv 2 tU),(pv 8 tU),(pv 14 tU),(pv 15 tU),(pv 17 tU),(pv 18 tU)],ob:=[],lo:=0,nx:=0 })]
def akG:Code:=aK (aI Tryz.f165) 2
def abI:Lp:=bF akE akF 135 eX
def adW:Con:=aO true [tU,tU,tU] [tU,tU] λx=>ou x.1 x.2.1 x.2.2.1
def atp:Cx:=cx [(181,akA)] []
theorem a2L:av Tryz.prog atp:=av.of mixed aD (fc ⟨adV,fz⟩) fz
theorem akH:aX Tryz.prog 0 (.loop akD) abH:=aF a2L 8 (ah) _ _ _ _ (by decide) λ_=>by kernel_rfl
theorem akI:aX Tryz.prog 2 (.loop akG) abI:=aF a2L 8 (ah) _ _ _ _ (by decide) λ_=>by kernel_rfl
theorem akJ:dU Tryz.prog 165 Tryz.f165 [(0,abH),(2,abI)]:=⟨Tryz.func165,Tryz.call165,aR (by kernel_rfl) (aC akH (by kernel_rfl) (aC akI (by kernel_rfl) fz))⟩
theorem a6Y:aA Tryz.prog 165 adW:=aB a2L 8 akJ _ _ _ _ (by decide) (λx=>by rw[JG];kernel_rfl)
def aaQ:Con:=aO true [tU,tU] [tU,tU] λx=>bits_Mul64 x.1 x.2.1
def atq:Cx:=cx [] []
theorem adX:av Tryz.prog atq:=av.of mixed aD fz fz
theorem a2M:aA Tryz.prog 142 aaQ:=aB adX 8 ⟨Tryz.func142,Tryz.call142,ah⟩ _ _ _ _ (by decide) (λx=>by rw[JE];kernel_rfl)
end
end Go.Proofs.YtlohbhpbkieoeaaGreat
namespace Go.Proofs.YtlohbhpbkieoeaaGreat
noncomputable section
def adY:Con:=aO true [tN] [tI,.bool] λx=>MJ x.1
def atr:Cx:=cx [] []
theorem adZ:av Tryz.prog atr:=av.of mixed aD fz fz
theorem a6Z:aA Tryz.prog 59 adY:=aB adZ 8 ⟨Tryz.func59,Tryz.call59,ah⟩ _ _ _ _ (by decide) (λx=>by rw[TK];kernel_rfl)
def a2N:Con:=aO true [tI] [tN] λx=>bR x.1
def att:Cx:=cx [] []
theorem ae0:av Tryz.prog att:=av.of mixed aD fz fz
theorem Pe:aA Tryz.prog 23 a2N:=aB ae0 8 ⟨Tryz.func23,Tryz.call23,ah⟩ _ _ _ _ (by decide) (λx=>by rw[XG];kernel_rfl)
def akK:Con:=aO true [tN,tI] [tI] λx=>Ay x.1 x.2.1
def atu:Cx:=cx [] []
theorem ae1:av Tryz.prog atu:=av.of mixed aD fz fz
theorem ae2:aA Tryz.prog 146 akK:=aB ae1 8 ⟨Tryz.func146,Tryz.call146,ah⟩ _ _ _ _ (by decide) (λx=>by rw[Tp];kernel_rfl)
abbrev akL:Shape:= { sl:=[(pc 2 tN 0),(pc 4 tN 1),(pc 5 tN 2),(pv 6 tI),(pv 7 tI),(pv 8 tI)],ob:=[(pv 0 tN),(pv 1 tN),(pv 2 tN)],lo:=3,nx:=3 }
abbrev akM:List Ex:=[(.normal, { sl:=[(pc 4 tN 1),(pc 5 tN 2)],ob:=[(pv 1 tN),(pv 2 tN)],lo:=3,nx:=3 })]
def akN:Code:=aK (aI Tryz.f113) 0
def abJ:Lp:=bF akL akM 51 ow
def ae3:Con:=aO true [tN,tI] [tN] λx=>Tt x.1 x.2.1
def atv:Cx:=cx [] []
theorem a7a:av Tryz.prog atv:=av.of mixed aD fz fz
theorem akO:aX Tryz.prog 0 (.loop akN) abJ:=aF a7a 8 (ah) _ _ _ _ (by decide) λ_=>by kernel_rfl
theorem akP:dU Tryz.prog 113 Tryz.f113 [(0,abJ)]:=⟨Tryz.func113,Tryz.call113,aR (by kernel_rfl) (aC akO (by kernel_rfl) fz)⟩
theorem a7b:aA Tryz.prog 113 ae3:=aB a7a 8 akP _ _ _ _ (by decide) (λx=>by rw[XF];kernel_rfl)
def a7c:Con:=aO true [tN,tN] [tN,tI] λx=>wm x.1 x.2.1
def atw:Cx:=cx [(140,a4h)] []
theorem ae4:av Tryz.prog atw:=av.of mixed aD (fc ⟨a5z,fz⟩) fz
theorem YX:aA Tryz.prog 104 a7c:=aB ae4 8 ⟨Tryz.func104,Tryz.call104,ah⟩ _ _ _ _ (by decide) (λx=>by rw[Tw];kernel_rfl)
def a5A:Con:=aO true [tN,tN] [tI] λx=>yH x.1 x.2.1
def atx:Cx:=cx [] []
theorem ae5:av Tryz.prog atx:=av.of mixed aD fz fz
theorem Ug:aA Tryz.prog 66 a5A:=aB ae5 8 ⟨Tryz.func66,Tryz.call66,ah⟩ _ _ _ _ (by decide) (λx=>by rw[Tz];kernel_rfl)
def aaR:Con:=aO true [tN] [tI] λx=>yI x.1
def aty:Cx:=cx [(64,adS)] []
theorem ae6:av Tryz.prog aty:=av.of mixed aD (fc ⟨a6X,fz⟩) fz
theorem a2O:aA Tryz.prog 22 aaR:=aB ae6 8 ⟨Tryz.func22,Tryz.call22,ah⟩ _ _ _ _ (by decide) (λx=>by rw[TG];kernel_rfl)
abbrev akQ:Shape:= { sl:=[(pc 2 tN 0),(pc 4 tN 1),(pc 5 tN 2),(pv 6 tI),(pv 7 tI),(pv 20 tI),(pv 21 tI)],ob:=[(pv 0 tN),(pv 1 tN),(pv 2 tN)],lo:=3,nx:=3 }
abbrev akR:List Ex:=[(.normal, { sl:=[(pc 4 tN 1),(pc 5 tN 2)],ob:=[(pv 1 tN),(pv 2 tN)],lo:=3,nx:=3 })]
def akS:Code:=aK (aI Tryz.f112) 0
def abK:Lp:=bF akQ akR 54 lJ
def akT:Con:=aO true [tN,tI] [tN] λx=>G7 x.1 x.2.1
def atz:Cx:=cx [] []
theorem a7d:av Tryz.prog atz:=av.of mixed aD fz fz
theorem akU:aX Tryz.prog 0 (.loop akS) abK:=aF a7d 8 (ah) _ _ _ _ (by decide) λ_=>by kernel_rfl
theorem akV:dU Tryz.prog 112 Tryz.f112 [(0,abK)]:=⟨Tryz.func112,Tryz.call112,aR (by kernel_rfl) (aC akU (by kernel_rfl) fz)⟩
theorem ae7:aA Tryz.prog 112 akT:=aB a7d 8 akV _ _ _ _ (by decide) (λx=>by rw[Qm];kernel_rfl)
def akW:Con:=aO true [tN,tN] [tN,tI] λx=>RS x.1 x.2.1
def atA:Cx:=cx [(143,RX)] []
theorem ae8:av Tryz.prog atA:=av.of mixed aD (fc ⟨Pd,fz⟩) fz
theorem ae9:aA Tryz.prog 144 akW:=aB ae8 8 ⟨Tryz.func144,Tryz.call144,ah⟩ _ _ _ _ (by decide) (λx=>by rw[TD];kernel_rfl)
abbrev akX:Shape:= { sl:=[(pc 1 tN 0),(pv 3 tI),(4,(.w 5 (.int .u8) 2)),(pv 12 tI),(pv 13 tI)],ob:=[(pv 0 tN)],lo:=2,nx:=3 }
abbrev akY:List Ex:=[(.normal, { sl:=[(4,(.w 5 (.int .u8) 3))],ob:=[],lo:=3,nx:=4 })]
def akZ:Code:=aK (aI Tryz.f132) 0
def abL:Lp:=bF akX akY 34 mU
def al0:Con:=aO true [tN] [.str] λx=>IB x.1
def atB:Cx:=cx [(22,aaR)] []
theorem a7e:av Tryz.prog atB:=av.of mixed aD (fc ⟨a2O,fz⟩) fz
theorem al1:aX Tryz.prog 0 (.loop akZ) abL:=aF a7e 8 (ah) _ _ _ _ (by decide) λ_=>by kernel_rfl
theorem al2:dU Tryz.prog 132 Tryz.f132 [(0,abL)]:=⟨Tryz.func132,Tryz.call132,aR (by kernel_rfl) (aC al1 (by kernel_rfl) fz)⟩
theorem aea:aA Tryz.prog 132 al0:=aB a7e 8 al2 _ _ _ _ (by decide) (λx=>by rw[MK];kernel_rfl)
end
end Go.Proofs.YtlohbhpbkieoeaaGreat
namespace Go.Proofs.YtlohbhpbkieoeaaGreat
noncomputable section
def al3:Con:=aO true [tN,tU,tU] [tN,tN] λx=>DI x.1 x.2.1 x.2.2.1
def atC:Cx:=cx [(165,adW)] []
theorem aeb:av Tryz.prog atC:=av.of mixed aD (fc ⟨a6Y,fz⟩) fz
theorem aec:aA Tryz.prog 145 al3:=aB aeb 8 ⟨Tryz.func145,Tryz.call145,ah⟩ _ _ _ _ (by decide) (λx=>by rw[JI];kernel_rfl)
abbrev al4:Shape:= { sl:=[(pc 3 tN 0),(pc 4 tN 1),(pc 5 tN 2),(pc 6 tN 3),(pc 7 tN 4),(pc 8 tN 5),(pv 25 tI)],ob:=[(pv 0 tN),(pv 1 tN),(pv 2 tN),(pv 3 tN),(pv 4 tN),(pv 5 tN)],lo:=6,nx:=6 }
abbrev al5:List Ex:=[(.normal, { sl:=[(pc 4 tN 1),(pc 6 tN 3),(pc 7 tN 4),(pc 8 tN 5)],ob:=[(pv 1 tN),(pv 3 tN),(pv 4 tN),(pv 5 tN)],lo:=6,nx:=6 })]
def al6:Code:=aK (aI Tryz.f109) 0
def abM:Lp:=bF al4 al5 68 fE
def aed:Con:=aO true [tN,tN,tN] [tN,tN] λx=>su x.1 x.2.1 x.2.2.1
def atD:Cx:=cx [(145,al3),(146,akK),(113,ae3),(104,a7c),(66,a5A)] []
theorem a7f:av Tryz.prog atD:=av.of mixed aD (fc ⟨aec,fc ⟨ae2,fc ⟨a7b,fc ⟨YX,fc ⟨Ug,fz⟩⟩⟩⟩⟩) fz
theorem al7:aX Tryz.prog 0 (.loop al6) abM:=aF a7f 8 (ah) _ _ _ _ (by decide) λ_=>by kernel_rfl
theorem al8:dU Tryz.prog 109 Tryz.f109 [(0,abM)]:=⟨Tryz.func109,Tryz.call109,aR (by kernel_rfl) (aC al7 (by kernel_rfl) fz)⟩
theorem a7g:aA Tryz.prog 109 aed:=aB a7f 8 al8 _ _ _ _ (by decide) (λx=>by rw[G9];kernel_rfl)
def a7h:Con:=aO true [tN,tN,tN] [tN,tI] λx=>sZ x.1 x.2.1 x.2.2.1
def atE:Cx:=cx [(109,aed)] []
theorem aee:av Tryz.prog atE:=av.of mixed aD (fc ⟨a7g,fz⟩) fz
theorem YZ:aA Tryz.prog 62 a7h:=aB aee 8 ⟨Tryz.func62,Tryz.call62,ah⟩ _ _ _ _ (by decide) (λx=>by rw[Qo];kernel_rfl)
def aef:Con:=aO true [tN,tN] [tN,tN] λx=>CF x.1 x.2.1
def atF:Cx:=cx [(142,aaQ),(143,RX)] [(141,Tryz.f141,[])]
theorem aeg:av Tryz.prog atF:=av.of mixed aD (fc ⟨a2M,fc ⟨Pd,fz⟩⟩) (fc ⟨⟨Tryz.func141,Tryz.call141,ah⟩,fz⟩)
theorem a7i:aA Tryz.prog 106 aef:=aB aeg 8 ⟨Tryz.func106,Tryz.call106,ah⟩ _ _ _ _ (by decide) (λx=>by rw[Qn];kernel_rfl)
def al9:Con:=aO true [tN,tN,tN] [tN,tI] λx=>Az x.1 x.2.1 x.2.2.1
def atG:Cx:=cx [(106,aef),(62,a7h)] []
theorem aeh:av Tryz.prog atG:=av.of mixed aD (fc ⟨a7i,fc ⟨YZ,fz⟩⟩) fz
theorem aei:aA Tryz.prog 63 al9:=aB aeh 8 ⟨Tryz.func63,Tryz.call63,ah⟩ _ _ _ _ (by decide) (λx=>by rw[Ga];kernel_rfl)
def aej:Con:=aO true [tN,tN] [tN,tN,tI] λx=>CG x.1 x.2.1
def atH:Cx:=cx [(109,aed)] []
theorem aek:av Tryz.prog atH:=av.of mixed aD (fc ⟨a7g,fz⟩) fz
theorem a7j:aA Tryz.prog 105 aej:=aB aek 8 ⟨Tryz.func105,Tryz.call105,ah⟩ _ _ _ _ (by decide) (λx=>by rw[Qp];kernel_rfl)
def ala:Con:=aO true [tN,tN,tN] [tN,tI] λx=>oz x.1 x.2.1 x.2.2.1
def atI:Cx:=cx [(62,a7h),(104,a7c),(144,akW)] []
theorem ael:av Tryz.prog atI:=av.of mixed aD (fc ⟨YZ,fc ⟨YX,fc ⟨ae9,fz⟩⟩⟩) fz
theorem aem:aA Tryz.prog 107 ala:=aB ael 8 ⟨Tryz.func107,Tryz.call107,ah⟩ _ _ _ _ (by decide) (λx=>by rw[Gb];kernel_rfl)
abbrev alb:Shape:= { sl:=[(pc 2 tN 0),(pc 3 tN 1),(pc 4 tN 2)],ob:=[(pv 0 tN),(pv 1 tN),(pv 2 tN)],lo:=3,nx:=3 }
abbrev alc:List Ex:=[(.normal, { sl:=[(pc 2 tN 0),(pc 4 tN 2)],ob:=[(pv 0 tN),(pv 2 tN)],lo:=3,nx:=3 })]
def ald:Code:=aK (aI Tryz.f108) 0
def abN:Lp:=bF alb alc 21 lK
def ale:Con:=aO true [tN,tN] [tN] λx=>zw x.1 x.2.1
def atJ:Cx:=cx [(105,aej)] []
theorem a7k:av Tryz.prog atJ:=av.of mixed aD (fc ⟨a7j,fz⟩) fz
theorem alf:aX Tryz.prog 0 (.loop ald) abN:=aF a7k 8 (ah) _ _ _ _ (by decide) λ_=>by kernel_rfl
theorem alg:dU Tryz.prog 108 Tryz.f108 [(0,abN)]:=⟨Tryz.func108,Tryz.call108,aR (by kernel_rfl) (aC alf (by kernel_rfl) fz)⟩
theorem aen:aA Tryz.prog 108 ale:=aB a7k 8 alg _ _ _ _ (by decide) (λx=>by rw[Qq];kernel_rfl)
end
end Go.Proofs.YtlohbhpbkieoeaaGreat
namespace Go.Proofs.YtlohbhpbkieoeaaGreat
noncomputable section
def aeo:Con:=aO false [tN] [tMN,tI] λx=>wS x.1
def atK:Cx:=cx [(23,a2N),(62,a7h),(63,al9)] []
theorem aep:av Tryz.prog atK:=av.of mixed aD (fc ⟨Pe,fc ⟨YZ,fc ⟨aei,fz⟩⟩⟩) fz
theorem a7l:aA Tryz.prog 21 aeo:=aB aep 8 ⟨Tryz.func21,Tryz.call21,ah⟩ _ _ _ _ (by decide) (λx=>by rw[Qr];kernel_rfl)
def a7m:Con:=aO true [tMN] [.bool] λx=>bL x.1
def aer:Cx:=cx [] []
theorem aes:av Tryz.prog aer:=av.of mixed aD fz fz
theorem atL(r:Z0l):dJ aer [] (fD aer 8) Tryz.f65 (nU [tMN] (r,())) [] 0 (qw [.bool])=pK r:=by cases r<;>kernel_rfl
theorem Z0:aA Tryz.prog 65 a7m:=aB aes 8 ⟨Tryz.func65,Tryz.call65,ah⟩ _ _ _ _ (by decide) (λx=>by rw[lM];exact atL x.1)
def alh:Con:=aO true [tMN,tN] [tN] λx=>qG x.1 x.2.1
def aeu:Cx:=cx [(66,a5A),(62,a7h)] []
theorem aev:av Tryz.prog aeu:=av.of mixed aD (fc ⟨Ug,fc ⟨YZ,fz⟩⟩) fz
theorem atM(r:Z0l)(a:NI):dJ aeu [] (fD aeu 8) Tryz.f166 (nU [tMN,tN] (r,a,())) [] 0 (qw [tN])=tu r a:=by cases r<;>kernel_rfl
theorem aew:aA Tryz.prog 166 alh:=aB aev 8 ⟨Tryz.func166,Tryz.call166,ah⟩ _ _ _ _ (by decide) (λx=>by rw[CJ];exact atM x.1 x.2.1)
def ali:Con:=aO true [(.arr 6 tU),tU,tN] [(.arr 6 tU)] λx=>iG x.1 x.2.1 x.2.2.1
def atO:Cx:=cx [(142,aaQ),(143,RX)] []
theorem aex:av Tryz.prog atO:=av.of mixed aD (fc ⟨a2M,fc ⟨Pd,fz⟩⟩) fz
theorem aey:aA Tryz.prog 148 ali:=aB aex 8 ⟨Tryz.func148,Tryz.call148,ah⟩ _ _ _ _ (by decide) (λx=>by rw[MQ];kernel_rfl)
def aaS:Con:=aO true [tMN,tN,tN] [tN] λx=>bS x.1 x.2.1 x.2.2.1
def aez:Cx:=cx [(148,ali),(104,a7c),(66,a5A)] []
theorem aeA:av Tryz.prog aez:=av.of mixed aD (fc ⟨aey,fc ⟨YX,fc ⟨Ug,fz⟩⟩⟩) fz
theorem atP(r:Z0l)(a:NI)(b:NI):dJ aez [] (fD aez 8) Tryz.f114 (nU [tMN,tN,tN] (r,a,b,())) [] 0 (qw [tN])=qZ r a b:=by cases r<;>kernel_rfl
theorem a2P:aA Tryz.prog 114 aaS:=aB aeA 8 ⟨Tryz.func114,Tryz.call114,ah⟩ _ _ _ _ (by decide) (λx=>by rw[AA];exact atP x.1 x.2.1 x.2.2.1)
def alj:Con:=aO true [tMN,tN] [tN] λx=>oC x.1 x.2.1
def aeB:Cx:=cx [(65,a7m),(166,alh),(114,aaS)] []
theorem aeC:av Tryz.prog aeB:=av.of mixed aD (fc ⟨Z0,fc ⟨aew,fc ⟨a2P,fz⟩⟩⟩) fz
theorem atQ(r:Z0l)(a:NI):dJ aeB [] (fD aeB 8) Tryz.f147 (nU [tMN,tN] (r,a,())) [] 0 (qw [tN])=ru r a:=by cases r<;>kernel_rfl
theorem aeD:aA Tryz.prog 147 alj:=aB aeC 8 ⟨Tryz.func147,Tryz.call147,ah⟩ _ _ _ _ (by decide) (λx=>by rw[AB];exact atQ x.1 x.2.1)
abbrev alk:Shape:= { sl:=[(0,(.pz (.pair tN (.pair tU (.pair tN tN))))),(pc 4 (.arr 16 tN) 1),(pc 5 (.arr 16 tN) 2),(pc 6 tN 3),(pv 7 tI)],ob:=[(pv 1 (.arr 16 tN)),(pv 2 (.arr 16 tN)),(pv 3 tN)],lo:=4,nx:=4 }
abbrev alm:List Ex:=[(.normal, { sl:=[(pc 4 (.arr 16 tN) 1),(pc 5 (.arr 16 tN) 2)],ob:=[(pv 1 (.arr 16 tN)),(pv 2 (.arr 16 tN))],lo:=4,nx:=4 })]
def aln:Code:=aK (aI Tryz.f110) 0
def a7n:Lp:=bF alk alm 30 eB
def alo:Con:=aO true [tMN,tN] [(.arr 16 tN)] λx=>pO x.1 x.2.1
def aeE:Cx:=cx [(147,alj),(114,aaS)] []
theorem a7o:av Tryz.prog aeE:=av.of mixed aD (fc ⟨aeD,fc ⟨a2P,fz⟩⟩) fz
theorem alp:aX Tryz.prog 0 (.loop aln) a7n:=aF a7o 8 (ah) _ _ _ _ (by decide) λ_=>by kernel_rfl
theorem alq:dU Tryz.prog 110 Tryz.f110 [(0,a7n)]:=⟨Tryz.func110,Tryz.call110,aR (by kernel_rfl) (aC alp (by kernel_rfl) fz)⟩
theorem atS(r:Z0l)(a:NI):dJ aeE [(0,a7n)] (fD aeE 8) Tryz.f110 (nU [tMN,tN] (r,a,())) [] 0 (qw [(.arr 16 tN)])=nK r a:=by cases r<;>kernel_rfl
theorem aeF:aA Tryz.prog 110 alo:=aB a7o 8 alq _ _ _ _ (by decide) (λx=>by rw[xY];exact atS x.1 x.2.1)
def alr:Con:=aO true [tN,tI] [tI] λx=>pQ x.1 x.2.1
def atU:Cx:=cx [(112,akT),(113,ae3),(59,adY)] []
theorem aeG:av Tryz.prog atU:=av.of mixed aD (fc ⟨ae7,fc ⟨a7b,fc ⟨a6Z,fz⟩⟩⟩) fz
theorem aeH:aA Tryz.prog 111 alr:=aB aeG 8 ⟨Tryz.func111,Tryz.call111,ah⟩ _ _ _ _ (by decide) (λx=>by rw[xZ];kernel_rfl)
abbrev als:Shape:= { sl:=[(0,(.pz (.pair tN (.pair tU (.pair tN tN))))),(2,(.sz tN)),(pc 6 tN 0),(8,(.w 212 (.arr 16 tN) 1)),(pv 9 tI),(33,(.sz tN)),(pv 34 tI),(pv 35 tI)],ob:=[(pv 0 tN)],lo:=1,nx:=2 }
abbrev alu:List Ex:=[(.normal, { sl:=[(0,(.pz (.pair tN (.pair tU (.pair tN tN))))),(2,(.sz tN)),(pc 6 tN 0),(8,(.w 212 (.arr 16 tN) 2)),(pv 9 tI)],ob:=[(pv 0 tN)],lo:=2,nx:=3 })]
def alv:Code:=aK (aI Tryz.f67) 0
def a7p:Lp:=bF als alu 98 gq
abbrev alx:Shape:= { sl:=[(0,(.pz (.pair tN (.pair tU (.pair tN tN))))),(2,(.sz tN)),(pc 6 tN 0),(8,(.w 212 (.arr 16 tN) 5)),(12,(.c ⟨.fn,(.mk 111 [])⟩)),(pc 13 tN 3),(pv 14 tI),(74,(.sz tN)),(pv 75 tI),(pv 76 tI)],ob:=[(pv 0 tN),(pv 3 tN)],lo:=5,nx:=6 }
abbrev aly:List Ex:=[(.normal, { sl:=[(0,(.pz (.pair tN (.pair tU (.pair tN tN))))),(2,(.sz tN)),(pc 6 tN 0),(8,(.w 212 (.arr 16 tN) 6)),(12,(.c ⟨.fn,(.mk 111 [])⟩)),(pc 13 tN 3),(pv 14 tI)],ob:=[(pv 0 tN),(pv 3 tN)],lo:=6,nx:=7 })]
def alz:Code:=aK (aI Tryz.f67) 6
def a4i:Lp:=bF alx aly 98 gu
abbrev a4j:Shape:= { sl:=[(0,(.pz (.pair tN (.pair tU (.pair tN tN))))),(2,(.sz tN)),(pc 6 tN 0),(8,(.w 212 (.arr 16 tN) 4)),(12,(.c ⟨.fn,(.mk 111 [])⟩)),(pc 13 tN 3),(pv 14 tI)],ob:=[(pv 0 tN),(pv 3 tN)],lo:=4,nx:=5 }
abbrev abO:List Ex:=[(.normal, { sl:=[(0,(.pz (.pair tN (.pair tU (.pair tN tN))))),(pc 6 tN 0),(pc 13 tN 3)],ob:=[(pv 0 tN),(pv 3 tN)],lo:=5,nx:=5 })]
def abP:Code:=aK (aI Tryz.f67) 2
def a7q:Lp:=bF a4j abO 98 eu
def aeI:Con:=aO true [tMN,(.sl tN),(.sl tN)] [tN,tI] λx=>dO x.1 x.2.1.1 x.2.1.2 x.2.2.1.1 x.2.2.1.2
def a7r:Cx:=cx [(65,a7m),(110,alo),(22,aaR),(114,aaS),(111,alr),(23,a2N)] []
theorem Z4:av Tryz.prog a7r:=av.of mixed aD (fc ⟨Z0,fc ⟨aeF,fc ⟨a2O,fc ⟨a2P,fc ⟨aeH,fc ⟨Pe,fz⟩⟩⟩⟩⟩⟩) fz
theorem alA:aX Tryz.prog 0 (.loop alv) a7p:=aF Z4 8 (ah) _ _ _ _ (by decide) λ_=>by kernel_rfl
theorem abQ:aX Tryz.prog 6 (.loop alz) a4i:=aF Z4 8 (ah) _ _ _ _ (by decide) λ_=>by kernel_rfl
theorem alB(x:a4j.X):wJ a7r [(6,a4i)] (fD a7r 8) abP (a4j.mkS 98 x) (lH 2 a4j abO)=eu x:=by kernel_rfl
theorem alC:aX Tryz.prog 2 (.loop abP) a7q:=aF Z4 8 (aR (by kernel_rfl) (aC abQ (by kernel_rfl) fz)) _ _ _ _ (by decide) alB
theorem alD:dU Tryz.prog 67 Tryz.f67 [(0,a7p),(6,a4i),(2,a7q)]:=⟨Tryz.func67,Tryz.call67,aR (by kernel_rfl) (aC alA (by kernel_rfl) (aC abQ (by kernel_rfl) (aC alC (by kernel_rfl) fz)))⟩
theorem atV(r:Z0l)(nbases:Nat)(bases:Nat->NI)(nexps:Nat)(exps:Nat->NI):dJ a7r [(0,a7p),(6,a4i),(2,a7q)] (fD a7r 8) Tryz.f67 (nU [tMN,(.sl tN),(.sl tN)] (r,(nbases,bases),(nexps,exps),())) [] 0 (qw [tN,tI])=mF r nbases bases nexps exps:=by cases r<;>kernel_rfl
theorem a7s:aA Tryz.prog 67 aeI:=aB Z4 8 alD _ _ _ _ (by decide) (λx=>by rw[tF];exact atV x.1 x.2.1.1 x.2.1.2 x.2.2.1.1 x.2.2.1.2)
def a7t:Con:=aO true [tMN,tN,tN] [tN] λx=>aP x.1 x.2.1 x.2.2.1
def aeJ:Cx:=cx [(67,aeI)] []
theorem aeK:av Tryz.prog aeJ:=av.of mixed aD (fc ⟨a7s,fz⟩) fz
theorem atW(r:Z0l)(a:NI)(e:NI):dJ aeJ [] (fD aeJ 8) Tryz.f25 (nU [tMN,tN,tN] (r,a,e,())) [] 0 (qw [tN])=tH r a e:=by cases r<;>kernel_rfl
theorem Z5:aA Tryz.prog 25 a7t:=aB aeK 8 ⟨Tryz.func25,Tryz.call25,ah⟩ _ _ _ _ (by decide) (λx=>by rw[CK];exact atW x.1 x.2.1 x.2.2.1)
def aaT:Con:=aO true [tMN,tN] [.bool] λx=>bX x.1 x.2.1
def aeL:Cx:=cx [(65,a7m),(66,a5A)] []
theorem aeM:av Tryz.prog aeL:=av.of mixed aD (fc ⟨Z0,fc ⟨Ug,fz⟩⟩) fz
theorem atX(r:Z0l)(a:NI):dJ aeL [] (fD aeL 8) Tryz.f24 (nU [tMN,tN] (r,a,())) [] 0 (qw [.bool])=wo r a:=by cases r<;>kernel_rfl
theorem a2Q:aA Tryz.prog 24 aaT:=aB aeM 8 ⟨Tryz.func24,Tryz.call24,ah⟩ _ _ _ _ (by decide) (λx=>by rw[EK];exact atX x.1 x.2.1)
def alE:Con:=aO true [tMN] [tN] λx=>fF x.1
def aeN:Cx:=cx [(65,a7m)] []
theorem aeO:av Tryz.prog aeN:=av.of mixed aD (fc ⟨Z0,fz⟩) fz
theorem atY(r:Z0l):dJ aeN [] (fD aeN 8) Tryz.f191 (nU [tMN] (r,())) [] 0 (qw [tN])=tJ r:=by cases r<;>kernel_rfl
theorem aeP:aA Tryz.prog 191 alE:=aB aeO 8 ⟨Tryz.func191,Tryz.call191,ah⟩ _ _ _ _ (by decide) (λx=>by rw[zB];exact atY x.1)
end
end Go.Proofs.YtlohbhpbkieoeaaGreat
namespace Go.Proofs.YtlohbhpbkieoeaaGreat
noncomputable section
abbrev alF:Shape:= { sl:=[(pv 0 tI),(3,(.v .bool)),(pv 11 tI),(pv 12 tI)],ob:=[],lo:=0,nx:=0 }
abbrev alG:List Ex:=[(.normal, { sl:=[(3,(.v .bool))],ob:=[],lo:=0,nx:=0 })]
def alH:Code:=aK (aI Tryz.f60) 0
def abR:Lp:=bF alF alG 31 dD
def alI:Con:=aO true [tI] [.bool] λx=>AL x.1
def atZ:Cx:=cx [] []
theorem a7u:av Tryz.prog atZ:=av.of mixed aD fz fz
theorem alJ:aX Tryz.prog 0 (.loop alH) abR:=aF a7u 8 (ah) _ _ _ _ (by decide) λ_=>by kernel_rfl
theorem alK:dU Tryz.prog 60 Tryz.f60 [(0,abR)]:=⟨Tryz.func60,Tryz.call60,aR (by kernel_rfl) (aC alJ (by kernel_rfl) fz)⟩
theorem aeQ:aA Tryz.prog 60 alI:=aB a7u 8 alK _ _ _ _ (by decide) (λx=>by rw[Gh];kernel_rfl)
def alL:Con:=aO true [tN,tN,tI] [.bool] λx=>DT x.1 x.2.1 x.2.2.1
def au0:Cx:=cx [(21,aeo),(23,a2N),(104,a7c),(105,aej),(106,aef),(66,a5A),(25,a7t),(107,ala),(108,ale)] []
theorem aeR:av Tryz.prog au0:=av.of mixed aD (fc ⟨a7l,fc ⟨Pe,fc ⟨YX,fc ⟨a7j,fc ⟨a7i,fc ⟨Ug,fc ⟨Z5,fc ⟨aem,fc ⟨aen,fz⟩⟩⟩⟩⟩⟩⟩⟩⟩) fz
theorem aeS:aA Tryz.prog 61 alL:=aB aeR 8 ⟨Tryz.func61,Tryz.call61,ah⟩ _ _ _ _ (by decide) (λx=>by rw[JJ];kernel_rfl)
abbrev alM:Shape:= { sl:=[(0,(.sz (.pair tN tI))),(pv 5 tI)],ob:=[],lo:=0,nx:=0 }
abbrev alN:List Ex:=[(.ret, { sl:=[(pv 2 tI)],ob:=[],lo:=0,nx:=0 }),(.normal, { sl:=[],ob:=[],lo:=0,nx:=0 })]
def alO:Code:=aK (aI Tryz.f20) 0
def abS:Lp:=bF alM alN 60 fG
def alP:Con:=aO true [(.sl (.pair tN tI))] [tI] λx=>sw x.1.1 x.1.2
def au1:Cx:=cx [(59,adY),(60,alI),(61,alL)] []
theorem a7v:av Tryz.prog au1:=av.of mixed aD (fc ⟨a6Z,fc ⟨aeQ,fc ⟨aeS,fz⟩⟩⟩) fz
theorem alQ:aX Tryz.prog 0 (.loop alO) abS:=aF a7v 8 (ah) _ _ _ _ (by decide) λ_=>by kernel_rfl
theorem alR:dU Tryz.prog 20 Tryz.f20 [(0,abS)]:=⟨Tryz.func20,Tryz.call20,aR (by kernel_rfl) (aC alQ (by kernel_rfl) fz)⟩
theorem aeT:aA Tryz.prog 20 alP:=aB a7v 8 alR _ _ _ _ (by decide) (λx=>by rw[Gj];kernel_rfl)
end
end Go.Proofs.YtlohbhpbkieoeaaGreat
namespace Go.Proofs.YtlohbhpbkieoeaaGreat
noncomputable section
def aeU:Con:=aO false [(.pair (.sl (.pair tN tI)) tN)] [(.ptr tGR),tI] λx=>pR x.1
def au2:Cx:=cx [(20,alP),(21,aeo),(22,aaR),(23,a2N),(24,aaT),(25,a7t)] []
theorem aeV:av Tryz.prog au2:=av.of mixed aD (fc ⟨aeT,fc ⟨a7l,fc ⟨a2O,fc ⟨Pe,fc ⟨a2Q,fc ⟨Z5,fz⟩⟩⟩⟩⟩⟩) fz
theorem a7w:aA Tryz.prog 6 aeU:=aB aeV 8 ⟨Tryz.func6,Tryz.call6,ah⟩ _ _ _ _ (by decide) (λx=>by rw[MR];kernel_rfl)
def aaU:Con:=aO false [(.ptr tGR)] [tMN] λx=>bT x.1
def aeW:Cx:=cx [] []
theorem aeX:av Tryz.prog aeW:=av.of mixed aD fz fz
theorem au3(g:(Option GR)):dJ aeW [] (fD aeW 8) Tryz.f68 (nU [(.ptr tGR)] (g,())) [] 0 (qw [tMN])=jm g:=by cases g<;>kernel_rfl
theorem a2R:aA Tryz.prog 68 aaU:=aB aeX 8 ⟨Tryz.func68,Tryz.call68,ah⟩ _ _ _ _ (by decide) (λx=>by rw[oD];exact au3 x.1)
def aaV:Con:=aO false [(.ptr tGR)] [tMN] λx=>aT x.1
def aeY:Cx:=cx [] []
theorem aeZ:av Tryz.prog aeY:=av.of mixed aD fz fz
theorem au4(g:(Option GR)):dJ aeY [] (fD aeY 8) Tryz.f183 (nU [(.ptr tGR)] (g,())) [] 0 (qw [tMN])=jK g:=by cases g<;>kernel_rfl
theorem a2S:aA Tryz.prog 183 aaV:=aB aeZ 8 ⟨Tryz.func183,Tryz.call183,ah⟩ _ _ _ _ (by decide) (λx=>by rw[qx];exact au4 x.1)
def alS:Con:=aO true [(.ptr tGR)] [tN] λx=>dF x.1
def af0:Cx:=cx [(68,aaU),(191,alE)] []
theorem af2:av Tryz.prog af0:=av.of mixed aD (fc ⟨a2R,fc ⟨aeP,fz⟩⟩) fz
theorem au5(g:(Option GR)):dJ af0 [] (fD af0 8) Tryz.f184 (nU [(.ptr tGR)] (g,())) [] 0 (qw [tN])=oF g:=by cases g<;>kernel_rfl
theorem af3:aA Tryz.prog 184 alS:=aB af2 8 ⟨Tryz.func184,Tryz.call184,ah⟩ _ _ _ _ (by decide) (λx=>by rw[vg];exact au5 x.1)
def alT:Con:=aO true [(.ptr tGR)] [tN] λx=>qH x.1
def af4:Cx:=cx [] []
theorem af5:av Tryz.prog af4:=av.of mixed aD fz fz
theorem au6(g:(Option GR)):dJ af4 [] (fD af4 8) Tryz.f186 (nU [(.ptr tGR)] (g,())) [] 0 (qw [tN])=zC g:=by cases g<;>kernel_rfl
theorem af6:aA Tryz.prog 186 alT:=aB af5 8 ⟨Tryz.func186,Tryz.call186,ah⟩ _ _ _ _ (by decide) (λx=>by rw[CO];exact au6 x.1)
end
end Go.Proofs.YtlohbhpbkieoeaaGreat
namespace Go.Proofs.YtlohbhpbkieoeaaGreat
noncomputable section
def af7:Con:=aO false [] [(.pair (.sl (.pair tN tI)) tN)] λx=>CQ
def au7:Cx:=cx [] []
theorem af8:av Tryz.prog au7:=av.of mixed aD fz fz
theorem a7x:aA Tryz.prog 18 af7:=aB af8 8 ⟨Tryz.func18,Tryz.call18,ah⟩ _ _ _ _ (by decide) (λx=>by rw[Nh];kernel_rfl)
def alU:Con:=aO false [] [(.pair (.sl (.pair tN tI)) tN)] λx=>IV
def au8:Cx:=cx [] []
theorem af9:av Tryz.prog au8:=av.of mixed aD fz fz
theorem afa:aA Tryz.prog 26 alU:=aB af9 8 ⟨Tryz.func26,Tryz.call26,ah⟩ _ _ _ _ (by decide) (λx=>by rw[Ni];kernel_rfl)
def alV:Con:=aO false [tI] [(.pair (.sl (.pair tN tI)) tN)] λx=>CR x.1
def au9:Cx:=cx [(26,alU),(18,af7)] []
theorem afb:av Tryz.prog au9:=av.of mixed aD (fc ⟨afa,fc ⟨a7x,fz⟩⟩) fz
theorem afc:aA Tryz.prog 7 alV:=aB afb 8 ⟨Tryz.func7,Tryz.call7,ah⟩ _ _ _ _ (by decide) (λx=>by rw[QB];kernel_rfl)
def alW:Con:=aO true [(.pair (.sl (.pair tN tI)) tN)] [tN] λx=>a4f x.1
def aua:Cx:=cx [] []
theorem afd:av Tryz.prog aua:=av.of mixed aD fz fz
theorem afe:aA Tryz.prog 35 alW:=aB afd 8 ⟨Tryz.func35,Tryz.call35,ah⟩ _ _ _ _ (by decide) (λx=>by rw[a0v];kernel_rfl)
def alX:Con:=aO true [(.pair (.sl (.pair tN tI)) tN)] [tN] λx=>a4g x.1
def aub:Cx:=cx [] []
theorem aff:av Tryz.prog aub:=av.of mixed aD fz fz
theorem afg:aA Tryz.prog 36 alX:=aB aff 8 ⟨Tryz.func36,Tryz.call36,ah⟩ _ _ _ _ (by decide) (λx=>by rw[a0w];kernel_rfl)
end
end Go.Proofs.YtlohbhpbkieoeaaGreat
namespace Go.Proofs.YtlohbhpbkieoeaaGreat
noncomputable section
abbrev alY:Shape:= { sl:=[(pc 1 tN 0),(pc 2 (.arr 256 .bool) 1),(pc 3 (.arr 256 .bool) 2),(pv 4 tI)],ob:=[(pv 0 tN),(pv 1 (.arr 256 .bool)),(pv 2 (.arr 256 .bool))],lo:=3,nx:=3 }
abbrev alZ:List Ex:=[(.normal, { sl:=[(pc 2 (.arr 256 .bool) 1),(pc 3 (.arr 256 .bool) 2)],ob:=[(pv 1 (.arr 256 .bool)),(pv 2 (.arr 256 .bool))],lo:=3,nx:=3 })]
def am0:Code:=aK (aI Tryz.f82) 0
def abT:Lp:=bF alY alZ 22 vk
def aaW:Con:=aO true [tN] [(.arr 256 .bool)] λx=>P5 x.1
def auc:Cx:=cx [] []
theorem a7y:av Tryz.prog auc:=av.of mixed aD fz fz
theorem am1:aX Tryz.prog 0 (.loop am0) abT:=aF a7y 8 (ah) _ _ _ _ (by decide) λ_=>by kernel_rfl
theorem am2:dU Tryz.prog 82 Tryz.f82 [(0,abT)]:=⟨Tryz.func82,Tryz.call82,aR (by kernel_rfl) (aC am1 (by kernel_rfl) fz)⟩
theorem a2T:aA Tryz.prog 82 aaW:=aB a7y 8 am2 _ _ _ _ (by decide) (λx=>by rw[XH];kernel_rfl)
abbrev am3:Shape:= { sl:=[(pc 3 (.arr 256 .bool) 1),(pv 4 tI)],ob:=[(pv 1 (.arr 256 .bool))],lo:=2,nx:=2 }
abbrev am4:List Ex:=[(.ret, { sl:=[(pv 2 tI)],ob:=[],lo:=2,nx:=2 }),(.normal, { sl:=[],ob:=[],lo:=2,nx:=2 })]
def am5:Code:=aK (aI Tryz.f81) 0
def abU:Lp:=bF am3 am4 16 oI
def aaX:Con:=aO true [tN] [tI] λx=>IJ x.1
def aud:Cx:=cx [(82,aaW)] []
theorem a7z:av Tryz.prog aud:=av.of mixed aD (fc ⟨a2T,fz⟩) fz
theorem am6:aX Tryz.prog 0 (.loop am5) abU:=aF a7z 8 (ah) _ _ _ _ (by decide) λ_=>by kernel_rfl
theorem am7:dU Tryz.prog 81 Tryz.f81 [(0,abU)]:=⟨Tryz.func81,Tryz.call81,aR (by kernel_rfl) (aC am6 (by kernel_rfl) fz)⟩
theorem a2U:aA Tryz.prog 81 aaX:=aB a7z 8 am7 _ _ _ _ (by decide) (λx=>by rw[TT];kernel_rfl)
abbrev am8:Shape:= { sl:=[(pv 4 tI),(pc 5 (.arr 256 .bool) 1),(pv 6 tI)],ob:=[(pv 1 (.arr 256 .bool))],lo:=2,nx:=2 }
abbrev am9:List Ex:=[(.normal, { sl:=[(pv 4 tI)],ob:=[],lo:=2,nx:=2 })]
def ama:Code:=aK (aI Tryz.f34) 0
def abV:Lp:=bF am8 am9 24 oJ
def a7A:Con:=aO true [tN] [tI,.bool] λx=>yK x.1
def aue:Cx:=cx [(81,aaX),(82,aaW)] []
theorem a7B:av Tryz.prog aue:=av.of mixed aD (fc ⟨a2U,fc ⟨a2T,fz⟩⟩) fz
theorem amb:aX Tryz.prog 0 (.loop ama) abV:=aF a7B 8 (ah) _ _ _ _ (by decide) λ_=>by kernel_rfl
theorem amc:dU Tryz.prog 34 Tryz.f34 [(0,abV)]:=⟨Tryz.func34,Tryz.call34,aR (by kernel_rfl) (aC amb (by kernel_rfl) fz)⟩
theorem Z6:aA Tryz.prog 34 a7A:=aB a7B 8 amc _ _ _ _ (by decide) (λx=>by rw[TV];kernel_rfl)
abbrev amd:Shape:= { sl:=[(pc 1 (.arr 256 .bool) 0),(pc 2 tN 1),(pc 3 tN 2),(pv 4 tI)],ob:=[(pv 0 (.arr 256 .bool)),(pv 1 tN),(pv 2 tN)],lo:=3,nx:=3 }
abbrev ame:List Ex:=[(.normal, { sl:=[(pc 2 tN 1),(pc 3 tN 2)],ob:=[(pv 1 tN),(pv 2 tN)],lo:=3,nx:=3 })]
def amf:Code:=aK (aI Tryz.f188) 0
def abW:Lp:=bF amd ame 25 oG
def amg:Con:=aO true [(.arr 256 .bool)] [tN] λx=>RU x.1
def auf:Cx:=cx [] []
theorem a7C:av Tryz.prog auf:=av.of mixed aD fz fz
theorem amh:aX Tryz.prog 0 (.loop amf) abW:=aF a7C 8 (ah) _ _ _ _ (by decide) λ_=>by kernel_rfl
theorem ami:dU Tryz.prog 188 Tryz.f188 [(0,abW)]:=⟨Tryz.func188,Tryz.call188,aR (by kernel_rfl) (aC amh (by kernel_rfl) fz)⟩
theorem afh:aA Tryz.prog 188 amg:=aB a7C 8 ami _ _ _ _ (by decide) (λx=>by rw[TN];kernel_rfl)
abbrev amj:Shape:= { sl:=[(pv 0 tI),(pc 2 tN 0),(pc 3 (.arr 256 .bool) 1),(pv 4 tI)],ob:=[(pv 0 tN),(pv 1 (.arr 256 .bool))],lo:=2,nx:=2 }
abbrev amk:List Ex:=[(.normal, { sl:=[(pc 2 tN 0),(pc 3 (.arr 256 .bool) 1)],ob:=[(pv 0 tN),(pv 1 (.arr 256 .bool))],lo:=2,nx:=2 })]
def aml:Code:=aK (aI Tryz.f174) 0
def abX:Lp:=bF amj amk 23 oH
def aaY:Con:=aO true [tI] [tN] λx=>II x.1
def aug:Cx:=cx [(188,amg)] []
theorem a7D:av Tryz.prog aug:=av.of mixed aD (fc ⟨afh,fz⟩) fz
theorem amm:aX Tryz.prog 0 (.loop aml) abX:=aF a7D 8 (ah) _ _ _ _ (by decide) λ_=>by kernel_rfl
theorem amn:dU Tryz.prog 174 Tryz.f174 [(0,abX)]:=⟨Tryz.func174,Tryz.call174,aR (by kernel_rfl) (aC amm (by kernel_rfl) fz)⟩
theorem a2V:aA Tryz.prog 174 aaY:=aB a7D 8 amn _ _ _ _ (by decide) (λx=>by rw[TQ];kernel_rfl)
def afi:Con:=aO true [tN,tI] [tI] λx=>MW x.1 x.2.1
def auh:Cx:=cx [(82,aaW)] []
theorem afj:av Tryz.prog auh:=av.of mixed aD (fc ⟨a2T,fz⟩) fz
theorem a7E:aA Tryz.prog 175 afi:=aB afj 8 ⟨Tryz.func175,Tryz.call175,ah⟩ _ _ _ _ (by decide) (λx=>by rw[TY];kernel_rfl)
abbrev amo:Shape:= { sl:=[(pc 1 tN 0),(4,(.w 5 (.int .u8) 2)),(pv 5 tI),(pv 6 tI),(pv 7 tI)],ob:=[(pv 0 tN)],lo:=2,nx:=3 }
abbrev amq:List Ex:=[(.normal, { sl:=[(pc 1 tN 0),(4,(.w 5 (.int .u8) 3)),(pv 5 tI),(pv 6 tI)],ob:=[(pv 0 tN)],lo:=3,nx:=4 })]
def amr:Code:=aK (aI Tryz.f157) 2
def a7F:Lp:=bF amo amq 40 mV
abbrev a4k:Shape:= { sl:=[(pc 1 tN 0),(4,(.w 5 (.int .u8) 1)),(pv 5 tI)],ob:=[(pv 0 tN)],lo:=1,nx:=2 }
abbrev abY:List Ex:=[(.normal, { sl:=[(4,(.w 5 (.int .u8) 2))],ob:=[],lo:=2,nx:=3 })]
def abZ:Code:=aK (aI Tryz.f157) 0
def ac0:Lp:=bF a4k abY 40 jZ
def ams:Con:=aO true [tN] [.str] λx=>IK x.1
def afk:Cx:=cx [(81,aaX),(175,afi)] []
theorem a2W:av Tryz.prog afk:=av.of mixed aD (fc ⟨a2U,fc ⟨a7E,fz⟩⟩) fz
theorem ac1:aX Tryz.prog 2 (.loop amr) a7F:=aF a2W 8 (ah) _ _ _ _ (by decide) λ_=>by kernel_rfl
theorem amt(x:a4k.X):wJ afk [(2,a7F)] (fD afk 8) abZ (a4k.mkS 40 x) (lH 0 a4k abY)=jZ x:=by kernel_rfl
theorem amu:aX Tryz.prog 0 (.loop abZ) ac0:=aF a2W 8 (aR (by kernel_rfl) (aC ac1 (by kernel_rfl) fz)) _ _ _ _ (by decide) amt
theorem amv:dU Tryz.prog 157 Tryz.f157 [(2,a7F),(0,ac0)]:=⟨Tryz.func157,Tryz.call157,aR (by kernel_rfl) (aC ac1 (by kernel_rfl) (aC amu (by kernel_rfl) fz))⟩
theorem afl:aA Tryz.prog 157 ams:=aB a2W 8 amv _ _ _ _ (by decide) (λx=>by rw[MX];kernel_rfl)
end
end Go.Proofs.YtlohbhpbkieoeaaGreat
namespace Go.Proofs.YtlohbhpbkieoeaaGreat
noncomputable section
abbrev amw:Shape:= { sl:=[(pc 2 tN 0),(pc 3 tN 1),(pc 4 (.arr 32 tI) 2),(pc 5 (.arr 32 tI) 3),(pv 6 tI)],ob:=[(pv 0 tN),(pv 1 tN),(pv 2 (.arr 32 tI)),(pv 3 (.arr 32 tI))],lo:=4,nx:=4 }
abbrev amx:List Ex:=[(.normal, { sl:=[(pc 4 (.arr 32 tI) 2),(pc 5 (.arr 32 tI) 3)],ob:=[(pv 2 (.arr 32 tI)),(pv 3 (.arr 32 tI))],lo:=4,nx:=4 })]
def amy:Code:=aK (aI Tryz.f193) 0
def ac2:Lp:=bF amw amx 38 vB
def amz:Con:=aO true [tN,tN] [(.arr 32 tI)] λx=>U1 x.1 x.2.1
def aui:Cx:=cx [] []
theorem a7G:av Tryz.prog aui:=av.of mixed aD fz fz
theorem amA:aX Tryz.prog 0 (.loop amy) ac2:=aF a7G 8 (ah) _ _ _ _ (by decide) λ_=>by kernel_rfl
theorem amB:dU Tryz.prog 193 Tryz.f193 [(0,ac2)]:=⟨Tryz.func193,Tryz.call193,aR (by kernel_rfl) (aC amA (by kernel_rfl) fz)⟩
theorem afm:aA Tryz.prog 193 amz:=aB a7G 8 amB _ _ _ _ (by decide) (λx=>by rw[XI];kernel_rfl)
abbrev amC:Shape:= { sl:=[(pc 2 (.arr 32 tI) 0),(pc 4 (.arr 32 tI) 1),(pc 5 (.arr 32 tI) 2),(pv 6 tI),(pv 7 tI)],ob:=[(pv 0 (.arr 32 tI)),(pv 1 (.arr 32 tI)),(pv 2 (.arr 32 tI))],lo:=3,nx:=3 }
abbrev amD:List Ex:=[(.normal, { sl:=[(pc 4 (.arr 32 tI) 1),(pc 5 (.arr 32 tI) 2)],ob:=[(pv 1 (.arr 32 tI)),(pv 2 (.arr 32 tI))],lo:=3,nx:=3 })]
def amE:Code:=aK (aI Tryz.f195) 0
def ac3:Lp:=bF amC amD 28 mW
def amF:Con:=aO true [(.arr 32 tI),tI] [(.arr 32 tI)] λx=>IL x.1 x.2.1
def auj:Cx:=cx [] []
theorem a7H:av Tryz.prog auj:=av.of mixed aD fz fz
theorem amG:aX Tryz.prog 0 (.loop amE) ac3:=aF a7H 8 (ah) _ _ _ _ (by decide) λ_=>by kernel_rfl
theorem amH:dU Tryz.prog 195 Tryz.f195 [(0,ac3)]:=⟨Tryz.func195,Tryz.call195,aR (by kernel_rfl) (aC amG (by kernel_rfl) fz)⟩
theorem afn:aA Tryz.prog 195 amF:=aB a7H 8 amH _ _ _ _ (by decide) (λx=>by rw[N8];kernel_rfl)
abbrev amI:Shape:= { sl:=[(pc 2 (.arr 32 tI) 0),(pc 3 (.arr 32 tI) 1),(pv 5 tI)],ob:=[(pv 0 (.arr 32 tI)),(pv 1 (.arr 32 tI))],lo:=2,nx:=2 }
abbrev amJ:List Ex:=[(.ret, { sl:=[(4,(.v .bool))],ob:=[],lo:=2,nx:=2 }),(.normal, { sl:=[],ob:=[],lo:=2,nx:=2 })]
def amK:Code:=aK (aI Tryz.f196) 0
def ac4:Lp:=bF amI amJ 24 kg
def amL:Con:=aO true [(.arr 32 tI),(.arr 32 tI)] [.bool] λx=>IQ x.1 x.2.1
def auk:Cx:=cx [] []
theorem a7I:av Tryz.prog auk:=av.of mixed aD fz fz
theorem amM:aX Tryz.prog 0 (.loop amK) ac4:=aF a7I 8 (ah) _ _ _ _ (by decide) λ_=>by kernel_rfl
theorem amN:dU Tryz.prog 196 Tryz.f196 [(0,ac4)]:=⟨Tryz.func196,Tryz.call196,aR (by kernel_rfl) (aC amM (by kernel_rfl) fz)⟩
theorem afo:aA Tryz.prog 196 amL:=aB a7I 8 amN _ _ _ _ (by decide) (λx=>by rw[N9];kernel_rfl)
abbrev amO:Shape:= { sl:=[(pc 2 (.arr 32 tI) 0),(pc 3 (.arr 32 tI) 1),(pc 4 (.arr 32 tI) 2),(pv 5 tI),(pc 6 (.arr 32 tI) 3),(pv 7 tI)],ob:=[(pv 0 (.arr 32 tI)),(pv 1 (.arr 32 tI)),(pv 2 (.arr 32 tI)),(pv 3 (.arr 32 tI))],lo:=4,nx:=4 }
abbrev amP:List Ex:=[(.normal, { sl:=[(pc 4 (.arr 32 tI) 2),(pc 6 (.arr 32 tI) 3)],ob:=[(pv 2 (.arr 32 tI)),(pv 3 (.arr 32 tI))],lo:=4,nx:=4 })]
def amQ:Code:=aK (aI Tryz.f197) 0
def ac5:Lp:=bF amO amP 31 lN
def amR:Con:=aO true [(.arr 32 tI),(.arr 32 tI)] [(.arr 32 tI)] λx=>Nb x.1 x.2.1
def aul:Cx:=cx [] []
theorem a7J:av Tryz.prog aul:=av.of mixed aD fz fz
theorem amS:aX Tryz.prog 0 (.loop amQ) ac5:=aF a7J 8 (ah) _ _ _ _ (by decide) λ_=>by kernel_rfl
theorem amT:dU Tryz.prog 197 Tryz.f197 [(0,ac5)]:=⟨Tryz.func197,Tryz.call197,aR (by kernel_rfl) (aC amS (by kernel_rfl) fz)⟩
theorem afp:aA Tryz.prog 197 amR:=aB a7J 8 amT _ _ _ _ (by decide) (λx=>by rw[QA];kernel_rfl)
abbrev amU:Shape:= { sl:=[(pc 2 (.arr 32 tI) 0),(pc 3 (.arr 32 tI) 1),(pc 4 (.arr 32 tI) 2),(pc 5 (.arr 32 tI) 3),(pc 6 (.arr 32 tI) 4),(pc 7 (.arr 32 tI) 5),(pv 8 tI)],ob:=[(pv 0 (.arr 32 tI)),(pv 1 (.arr 32 tI)),(pv 2 (.arr 32 tI)),(pv 3 (.arr 32 tI)),(pv 4 (.arr 32 tI)),(pv 5 (.arr 32 tI))],lo:=6,nx:=6 }
abbrev amV:List Ex:=[(.normal, { sl:=[(pc 4 (.arr 32 tI) 2),(pc 5 (.arr 32 tI) 3),(pc 6 (.arr 32 tI) 4),(pc 7 (.arr 32 tI) 5)],ob:=[(pv 2 (.arr 32 tI)),(pv 3 (.arr 32 tI)),(pv 4 (.arr 32 tI)),(pv 5 (.arr 32 tI))],lo:=6,nx:=6 })]
def amW:Code:=aK (aI Tryz.f192) 0
def ac6:Lp:=bF amU amV 45 jo
def amX:Con:=aO true [(.arr 32 tI),(.arr 32 tI)] [(.arr 32 tI),(.arr 32 tI)] λx=>DW x.1 x.2.1
def aum:Cx:=cx [(195,amF),(196,amL),(197,amR)] []
theorem a7K:av Tryz.prog aum:=av.of mixed aD (fc ⟨afn,fc ⟨afo,fc ⟨afp,fz⟩⟩⟩) fz
theorem amY:aX Tryz.prog 0 (.loop amW) ac6:=aF a7K 8 (ah) _ _ _ _ (by decide) λ_=>by kernel_rfl
theorem amZ:dU Tryz.prog 192 Tryz.f192 [(0,ac6)]:=⟨Tryz.func192,Tryz.call192,aR (by kernel_rfl) (aC amY (by kernel_rfl) fz)⟩
theorem afq:aA Tryz.prog 192 amX:=aB a7K 8 amZ _ _ _ _ (by decide) (λx=>by rw[JR];kernel_rfl)
abbrev an0:Shape:= { sl:=[(pc 1 (.arr 32 tI) 0),(pc 2 tN 1),(pc 3 tN 2),(pc 4 tN 3),(pc 5 tN 4),(pv 6 tI)],ob:=[(pv 0 (.arr 32 tI)),(pv 1 tN),(pv 2 tN),(pv 3 tN),(pv 4 tN)],lo:=5,nx:=5 }
abbrev an1:List Ex:=[(.normal, { sl:=[(pc 2 tN 1),(pc 3 tN 2),(pc 4 tN 3),(pc 5 tN 4)],ob:=[(pv 1 tN),(pv 2 tN),(pv 3 tN),(pv 4 tN)],lo:=5,nx:=5 })]
def an2:Code:=aK (aI Tryz.f194) 0
def ac7:Lp:=bF an0 an1 48 pU
def an3:Con:=aO true [(.arr 32 tI)] [tN,tN] λx=>N7 x.1
def aun:Cx:=cx [] []
theorem a7L:av Tryz.prog aun:=av.of mixed aD fz fz
theorem an4:aX Tryz.prog 0 (.loop an2) ac7:=aF a7L 8 (ah) _ _ _ _ (by decide) λ_=>by kernel_rfl
theorem an5:dU Tryz.prog 194 Tryz.f194 [(0,ac7)]:=⟨Tryz.func194,Tryz.call194,aR (by kernel_rfl) (aC an4 (by kernel_rfl) fz)⟩
theorem afr:aA Tryz.prog 194 an3:=aB a7L 8 an5 _ _ _ _ (by decide) (λx=>by rw[Qz];kernel_rfl)
def an6:Con:=aO true [tN,tN,tN] [tN,tI] λx=>Nc x.1 x.2.1 x.2.2.1
def auo:Cx:=cx [(193,amz),(192,amX),(194,an3)] []
theorem afs:av Tryz.prog auo:=av.of mixed aD (fc ⟨afm,fc ⟨afq,fc ⟨afr,fz⟩⟩⟩) fz
theorem aft:aA Tryz.prog 190 an6:=aB afs 8 ⟨Tryz.func190,Tryz.call190,ah⟩ _ _ _ _ (by decide) (λx=>by rw[U6];kernel_rfl)
end
end Go.Proofs.YtlohbhpbkieoeaaGreat
namespace Go.Proofs.YtlohbhpbkieoeaaGreat
noncomputable section
abbrev an7:Shape:= { sl:=[(0,(.sz tN)),(1,(.sz tN)),(pv 5 tI)],ob:=[],lo:=0,nx:=0 }
abbrev an8:List Ex:=[(.ret, { sl:=[(4,(.v .bool))],ob:=[],lo:=0,nx:=0 }),(.normal, { sl:=[],ob:=[],lo:=0,nx:=0 })]
def an9:Code:=aK (aI Tryz.f126) 0
def ac8:Lp:=bF an7 an8 26 lQ
def afu:Con:=aO true [(.sl tN),(.sl tN)] [.bool] λx=>Gs x.1.1 x.1.2 x.2.1.1 x.2.1.2
def aup:Cx:=cx [] []
theorem a7M:av Tryz.prog aup:=av.of mixed aD fz fz
theorem ana:aX Tryz.prog 0 (.loop an9) ac8:=aF a7M 8 (ah) _ _ _ _ (by decide) λ_=>by kernel_rfl
theorem anb:dU Tryz.prog 126 Tryz.f126 [(0,ac8)]:=⟨Tryz.func126,Tryz.call126,aR (by kernel_rfl) (aC ana (by kernel_rfl) fz)⟩
theorem a7N:aA Tryz.prog 126 afu:=aB a7M 8 anb _ _ _ _ (by decide) (λx=>by rw[QC];kernel_rfl)
def anc:Con:=aO true [tN,tI] [tI] λx=>YT x.1 x.2.1
def auq:Cx:=cx [(174,aaY),(190,an6),(34,a7A)] []
theorem afv:av Tryz.prog auq:=av.of mixed aD (fc ⟨a2V,fc ⟨aft,fc ⟨Z6,fz⟩⟩⟩) fz
theorem afw:aA Tryz.prog 178 anc:=aB afv 8 ⟨Tryz.func178,Tryz.call178,ah⟩ _ _ _ _ (by decide) (λx=>by rw[XJ];kernel_rfl)
end
end Go.Proofs.YtlohbhpbkieoeaaGreat
namespace Go.Proofs.YtlohbhpbkieoeaaGreat
noncomputable section
def afx:Con:=aO true [tI,tI,tI] [tI] λx=>za x.1 x.2.1 x.2.2.1
def aur:Cx:=cx [(142,aaQ),(165,adW)] []
theorem afy:av Tryz.prog aur:=av.of mixed aD (fc ⟨a2M,fc ⟨a6Y,fz⟩⟩) fz
theorem a7O:aA Tryz.prog 189 afx:=aB afy 8 ⟨Tryz.func189,Tryz.call189,ah⟩ _ _ _ _ (by decide) (λx=>by rw[Nf];kernel_rfl)
abbrev ane:Shape:= { sl:=[(pv 0 tI),(pv 2 tI),(pc 4 tN 0),(pv 7 tI),(pv 8 tI)],ob:=[(pv 0 tN)],lo:=1,nx:=1 }
abbrev anf:List Ex:=[(.normal, { sl:=[(pv 7 tI)],ob:=[],lo:=1,nx:=1 })]
def ang:Code:=aK (aI Tryz.f176) 0
def ac9:Lp:=bF ane anf 31 ko
def anh:Con:=aO true [tI,tN,tI] [tI] λx=>IU x.1 x.2.1 x.2.2.1
def aus:Cx:=cx [(81,aaX),(189,afx),(175,afi)] []
theorem a7P:av Tryz.prog aus:=av.of mixed aD (fc ⟨a2U,fc ⟨a7O,fc ⟨a7E,fz⟩⟩⟩) fz
theorem ani:aX Tryz.prog 0 (.loop ang) ac9:=aF a7P 8 (ah) _ _ _ _ (by decide) λ_=>by kernel_rfl
theorem anj:dU Tryz.prog 176 Tryz.f176 [(0,ac9)]:=⟨Tryz.func176,Tryz.call176,aR (by kernel_rfl) (aC ani (by kernel_rfl) fz)⟩
theorem afz:aA Tryz.prog 176 anh:=aB a7P 8 anj _ _ _ _ (by decide) (λx=>by rw[Ng];kernel_rfl)
end
end Go.Proofs.YtlohbhpbkieoeaaGreat
namespace Go.Proofs.YtlohbhpbkieoeaaGreat
noncomputable section
def ank:Con:=aO true [(.pair (.sl (.pair tN tI)) tN)] [(.pair tI (.pair tI tI))] λx=>Ub x.1
def aut:Cx:=cx [(35,alW),(34,a7A),(36,alX)] []
theorem afA:av Tryz.prog aut:=av.of mixed aD (fc ⟨afe,fc ⟨Z6,fc ⟨afg,fz⟩⟩⟩) fz
theorem afB:aA Tryz.prog 10 ank:=aB afA 8 ⟨Tryz.func10,Tryz.call10,ah⟩ _ _ _ _ (by decide) (λx=>by rw[XK];kernel_rfl)
def aaZ:Con:=aO true [(.pair tI (.pair tI tI)),tI,tN] [tI] λx=>IW x.1 x.2.1 x.2.2.1
def auu:Cx:=cx [(176,anh)] []
theorem afC:av Tryz.prog auu:=av.of mixed aD (fc ⟨afz,fz⟩) fz
theorem a2X:aA Tryz.prog 158 aaZ:=aB afC 8 ⟨Tryz.func158,Tryz.call158,ah⟩ _ _ _ _ (by decide) (λx=>by rw[Ud];kernel_rfl)
def anl:Con:=aO true [(.pair tI (.pair tI tI)),tN] [.bool] λx=>YW x.1 x.2.1
def auv:Cx:=cx [(34,a7A),(174,aaY),(158,aaZ)] []
theorem afD:av Tryz.prog auv:=av.of mixed aD (fc ⟨Z6,fc ⟨a2V,fc ⟨a2X,fz⟩⟩⟩) fz
theorem afE:aA Tryz.prog 155 anl:=aB afD 8 ⟨Tryz.func155,Tryz.call155,ah⟩ _ _ _ _ (by decide) (λx=>by rw[XL];kernel_rfl)
def anm:Con:=aO true [(.pair tI (.pair tI tI)),tI,tI] [tI] λx=>RV x.1 x.2.1 x.2.2.1
def auw:Cx:=cx [(189,afx)] []
theorem afF:av Tryz.prog auw:=av.of mixed aD (fc ⟨a7O,fz⟩) fz
theorem afG:aA Tryz.prog 177 anm:=aB afF 8 ⟨Tryz.func177,Tryz.call177,ah⟩ _ _ _ _ (by decide) (λx=>by rw[Uf];kernel_rfl)
end
end Go.Proofs.YtlohbhpbkieoeaaGreat
namespace Go.Proofs.YtlohbhpbkieoeaaGreat
noncomputable def ano:Con:=aO true [(.ptr tGR),tN] [.bool] λx=>Gl x.1 x.2.1
noncomputable def afH:Cx:=cx [(68,aaU),(24,aaT)] []
theorem afI:av Tryz.prog afH:=av.of mixed aD (fc ⟨a2R,fc ⟨a2Q,fz⟩⟩) fz
theorem auy(g:(Option GR))(a:NI):dJ afH [] (fD afH 8) Tryz.f171 (nU [(.ptr tGR),tN] (g,a,())) [] 0 (qw [.bool])=IC g a:=by cases g<;>kernel_rfl
theorem afJ:aA Tryz.prog 171 ano:=aB afI 8 ⟨Tryz.func171,Tryz.call171,ah⟩ _ _ _ _ (by decide) (λx=>by rw[Qs];exact auy x.1 x.2.1)
end Go.Proofs.YtlohbhpbkieoeaaGreat
namespace Go.Proofs.YtlohbhpbkieoeaaGreat
noncomputable section
def afK:Con:=aO true [(.ptr tGR),tN] [.bool] λx=>MV x.1 x.2.1
def afL:Cx:=cx [(183,aaV),(24,aaT),(184,alS),(25,a7t),(23,a2N)] []
theorem afM:av Tryz.prog afL:=av.of mixed aD (fc ⟨a2S,fc ⟨a2Q,fc ⟨af3,fc ⟨Z5,fc ⟨Pe,fz⟩⟩⟩⟩⟩) fz
theorem auz(g:(Option GR))(a:NI):dJ afL [] (fD afL 8) Tryz.f170 (nU [(.ptr tGR),tN] (g,a,())) [] 0 (qw [.bool])=IG g a:=by cases g<;>kernel_rfl
theorem a7Q:aA Tryz.prog 170 afK:=aB afM 8 ⟨Tryz.func170,Tryz.call170,ah⟩ _ _ _ _ (by decide) (λx=>by rw[Qu];exact auz x.1 x.2.1)
def anp:Con:=aO true [(.ptr tGR),tN,tN] [tN] λx=>CP x.1 x.2.1 x.2.2.1
def afN:Cx:=cx [(183,aaV),(25,a7t)] []
theorem afO:av Tryz.prog afN:=av.of mixed aD (fc ⟨a2S,fc ⟨Z5,fz⟩⟩) fz
theorem auA(g:(Option GR))(a:NI)(e:NI):dJ afN [] (fD afN 8) Tryz.f185 (nU [(.ptr tGR),tN,tN] (g,a,e,())) [] 0 (qw [tN])=DV g a e:=by cases g<;>kernel_rfl
theorem afP:aA Tryz.prog 185 anp:=aB afO 8 ⟨Tryz.func185,Tryz.call185,ah⟩ _ _ _ _ (by decide) (λx=>by rw[MU];exact auA x.1 x.2.1 x.2.2.1)
def anq:Con:=aO true [(.ptr tGR),tN] [tN] λx=>Gn x.1 x.2.1
def afQ:Cx:=cx [(186,alT),(185,anp)] []
theorem afR:av Tryz.prog afQ:=av.of mixed aD (fc ⟨af6,fc ⟨afP,fz⟩⟩) fz
theorem auB(g:(Option GR))(e:NI):dJ afQ [] (fD afQ 8) Tryz.f172 (nU [(.ptr tGR),tN] (g,e,())) [] 0 (qw [tN])=IE g e:=by cases g<;>kernel_rfl
theorem afS:aA Tryz.prog 172 anq:=aB afR 8 ⟨Tryz.func172,Tryz.call172,ah⟩ _ _ _ _ (by decide) (λx=>by rw[Qt];exact auB x.1 x.2.1)
def anr:Con:=aO true [(.ptr tGR),(.sl tN),(.sl tN)] [tN,tI] λx=>AQ x.1 x.2.1.1 x.2.1.2 x.2.2.1.1 x.2.2.1.2
def afT:Cx:=cx [(183,aaV),(67,aeI)] []
theorem afU:av Tryz.prog afT:=av.of mixed aD (fc ⟨a2S,fc ⟨a7s,fz⟩⟩) fz
theorem auC(g:(Option GR))(nbases:Nat)(bases:Nat->NI)(nexps:Nat)(exps:Nat->NI):dJ afT [] (fD afT 8) Tryz.f187 (nU [(.ptr tGR),(.sl tN),(.sl tN)] (g,(nbases,bases),(nexps,exps),())) [] 0 (qw [tN,tI])=yJ g nbases bases nexps exps:=by cases g<;>kernel_rfl
theorem afV:aA Tryz.prog 187 anr:=aB afU 8 ⟨Tryz.func187,Tryz.call187,ah⟩ _ _ _ _ (by decide) (λx=>by rw[Gm];exact auC x.1 x.2.1.1 x.2.1.2 x.2.2.1.1 x.2.2.1.2)
end
end Go.Proofs.YtlohbhpbkieoeaaGreat
