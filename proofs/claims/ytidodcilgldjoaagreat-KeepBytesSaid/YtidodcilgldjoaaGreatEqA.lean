/-
  The functions of the program are the plain ones.
-/
import Derived.Test.YtidodcilgldjoaaGreatProg
import Derived.Test.YtidodcilgldjoaaGreatDenM
import Derived.KernelRfl
import Derived.Test.YtidodcilgldjoaaGreatPlA
set_option linter.unusedVariables false
set_option linter.unusedSimpArgs false
set_option maxRecDepth 100000
set_option maxHeartbeats 0
namespace Go.Pl
end Go.Pl
open Go Go.Den Go.Pl
namespace Go.Proofs.YtidodcilgldjoaaGreat
abbrev tN:Ty:=.arr 4 (.int .u64)
abbrev tU:Ty:=.int .u64
abbrev tI:Ty:=.int .i64
abbrev pc(i:Nat)(t:Ty)(r:Nat):Nat×Pat:=(i,.c ⟨.ptr t,.rf r []⟩)
abbrev pv(i:Nat)(t:Ty):Nat×Pat:=(i,.v t)
theorem fc {α:Type _} {p:α→Prop} {a:α} {l:List α}(h:p a∧ ∀x∈l,p x): ∀x∈a::l,p x:=List.forall_mem_cons.2 h
theorem fz {α:Type _} {p:α→Prop} : ∀x∈([]:List α),p x:=List.forall_mem_nil _
noncomputable def ti:List (Nat×TI):=[
  (3,⟨(TypeDesc.int IntKind.i64),(.int .i64),8⟩),
  (4,⟨TypeDesc.bool,.bool,1⟩),
  (5,⟨(TypeDesc.int IntKind.u8),(.int .u8),1⟩),
  (9,⟨TypeDesc.string,.str,16⟩),
  (22,⟨(TypeDesc.slice 3),(.sl (.int .i64)),24⟩),
  (23,⟨(TypeDesc.slice 71),(.sl (.pair .str (.pair (.pair (.pair (.int .i64) (.int .i64)) (.pair .str (.pair (.sl (.sl (.arr 4 (.int .u64)))) (.pair (.sl (.arr 4 (.int .u64))) (.int .i64))))) (.pair (.sl (.pair (.int .i64) (.pair (.pair (.int .i64) (.int .i64)) .str))) (.pair (.sl (.pair (.int .i64) (.pair (.pair (.int .i64) (.int .i64)) .str))) (.sl (.pair (.pair (.pair (.int .i64) (.int .i64)) (.pair .str (.pair (.sl (.sl (.arr 4 (.int .u64)))) (.pair (.sl (.arr 4 (.int .u64))) (.int .i64))))) (.pair (.pair (.pair (.int .i64) (.int .i64)) (.pair .str (.pair (.sl (.sl (.arr 4 (.int .u64)))) (.pair (.sl (.arr 4 (.int .u64))) (.int .i64))))) (.pair (.pair (.pair (.int .i64) (.int .i64)) (.pair .str (.pair (.sl (.sl (.arr 4 (.int .u64)))) (.pair (.sl (.arr 4 (.int .u64))) (.int .i64))))) (.pair (.int .i64) (.int .i64))))))))))),24⟩),
  (25,⟨(TypeDesc.struct #[{ name:= "T",type:=3,offset:=0,embedded:=false,tag:= "",pkgPath:= "",byteOffset:=0 }, { name:= "Number",type:=3,offset:=1,embedded:=false,tag:= "",pkgPath:= "",byteOffset:=8 }, { name:= "Clients",type:=3,offset:=2,embedded:=false,tag:= "",pkgPath:= "",byteOffset:=16 }, { name:= "Used",type:=22,offset:=3,embedded:=false,tag:= "",pkgPath:= "",byteOffset:=24 }, { name:= "Records",type:=23,offset:=4,embedded:=false,tag:= "",pkgPath:= "",byteOffset:=48 }]),(.pair (.int .i64) (.pair (.int .i64) (.pair (.int .i64) (.pair (.sl (.int .i64)) (.sl (.pair .str (.pair (.pair (.pair (.int .i64) (.int .i64)) (.pair .str (.pair (.sl (.sl (.arr 4 (.int .u64)))) (.pair (.sl (.arr 4 (.int .u64))) (.int .i64))))) (.pair (.sl (.pair (.int .i64) (.pair (.pair (.int .i64) (.int .i64)) .str))) (.pair (.sl (.pair (.int .i64) (.pair (.pair (.int .i64) (.int .i64)) .str))) (.sl (.pair (.pair (.pair (.int .i64) (.int .i64)) (.pair .str (.pair (.sl (.sl (.arr 4 (.int .u64)))) (.pair (.sl (.arr 4 (.int .u64))) (.int .i64))))) (.pair (.pair (.pair (.int .i64) (.int .i64)) (.pair .str (.pair (.sl (.sl (.arr 4 (.int .u64)))) (.pair (.sl (.arr 4 (.int .u64))) (.int .i64))))) (.pair (.pair (.pair (.int .i64) (.int .i64)) (.pair .str (.pair (.sl (.sl (.arr 4 (.int .u64)))) (.pair (.sl (.arr 4 (.int .u64))) (.int .i64))))) (.pair (.int .i64) (.int .i64))))))))))))))),72⟩),
  (28,⟨(TypeDesc.int IntKind.i64),(.int .i64),8⟩),
  (36,⟨(TypeDesc.pointer 124),(.ptr (.pair (.pair (.ptr (.pair (.arr 4 (.int .u64)) (.pair (.int .u64) (.pair (.arr 4 (.int .u64)) (.arr 4 (.int .u64)))))) (.ptr (.pair (.arr 4 (.int .u64)) (.pair (.int .u64) (.pair (.arr 4 (.int .u64)) (.arr 4 (.int .u64))))))) (.arr 4 (.int .u64)))),8⟩),
  (39,⟨(TypeDesc.slice 116),(.sl (.pair (.arr 4 (.int .u64)) (.int .i64))),24⟩),
  (40,⟨(TypeDesc.int IntKind.u64),(.int .u64),8⟩),
  (42,⟨(TypeDesc.array 4 40),(.arr 4 (.int .u64)),32⟩),
  (44,⟨(TypeDesc.struct #[{ name:= "Chain",type:=39,offset:=0,embedded:=false,tag:= "",pkgPath:= "",byteOffset:=0 }, { name:= "G",type:=42,offset:=1,embedded:=false,tag:= "",pkgPath:= "",byteOffset:=24 }]),(.pair (.sl (.pair (.arr 4 (.int .u64)) (.int .i64))) (.arr 4 (.int .u64))),56⟩),
  (46,⟨(TypeDesc.pointer 59),(.ptr (.pair (.ptr (.pair (.pair (.ptr (.pair (.arr 4 (.int .u64)) (.pair (.int .u64) (.pair (.arr 4 (.int .u64)) (.arr 4 (.int .u64)))))) (.ptr (.pair (.arr 4 (.int .u64)) (.pair (.int .u64) (.pair (.arr 4 (.int .u64)) (.arr 4 (.int .u64))))))) (.arr 4 (.int .u64)))) (.pair (.int .i64) (.pair (.int .i64) (.pair (.int .i64) (.pair (.int .i64) (.pair (.ptr (.pair (.int .i64) (.pair (.int .i64) (.pair (.sl .str) .mp)))) (.pair .mp (.sl (.pair (.int .i64) (.pair (.int .i64) (.pair (.int .i64) (.pair .str (.pair (.pair (.int .i64) (.int .i64)) (.pair .str (.pair (.sl (.sl (.arr 4 (.int .u64)))) (.sl (.arr 4 (.int .u64))))))))))))))))))),8⟩),
  (55,⟨(TypeDesc.pointer 192),(.ptr (.pair (.int .i64) (.pair (.int .i64) (.pair (.sl .str) .mp)))),8⟩),
  (56,⟨(TypeDesc.map 9 129),.mp,8⟩),
  (57,⟨(TypeDesc.slice 323),(.sl (.pair (.int .i64) (.pair (.int .i64) (.pair (.int .i64) (.pair .str (.pair (.pair (.int .i64) (.int .i64)) (.pair .str (.pair (.sl (.sl (.arr 4 (.int .u64)))) (.sl (.arr 4 (.int .u64))))))))))),24⟩),
  (59,⟨(TypeDesc.struct #[{ name:= "g",type:=36,offset:=0,embedded:=false,tag:= "",pkgPath:= "sacristy/server",byteOffset:=0 }, { name:= "t",type:=3,offset:=1,embedded:=false,tag:= "",pkgPath:= "sacristy/server",byteOffset:=8 }, { name:= "number",type:=3,offset:=2,embedded:=false,tag:= "",pkgPath:= "sacristy/server",byteOffset:=16 }, { name:= "n",type:=3,offset:=3,embedded:=false,tag:= "",pkgPath:= "sacristy/server",byteOffset:=24 }, { name:= "m",type:=3,offset:=4,embedded:=false,tag:= "",pkgPath:= "sacristy/server",byteOffset:=32 }, { name:= "space",type:=55,offset:=5,embedded:=false,tag:= "",pkgPath:= "sacristy/server",byteOffset:=40 }, { name:= "records",type:=56,offset:=6,embedded:=false,tag:= "",pkgPath:= "sacristy/server",byteOffset:=48 }, { name:= "out",type:=57,offset:=7,embedded:=false,tag:= "",pkgPath:= "sacristy/server",byteOffset:=56 }]),(.pair (.ptr (.pair (.pair (.ptr (.pair (.arr 4 (.int .u64)) (.pair (.int .u64) (.pair (.arr 4 (.int .u64)) (.arr 4 (.int .u64)))))) (.ptr (.pair (.arr 4 (.int .u64)) (.pair (.int .u64) (.pair (.arr 4 (.int .u64)) (.arr 4 (.int .u64))))))) (.arr 4 (.int .u64)))) (.pair (.int .i64) (.pair (.int .i64) (.pair (.int .i64) (.pair (.int .i64) (.pair (.ptr (.pair (.int .i64) (.pair (.int .i64) (.pair (.sl .str) .mp)))) (.pair .mp (.sl (.pair (.int .i64) (.pair (.int .i64) (.pair (.int .i64) (.pair .str (.pair (.pair (.int .i64) (.int .i64)) (.pair .str (.pair (.sl (.sl (.arr 4 (.int .u64)))) (.sl (.arr 4 (.int .u64)))))))))))))))))),80⟩),
  (62,⟨(TypeDesc.struct #[{ name:= "Seq",type:=3,offset:=0,embedded:=false,tag:= "",pkgPath:= "",byteOffset:=0 }, { name:= "Client",type:=3,offset:=1,embedded:=false,tag:= "",pkgPath:= "",byteOffset:=8 }]),(.pair (.int .i64) (.int .i64)),16⟩),
  (64,⟨(TypeDesc.slice 65),(.sl (.sl (.arr 4 (.int .u64)))),24⟩),
  (65,⟨(TypeDesc.slice 42),(.sl (.arr 4 (.int .u64))),24⟩),
  (67,⟨(TypeDesc.struct #[{ name:= "Stamp",type:=62,offset:=0,embedded:=false,tag:= "",pkgPath:= "",byteOffset:=0 }, { name:= "Digest",type:=9,offset:=2,embedded:=false,tag:= "",pkgPath:= "",byteOffset:=16 }, { name:= "Matrix",type:=64,offset:=3,embedded:=false,tag:= "",pkgPath:= "",byteOffset:=32 }, { name:= "Ys",type:=65,offset:=4,embedded:=false,tag:= "",pkgPath:= "",byteOffset:=56 }, { name:= "Op",type:=3,offset:=5,embedded:=false,tag:= "",pkgPath:= "",byteOffset:=80 }]),(.pair (.pair (.int .i64) (.int .i64)) (.pair .str (.pair (.sl (.sl (.arr 4 (.int .u64)))) (.pair (.sl (.arr 4 (.int .u64))) (.int .i64))))),88⟩),
  (68,⟨(TypeDesc.slice 74),(.sl (.pair (.int .i64) (.pair (.pair (.int .i64) (.int .i64)) .str))),24⟩),
  (69,⟨(TypeDesc.slice 76),(.sl (.pair (.pair (.pair (.int .i64) (.int .i64)) (.pair .str (.pair (.sl (.sl (.arr 4 (.int .u64)))) (.pair (.sl (.arr 4 (.int .u64))) (.int .i64))))) (.pair (.pair (.pair (.int .i64) (.int .i64)) (.pair .str (.pair (.sl (.sl (.arr 4 (.int .u64)))) (.pair (.sl (.arr 4 (.int .u64))) (.int .i64))))) (.pair (.pair (.pair (.int .i64) (.int .i64)) (.pair .str (.pair (.sl (.sl (.arr 4 (.int .u64)))) (.pair (.sl (.arr 4 (.int .u64))) (.int .i64))))) (.pair (.int .i64) (.int .i64)))))),24⟩),
  (71,⟨(TypeDesc.struct #[{ name:= "Key",type:=9,offset:=0,embedded:=false,tag:= "",pkgPath:= "",byteOffset:=0 }, { name:= "Held",type:=67,offset:=1,embedded:=false,tag:= "",pkgPath:= "",byteOffset:=16 }, { name:= "Echoes",type:=68,offset:=7,embedded:=false,tag:= "",pkgPath:= "",byteOffset:=104 }, { name:= "Readies",type:=68,offset:=8,embedded:=false,tag:= "",pkgPath:= "",byteOffset:=128 }, { name:= "Clients",type:=69,offset:=9,embedded:=false,tag:= "",pkgPath:= "",byteOffset:=152 }]),(.pair .str (.pair (.pair (.pair (.int .i64) (.int .i64)) (.pair .str (.pair (.sl (.sl (.arr 4 (.int .u64)))) (.pair (.sl (.arr 4 (.int .u64))) (.int .i64))))) (.pair (.sl (.pair (.int .i64) (.pair (.pair (.int .i64) (.int .i64)) .str))) (.pair (.sl (.pair (.int .i64) (.pair (.pair (.int .i64) (.int .i64)) .str))) (.sl (.pair (.pair (.pair (.int .i64) (.int .i64)) (.pair .str (.pair (.sl (.sl (.arr 4 (.int .u64)))) (.pair (.sl (.arr 4 (.int .u64))) (.int .i64))))) (.pair (.pair (.pair (.int .i64) (.int .i64)) (.pair .str (.pair (.sl (.sl (.arr 4 (.int .u64)))) (.pair (.sl (.arr 4 (.int .u64))) (.int .i64))))) (.pair (.pair (.pair (.int .i64) (.int .i64)) (.pair .str (.pair (.sl (.sl (.arr 4 (.int .u64)))) (.pair (.sl (.arr 4 (.int .u64))) (.int .i64))))) (.pair (.int .i64) (.int .i64)))))))))),176⟩),
  (74,⟨(TypeDesc.struct #[{ name:= "Server",type:=3,offset:=0,embedded:=false,tag:= "",pkgPath:= "",byteOffset:=0 }, { name:= "Stamp",type:=62,offset:=1,embedded:=false,tag:= "",pkgPath:= "",byteOffset:=8 }, { name:= "Digest",type:=9,offset:=3,embedded:=false,tag:= "",pkgPath:= "",byteOffset:=24 }]),(.pair (.int .i64) (.pair (.pair (.int .i64) (.int .i64)) .str)),40⟩),
  (76,⟨(TypeDesc.struct #[{ name:= "Even",type:=67,offset:=0,embedded:=false,tag:= "",pkgPath:= "",byteOffset:=0 }, { name:= "Odd",type:=67,offset:=6,embedded:=false,tag:= "",pkgPath:= "",byteOffset:=88 }, { name:= "Waits",type:=67,offset:=12,embedded:=false,tag:= "",pkgPath:= "",byteOffset:=176 }, { name:= "Op",type:=3,offset:=18,embedded:=false,tag:= "",pkgPath:= "",byteOffset:=264 }, { name:= "Left",type:=3,offset:=19,embedded:=false,tag:= "",pkgPath:= "",byteOffset:=272 }]),(.pair (.pair (.pair (.int .i64) (.int .i64)) (.pair .str (.pair (.sl (.sl (.arr 4 (.int .u64)))) (.pair (.sl (.arr 4 (.int .u64))) (.int .i64))))) (.pair (.pair (.pair (.int .i64) (.int .i64)) (.pair .str (.pair (.sl (.sl (.arr 4 (.int .u64)))) (.pair (.sl (.arr 4 (.int .u64))) (.int .i64))))) (.pair (.pair (.pair (.int .i64) (.int .i64)) (.pair .str (.pair (.sl (.sl (.arr 4 (.int .u64)))) (.pair (.sl (.arr 4 (.int .u64))) (.int .i64))))) (.pair (.int .i64) (.int .i64))))),280⟩),
  (78,⟨(TypeDesc.slice 5),(.sl (.int .u8)),24⟩),
  (79,⟨(TypeDesc.pointer 84),(.ptr (.pair (.pair (.sp 82) (.sl (.int .u8))) .bool)),8⟩),
  (80,⟨(TypeDesc.pointer 82),(.sp 82),8⟩),
  (82,⟨(TypeDesc.struct #[{ name:= "addr",type:=80,offset:=0,embedded:=false,tag:= "",pkgPath:= "strings",byteOffset:=0 }, { name:= "buf",type:=78,offset:=1,embedded:=false,tag:= "",pkgPath:= "strings",byteOffset:=8 }]),(.pair (.sp 82) (.sl (.int .u8))),32⟩),
  (84,⟨(TypeDesc.struct #[{ name:= "Builder",type:=82,offset:=0,embedded:=true,tag:= "",pkgPath:= "",byteOffset:=0 }, { name:= "bad",type:=4,offset:=2,embedded:=false,tag:= "",pkgPath:= "sacristy/keep",byteOffset:=32 }]),(.pair (.pair (.sp 82) (.sl (.int .u8))) .bool),40⟩),
  (88,⟨(TypeDesc.pointer 90),(.ptr (.pair .str .bool)),8⟩),
  (90,⟨(TypeDesc.struct #[{ name:= "S",type:=9,offset:=0,embedded:=false,tag:= "",pkgPath:= "",byteOffset:=0 }, { name:= "Bad",type:=4,offset:=1,embedded:=false,tag:= "",pkgPath:= "",byteOffset:=16 }]),(.pair .str .bool),24⟩),
  (94,⟨(TypeDesc.pointer 96),(.ptr (.pair .str .bool)),8⟩),
  (96,⟨(TypeDesc.struct #[{ name:= "rest",type:=9,offset:=0,embedded:=false,tag:= "",pkgPath:= "sacristy/keep",byteOffset:=0 }, { name:= "bad",type:=4,offset:=1,embedded:=false,tag:= "",pkgPath:= "sacristy/keep",byteOffset:=16 }]),(.pair .str .bool),24⟩),
  (101,⟨(TypeDesc.pointer 103),(.ptr (.pair .str (.pair (.int .i64) .bool))),8⟩),
  (103,⟨(TypeDesc.struct #[{ name:= "S",type:=9,offset:=0,embedded:=false,tag:= "",pkgPath:= "",byteOffset:=0 }, { name:= "At",type:=3,offset:=1,embedded:=false,tag:= "",pkgPath:= "",byteOffset:=16 }, { name:= "Bad",type:=4,offset:=2,embedded:=false,tag:= "",pkgPath:= "",byteOffset:=24 }]),(.pair .str (.pair (.int .i64) .bool)),32⟩),
  (108,⟨(TypeDesc.array 8 3),(.arr 8 (.int .i64)),64⟩),
  (112,⟨(TypeDesc.pointer 183),(.ptr (.pair (.arr 4 (.int .u64)) (.pair (.int .u64) (.pair (.arr 4 (.int .u64)) (.arr 4 (.int .u64)))))),8⟩),
  (116,⟨(TypeDesc.struct #[{ name:= "N",type:=42,offset:=0,embedded:=false,tag:= "",pkgPath:= "",byteOffset:=0 }, { name:= "A",type:=3,offset:=4,embedded:=false,tag:= "",pkgPath:= "",byteOffset:=32 }]),(.pair (.arr 4 (.int .u64)) (.int .i64)),40⟩),
  (122,⟨(TypeDesc.struct #[{ name:= "ring",type:=112,offset:=0,embedded:=false,tag:= "",pkgPath:= "sacristy/group",byteOffset:=0 }, { name:= "field",type:=112,offset:=1,embedded:=false,tag:= "",pkgPath:= "sacristy/group",byteOffset:=8 }]),(.pair (.ptr (.pair (.arr 4 (.int .u64)) (.pair (.int .u64) (.pair (.arr 4 (.int .u64)) (.arr 4 (.int .u64)))))) (.ptr (.pair (.arr 4 (.int .u64)) (.pair (.int .u64) (.pair (.arr 4 (.int .u64)) (.arr 4 (.int .u64))))))),16⟩),
  (124,⟨(TypeDesc.struct #[{ name:= "rings",type:=122,offset:=0,embedded:=true,tag:= "",pkgPath:= "sacristy/group",byteOffset:=0 }, { name:= "g",type:=42,offset:=2,embedded:=false,tag:= "",pkgPath:= "sacristy/group",byteOffset:=16 }]),(.pair (.pair (.ptr (.pair (.arr 4 (.int .u64)) (.pair (.int .u64) (.pair (.arr 4 (.int .u64)) (.arr 4 (.int .u64)))))) (.ptr (.pair (.arr 4 (.int .u64)) (.pair (.int .u64) (.pair (.arr 4 (.int .u64)) (.arr 4 (.int .u64))))))) (.arr 4 (.int .u64))),48⟩),
  (126,⟨(TypeDesc.slice 9),(.sl .str),24⟩),
  (129,⟨(TypeDesc.pointer 154),(.ptr (.pair (.pair (.pair (.int .i64) (.int .i64)) (.pair .str (.pair (.sl (.sl (.arr 4 (.int .u64)))) (.sl (.arr 4 (.int .u64)))))) (.pair .str (.pair (.ptr (.pair (.int .i64) (.arr 7 (.arr 4 (.arr 2 (.pair (.pair (.int .i64) (.int .i64)) .str)))))) (.pair (.ptr (.pair (.int .i64) (.arr 7 (.arr 4 (.arr 2 (.pair (.pair (.int .i64) (.int .i64)) .str)))))) (.arr 4 (.pair (.arr 2 (.pair (.pair (.pair (.int .i64) (.int .i64)) (.pair .str (.pair (.sl (.sl (.arr 4 (.int .u64)))) (.sl (.arr 4 (.int .u64)))))) (.int .i64))) (.pair (.pair (.pair (.pair (.int .i64) (.int .i64)) (.pair .str (.pair (.sl (.sl (.arr 4 (.int .u64)))) (.sl (.arr 4 (.int .u64)))))) (.int .i64)) (.pair (.int .i64) (.int .i64)))))))))),8⟩),
  (137,⟨(TypeDesc.slice 67),(.sl (.pair (.pair (.int .i64) (.int .i64)) (.pair .str (.pair (.sl (.sl (.arr 4 (.int .u64)))) (.pair (.sl (.arr 4 (.int .u64))) (.int .i64)))))),24⟩),
  (163,⟨(TypeDesc.pointer 5),(.ptr (.int .u8)),8⟩),
  (167,⟨(TypeDesc.int IntKind.u64),(.int .u64),8⟩),
  (172,⟨(TypeDesc.pointer 230),(.ptr (.pair .bool (.pair (.arr 8 (.int .u32)) (.pair (.arr 64 (.int .u8)) (.int .i64))))),8⟩),
  (176,⟨(TypeDesc.array 64 3),(.arr 64 (.int .i64)),512⟩),
  (183,⟨(TypeDesc.struct #[{ name:= "m",type:=42,offset:=0,embedded:=false,tag:= "",pkgPath:= "sacristy/mont",byteOffset:=0 }, { name:= "inv",type:=40,offset:=4,embedded:=false,tag:= "",pkgPath:= "sacristy/mont",byteOffset:=32 }, { name:= "one",type:=42,offset:=5,embedded:=false,tag:= "",pkgPath:= "sacristy/mont",byteOffset:=40 }, { name:= "square",type:=42,offset:=9,embedded:=false,tag:= "",pkgPath:= "sacristy/mont",byteOffset:=72 }]),(.pair (.arr 4 (.int .u64)) (.pair (.int .u64) (.pair (.arr 4 (.int .u64)) (.arr 4 (.int .u64))))),104⟩),
  (190,⟨(TypeDesc.map 3 3),.mp,8⟩),
  (192,⟨(TypeDesc.struct #[{ name:= "servers",type:=3,offset:=0,embedded:=false,tag:= "",pkgPath:= "sacristy/space",byteOffset:=0 }, { name:= "clients",type:=3,offset:=1,embedded:=false,tag:= "",pkgPath:= "sacristy/space",byteOffset:=8 }, { name:= "keys",type:=126,offset:=2,embedded:=false,tag:= "",pkgPath:= "sacristy/space",byteOffset:=16 }, { name:= "used",type:=190,offset:=3,embedded:=false,tag:= "",pkgPath:= "sacristy/space",byteOffset:=40 }]),(.pair (.int .i64) (.pair (.int .i64) (.pair (.sl .str) .mp))),48⟩),
  (208,⟨(TypeDesc.array 256 4),(.arr 256 .bool),256⟩),
  (225,⟨(TypeDesc.int IntKind.u32),(.int .u32),4⟩),
  (226,⟨(TypeDesc.array 8 225),(.arr 8 (.int .u32)),32⟩),
  (228,⟨(TypeDesc.array 64 5),(.arr 64 (.int .u8)),64⟩),
  (230,⟨(TypeDesc.struct #[{ name:= "given",type:=4,offset:=0,embedded:=false,tag:= "",pkgPath:= "sacristy/sha",byteOffset:=0 }, { name:= "words",type:=226,offset:=1,embedded:=false,tag:= "",pkgPath:= "sacristy/sha",byteOffset:=4 }, { name:= "rest",type:=228,offset:=9,embedded:=false,tag:= "",pkgPath:= "sacristy/sha",byteOffset:=36 }, { name:= "n",type:=3,offset:=73,embedded:=false,tag:= "",pkgPath:= "sacristy/sha",byteOffset:=104 }]),(.pair .bool (.pair (.arr 8 (.int .u32)) (.pair (.arr 64 (.int .u8)) (.int .i64)))),112⟩),
  (232,⟨(TypeDesc.array 8 5),(.arr 8 (.int .u8)),8⟩),
  (240,⟨(TypeDesc.slice 241),(.sl (.arr 16 (.arr 4 (.int .u64)))),24⟩),
  (241,⟨(TypeDesc.array 16 42),(.arr 16 (.arr 4 (.int .u64))),512⟩),
  (262,⟨(TypeDesc.array 64 225),(.arr 64 (.int .u32)),256⟩),
  (266,⟨(TypeDesc.slice 225),(.sl (.int .u32)),24⟩),
  (270,⟨(TypeDesc.array 8 40),(.arr 8 (.int .u64)),64⟩),
  (273,⟨(TypeDesc.slice 40),(.sl (.int .u64)),24⟩),
  (276,⟨(TypeDesc.array 6 40),(.arr 6 (.int .u64)),48⟩),
  (321,⟨(TypeDesc.struct #[{ name:= "Kind",type:=3,offset:=0,embedded:=false,tag:= "",pkgPath:= "",byteOffset:=0 }, { name:= "Op",type:=3,offset:=1,embedded:=false,tag:= "",pkgPath:= "",byteOffset:=8 }, { name:= "Key",type:=9,offset:=2,embedded:=false,tag:= "",pkgPath:= "",byteOffset:=16 }, { name:= "Stamp",type:=62,offset:=3,embedded:=false,tag:= "",pkgPath:= "",byteOffset:=32 }, { name:= "Digest",type:=9,offset:=5,embedded:=false,tag:= "",pkgPath:= "",byteOffset:=48 }, { name:= "Matrix",type:=64,offset:=6,embedded:=false,tag:= "",pkgPath:= "",byteOffset:=64 }, { name:= "Ys",type:=65,offset:=7,embedded:=false,tag:= "",pkgPath:= "",byteOffset:=88 }]),(.pair (.int .i64) (.pair (.int .i64) (.pair .str (.pair (.pair (.int .i64) (.int .i64)) (.pair .str (.pair (.sl (.sl (.arr 4 (.int .u64)))) (.sl (.arr 4 (.int .u64))))))))),112⟩),
  (323,⟨(TypeDesc.struct #[{ name:= "To",type:=3,offset:=0,embedded:=false,tag:= "",pkgPath:= "",byteOffset:=0 }, { name:= "M",type:=321,offset:=1,embedded:=false,tag:= "",pkgPath:= "",byteOffset:=8 }]),(.pair (.int .i64) (.pair (.int .i64) (.pair (.int .i64) (.pair .str (.pair (.pair (.int .i64) (.int .i64)) (.pair .str (.pair (.sl (.sl (.arr 4 (.int .u64)))) (.sl (.arr 4 (.int .u64)))))))))),120⟩)]
theorem ti3:TI1 Tryz.prog ti (3,⟨(TypeDesc.int IntKind.i64),(.int .i64),8⟩) where
  under:=Tryz.underlying3
  info:=by kernel_rfl
  zero:=by kernel_rfl
  shape:=rfl
  head:=by intro _ h; cases h
  eq:=fun h=>absurd h (by decide)
theorem ti4:TI1 Tryz.prog ti (4,⟨TypeDesc.bool,.bool,1⟩) where
  under:=Tryz.underlying4
  info:=by kernel_rfl
  zero:=by kernel_rfl
  shape:=rfl
  head:=by intro _ h; cases h
  eq:=fun h=>absurd h (by decide)
theorem ti5:TI1 Tryz.prog ti (5,⟨(TypeDesc.int IntKind.u8),(.int .u8),1⟩) where
  under:=Tryz.underlying5
  info:=by kernel_rfl
  zero:=by kernel_rfl
  shape:=rfl
  head:=by intro _ h; cases h
  eq:=fun h=>absurd h (by decide)
theorem ti9:TI1 Tryz.prog ti (9,⟨TypeDesc.string,.str,16⟩) where
  under:=Tryz.underlying9
  info:=by kernel_rfl
  zero:=by kernel_rfl
  shape:=rfl
  head:=by intro _ h; cases h
  eq:=fun h=>absurd h (by decide)
theorem anG:TI1 Tryz.prog ti (22,⟨(TypeDesc.slice 3),(.sl (.int .i64)),24⟩) where
  under:=Tryz.underlying22
  info:=by kernel_rfl
  zero:=by kernel_rfl
  shape:=⟨_,rfl,rfl,by decide⟩
  head:=by intro _ h; cases h
  eq:=fun h=>absurd h (by decide)
theorem anH:TI1 Tryz.prog ti (23,⟨(TypeDesc.slice 71),(.sl (.pair .str (.pair (.pair (.pair (.int .i64) (.int .i64)) (.pair .str (.pair (.sl (.sl (.arr 4 (.int .u64)))) (.pair (.sl (.arr 4 (.int .u64))) (.int .i64))))) (.pair (.sl (.pair (.int .i64) (.pair (.pair (.int .i64) (.int .i64)) .str))) (.pair (.sl (.pair (.int .i64) (.pair (.pair (.int .i64) (.int .i64)) .str))) (.sl (.pair (.pair (.pair (.int .i64) (.int .i64)) (.pair .str (.pair (.sl (.sl (.arr 4 (.int .u64)))) (.pair (.sl (.arr 4 (.int .u64))) (.int .i64))))) (.pair (.pair (.pair (.int .i64) (.int .i64)) (.pair .str (.pair (.sl (.sl (.arr 4 (.int .u64)))) (.pair (.sl (.arr 4 (.int .u64))) (.int .i64))))) (.pair (.pair (.pair (.int .i64) (.int .i64)) (.pair .str (.pair (.sl (.sl (.arr 4 (.int .u64)))) (.pair (.sl (.arr 4 (.int .u64))) (.int .i64))))) (.pair (.int .i64) (.int .i64))))))))))),24⟩) where
  under:=Tryz.underlying23
  info:=by kernel_rfl
  zero:=by kernel_rfl
  shape:=⟨_,rfl,rfl,by decide⟩
  head:=by intro _ h; cases h
  eq:=fun h=>absurd h (by decide)
theorem anI:TI1 Tryz.prog ti (25,⟨(TypeDesc.struct #[{ name:= "T",type:=3,offset:=0,embedded:=false,tag:= "",pkgPath:= "",byteOffset:=0 }, { name:= "Number",type:=3,offset:=1,embedded:=false,tag:= "",pkgPath:= "",byteOffset:=8 }, { name:= "Clients",type:=3,offset:=2,embedded:=false,tag:= "",pkgPath:= "",byteOffset:=16 }, { name:= "Used",type:=22,offset:=3,embedded:=false,tag:= "",pkgPath:= "",byteOffset:=24 }, { name:= "Records",type:=23,offset:=4,embedded:=false,tag:= "",pkgPath:= "",byteOffset:=48 }]),(.pair (.int .i64) (.pair (.int .i64) (.pair (.int .i64) (.pair (.sl (.int .i64)) (.sl (.pair .str (.pair (.pair (.pair (.int .i64) (.int .i64)) (.pair .str (.pair (.sl (.sl (.arr 4 (.int .u64)))) (.pair (.sl (.arr 4 (.int .u64))) (.int .i64))))) (.pair (.sl (.pair (.int .i64) (.pair (.pair (.int .i64) (.int .i64)) .str))) (.pair (.sl (.pair (.int .i64) (.pair (.pair (.int .i64) (.int .i64)) .str))) (.sl (.pair (.pair (.pair (.int .i64) (.int .i64)) (.pair .str (.pair (.sl (.sl (.arr 4 (.int .u64)))) (.pair (.sl (.arr 4 (.int .u64))) (.int .i64))))) (.pair (.pair (.pair (.int .i64) (.int .i64)) (.pair .str (.pair (.sl (.sl (.arr 4 (.int .u64)))) (.pair (.sl (.arr 4 (.int .u64))) (.int .i64))))) (.pair (.pair (.pair (.int .i64) (.int .i64)) (.pair .str (.pair (.sl (.sl (.arr 4 (.int .u64)))) (.pair (.sl (.arr 4 (.int .u64))) (.int .i64))))) (.pair (.int .i64) (.int .i64))))))))))))))),72⟩) where
  under:=Tryz.underlying25
  info:=by kernel_rfl
  zero:=by kernel_rfl
  shape:=⟨rfl,⟨rfl,by decide,⟨_,rfl,rfl,by decide⟩,⟨rfl,by decide,⟨_,rfl,rfl,by decide⟩,⟨rfl,by decide,⟨_,rfl,rfl,by decide⟩,⟨rfl,by decide,⟨_,rfl,rfl,by decide⟩,⟨rfl,by decide,_,rfl,rfl,by decide⟩⟩⟩⟩⟩⟩
  head:=by intro _ h; cases h
  eq:=fun _ h=>absurd h (by decide)
theorem anJ:TI1 Tryz.prog ti (28,⟨(TypeDesc.int IntKind.i64),(.int .i64),8⟩) where
  under:=Tryz.underlying28
  info:=by kernel_rfl
  zero:=by kernel_rfl
  shape:=rfl
  head:=by intro _ h; cases h
  eq:=fun h=>absurd h (by decide)
theorem anK:TI1 Tryz.prog ti (36,⟨(TypeDesc.pointer 124),(.ptr (.pair (.pair (.ptr (.pair (.arr 4 (.int .u64)) (.pair (.int .u64) (.pair (.arr 4 (.int .u64)) (.arr 4 (.int .u64)))))) (.ptr (.pair (.arr 4 (.int .u64)) (.pair (.int .u64) (.pair (.arr 4 (.int .u64)) (.arr 4 (.int .u64))))))) (.arr 4 (.int .u64)))),8⟩) where
  under:=Tryz.underlying36
  info:=by kernel_rfl
  zero:=by kernel_rfl
  shape:=.inl ⟨_,rfl⟩
  head:=by intro _ h; cases h
  eq:=fun h=>absurd h (by decide)
theorem anL:TI1 Tryz.prog ti (39,⟨(TypeDesc.slice 116),(.sl (.pair (.arr 4 (.int .u64)) (.int .i64))),24⟩) where
  under:=Tryz.underlying39
  info:=by kernel_rfl
  zero:=by kernel_rfl
  shape:=⟨_,rfl,rfl,by decide⟩
  head:=by intro _ h; cases h
  eq:=fun h=>absurd h (by decide)
theorem anM:TI1 Tryz.prog ti (40,⟨(TypeDesc.int IntKind.u64),(.int .u64),8⟩) where
  under:=Tryz.underlying40
  info:=by kernel_rfl
  zero:=by kernel_rfl
  shape:=rfl
  head:=by intro _ h; cases h
  eq:=fun h=>absurd h (by decide)
theorem anN:TI1 Tryz.prog ti (42,⟨(TypeDesc.array 4 40),(.arr 4 (.int .u64)),32⟩) where
  under:=Tryz.underlying42
  info:=by kernel_rfl
  zero:=by kernel_rfl
  shape:=⟨_,rfl,rfl,by decide,by decide⟩
  head:=by intro _ h; cases h
  eq:=fun _ _=>⟨by kernel_rfl,by kernel_rfl,(by intro fs h; cases h<;>decide),by decide⟩
theorem anO:TI1 Tryz.prog ti (44,⟨(TypeDesc.struct #[{ name:= "Chain",type:=39,offset:=0,embedded:=false,tag:= "",pkgPath:= "",byteOffset:=0 }, { name:= "G",type:=42,offset:=1,embedded:=false,tag:= "",pkgPath:= "",byteOffset:=24 }]),(.pair (.sl (.pair (.arr 4 (.int .u64)) (.int .i64))) (.arr 4 (.int .u64))),56⟩) where
  under:=Tryz.underlying44
  info:=by kernel_rfl
  zero:=by kernel_rfl
  shape:=⟨rfl,⟨rfl,by decide,⟨_,rfl,rfl,by decide⟩,⟨rfl,by decide,_,rfl,rfl,by decide⟩⟩⟩
  head:=by intro _ h; cases h
  eq:=fun _ h=>absurd h (by decide)
theorem anP:TI1 Tryz.prog ti (46,⟨(TypeDesc.pointer 59),(.ptr (.pair (.ptr (.pair (.pair (.ptr (.pair (.arr 4 (.int .u64)) (.pair (.int .u64) (.pair (.arr 4 (.int .u64)) (.arr 4 (.int .u64)))))) (.ptr (.pair (.arr 4 (.int .u64)) (.pair (.int .u64) (.pair (.arr 4 (.int .u64)) (.arr 4 (.int .u64))))))) (.arr 4 (.int .u64)))) (.pair (.int .i64) (.pair (.int .i64) (.pair (.int .i64) (.pair (.int .i64) (.pair (.ptr (.pair (.int .i64) (.pair (.int .i64) (.pair (.sl .str) .mp)))) (.pair .mp (.sl (.pair (.int .i64) (.pair (.int .i64) (.pair (.int .i64) (.pair .str (.pair (.pair (.int .i64) (.int .i64)) (.pair .str (.pair (.sl (.sl (.arr 4 (.int .u64)))) (.sl (.arr 4 (.int .u64))))))))))))))))))),8⟩) where
  under:=Tryz.underlying46
  info:=by kernel_rfl
  zero:=by kernel_rfl
  shape:=.inl ⟨_,rfl⟩
  head:=by intro _ h; cases h
  eq:=fun h=>absurd h (by decide)
theorem anQ:TI1 Tryz.prog ti (55,⟨(TypeDesc.pointer 192),(.ptr (.pair (.int .i64) (.pair (.int .i64) (.pair (.sl .str) .mp)))),8⟩) where
  under:=Tryz.underlying55
  info:=by kernel_rfl
  zero:=by kernel_rfl
  shape:=.inl ⟨_,rfl⟩
  head:=by intro _ h; cases h
  eq:=fun h=>absurd h (by decide)
theorem anR:TI1 Tryz.prog ti (56,⟨(TypeDesc.map 9 129),.mp,8⟩) where
  under:=Tryz.underlying56
  info:=by kernel_rfl
  zero:=by kernel_rfl
  shape:=rfl
  head:=by intro _ h; cases h
  eq:=fun h=>absurd h (by decide)
theorem anS:TI1 Tryz.prog ti (57,⟨(TypeDesc.slice 323),(.sl (.pair (.int .i64) (.pair (.int .i64) (.pair (.int .i64) (.pair .str (.pair (.pair (.int .i64) (.int .i64)) (.pair .str (.pair (.sl (.sl (.arr 4 (.int .u64)))) (.sl (.arr 4 (.int .u64))))))))))),24⟩) where
  under:=Tryz.underlying57
  info:=by kernel_rfl
  zero:=by kernel_rfl
  shape:=⟨_,rfl,rfl,by decide⟩
  head:=by intro _ h; cases h
  eq:=fun h=>absurd h (by decide)
theorem anT:TI1 Tryz.prog ti (59,⟨(TypeDesc.struct #[{ name:= "g",type:=36,offset:=0,embedded:=false,tag:= "",pkgPath:= "sacristy/server",byteOffset:=0 }, { name:= "t",type:=3,offset:=1,embedded:=false,tag:= "",pkgPath:= "sacristy/server",byteOffset:=8 }, { name:= "number",type:=3,offset:=2,embedded:=false,tag:= "",pkgPath:= "sacristy/server",byteOffset:=16 }, { name:= "n",type:=3,offset:=3,embedded:=false,tag:= "",pkgPath:= "sacristy/server",byteOffset:=24 }, { name:= "m",type:=3,offset:=4,embedded:=false,tag:= "",pkgPath:= "sacristy/server",byteOffset:=32 }, { name:= "space",type:=55,offset:=5,embedded:=false,tag:= "",pkgPath:= "sacristy/server",byteOffset:=40 }, { name:= "records",type:=56,offset:=6,embedded:=false,tag:= "",pkgPath:= "sacristy/server",byteOffset:=48 }, { name:= "out",type:=57,offset:=7,embedded:=false,tag:= "",pkgPath:= "sacristy/server",byteOffset:=56 }]),(.pair (.ptr (.pair (.pair (.ptr (.pair (.arr 4 (.int .u64)) (.pair (.int .u64) (.pair (.arr 4 (.int .u64)) (.arr 4 (.int .u64)))))) (.ptr (.pair (.arr 4 (.int .u64)) (.pair (.int .u64) (.pair (.arr 4 (.int .u64)) (.arr 4 (.int .u64))))))) (.arr 4 (.int .u64)))) (.pair (.int .i64) (.pair (.int .i64) (.pair (.int .i64) (.pair (.int .i64) (.pair (.ptr (.pair (.int .i64) (.pair (.int .i64) (.pair (.sl .str) .mp)))) (.pair .mp (.sl (.pair (.int .i64) (.pair (.int .i64) (.pair (.int .i64) (.pair .str (.pair (.pair (.int .i64) (.int .i64)) (.pair .str (.pair (.sl (.sl (.arr 4 (.int .u64)))) (.sl (.arr 4 (.int .u64)))))))))))))))))),80⟩) where
  under:=Tryz.underlying59
  info:=by kernel_rfl
  zero:=by kernel_rfl
  shape:=⟨rfl,⟨rfl,by decide,⟨_,rfl,rfl,by decide⟩,⟨rfl,by decide,⟨_,rfl,rfl,by decide⟩,⟨rfl,by decide,⟨_,rfl,rfl,by decide⟩,⟨rfl,by decide,⟨_,rfl,rfl,by decide⟩,⟨rfl,by decide,⟨_,rfl,rfl,by decide⟩,⟨rfl,by decide,⟨_,rfl,rfl,by decide⟩,⟨rfl,by decide,⟨_,rfl,rfl,by decide⟩,⟨rfl,by decide,_,rfl,rfl,by decide⟩⟩⟩⟩⟩⟩⟩⟩⟩
  head:=by intro _ h; cases h
  eq:=fun _ h=>absurd h (by decide)
theorem anU:TI1 Tryz.prog ti (62,⟨(TypeDesc.struct #[{ name:= "Seq",type:=3,offset:=0,embedded:=false,tag:= "",pkgPath:= "",byteOffset:=0 }, { name:= "Client",type:=3,offset:=1,embedded:=false,tag:= "",pkgPath:= "",byteOffset:=8 }]),(.pair (.int .i64) (.int .i64)),16⟩) where
  under:=Tryz.underlying62
  info:=by kernel_rfl
  zero:=by kernel_rfl
  shape:=⟨rfl,⟨rfl,by decide,⟨_,rfl,rfl,by decide⟩,⟨rfl,by decide,_,rfl,rfl,by decide⟩⟩⟩
  head:=by intro _ h; cases h
  eq:=fun _ _=>⟨by kernel_rfl,by kernel_rfl,(by intro fs h; cases h<;>decide),by decide⟩
theorem anV:TI1 Tryz.prog ti (64,⟨(TypeDesc.slice 65),(.sl (.sl (.arr 4 (.int .u64)))),24⟩) where
  under:=Tryz.underlying64
  info:=by kernel_rfl
  zero:=by kernel_rfl
  shape:=⟨_,rfl,rfl,by decide⟩
  head:=by intro _ h; cases h
  eq:=fun h=>absurd h (by decide)
theorem anW:TI1 Tryz.prog ti (65,⟨(TypeDesc.slice 42),(.sl (.arr 4 (.int .u64))),24⟩) where
  under:=Tryz.underlying65
  info:=by kernel_rfl
  zero:=by kernel_rfl
  shape:=⟨_,rfl,rfl,by decide⟩
  head:=by intro _ h; cases h
  eq:=fun h=>absurd h (by decide)
theorem anX:TI1 Tryz.prog ti (67,⟨(TypeDesc.struct #[{ name:= "Stamp",type:=62,offset:=0,embedded:=false,tag:= "",pkgPath:= "",byteOffset:=0 }, { name:= "Digest",type:=9,offset:=2,embedded:=false,tag:= "",pkgPath:= "",byteOffset:=16 }, { name:= "Matrix",type:=64,offset:=3,embedded:=false,tag:= "",pkgPath:= "",byteOffset:=32 }, { name:= "Ys",type:=65,offset:=4,embedded:=false,tag:= "",pkgPath:= "",byteOffset:=56 }, { name:= "Op",type:=3,offset:=5,embedded:=false,tag:= "",pkgPath:= "",byteOffset:=80 }]),(.pair (.pair (.int .i64) (.int .i64)) (.pair .str (.pair (.sl (.sl (.arr 4 (.int .u64)))) (.pair (.sl (.arr 4 (.int .u64))) (.int .i64))))),88⟩) where
  under:=Tryz.underlying67
  info:=by kernel_rfl
  zero:=by kernel_rfl
  shape:=⟨rfl,⟨rfl,by decide,⟨_,rfl,rfl,by decide⟩,⟨rfl,by decide,⟨_,rfl,rfl,by decide⟩,⟨rfl,by decide,⟨_,rfl,rfl,by decide⟩,⟨rfl,by decide,⟨_,rfl,rfl,by decide⟩,⟨rfl,by decide,_,rfl,rfl,by decide⟩⟩⟩⟩⟩⟩
  head:=by intro _ h; cases h
  eq:=fun _ h=>absurd h (by decide)
theorem anY:TI1 Tryz.prog ti (68,⟨(TypeDesc.slice 74),(.sl (.pair (.int .i64) (.pair (.pair (.int .i64) (.int .i64)) .str))),24⟩) where
  under:=Tryz.underlying68
  info:=by kernel_rfl
  zero:=by kernel_rfl
  shape:=⟨_,rfl,rfl,by decide⟩
  head:=by intro _ h; cases h
  eq:=fun h=>absurd h (by decide)
theorem anZ:TI1 Tryz.prog ti (69,⟨(TypeDesc.slice 76),(.sl (.pair (.pair (.pair (.int .i64) (.int .i64)) (.pair .str (.pair (.sl (.sl (.arr 4 (.int .u64)))) (.pair (.sl (.arr 4 (.int .u64))) (.int .i64))))) (.pair (.pair (.pair (.int .i64) (.int .i64)) (.pair .str (.pair (.sl (.sl (.arr 4 (.int .u64)))) (.pair (.sl (.arr 4 (.int .u64))) (.int .i64))))) (.pair (.pair (.pair (.int .i64) (.int .i64)) (.pair .str (.pair (.sl (.sl (.arr 4 (.int .u64)))) (.pair (.sl (.arr 4 (.int .u64))) (.int .i64))))) (.pair (.int .i64) (.int .i64)))))),24⟩) where
  under:=Tryz.underlying69
  info:=by kernel_rfl
  zero:=by kernel_rfl
  shape:=⟨_,rfl,rfl,by decide⟩
  head:=by intro _ h; cases h
  eq:=fun h=>absurd h (by decide)
theorem ao0:TI1 Tryz.prog ti (71,⟨(TypeDesc.struct #[{ name:= "Key",type:=9,offset:=0,embedded:=false,tag:= "",pkgPath:= "",byteOffset:=0 }, { name:= "Held",type:=67,offset:=1,embedded:=false,tag:= "",pkgPath:= "",byteOffset:=16 }, { name:= "Echoes",type:=68,offset:=7,embedded:=false,tag:= "",pkgPath:= "",byteOffset:=104 }, { name:= "Readies",type:=68,offset:=8,embedded:=false,tag:= "",pkgPath:= "",byteOffset:=128 }, { name:= "Clients",type:=69,offset:=9,embedded:=false,tag:= "",pkgPath:= "",byteOffset:=152 }]),(.pair .str (.pair (.pair (.pair (.int .i64) (.int .i64)) (.pair .str (.pair (.sl (.sl (.arr 4 (.int .u64)))) (.pair (.sl (.arr 4 (.int .u64))) (.int .i64))))) (.pair (.sl (.pair (.int .i64) (.pair (.pair (.int .i64) (.int .i64)) .str))) (.pair (.sl (.pair (.int .i64) (.pair (.pair (.int .i64) (.int .i64)) .str))) (.sl (.pair (.pair (.pair (.int .i64) (.int .i64)) (.pair .str (.pair (.sl (.sl (.arr 4 (.int .u64)))) (.pair (.sl (.arr 4 (.int .u64))) (.int .i64))))) (.pair (.pair (.pair (.int .i64) (.int .i64)) (.pair .str (.pair (.sl (.sl (.arr 4 (.int .u64)))) (.pair (.sl (.arr 4 (.int .u64))) (.int .i64))))) (.pair (.pair (.pair (.int .i64) (.int .i64)) (.pair .str (.pair (.sl (.sl (.arr 4 (.int .u64)))) (.pair (.sl (.arr 4 (.int .u64))) (.int .i64))))) (.pair (.int .i64) (.int .i64)))))))))),176⟩) where
  under:=Tryz.underlying71
  info:=by kernel_rfl
  zero:=by kernel_rfl
  shape:=⟨rfl,⟨rfl,by decide,⟨_,rfl,rfl,by decide⟩,⟨rfl,by decide,⟨_,rfl,rfl,by decide⟩,⟨rfl,by decide,⟨_,rfl,rfl,by decide⟩,⟨rfl,by decide,⟨_,rfl,rfl,by decide⟩,⟨rfl,by decide,_,rfl,rfl,by decide⟩⟩⟩⟩⟩⟩
  head:=by intro _ h; cases h
  eq:=fun _ h=>absurd h (by decide)
theorem ao1:TI1 Tryz.prog ti (74,⟨(TypeDesc.struct #[{ name:= "Server",type:=3,offset:=0,embedded:=false,tag:= "",pkgPath:= "",byteOffset:=0 }, { name:= "Stamp",type:=62,offset:=1,embedded:=false,tag:= "",pkgPath:= "",byteOffset:=8 }, { name:= "Digest",type:=9,offset:=3,embedded:=false,tag:= "",pkgPath:= "",byteOffset:=24 }]),(.pair (.int .i64) (.pair (.pair (.int .i64) (.int .i64)) .str)),40⟩) where
  under:=Tryz.underlying74
  info:=by kernel_rfl
  zero:=by kernel_rfl
  shape:=⟨rfl,⟨rfl,by decide,⟨_,rfl,rfl,by decide⟩,⟨rfl,by decide,⟨_,rfl,rfl,by decide⟩,⟨rfl,by decide,_,rfl,rfl,by decide⟩⟩⟩⟩
  head:=by intro _ h; cases h
  eq:=fun _ _=>⟨by kernel_rfl,by kernel_rfl,(by intro fs h; cases h<;>decide),by decide⟩
theorem ao2:TI1 Tryz.prog ti (76,⟨(TypeDesc.struct #[{ name:= "Even",type:=67,offset:=0,embedded:=false,tag:= "",pkgPath:= "",byteOffset:=0 }, { name:= "Odd",type:=67,offset:=6,embedded:=false,tag:= "",pkgPath:= "",byteOffset:=88 }, { name:= "Waits",type:=67,offset:=12,embedded:=false,tag:= "",pkgPath:= "",byteOffset:=176 }, { name:= "Op",type:=3,offset:=18,embedded:=false,tag:= "",pkgPath:= "",byteOffset:=264 }, { name:= "Left",type:=3,offset:=19,embedded:=false,tag:= "",pkgPath:= "",byteOffset:=272 }]),(.pair (.pair (.pair (.int .i64) (.int .i64)) (.pair .str (.pair (.sl (.sl (.arr 4 (.int .u64)))) (.pair (.sl (.arr 4 (.int .u64))) (.int .i64))))) (.pair (.pair (.pair (.int .i64) (.int .i64)) (.pair .str (.pair (.sl (.sl (.arr 4 (.int .u64)))) (.pair (.sl (.arr 4 (.int .u64))) (.int .i64))))) (.pair (.pair (.pair (.int .i64) (.int .i64)) (.pair .str (.pair (.sl (.sl (.arr 4 (.int .u64)))) (.pair (.sl (.arr 4 (.int .u64))) (.int .i64))))) (.pair (.int .i64) (.int .i64))))),280⟩) where
  under:=Tryz.underlying76
  info:=by kernel_rfl
  zero:=by kernel_rfl
  shape:=⟨rfl,⟨rfl,by decide,⟨_,rfl,rfl,by decide⟩,⟨rfl,by decide,⟨_,rfl,rfl,by decide⟩,⟨rfl,by decide,⟨_,rfl,rfl,by decide⟩,⟨rfl,by decide,⟨_,rfl,rfl,by decide⟩,⟨rfl,by decide,_,rfl,rfl,by decide⟩⟩⟩⟩⟩⟩
  head:=by intro _ h; cases h
  eq:=fun _ h=>absurd h (by decide)
theorem ao3:TI1 Tryz.prog ti (78,⟨(TypeDesc.slice 5),(.sl (.int .u8)),24⟩) where
  under:=Tryz.underlying78
  info:=by kernel_rfl
  zero:=by kernel_rfl
  shape:=⟨_,rfl,rfl,by decide⟩
  head:=by intro _ h; cases h
  eq:=fun h=>absurd h (by decide)
theorem ao4:TI1 Tryz.prog ti (79,⟨(TypeDesc.pointer 84),(.ptr (.pair (.pair (.sp 82) (.sl (.int .u8))) .bool)),8⟩) where
  under:=Tryz.underlying79
  info:=by kernel_rfl
  zero:=by kernel_rfl
  shape:=.inl ⟨_,rfl⟩
  head:=by intro _ h; cases h
  eq:=fun h=>absurd h (by decide)
theorem ao5:TI1 Tryz.prog ti (80,⟨(TypeDesc.pointer 82),(.sp 82),8⟩) where
  under:=Tryz.underlying80
  info:=by kernel_rfl
  zero:=by kernel_rfl
  shape:=.inr ⟨_,rfl⟩
  head:=by intro _ h; cases h
  eq:=fun h=>absurd h (by decide)
theorem ao6:TI1 Tryz.prog ti (82,⟨(TypeDesc.struct #[{ name:= "addr",type:=80,offset:=0,embedded:=false,tag:= "",pkgPath:= "strings",byteOffset:=0 }, { name:= "buf",type:=78,offset:=1,embedded:=false,tag:= "",pkgPath:= "strings",byteOffset:=8 }]),(.pair (.sp 82) (.sl (.int .u8))),32⟩) where
  under:=Tryz.underlying82
  info:=by kernel_rfl
  zero:=by kernel_rfl
  shape:=⟨rfl,⟨rfl,by decide,⟨_,rfl,rfl,by decide⟩,⟨rfl,by decide,_,rfl,rfl,by decide⟩⟩⟩
  head:=by intro _ h; cases h; rfl
  eq:=fun _ h=>absurd h (by decide)
theorem ao7:TI1 Tryz.prog ti (84,⟨(TypeDesc.struct #[{ name:= "Builder",type:=82,offset:=0,embedded:=true,tag:= "",pkgPath:= "",byteOffset:=0 }, { name:= "bad",type:=4,offset:=2,embedded:=false,tag:= "",pkgPath:= "sacristy/keep",byteOffset:=32 }]),(.pair (.pair (.sp 82) (.sl (.int .u8))) .bool),40⟩) where
  under:=Tryz.underlying84
  info:=by kernel_rfl
  zero:=by kernel_rfl
  shape:=⟨rfl,⟨rfl,by decide,⟨_,rfl,rfl,by decide⟩,⟨rfl,by decide,_,rfl,rfl,by decide⟩⟩⟩
  head:=by intro _ h; cases h; rfl
  eq:=fun _ h=>absurd h (by decide)
theorem ao8:TI1 Tryz.prog ti (88,⟨(TypeDesc.pointer 90),(.ptr (.pair .str .bool)),8⟩) where
  under:=Tryz.underlying88
  info:=by kernel_rfl
  zero:=by kernel_rfl
  shape:=.inl ⟨_,rfl⟩
  head:=by intro _ h; cases h
  eq:=fun h=>absurd h (by decide)
theorem ao9:TI1 Tryz.prog ti (90,⟨(TypeDesc.struct #[{ name:= "S",type:=9,offset:=0,embedded:=false,tag:= "",pkgPath:= "",byteOffset:=0 }, { name:= "Bad",type:=4,offset:=1,embedded:=false,tag:= "",pkgPath:= "",byteOffset:=16 }]),(.pair .str .bool),24⟩) where
  under:=Tryz.underlying90
  info:=by kernel_rfl
  zero:=by kernel_rfl
  shape:=⟨rfl,⟨rfl,by decide,⟨_,rfl,rfl,by decide⟩,⟨rfl,by decide,_,rfl,rfl,by decide⟩⟩⟩
  head:=by intro _ h; cases h
  eq:=fun _ _=>⟨by kernel_rfl,by kernel_rfl,(by intro fs h; cases h<;>decide),by decide⟩
theorem aoa:TI1 Tryz.prog ti (94,⟨(TypeDesc.pointer 96),(.ptr (.pair .str .bool)),8⟩) where
  under:=Tryz.underlying94
  info:=by kernel_rfl
  zero:=by kernel_rfl
  shape:=.inl ⟨_,rfl⟩
  head:=by intro _ h; cases h
  eq:=fun h=>absurd h (by decide)
theorem aob:TI1 Tryz.prog ti (96,⟨(TypeDesc.struct #[{ name:= "rest",type:=9,offset:=0,embedded:=false,tag:= "",pkgPath:= "sacristy/keep",byteOffset:=0 }, { name:= "bad",type:=4,offset:=1,embedded:=false,tag:= "",pkgPath:= "sacristy/keep",byteOffset:=16 }]),(.pair .str .bool),24⟩) where
  under:=Tryz.underlying96
  info:=by kernel_rfl
  zero:=by kernel_rfl
  shape:=⟨rfl,⟨rfl,by decide,⟨_,rfl,rfl,by decide⟩,⟨rfl,by decide,_,rfl,rfl,by decide⟩⟩⟩
  head:=by intro _ h; cases h
  eq:=fun _ _=>⟨by kernel_rfl,by kernel_rfl,(by intro fs h; cases h<;>decide),by decide⟩
theorem ahw:TI1 Tryz.prog ti (101,⟨(TypeDesc.pointer 103),(.ptr (.pair .str (.pair (.int .i64) .bool))),8⟩) where
  under:=Tryz.underlying101
  info:=by kernel_rfl
  zero:=by kernel_rfl
  shape:=.inl ⟨_,rfl⟩
  head:=by intro _ h; cases h
  eq:=fun h=>absurd h (by decide)
theorem ahx:TI1 Tryz.prog ti (103,⟨(TypeDesc.struct #[{ name:= "S",type:=9,offset:=0,embedded:=false,tag:= "",pkgPath:= "",byteOffset:=0 }, { name:= "At",type:=3,offset:=1,embedded:=false,tag:= "",pkgPath:= "",byteOffset:=16 }, { name:= "Bad",type:=4,offset:=2,embedded:=false,tag:= "",pkgPath:= "",byteOffset:=24 }]),(.pair .str (.pair (.int .i64) .bool)),32⟩) where
  under:=Tryz.underlying103
  info:=by kernel_rfl
  zero:=by kernel_rfl
  shape:=⟨rfl,⟨rfl,by decide,⟨_,rfl,rfl,by decide⟩,⟨rfl,by decide,⟨_,rfl,rfl,by decide⟩,⟨rfl,by decide,_,rfl,rfl,by decide⟩⟩⟩⟩
  head:=by intro _ h; cases h
  eq:=fun _ _=>⟨by kernel_rfl,by kernel_rfl,(by intro fs h; cases h<;>decide),by decide⟩
theorem ahy:TI1 Tryz.prog ti (108,⟨(TypeDesc.array 8 3),(.arr 8 (.int .i64)),64⟩) where
  under:=Tryz.underlying108
  info:=by kernel_rfl
  zero:=by kernel_rfl
  shape:=⟨_,rfl,rfl,by decide,by decide⟩
  head:=by intro _ h; cases h
  eq:=fun _ _=>⟨by kernel_rfl,by kernel_rfl,(by intro fs h; cases h<;>decide),by decide⟩
theorem ahz:TI1 Tryz.prog ti (112,⟨(TypeDesc.pointer 183),(.ptr (.pair (.arr 4 (.int .u64)) (.pair (.int .u64) (.pair (.arr 4 (.int .u64)) (.arr 4 (.int .u64)))))),8⟩) where
  under:=Tryz.underlying112
  info:=by kernel_rfl
  zero:=by kernel_rfl
  shape:=.inl ⟨_,rfl⟩
  head:=by intro _ h; cases h
  eq:=fun h=>absurd h (by decide)
theorem ahA:TI1 Tryz.prog ti (116,⟨(TypeDesc.struct #[{ name:= "N",type:=42,offset:=0,embedded:=false,tag:= "",pkgPath:= "",byteOffset:=0 }, { name:= "A",type:=3,offset:=4,embedded:=false,tag:= "",pkgPath:= "",byteOffset:=32 }]),(.pair (.arr 4 (.int .u64)) (.int .i64)),40⟩) where
  under:=Tryz.underlying116
  info:=by kernel_rfl
  zero:=by kernel_rfl
  shape:=⟨rfl,⟨rfl,by decide,⟨_,rfl,rfl,by decide⟩,⟨rfl,by decide,_,rfl,rfl,by decide⟩⟩⟩
  head:=by intro _ h; cases h
  eq:=fun _ _=>⟨by kernel_rfl,by kernel_rfl,(by intro fs h; cases h<;>decide),by decide⟩
theorem ahB:TI1 Tryz.prog ti (122,⟨(TypeDesc.struct #[{ name:= "ring",type:=112,offset:=0,embedded:=false,tag:= "",pkgPath:= "sacristy/group",byteOffset:=0 }, { name:= "field",type:=112,offset:=1,embedded:=false,tag:= "",pkgPath:= "sacristy/group",byteOffset:=8 }]),(.pair (.ptr (.pair (.arr 4 (.int .u64)) (.pair (.int .u64) (.pair (.arr 4 (.int .u64)) (.arr 4 (.int .u64)))))) (.ptr (.pair (.arr 4 (.int .u64)) (.pair (.int .u64) (.pair (.arr 4 (.int .u64)) (.arr 4 (.int .u64))))))),16⟩) where
  under:=Tryz.underlying122
  info:=by kernel_rfl
  zero:=by kernel_rfl
  shape:=⟨rfl,⟨rfl,by decide,⟨_,rfl,rfl,by decide⟩,⟨rfl,by decide,_,rfl,rfl,by decide⟩⟩⟩
  head:=by intro _ h; cases h
  eq:=fun _ h=>absurd h (by decide)
theorem ahC:TI1 Tryz.prog ti (124,⟨(TypeDesc.struct #[{ name:= "rings",type:=122,offset:=0,embedded:=true,tag:= "",pkgPath:= "sacristy/group",byteOffset:=0 }, { name:= "g",type:=42,offset:=2,embedded:=false,tag:= "",pkgPath:= "sacristy/group",byteOffset:=16 }]),(.pair (.pair (.ptr (.pair (.arr 4 (.int .u64)) (.pair (.int .u64) (.pair (.arr 4 (.int .u64)) (.arr 4 (.int .u64)))))) (.ptr (.pair (.arr 4 (.int .u64)) (.pair (.int .u64) (.pair (.arr 4 (.int .u64)) (.arr 4 (.int .u64))))))) (.arr 4 (.int .u64))),48⟩) where
  under:=Tryz.underlying124
  info:=by kernel_rfl
  zero:=by kernel_rfl
  shape:=⟨rfl,⟨rfl,by decide,⟨_,rfl,rfl,by decide⟩,⟨rfl,by decide,_,rfl,rfl,by decide⟩⟩⟩
  head:=by intro _ h; cases h
  eq:=fun _ h=>absurd h (by decide)
theorem ahD:TI1 Tryz.prog ti (126,⟨(TypeDesc.slice 9),(.sl .str),24⟩) where
  under:=Tryz.underlying126
  info:=by kernel_rfl
  zero:=by kernel_rfl
  shape:=⟨_,rfl,rfl,by decide⟩
  head:=by intro _ h; cases h
  eq:=fun h=>absurd h (by decide)
theorem ahE:TI1 Tryz.prog ti (129,⟨(TypeDesc.pointer 154),(.ptr (.pair (.pair (.pair (.int .i64) (.int .i64)) (.pair .str (.pair (.sl (.sl (.arr 4 (.int .u64)))) (.sl (.arr 4 (.int .u64)))))) (.pair .str (.pair (.ptr (.pair (.int .i64) (.arr 7 (.arr 4 (.arr 2 (.pair (.pair (.int .i64) (.int .i64)) .str)))))) (.pair (.ptr (.pair (.int .i64) (.arr 7 (.arr 4 (.arr 2 (.pair (.pair (.int .i64) (.int .i64)) .str)))))) (.arr 4 (.pair (.arr 2 (.pair (.pair (.pair (.int .i64) (.int .i64)) (.pair .str (.pair (.sl (.sl (.arr 4 (.int .u64)))) (.sl (.arr 4 (.int .u64)))))) (.int .i64))) (.pair (.pair (.pair (.pair (.int .i64) (.int .i64)) (.pair .str (.pair (.sl (.sl (.arr 4 (.int .u64)))) (.sl (.arr 4 (.int .u64)))))) (.int .i64)) (.pair (.int .i64) (.int .i64)))))))))),8⟩) where
  under:=Tryz.underlying129
  info:=by kernel_rfl
  zero:=by kernel_rfl
  shape:=.inl ⟨_,rfl⟩
  head:=by intro _ h; cases h
  eq:=fun h=>absurd h (by decide)
theorem ahF:TI1 Tryz.prog ti (137,⟨(TypeDesc.slice 67),(.sl (.pair (.pair (.int .i64) (.int .i64)) (.pair .str (.pair (.sl (.sl (.arr 4 (.int .u64)))) (.pair (.sl (.arr 4 (.int .u64))) (.int .i64)))))),24⟩) where
  under:=Tryz.underlying137
  info:=by kernel_rfl
  zero:=by kernel_rfl
  shape:=⟨_,rfl,rfl,by decide⟩
  head:=by intro _ h; cases h
  eq:=fun h=>absurd h (by decide)
theorem ahG:TI1 Tryz.prog ti (163,⟨(TypeDesc.pointer 5),(.ptr (.int .u8)),8⟩) where
  under:=Tryz.underlying163
  info:=by kernel_rfl
  zero:=by kernel_rfl
  shape:=.inl ⟨_,rfl⟩
  head:=by intro _ h; cases h
  eq:=fun h=>absurd h (by decide)
theorem ahH:TI1 Tryz.prog ti (167,⟨(TypeDesc.int IntKind.u64),(.int .u64),8⟩) where
  under:=Tryz.underlying167
  info:=by kernel_rfl
  zero:=by kernel_rfl
  shape:=rfl
  head:=by intro _ h; cases h
  eq:=fun h=>absurd h (by decide)
theorem ahI:TI1 Tryz.prog ti (172,⟨(TypeDesc.pointer 230),(.ptr (.pair .bool (.pair (.arr 8 (.int .u32)) (.pair (.arr 64 (.int .u8)) (.int .i64))))),8⟩) where
  under:=Tryz.underlying172
  info:=by kernel_rfl
  zero:=by kernel_rfl
  shape:=.inl ⟨_,rfl⟩
  head:=by intro _ h; cases h
  eq:=fun h=>absurd h (by decide)
theorem ahJ:TI1 Tryz.prog ti (176,⟨(TypeDesc.array 64 3),(.arr 64 (.int .i64)),512⟩) where
  under:=Tryz.underlying176
  info:=by kernel_rfl
  zero:=by kernel_rfl
  shape:=⟨_,rfl,rfl,by decide,by decide⟩
  head:=by intro _ h; cases h
  eq:=fun _ _=>⟨by kernel_rfl,by kernel_rfl,(by intro fs h; cases h<;>decide),by decide⟩
theorem ahK:TI1 Tryz.prog ti (183,⟨(TypeDesc.struct #[{ name:= "m",type:=42,offset:=0,embedded:=false,tag:= "",pkgPath:= "sacristy/mont",byteOffset:=0 }, { name:= "inv",type:=40,offset:=4,embedded:=false,tag:= "",pkgPath:= "sacristy/mont",byteOffset:=32 }, { name:= "one",type:=42,offset:=5,embedded:=false,tag:= "",pkgPath:= "sacristy/mont",byteOffset:=40 }, { name:= "square",type:=42,offset:=9,embedded:=false,tag:= "",pkgPath:= "sacristy/mont",byteOffset:=72 }]),(.pair (.arr 4 (.int .u64)) (.pair (.int .u64) (.pair (.arr 4 (.int .u64)) (.arr 4 (.int .u64))))),104⟩) where
  under:=Tryz.underlying183
  info:=by kernel_rfl
  zero:=by kernel_rfl
  shape:=⟨rfl,⟨rfl,by decide,⟨_,rfl,rfl,by decide⟩,⟨rfl,by decide,⟨_,rfl,rfl,by decide⟩,⟨rfl,by decide,⟨_,rfl,rfl,by decide⟩,⟨rfl,by decide,_,rfl,rfl,by decide⟩⟩⟩⟩⟩
  head:=by intro _ h; cases h
  eq:=fun _ _=>⟨by kernel_rfl,by kernel_rfl,(by intro fs h; cases h<;>decide),by decide⟩
theorem ahL:TI1 Tryz.prog ti (190,⟨(TypeDesc.map 3 3),.mp,8⟩) where
  under:=Tryz.underlying190
  info:=by kernel_rfl
  zero:=by kernel_rfl
  shape:=rfl
  head:=by intro _ h; cases h
  eq:=fun h=>absurd h (by decide)
theorem ahM:TI1 Tryz.prog ti (192,⟨(TypeDesc.struct #[{ name:= "servers",type:=3,offset:=0,embedded:=false,tag:= "",pkgPath:= "sacristy/space",byteOffset:=0 }, { name:= "clients",type:=3,offset:=1,embedded:=false,tag:= "",pkgPath:= "sacristy/space",byteOffset:=8 }, { name:= "keys",type:=126,offset:=2,embedded:=false,tag:= "",pkgPath:= "sacristy/space",byteOffset:=16 }, { name:= "used",type:=190,offset:=3,embedded:=false,tag:= "",pkgPath:= "sacristy/space",byteOffset:=40 }]),(.pair (.int .i64) (.pair (.int .i64) (.pair (.sl .str) .mp))),48⟩) where
  under:=Tryz.underlying192
  info:=by kernel_rfl
  zero:=by kernel_rfl
  shape:=⟨rfl,⟨rfl,by decide,⟨_,rfl,rfl,by decide⟩,⟨rfl,by decide,⟨_,rfl,rfl,by decide⟩,⟨rfl,by decide,⟨_,rfl,rfl,by decide⟩,⟨rfl,by decide,_,rfl,rfl,by decide⟩⟩⟩⟩⟩
  head:=by intro _ h; cases h
  eq:=fun _ h=>absurd h (by decide)
theorem ahN:TI1 Tryz.prog ti (208,⟨(TypeDesc.array 256 4),(.arr 256 .bool),256⟩) where
  under:=Tryz.underlying208
  info:=by kernel_rfl
  zero:=by kernel_rfl
  shape:=⟨_,rfl,rfl,by decide,by decide⟩
  head:=by intro _ h; cases h
  eq:=fun _ _=>⟨by kernel_rfl,by kernel_rfl,(by intro fs h; cases h<;>decide),by decide⟩
theorem ahO:TI1 Tryz.prog ti (225,⟨(TypeDesc.int IntKind.u32),(.int .u32),4⟩) where
  under:=Tryz.underlying225
  info:=by kernel_rfl
  zero:=by kernel_rfl
  shape:=rfl
  head:=by intro _ h; cases h
  eq:=fun h=>absurd h (by decide)
theorem ahP:TI1 Tryz.prog ti (226,⟨(TypeDesc.array 8 225),(.arr 8 (.int .u32)),32⟩) where
  under:=Tryz.underlying226
  info:=by kernel_rfl
  zero:=by kernel_rfl
  shape:=⟨_,rfl,rfl,by decide,by decide⟩
  head:=by intro _ h; cases h
  eq:=fun _ _=>⟨by kernel_rfl,by kernel_rfl,(by intro fs h; cases h<;>decide),by decide⟩
theorem ahQ:TI1 Tryz.prog ti (228,⟨(TypeDesc.array 64 5),(.arr 64 (.int .u8)),64⟩) where
  under:=Tryz.underlying228
  info:=by kernel_rfl
  zero:=by kernel_rfl
  shape:=⟨_,rfl,rfl,by decide,by decide⟩
  head:=by intro _ h; cases h
  eq:=fun _ _=>⟨by kernel_rfl,by kernel_rfl,(by intro fs h; cases h<;>decide),by decide⟩
theorem ahR:TI1 Tryz.prog ti (230,⟨(TypeDesc.struct #[{ name:= "given",type:=4,offset:=0,embedded:=false,tag:= "",pkgPath:= "sacristy/sha",byteOffset:=0 }, { name:= "words",type:=226,offset:=1,embedded:=false,tag:= "",pkgPath:= "sacristy/sha",byteOffset:=4 }, { name:= "rest",type:=228,offset:=9,embedded:=false,tag:= "",pkgPath:= "sacristy/sha",byteOffset:=36 }, { name:= "n",type:=3,offset:=73,embedded:=false,tag:= "",pkgPath:= "sacristy/sha",byteOffset:=104 }]),(.pair .bool (.pair (.arr 8 (.int .u32)) (.pair (.arr 64 (.int .u8)) (.int .i64)))),112⟩) where
  under:=Tryz.underlying230
  info:=by kernel_rfl
  zero:=by kernel_rfl
  shape:=⟨rfl,⟨rfl,by decide,⟨_,rfl,rfl,by decide⟩,⟨rfl,by decide,⟨_,rfl,rfl,by decide⟩,⟨rfl,by decide,⟨_,rfl,rfl,by decide⟩,⟨rfl,by decide,_,rfl,rfl,by decide⟩⟩⟩⟩⟩
  head:=by intro _ h; cases h
  eq:=fun _ _=>⟨by kernel_rfl,by kernel_rfl,(by intro fs h; cases h<;>decide),by decide⟩
theorem ahS:TI1 Tryz.prog ti (232,⟨(TypeDesc.array 8 5),(.arr 8 (.int .u8)),8⟩) where
  under:=Tryz.underlying232
  info:=by kernel_rfl
  zero:=by kernel_rfl
  shape:=⟨_,rfl,rfl,by decide,by decide⟩
  head:=by intro _ h; cases h
  eq:=fun _ _=>⟨by kernel_rfl,by kernel_rfl,(by intro fs h; cases h<;>decide),by decide⟩
theorem ahT:TI1 Tryz.prog ti (240,⟨(TypeDesc.slice 241),(.sl (.arr 16 (.arr 4 (.int .u64)))),24⟩) where
  under:=Tryz.underlying240
  info:=by kernel_rfl
  zero:=by kernel_rfl
  shape:=⟨_,rfl,rfl,by decide⟩
  head:=by intro _ h; cases h
  eq:=fun h=>absurd h (by decide)
theorem ahU:TI1 Tryz.prog ti (241,⟨(TypeDesc.array 16 42),(.arr 16 (.arr 4 (.int .u64))),512⟩) where
  under:=Tryz.underlying241
  info:=by kernel_rfl
  zero:=by kernel_rfl
  shape:=⟨_,rfl,rfl,by decide,by decide⟩
  head:=by intro _ h; cases h
  eq:=fun _ _=>⟨by kernel_rfl,by kernel_rfl,(by intro fs h; cases h<;>decide),by decide⟩
theorem ahV:TI1 Tryz.prog ti (262,⟨(TypeDesc.array 64 225),(.arr 64 (.int .u32)),256⟩) where
  under:=Tryz.underlying262
  info:=by kernel_rfl
  zero:=by kernel_rfl
  shape:=⟨_,rfl,rfl,by decide,by decide⟩
  head:=by intro _ h; cases h
  eq:=fun _ _=>⟨by kernel_rfl,by kernel_rfl,(by intro fs h; cases h<;>decide),by decide⟩
theorem ahW:TI1 Tryz.prog ti (266,⟨(TypeDesc.slice 225),(.sl (.int .u32)),24⟩) where
  under:=Tryz.underlying266
  info:=by kernel_rfl
  zero:=by kernel_rfl
  shape:=⟨_,rfl,rfl,by decide⟩
  head:=by intro _ h; cases h
  eq:=fun h=>absurd h (by decide)
theorem ahX:TI1 Tryz.prog ti (270,⟨(TypeDesc.array 8 40),(.arr 8 (.int .u64)),64⟩) where
  under:=Tryz.underlying270
  info:=by kernel_rfl
  zero:=by kernel_rfl
  shape:=⟨_,rfl,rfl,by decide,by decide⟩
  head:=by intro _ h; cases h
  eq:=fun _ _=>⟨by kernel_rfl,by kernel_rfl,(by intro fs h; cases h<;>decide),by decide⟩
theorem ahY:TI1 Tryz.prog ti (273,⟨(TypeDesc.slice 40),(.sl (.int .u64)),24⟩) where
  under:=Tryz.underlying273
  info:=by kernel_rfl
  zero:=by kernel_rfl
  shape:=⟨_,rfl,rfl,by decide⟩
  head:=by intro _ h; cases h
  eq:=fun h=>absurd h (by decide)
theorem ahZ:TI1 Tryz.prog ti (276,⟨(TypeDesc.array 6 40),(.arr 6 (.int .u64)),48⟩) where
  under:=Tryz.underlying276
  info:=by kernel_rfl
  zero:=by kernel_rfl
  shape:=⟨_,rfl,rfl,by decide,by decide⟩
  head:=by intro _ h; cases h
  eq:=fun _ _=>⟨by kernel_rfl,by kernel_rfl,(by intro fs h; cases h<;>decide),by decide⟩
theorem ai0:TI1 Tryz.prog ti (321,⟨(TypeDesc.struct #[{ name:= "Kind",type:=3,offset:=0,embedded:=false,tag:= "",pkgPath:= "",byteOffset:=0 }, { name:= "Op",type:=3,offset:=1,embedded:=false,tag:= "",pkgPath:= "",byteOffset:=8 }, { name:= "Key",type:=9,offset:=2,embedded:=false,tag:= "",pkgPath:= "",byteOffset:=16 }, { name:= "Stamp",type:=62,offset:=3,embedded:=false,tag:= "",pkgPath:= "",byteOffset:=32 }, { name:= "Digest",type:=9,offset:=5,embedded:=false,tag:= "",pkgPath:= "",byteOffset:=48 }, { name:= "Matrix",type:=64,offset:=6,embedded:=false,tag:= "",pkgPath:= "",byteOffset:=64 }, { name:= "Ys",type:=65,offset:=7,embedded:=false,tag:= "",pkgPath:= "",byteOffset:=88 }]),(.pair (.int .i64) (.pair (.int .i64) (.pair .str (.pair (.pair (.int .i64) (.int .i64)) (.pair .str (.pair (.sl (.sl (.arr 4 (.int .u64)))) (.sl (.arr 4 (.int .u64))))))))),112⟩) where
  under:=Tryz.underlying321
  info:=by kernel_rfl
  zero:=by kernel_rfl
  shape:=⟨rfl,⟨rfl,by decide,⟨_,rfl,rfl,by decide⟩,⟨rfl,by decide,⟨_,rfl,rfl,by decide⟩,⟨rfl,by decide,⟨_,rfl,rfl,by decide⟩,⟨rfl,by decide,⟨_,rfl,rfl,by decide⟩,⟨rfl,by decide,⟨_,rfl,rfl,by decide⟩,⟨rfl,by decide,⟨_,rfl,rfl,by decide⟩,⟨rfl,by decide,_,rfl,rfl,by decide⟩⟩⟩⟩⟩⟩⟩⟩
  head:=by intro _ h; cases h
  eq:=fun _ h=>absurd h (by decide)
theorem ai1:TI1 Tryz.prog ti (323,⟨(TypeDesc.struct #[{ name:= "To",type:=3,offset:=0,embedded:=false,tag:= "",pkgPath:= "",byteOffset:=0 }, { name:= "M",type:=321,offset:=1,embedded:=false,tag:= "",pkgPath:= "",byteOffset:=8 }]),(.pair (.int .i64) (.pair (.int .i64) (.pair (.int .i64) (.pair .str (.pair (.pair (.int .i64) (.int .i64)) (.pair .str (.pair (.sl (.sl (.arr 4 (.int .u64)))) (.sl (.arr 4 (.int .u64)))))))))),120⟩) where
  under:=Tryz.underlying323
  info:=by kernel_rfl
  zero:=by kernel_rfl
  shape:=⟨rfl,⟨rfl,by decide,⟨_,rfl,rfl,by decide⟩,⟨rfl,by decide,_,rfl,rfl,by decide⟩⟩⟩
  head:=by intro _ h; cases h
  eq:=fun _ h=>absurd h (by decide)
theorem aK:xw Tryz.prog ti:=xw.of (List.forall_mem_cons.2 ⟨ti3,List.forall_mem_cons.2 ⟨ti4,List.forall_mem_cons.2 ⟨ti5,List.forall_mem_cons.2 ⟨ti9,List.forall_mem_cons.2 ⟨anG,List.forall_mem_cons.2 ⟨anH,List.forall_mem_cons.2 ⟨anI,List.forall_mem_cons.2 ⟨anJ,List.forall_mem_cons.2 ⟨anK,List.forall_mem_cons.2 ⟨anL,List.forall_mem_cons.2 ⟨anM,List.forall_mem_cons.2 ⟨anN,List.forall_mem_cons.2 ⟨anO,List.forall_mem_cons.2 ⟨anP,List.forall_mem_cons.2 ⟨anQ,List.forall_mem_cons.2 ⟨anR,List.forall_mem_cons.2 ⟨anS,List.forall_mem_cons.2 ⟨anT,List.forall_mem_cons.2 ⟨anU,List.forall_mem_cons.2 ⟨anV,List.forall_mem_cons.2 ⟨anW,List.forall_mem_cons.2 ⟨anX,List.forall_mem_cons.2 ⟨anY,List.forall_mem_cons.2 ⟨anZ,List.forall_mem_cons.2 ⟨ao0,List.forall_mem_cons.2 ⟨ao1,List.forall_mem_cons.2 ⟨ao2,List.forall_mem_cons.2 ⟨ao3,List.forall_mem_cons.2 ⟨ao4,List.forall_mem_cons.2 ⟨ao5,List.forall_mem_cons.2 ⟨ao6,List.forall_mem_cons.2 ⟨ao7,List.forall_mem_cons.2 ⟨ao8,List.forall_mem_cons.2 ⟨ao9,List.forall_mem_cons.2 ⟨aoa,List.forall_mem_cons.2 ⟨aob,List.forall_mem_cons.2 ⟨ahw,List.forall_mem_cons.2 ⟨ahx,List.forall_mem_cons.2 ⟨ahy,List.forall_mem_cons.2 ⟨ahz,List.forall_mem_cons.2 ⟨ahA,List.forall_mem_cons.2 ⟨ahB,List.forall_mem_cons.2 ⟨ahC,List.forall_mem_cons.2 ⟨ahD,List.forall_mem_cons.2 ⟨ahE,List.forall_mem_cons.2 ⟨ahF,List.forall_mem_cons.2 ⟨ahG,List.forall_mem_cons.2 ⟨ahH,List.forall_mem_cons.2 ⟨ahI,List.forall_mem_cons.2 ⟨ahJ,List.forall_mem_cons.2 ⟨ahK,List.forall_mem_cons.2 ⟨ahL,List.forall_mem_cons.2 ⟨ahM,List.forall_mem_cons.2 ⟨ahN,List.forall_mem_cons.2 ⟨ahO,List.forall_mem_cons.2 ⟨ahP,List.forall_mem_cons.2 ⟨ahQ,List.forall_mem_cons.2 ⟨ahR,List.forall_mem_cons.2 ⟨ahS,List.forall_mem_cons.2 ⟨ahT,List.forall_mem_cons.2 ⟨ahU,List.forall_mem_cons.2 ⟨ahV,List.forall_mem_cons.2 ⟨ahW,List.forall_mem_cons.2 ⟨ahX,List.forall_mem_cons.2 ⟨ahY,List.forall_mem_cons.2 ⟨ahZ,List.forall_mem_cons.2 ⟨ai0,List.forall_mem_cons.2 ⟨ai1,List.forall_mem_nil _⟩⟩⟩⟩⟩⟩⟩⟩⟩⟩⟩⟩⟩⟩⟩⟩⟩⟩⟩⟩⟩⟩⟩⟩⟩⟩⟩⟩⟩⟩⟩⟩⟩⟩⟩⟩⟩⟩⟩⟩⟩⟩⟩⟩⟩⟩⟩⟩⟩⟩⟩⟩⟩⟩⟩⟩⟩⟩⟩⟩⟩⟩⟩⟩⟩⟩⟩⟩)
theorem mixed:Tryz.prog.follows .mixedOrders=true:=by kernel_rfl
noncomputable def a1c:Con:=bG false [u64,u64,u64] [u64,u64] fun x=>Ez x.1 x.2.1 x.2.2.1
theorem a2m:aD Tryz.prog 168 a1c:=a3T Tryz.func168 (by kernel_rfl) (by kernel_rfl) (by kernel_rfl) (by kernel_rfl)
noncomputable def Pz:Con:=bG false [u64,u64,u64] [u64,u64] fun x=>bM x.1 x.2.1 x.2.2.1
theorem MR:aD Tryz.prog 171 Pz:=a3S Tryz.func171 (by kernel_rfl) (by kernel_rfl) (by kernel_rfl) (by kernel_rfl)
end Go.Proofs.YtidodcilgldjoaaGreat
namespace Go.Proofs.YtidodcilgldjoaaGreat
noncomputable def ai2:Con:=bG true [(.int .u32),tI] [(.int .u32)] fun x=>sW x.1 x.2.1
noncomputable def acY:Cx:= { ti:=ti,con:=[],fns:=[],un:=6 }
theorem acZ:ay Tryz.prog acY:=ay.of mixed aK fz fz
theorem ai3:aY Tryz.prog 187 Tryz.f187 []:=⟨Tryz.func187,Tryz.call187,ah⟩
theorem aoc(x)(k):bodyK acY [] (denF acY 8) Tryz.f187 (domV [(.int .u32),tI] (x,k,())) [] 0 (bT [(.int .u32)])=mM x k:=by kernel_rfl
theorem ad1:aD Tryz.prog 187 ai2:=aN acZ 8 ai3 true [(.int .u32),tI] [(.int .u32)] _ (by decide) (fun x=>by rw[wD]; exact aoc x.1 x.2.1)
noncomputable def ad2:Con:=bG true [tU] [tI] fun x=>bits_Len64 x.1
noncomputable def ad3:Cx:= { ti:=ti,con:=[],fns:=[],un:=6 }
theorem ad4:ay Tryz.prog ad3:=ay.of mixed aK fz fz
theorem ai4:aY Tryz.prog 99 Tryz.f99 []:=⟨Tryz.func99,Tryz.call99,ah⟩
theorem aod(x):bodyK ad3 [] (denF ad3 8) Tryz.f99 (domV [tU] (x,())) [] 0 (bT [tI])=Av x:=by kernel_rfl
theorem a4f:aD Tryz.prog 99 ad2:=aN ad4 8 ai4 true [tU] [tI] _ (by decide) (fun x=>by rw[IK]; exact aod x.1)
noncomputable def ai5:Con:=bG true [tU] [tI] fun x=>bits_LeadingZeros64 x.1
noncomputable def ad5:Cx:= { ti:=ti,con:=[(99,ad2)],fns:=[],un:=6 }
theorem ad6:ay Tryz.prog ad5:=ay.of mixed aK (fc ⟨a4f,fz⟩) fz
theorem ai6:aY Tryz.prog 200 Tryz.f200 []:=⟨Tryz.func200,Tryz.call200,ah⟩
theorem aoe(x):bodyK ad5 [] (denF ad5 8) Tryz.f200 (domV [tU] (x,())) [] 0 (bT [tI])=jU x:=by kernel_rfl
theorem ad7:aD Tryz.prog 200 ai5:=aN ad6 8 ai6 true [tU] [tI] _ (by decide) (fun x=>by rw[sV]; exact aoe x.1)
abbrev X4:Shape:= { sl:=[(pv 2 tU),(pv 8 tU),(pv 9 tU),(pv 10 tU),(pv 11 tU),(pv 13 tU),(pv 14 tU),(pv 15 tU),(pv 16 tU)],ob:=[],lo:=0,nx:=0 }
abbrev a4g:List Ex:=[(.normal, { sl:=[(pv 2 tU),(pv 8 tU),(pv 9 tU),(pv 10 tU),(pv 11 tU),(pv 13 tU),(pv 14 tU),(pv 15 tU)],ob:=[],lo:=0,nx:=0 })]
noncomputable def aaP:Code:=aQ (aO Tryz.f188) 0
noncomputable def a4h:Lp:=cB X4 a4g 135 dO
abbrev X5:Shape:= { sl:=[(pv 2 tU),(pv 8 tU),(pv 9 tU),(pv 10 tU),(pv 14 tU),(pv 15 tU),(pv 16 tU),(pv 17 tU),(pv 18 tU)],ob:=[],lo:=0,nx:=0 }
abbrev a4i:List Ex:=[(.normal, { sl:=[(pv 2 tU),(pv 8 tU),(pv 14 tU),(pv 15 tU),(pv 17 tU),(pv 18 tU)],ob:=[],lo:=0,nx:=0 })]
noncomputable def aaQ:Code:=aQ (aO Tryz.f188) 2
noncomputable def a4j:Lp:=cB X5 a4i 135 dP
noncomputable def ai7:Con:=bG true [tU,tU,tU] [tU,tU] fun x=>ru x.1 x.2.1 x.2.2.1
noncomputable def a01:Cx:= { ti:=ti,con:=[(200,ai5)],fns:=[],un:=6 }
theorem a02:ay Tryz.prog a01:=ay.of mixed aK (fc ⟨ad7,fz⟩) fz
theorem ai8(x:X4.X):bJ a01 [] (denF a01 8) aaP (X4.mkS 135 x) (aL 0 X4 a4g)=dO x:=by kernel_rfl
theorem ai9:bF Tryz.prog 0 (.loop aaP) a4h:=aC a02 8 (ah) X4 a4g 135 dO (by decide) ai8
theorem aia(x:X5.X):bJ a01 [] (denF a01 8) aaQ (X5.mkS 135 x) (aL 2 X5 a4i)=dP x:=by kernel_rfl
theorem aib:bF Tryz.prog 2 (.loop aaQ) a4j:=aC a02 8 (ah) X5 a4i 135 dP (by decide) aia
theorem aic:aY Tryz.prog 188 Tryz.f188 [(0,a4h),(2,a4j)]:=⟨Tryz.func188,Tryz.call188,aU (by kernel_rfl) (aB ai9 (by kernel_rfl) (aB aib (by kernel_rfl) fz))⟩
theorem aof(hi)(lo)(y):bodyK a01 [(0,a4h),(2,a4j)] (denF a01 8) Tryz.f188 (domV [tU,tU,tU] (hi,lo,y,())) [] 0 (bT [tU,tU])=Aw hi lo y:=by kernel_rfl
theorem ad8:aD Tryz.prog 188 ai7:=aN a02 8 aic true [tU,tU,tU] [tU,tU] _ (by decide) (fun x=>by rw[IL]; exact aof x.1 x.2.1 x.2.2.1)
noncomputable def ad9:Con:=bG true [tU,tU] [tU,tU] fun x=>bits_Mul64 x.1 x.2.1
noncomputable def ada:Cx:= { ti:=ti,con:=[],fns:=[],un:=6 }
theorem adb:ay Tryz.prog ada:=ay.of mixed aK fz fz
theorem aie:aY Tryz.prog 170 Tryz.f170 []:=⟨Tryz.func170,Tryz.call170,ah⟩
theorem aog(x)(y):bodyK ada [] (denF ada 8) Tryz.f170 (domV [tU,tU] (x,y,())) [] 0 (bT [tU,tU])=Au x y:=by kernel_rfl
theorem a4k:aD Tryz.prog 170 ad9:=aN adb 8 aie true [tU,tU] [tU,tU] _ (by decide) (fun x=>by rw[IJ]; exact aog x.1 x.2.1)
end Go.Proofs.YtidodcilgldjoaaGreat
namespace Go.Proofs.YtidodcilgldjoaaGreat
abbrev X6:Shape:= { sl:=[(0,(.v .str)),(pc 2 tN 0),(pc 4 tN 1),(pv 21 tI),(pv 22 tI)],ob:=[(pv 0 tN),(pv 1 tN)],lo:=2,nx:=2 }
abbrev a4l:List Ex:=[(.normal, { sl:=[(pc 2 tN 0),(pc 4 tN 1)],ob:=[(pv 0 tN),(pv 1 tN)],lo:=2,nx:=2 })]
noncomputable def aaR:Code:=aQ (aO Tryz.f132) 0
noncomputable def a4m:Lp:=cB X6 a4l 45 iB
noncomputable def aa6:Con:=bG true [.str] [tN,tI] fun x=>FB x.1
noncomputable def a4n:Cx:= { ti:=ti,con:=[],fns:=[],un:=6 }
theorem a4o:ay Tryz.prog a4n:=ay.of mixed aK fz fz
theorem aif(x:X6.X):bJ a4n [] (denF a4n 8) aaR (X6.mkS 45 x) (aL 0 X6 a4l)=iB x:=by kernel_rfl
theorem aii:bF Tryz.prog 0 (.loop aaR) a4m:=aC a4o 8 (ah) X6 a4l 45 iB (by decide) aif
theorem aij:aY Tryz.prog 132 Tryz.f132 [(0,a4m)]:=⟨Tryz.func132,Tryz.call132,aU (by kernel_rfl) (aB aii (by kernel_rfl) fz)⟩
theorem aoh(s):bodyK a4n [(0,a4m)] (denF a4n 8) Tryz.f132 (domV [.str] (s,())) [] 0 (bT [tN,tI])=Hf s:=by kernel_rfl
theorem a03:aD Tryz.prog 132 aa6:=aN a4o 8 aij true [.str] [tN,tI] _ (by decide) (fun x=>by rw[NY]; exact aoh x.1)
noncomputable def ade:Con:=bG true [tN] [tI,.bool] fun x=>KH x.1
noncomputable def adf:Cx:= { ti:=ti,con:=[],fns:=[],un:=6 }
theorem adg:ay Tryz.prog adf:=ay.of mixed aK fz fz
theorem aik:aY Tryz.prog 94 Tryz.f94 []:=⟨Tryz.func94,Tryz.call94,ah⟩
theorem aoi(a):bodyK adf [] (denF adf 8) Tryz.f94 (domV [tN] (a,())) [] 0 (bT [tI,.bool])=KG a:=by kernel_rfl
theorem a4p:aD Tryz.prog 94 ade:=aN adg 8 aik true [tN] [tI,.bool] _ (by decide) (fun x=>by rw[QD]; exact aoi x.1)
noncomputable def a4q:Con:=bG true [tI] [tN] fun x=>fq x.1
noncomputable def adh:Cx:= { ti:=ti,con:=[],fns:=[],un:=6 }
theorem adi:ay Tryz.prog adh:=ay.of mixed aK fz fz
theorem ail:aY Tryz.prog 50 Tryz.f50 []:=⟨Tryz.func50,Tryz.call50,ah⟩
theorem aoj(n):bodyK adh [] (denF adh 8) Tryz.f50 (domV [tI] (n,())) [] 0 (bT [tN])=Po n:=by kernel_rfl
theorem V6:aD Tryz.prog 50 a4q:=aN adi 8 ail true [tI] [tN] _ (by decide) (fun x=>by rw[U5]; exact aoj x.1)
noncomputable def ain:Con:=bG true [tN,tI] [tI] fun x=>Ay x.1 x.2.1
noncomputable def adj:Cx:= { ti:=ti,con:=[],fns:=[],un:=6 }
theorem adk:ay Tryz.prog adj:=ay.of mixed aK fz fz
theorem aio:aY Tryz.prog 174 Tryz.f174 []:=⟨Tryz.func174,Tryz.call174,ah⟩
theorem aok(a)(k):bodyK adj [] (denF adj 8) Tryz.f174 (domV [tN,tI] (a,k,())) [] 0 (bT [tI])=Kz a k:=by kernel_rfl
theorem adl:aD Tryz.prog 174 ain:=aN adk 8 aio true [tN,tI] [tI] _ (by decide) (fun x=>by rw[Qv]; exact aok x.1 x.2.1)
abbrev X7:Shape:= { sl:=[(pc 2 tN 0),(pc 4 tN 1),(pc 5 tN 2),(pv 6 tI),(pv 7 tI),(pv 8 tI)],ob:=[(pv 0 tN),(pv 1 tN),(pv 2 tN)],lo:=3,nx:=3 }
abbrev a4r:List Ex:=[(.normal, { sl:=[(pc 4 tN 1),(pc 5 tN 2)],ob:=[(pv 1 tN),(pv 2 tN)],lo:=3,nx:=3 })]
noncomputable def aaS:Code:=aQ (aO Tryz.f150) 0
noncomputable def a4s:Lp:=cB X7 a4r 51 kU
noncomputable def adn:Con:=bG true [tN,tI] [tN] fun x=>Qx x.1 x.2.1
noncomputable def a4t:Cx:= { ti:=ti,con:=[],fns:=[],un:=6 }
theorem a4u:ay Tryz.prog a4t:=ay.of mixed aK fz fz
theorem aip(x:X7.X):bJ a4t [] (denF a4t 8) aaS (X7.mkS 51 x) (aL 0 X7 a4r)=kU x:=by kernel_rfl
theorem aiq:bF Tryz.prog 0 (.loop aaS) a4s:=aC a4u 8 (ah) X7 a4r 51 kU (by decide) aip
theorem air:aY Tryz.prog 150 Tryz.f150 [(0,a4s)]:=⟨Tryz.func150,Tryz.call150,aU (by kernel_rfl) (aB aiq (by kernel_rfl) fz)⟩
theorem aol(a)(k):bodyK a4t [(0,a4s)] (denF a4t 8) Tryz.f150 (domV [tN,tI] (a,k,())) [] 0 (bT [tN])=Pn a k:=by kernel_rfl
theorem a4v:aD Tryz.prog 150 adn:=aN a4u 8 air true [tN,tI] [tN] _ (by decide) (fun x=>by rw[U4]; exact aol x.1 x.2.1)
noncomputable def a4w:Con:=bG true [tN,tN] [tN,tI] fun x=>vQ x.1 x.2.1
noncomputable def ado:Cx:= { ti:=ti,con:=[(168,a1c)],fns:=[],un:=6 }
theorem adp:ay Tryz.prog ado:=ay.of mixed aK (fc ⟨a2m,fz⟩) fz
theorem ais:aY Tryz.prog 141 Tryz.f141 []:=⟨Tryz.func141,Tryz.call141,ah⟩
theorem aom(a)(b):bodyK ado [] (denF ado 8) Tryz.f141 (domV [tN,tN] (a,b,())) [] 0 (bT [tN,tI])=KA a b:=by kernel_rfl
theorem V7:aD Tryz.prog 141 a4w:=aN adp 8 ais true [tN,tN] [tN,tI] _ (by decide) (fun x=>by rw[Qy]; exact aom x.1 x.2.1)
noncomputable def a2n:Con:=bG true [tN,tN] [tI] fun x=>yB x.1 x.2.1
noncomputable def adq:Cx:= { ti:=ti,con:=[],fns:=[],un:=6 }
theorem adr:ay Tryz.prog adq:=ay.of mixed aK fz fz
theorem ait:aY Tryz.prog 101 Tryz.f101 []:=⟨Tryz.func101,Tryz.call101,ah⟩
theorem aon(a)(b):bodyK adq [] (denF adq 8) Tryz.f101 (domV [tN,tN] (a,b,())) [] 0 (bT [tI])=KC a b:=by kernel_rfl
theorem QT:aD Tryz.prog 101 a2n:=aN adr 8 ait true [tN,tN] [tI] _ (by decide) (fun x=>by rw[Qz]; exact aon x.1 x.2.1)
noncomputable def aa7:Con:=bG true [tN] [tI] fun x=>yC x.1
noncomputable def ads:Cx:= { ti:=ti,con:=[(99,ad2)],fns:=[],un:=6 }
theorem adt:ay Tryz.prog ads:=ay.of mixed aK (fc ⟨a4f,fz⟩) fz
theorem aiu:aY Tryz.prog 49 Tryz.f49 []:=⟨Tryz.func49,Tryz.call49,ah⟩
theorem aoo(a):bodyK ads [] (denF ads 8) Tryz.f49 (domV [tN] (a,())) [] 0 (bT [tI])=KE a:=by kernel_rfl
theorem a04:aD Tryz.prog 49 aa7:=aN adt 8 aiu true [tN] [tI] _ (by decide) (fun x=>by rw[QB]; exact aoo x.1)
abbrev X8:Shape:= { sl:=[(pc 2 tN 0),(pc 4 tN 1),(pc 5 tN 2),(pv 6 tI),(pv 7 tI),(pv 20 tI),(pv 21 tI)],ob:=[(pv 0 tN),(pv 1 tN),(pv 2 tN)],lo:=3,nx:=3 }
abbrev a4x:List Ex:=[(.normal, { sl:=[(pc 4 tN 1),(pc 5 tN 2)],ob:=[(pv 1 tN),(pv 2 tN)],lo:=3,nx:=3 })]
noncomputable def aaT:Code:=aQ (aO Tryz.f149) 0
noncomputable def a4y:Lp:=cB X8 a4x 54 j6
noncomputable def aiv:Con:=bG true [tN,tI] [tN] fun x=>Fx x.1 x.2.1
noncomputable def a4z:Cx:= { ti:=ti,con:=[],fns:=[],un:=6 }
theorem a4A:ay Tryz.prog a4z:=ay.of mixed aK fz fz
theorem aiw(x:X8.X):bJ a4z [] (denF a4z 8) aaT (X8.mkS 54 x) (aL 0 X8 a4x)=j6 x:=by kernel_rfl
theorem aix:bF Tryz.prog 0 (.loop aaT) a4y:=aC a4A 8 (ah) X8 a4x 54 j6 (by decide) aiw
theorem aiy:aY Tryz.prog 149 Tryz.f149 [(0,a4y)]:=⟨Tryz.func149,Tryz.call149,aU (by kernel_rfl) (aB aix (by kernel_rfl) fz)⟩
theorem aop(a)(k):bodyK a4z [(0,a4y)] (denF a4z 8) Tryz.f149 (domV [tN,tI] (a,k,())) [] 0 (bT [tN])=He a k:=by kernel_rfl
theorem adu:aD Tryz.prog 149 aiv:=aN a4A 8 aiy true [tN,tI] [tN] _ (by decide) (fun x=>by rw[NW]; exact aop x.1 x.2.1)
noncomputable def aiz:Con:=bG true [tN,tN] [tN,tI] fun x=>Pp x.1 x.2.1
noncomputable def adv:Cx:= { ti:=ti,con:=[(171,Pz)],fns:=[],un:=6 }
theorem adw:ay Tryz.prog adv:=ay.of mixed aK (fc ⟨MR,fz⟩) fz
theorem aiA:aY Tryz.prog 172 Tryz.f172 []:=⟨Tryz.func172,Tryz.call172,ah⟩
theorem aoq(a)(b):bodyK adv [] (denF adv 8) Tryz.f172 (domV [tN,tN] (a,b,())) [] 0 (bT [tN,tI])=KD a b:=by kernel_rfl
theorem adx:aD Tryz.prog 172 aiz:=aN adw 8 aiA true [tN,tN] [tN,tI] _ (by decide) (fun x=>by rw[QA]; exact aoq x.1 x.2.1)
abbrev X9:Shape:= { sl:=[(pc 1 tN 0),(pv 3 tI),(4,(.w 5 (.int .u8) 2)),(pv 12 tI),(pv 13 tI)],ob:=[(pv 0 tN)],lo:=2,nx:=3 }
abbrev a4B:List Ex:=[(.normal, { sl:=[(4,(.w 5 (.int .u8) 3))],ob:=[],lo:=3,nx:=4 })]
noncomputable def aaU:Code:=aQ (aO Tryz.f126) 0
noncomputable def a4C:Lp:=cB X9 a4B 34 ji
noncomputable def ady:Con:=bG true [tN] [.str] fun x=>Ck x.1
noncomputable def a4D:Cx:= { ti:=ti,con:=[(49,aa7)],fns:=[],un:=6 }
theorem a4E:ay Tryz.prog a4D:=ay.of mixed aK (fc ⟨a04,fz⟩) fz
theorem aiB(x:X9.X):bJ a4D [] (denF a4D 8) aaU (X9.mkS 34 x) (aL 0 X9 a4B)=ji x:=by kernel_rfl
theorem aiC:bF Tryz.prog 0 (.loop aaU) a4C:=aC a4E 8 (ah) X9 a4B 34 ji (by decide) aiB
theorem aiD:aY Tryz.prog 126 Tryz.f126 [(0,a4C)]:=⟨Tryz.func126,Tryz.call126,aU (by kernel_rfl) (aB aiC (by kernel_rfl) fz)⟩
theorem aor(a):bodyK a4D [(0,a4C)] (denF a4D 8) Tryz.f126 (domV [tN] (a,())) [] 0 (bT [.str])=Dv a:=by kernel_rfl
theorem a4F:aD Tryz.prog 126 ady:=aN a4E 8 aiD true [tN] [.str] _ (by decide) (fun x=>by rw[KJ]; exact aor x.1)
end Go.Proofs.YtidodcilgldjoaaGreat
namespace Go.Proofs.YtidodcilgldjoaaGreat
noncomputable def aiE:Con:=bG true [tN,tU,tU] [tN,tN] fun x=>Dw x.1 x.2.1 x.2.2.1
noncomputable def adz:Cx:= { ti:=ti,con:=[(188,ai7)],fns:=[],un:=6 }
theorem adA:ay Tryz.prog adz:=ay.of mixed aK (fc ⟨ad8,fz⟩) fz
theorem aiF:aY Tryz.prog 173 Tryz.f173 []:=⟨Tryz.func173,Tryz.call173,ah⟩
theorem aos(a)(left_)(m):bodyK adz [] (denF adz 8) Tryz.f173 (domV [tN,tU,tU] (a,left_,m,())) [] 0 (bT [tN,tN])=Az a left_ m:=by kernel_rfl
theorem adB:aD Tryz.prog 173 aiE:=aN adA 8 aiF true [tN,tU,tU] [tN,tN] _ (by decide) (fun x=>by rw[IU]; exact aos x.1 x.2.1 x.2.2.1)
abbrev Xa:Shape:= { sl:=[(pc 3 tN 0),(pc 4 tN 1),(pc 5 tN 2),(pc 6 tN 3),(pc 7 tN 4),(pc 8 tN 5),(pv 25 tI)],ob:=[(pv 0 tN),(pv 1 tN),(pv 2 tN),(pv 3 tN),(pv 4 tN),(pv 5 tN)],lo:=6,nx:=6 }
abbrev a4G:List Ex:=[(.normal, { sl:=[(pc 4 tN 1),(pc 6 tN 3),(pc 7 tN 4),(pc 8 tN 5)],ob:=[(pv 1 tN),(pv 3 tN),(pv 4 tN),(pv 5 tN)],lo:=6,nx:=6 })]
noncomputable def aaV:Code:=aQ (aO Tryz.f146) 0
noncomputable def a4H:Lp:=cB Xa a4G 68 dZ
noncomputable def adC:Con:=bG true [tN,tN,tN] [tN,tN] fun x=>rV x.1 x.2.1 x.2.2.1
noncomputable def a4I:Cx:= { ti:=ti,con:=[(173,aiE),(174,ain),(150,adn),(141,a4w),(101,a2n)],fns:=[],un:=6 }
theorem a4J:ay Tryz.prog a4I:=ay.of mixed aK (fc ⟨adB,fc ⟨adl,fc ⟨a4v,fc ⟨V7,fc ⟨QT,fz⟩⟩⟩⟩⟩) fz
theorem aiG(x:Xa.X):bJ a4I [] (denF a4I 8) aaV (Xa.mkS 68 x) (aL 0 Xa a4G)=dZ x:=by kernel_rfl
theorem aiH:bF Tryz.prog 0 (.loop aaV) a4H:=aC a4J 8 (ah) Xa a4G 68 dZ (by decide) aiG
theorem aiI:aY Tryz.prog 146 Tryz.f146 [(0,a4H)]:=⟨Tryz.func146,Tryz.call146,aU (by kernel_rfl) (aB aiH (by kernel_rfl) fz)⟩
theorem aot(a)(left_)(m):bodyK a4I [(0,a4H)] (denF a4I 8) Tryz.f146 (domV [tN,tN,tN] (a,left_,m,())) [] 0 (bT [tN,tN])=yD a left_ m:=by kernel_rfl
theorem a4K:aD Tryz.prog 146 adC:=aN a4J 8 aiI true [tN,tN,tN] [tN,tN] _ (by decide) (fun x=>by rw[FC]; exact aot x.1 x.2.1 x.2.2.1)
noncomputable def a4L:Con:=bG true [tN,tN,tN] [tN,tI] fun x=>sZ x.1 x.2.1 x.2.2.1
noncomputable def adD:Cx:= { ti:=ti,con:=[(146,adC)],fns:=[],un:=6 }
theorem adE:ay Tryz.prog adD:=ay.of mixed aK (fc ⟨a4K,fz⟩) fz
theorem aiJ:aY Tryz.prog 97 Tryz.f97 []:=⟨Tryz.func97,Tryz.call97,ah⟩
theorem aou(low)(high)(m):bodyK adD [] (denF adD 8) Tryz.f97 (domV [tN,tN,tN] (low,high,m,())) [] 0 (bT [tN,tI])=Hl low high m:=by kernel_rfl
theorem V8:aD Tryz.prog 97 a4L:=aN adE 8 aiJ true [tN,tN,tN] [tN,tI] _ (by decide) (fun x=>by rw[O0]; exact aou x.1 x.2.1 x.2.2.1)
noncomputable def adF:Con:=bG true [tN,tN] [tN,tN] fun x=>Cm x.1 x.2.1
noncomputable def adG:Cx:= { ti:=ti,con:=[(170,ad9),(171,Pz)],fns:=[(169,Tryz.f169,[])],un:=6 }
theorem adH:ay Tryz.prog adG:=ay.of mixed aK (fc ⟨a4k,fc ⟨MR,fz⟩⟩) (fc ⟨⟨Tryz.func169,Tryz.call169,ah⟩,fz⟩)
theorem aiK:aY Tryz.prog 143 Tryz.f143 []:=⟨Tryz.func143,Tryz.call143,ah⟩
theorem aov(a)(b):bodyK adG [] (denF adG 8) Tryz.f143 (domV [tN,tN] (a,b,())) [] 0 (bT [tN,tN])=Hg a b:=by kernel_rfl
theorem a4M:aD Tryz.prog 143 adF:=aN adH 8 aiK true [tN,tN] [tN,tN] _ (by decide) (fun x=>by rw[NZ]; exact aov x.1 x.2.1)
noncomputable def aiL:Con:=bG true [tN,tN,tN] [tN,tI] fun x=>AA x.1 x.2.1 x.2.2.1
noncomputable def adI:Cx:= { ti:=ti,con:=[(143,adF),(97,a4L)],fns:=[],un:=6 }
theorem adJ:ay Tryz.prog adI:=ay.of mixed aK (fc ⟨a4M,fc ⟨V8,fz⟩⟩) fz
theorem aiM:aY Tryz.prog 98 Tryz.f98 []:=⟨Tryz.func98,Tryz.call98,ah⟩
theorem aow(a)(b)(m):bodyK adI [] (denF adI 8) Tryz.f98 (domV [tN,tN,tN] (a,b,m,())) [] 0 (bT [tN,tI])=yE a b m:=by kernel_rfl
theorem adK:aD Tryz.prog 98 aiL:=aN adJ 8 aiM true [tN,tN,tN] [tN,tI] _ (by decide) (fun x=>by rw[FD]; exact aow x.1 x.2.1 x.2.2.1)
noncomputable def adL:Con:=bG true [tN,tN] [tN,tN,tI] fun x=>Cn x.1 x.2.1
noncomputable def adM:Cx:= { ti:=ti,con:=[(146,adC)],fns:=[],un:=6 }
theorem adN:ay Tryz.prog adM:=ay.of mixed aK (fc ⟨a4K,fz⟩) fz
theorem aiN:aY Tryz.prog 142 Tryz.f142 []:=⟨Tryz.func142,Tryz.call142,ah⟩
theorem aox(a)(b):bodyK adM [] (denF adM 8) Tryz.f142 (domV [tN,tN] (a,b,())) [] 0 (bT [tN,tN,tI])=Ho a b:=by kernel_rfl
theorem a4N:aD Tryz.prog 142 adL:=aN adN 8 aiN true [tN,tN] [tN,tN,tI] _ (by decide) (fun x=>by rw[O1]; exact aox x.1 x.2.1)
noncomputable def aiO:Con:=bG true [tN,tN,tN] [tN,tI] fun x=>oN x.1 x.2.1 x.2.2.1
noncomputable def adO:Cx:= { ti:=ti,con:=[(97,a4L),(141,a4w),(172,aiz)],fns:=[],un:=6 }
theorem adP:ay Tryz.prog adO:=ay.of mixed aK (fc ⟨V8,fc ⟨V7,fc ⟨adx,fz⟩⟩⟩) fz
theorem aiP:aY Tryz.prog 144 Tryz.f144 []:=⟨Tryz.func144,Tryz.call144,ah⟩
theorem aoy(a)(b)(m):bodyK adO [] (denF adO 8) Tryz.f144 (domV [tN,tN,tN] (a,b,m,())) [] 0 (bT [tN,tI])=yF a b m:=by kernel_rfl
theorem adQ:aD Tryz.prog 144 aiO:=aN adP 8 aiP true [tN,tN,tN] [tN,tI] _ (by decide) (fun x=>by rw[FE]; exact aoy x.1 x.2.1 x.2.2.1)
abbrev Xb:Shape:= { sl:=[(pc 2 tN 0),(pc 3 tN 1),(pc 4 tN 2)],ob:=[(pv 0 tN),(pv 1 tN),(pv 2 tN)],lo:=3,nx:=3 }
abbrev a4O:List Ex:=[(.normal, { sl:=[(pc 2 tN 0),(pc 4 tN 2)],ob:=[(pv 0 tN),(pv 2 tN)],lo:=3,nx:=3 })]
noncomputable def aaW:Code:=aQ (aO Tryz.f145) 0
noncomputable def a4P:Lp:=cB Xb a4O 21 jc
noncomputable def aiQ:Con:=bG true [tN,tN] [tN] fun x=>zw x.1 x.2.1
noncomputable def a4Q:Cx:= { ti:=ti,con:=[(142,adL)],fns:=[],un:=6 }
theorem a4R:ay Tryz.prog a4Q:=ay.of mixed aK (fc ⟨a4N,fz⟩) fz
theorem aiR(x:Xb.X):bJ a4Q [] (denF a4Q 8) aaW (Xb.mkS 21 x) (aL 0 Xb a4O)=jc x:=by kernel_rfl
theorem aiS:bF Tryz.prog 0 (.loop aaW) a4P:=aC a4R 8 (ah) Xb a4O 21 jc (by decide) aiR
theorem aiT:aY Tryz.prog 145 Tryz.f145 [(0,a4P)]:=⟨Tryz.func145,Tryz.call145,aU (by kernel_rfl) (aB aiS (by kernel_rfl) fz)⟩
theorem aoz(a)(b):bodyK a4Q [(0,a4P)] (denF a4Q 8) Tryz.f145 (domV [tN,tN] (a,b,())) [] 0 (bT [tN])=Hq a b:=by kernel_rfl
theorem adR:aD Tryz.prog 145 aiQ:=aN a4R 8 aiT true [tN,tN] [tN] _ (by decide) (fun x=>by rw[O3]; exact aoz x.1 x.2.1)
end Go.Proofs.YtidodcilgldjoaaGreat
namespace Go.Proofs.YtidodcilgldjoaaGreat
noncomputable def adS:Con:=bG false [tN] [(.ptr (.pair tN (.pair tU (.pair tN tN)))),tI] fun x=>wE x.1
noncomputable def adT:Cx:= { ti:=ti,con:=[(50,a4q),(97,a4L),(98,aiL)],fns:=[],un:=6 }
theorem adU:ay Tryz.prog adT:=ay.of mixed aK (fc ⟨V6,fc ⟨V8,fc ⟨adK,fz⟩⟩⟩) fz
theorem aiU:aY Tryz.prog 48 Tryz.f48 []:=⟨Tryz.func48,Tryz.call48,ah⟩
theorem aoA(m):bodyK adT [] (denF adT 8) Tryz.f48 (domV [tN] (m,())) [] 0 (bT [(.ptr (.pair tN (.pair tU (.pair tN tN)))),tI])=Hr m:=by kernel_rfl
theorem a4S:aD Tryz.prog 48 adS:=aN adU 8 aiU false [tN] [(.ptr (.pair tN (.pair tU (.pair tN tN)))),tI] _ (by decide) (fun x=>by rw[O4]; exact aoA x.1)
noncomputable def aa8:Con:=bG true [(.ptr (.pair tN (.pair tU (.pair tN tN))))] [.bool] fun x=>bU x.1
noncomputable def adV:Cx:= { ti:=ti,con:=[],fns:=[],un:=6 }
theorem adW:ay Tryz.prog adV:=ay.of mixed aK fz fz
theorem aiV:aY Tryz.prog 100 Tryz.f100 []:=⟨Tryz.func100,Tryz.call100,ah⟩
theorem aoB(r):bodyK adV [] (denF adV 8) Tryz.f100 (domV [(.ptr (.pair tN (.pair tU (.pair tN tN))))] (r,())) [] 0 (bT [.bool])=pX r:=by cases r<;>kernel_rfl
theorem a05:aD Tryz.prog 100 aa8:=aN adW 8 aiV true [(.ptr (.pair tN (.pair tU (.pair tN tN))))] [.bool] _ (by decide) (fun x=>by rw[mO]; exact aoB x.1)
noncomputable def aiW:Con:=bG true [(.ptr (.pair tN (.pair tU (.pair tN tN)))),tN] [tN] fun x=>qA x.1 x.2.1
noncomputable def adX:Cx:= { ti:=ti,con:=[(101,a2n),(97,a4L)],fns:=[],un:=6 }
theorem adY:ay Tryz.prog adX:=ay.of mixed aK (fc ⟨QT,fc ⟨V8,fz⟩⟩) fz
theorem aiX:aY Tryz.prog 189 Tryz.f189 []:=⟨Tryz.func189,Tryz.call189,ah⟩
theorem aoC(r)(a):bodyK adX [] (denF adX 8) Tryz.f189 (domV [(.ptr (.pair tN (.pair tU (.pair tN tN)))),tN] (r,a,())) [] 0 (bT [tN])=tq r a:=by cases r<;>kernel_rfl
theorem adZ:aD Tryz.prog 189 aiW:=aN adY 8 aiX true [(.ptr (.pair tN (.pair tU (.pair tN tN)))),tN] [tN] _ (by decide) (fun x=>by rw[Co]; exact aoC x.1 x.2.1)
noncomputable def aiY:Con:=bG true [(.arr 6 tU),tU,tN] [(.arr 6 tU)] fun x=>iQ x.1 x.2.1 x.2.2.1
noncomputable def ae0:Cx:= { ti:=ti,con:=[(170,ad9),(171,Pz)],fns:=[],un:=6 }
theorem ae1:ay Tryz.prog ae0:=ay.of mixed aK (fc ⟨a4k,fc ⟨MR,fz⟩⟩) fz
theorem aiZ:aY Tryz.prog 176 Tryz.f176 []:=⟨Tryz.func176,Tryz.call176,ah⟩
theorem aoD(t)(x)(b):bodyK ae0 [] (denF ae0 8) Tryz.f176 (domV [(.arr 6 tU),tU,tN] (t,x,b,())) [] 0 (bT [(.arr 6 tU)])=Dx t x b:=by kernel_rfl
theorem ae2:aD Tryz.prog 176 aiY:=aN ae1 8 aiZ true [(.arr 6 tU),tU,tN] [(.arr 6 tU)] _ (by decide) (fun x=>by rw[KO]; exact aoD x.1 x.2.1 x.2.2.1)
noncomputable def aa9:Con:=bG true [(.ptr (.pair tN (.pair tU (.pair tN tN)))),tN,tN] [tN] fun x=>dh x.1 x.2.1 x.2.2.1
noncomputable def ae3:Cx:= { ti:=ti,con:=[(176,aiY),(141,a4w),(101,a2n)],fns:=[],un:=6 }
theorem ae4:ay Tryz.prog ae3:=ay.of mixed aK (fc ⟨ae2,fc ⟨V7,fc ⟨QT,fz⟩⟩⟩) fz
theorem aj0:aY Tryz.prog 151 Tryz.f151 []:=⟨Tryz.func151,Tryz.call151,ah⟩
theorem aoE(r)(a)(b):bodyK ae3 [] (denF ae3 8) Tryz.f151 (domV [(.ptr (.pair tN (.pair tU (.pair tN tN)))),tN,tN] (r,a,b,())) [] 0 (bT [tN])=qP r a b:=by cases r<;>kernel_rfl
theorem a06:aD Tryz.prog 151 aa9:=aN ae4 8 aj0 true [(.ptr (.pair tN (.pair tU (.pair tN tN)))),tN,tN] [tN] _ (by decide) (fun x=>by rw[AB]; exact aoE x.1 x.2.1 x.2.2.1)
noncomputable def aj1:Con:=bG true [(.ptr (.pair tN (.pair tU (.pair tN tN)))),tN] [tN] fun x=>oO x.1 x.2.1
noncomputable def ae5:Cx:= { ti:=ti,con:=[(100,aa8),(189,aiW),(151,aa9)],fns:=[],un:=6 }
theorem ae6:ay Tryz.prog ae5:=ay.of mixed aK (fc ⟨a05,fc ⟨adZ,fc ⟨a06,fz⟩⟩⟩) fz
theorem aj2:aY Tryz.prog 175 Tryz.f175 []:=⟨Tryz.func175,Tryz.call175,ah⟩
theorem aoF(r)(a):bodyK ae5 [] (denF ae5 8) Tryz.f175 (domV [(.ptr (.pair tN (.pair tU (.pair tN tN)))),tN] (r,a,())) [] 0 (bT [tN])=qQ r a:=by cases r<;>kernel_rfl
theorem ae7:aD Tryz.prog 175 aj1:=aN ae6 8 aj2 true [(.ptr (.pair tN (.pair tU (.pair tN tN)))),tN] [tN] _ (by decide) (fun x=>by rw[AJ]; exact aoF x.1 x.2.1)
abbrev Xc:Shape:= { sl:=[(0,(.pz (.pair tN (.pair tU (.pair tN tN))))),(pc 4 (.arr 16 tN) 1),(pc 5 (.arr 16 tN) 2),(pc 6 tN 3),(pv 7 tI)],ob:=[(pv 1 (.arr 16 tN)),(pv 2 (.arr 16 tN)),(pv 3 tN)],lo:=4,nx:=4 }
abbrev a4T:List Ex:=[(.normal, { sl:=[(pc 4 (.arr 16 tN) 1),(pc 5 (.arr 16 tN) 2)],ob:=[(pv 1 (.arr 16 tN)),(pv 2 (.arr 16 tN))],lo:=4,nx:=4 })]
noncomputable def aaX:Code:=aQ (aO Tryz.f147) 0
noncomputable def a4U:Lp:=cB Xc a4T 30 dA
noncomputable def aj3:Con:=bG true [(.ptr (.pair tN (.pair tU (.pair tN tN)))),tN] [(.arr 16 tN)] fun x=>pY x.1 x.2.1
noncomputable def a4V:Cx:= { ti:=ti,con:=[(175,aj1),(151,aa9)],fns:=[],un:=6 }
theorem a4W:ay Tryz.prog a4V:=ay.of mixed aK (fc ⟨ae7,fc ⟨a06,fz⟩⟩) fz
theorem aj4(x:Xc.X):bJ a4V [] (denF a4V 8) aaX (Xc.mkS 30 x) (aL 0 Xc a4T)=dA x:=by kernel_rfl
theorem aj5:bF Tryz.prog 0 (.loop aaX) a4U:=aC a4W 8 (ah) Xc a4T 30 dA (by decide) aj4
theorem aj6:aY Tryz.prog 147 Tryz.f147 [(0,a4U)]:=⟨Tryz.func147,Tryz.call147,aU (by kernel_rfl) (aB aj5 (by kernel_rfl) fz)⟩
theorem aoG(r)(a):bodyK a4V [(0,a4U)] (denF a4V 8) Tryz.f147 (domV [(.ptr (.pair tN (.pair tU (.pair tN tN)))),tN] (r,a,())) [] 0 (bT [(.arr 16 tN)])=oC r a:=by cases r<;>kernel_rfl
theorem ae8:aD Tryz.prog 147 aj3:=aN a4W 8 aj6 true [(.ptr (.pair tN (.pair tU (.pair tN tN)))),tN] [(.arr 16 tN)] _ (by decide) (fun x=>by rw[xU]; exact aoG x.1 x.2.1)
noncomputable def aj7:Con:=bG true [tN,tI] [tI] fun x=>q9 x.1 x.2.1
noncomputable def ae9:Cx:= { ti:=ti,con:=[(149,aiv),(150,adn),(94,ade)],fns:=[],un:=6 }
theorem aea:ay Tryz.prog ae9:=ay.of mixed aK (fc ⟨adu,fc ⟨a4v,fc ⟨a4p,fz⟩⟩⟩) fz
theorem aj8:aY Tryz.prog 148 Tryz.f148 []:=⟨Tryz.func148,Tryz.call148,ah⟩
theorem aoH(e)(at_):bodyK ae9 [] (denF ae9 8) Tryz.f148 (domV [tN,tI] (e,at_,())) [] 0 (bT [tI])=oD e at_:=by kernel_rfl
theorem aeb:aD Tryz.prog 148 aj7:=aN aea 8 aj8 true [tN,tI] [tI] _ (by decide) (fun x=>by rw[xV]; exact aoH x.1 x.2.1)
abbrev Xd:Shape:= { sl:=[(0,(.pz (.pair tN (.pair tU (.pair tN tN))))),(2,(.sz tN)),(pc 6 tN 0),(8,(.w 241 (.arr 16 tN) 1)),(pv 9 tI),(33,(.sz tN)),(pv 34 tI),(pv 35 tI)],ob:=[(pv 0 tN)],lo:=1,nx:=2 }
abbrev a4X:List Ex:=[(.normal, { sl:=[(0,(.pz (.pair tN (.pair tU (.pair tN tN))))),(2,(.sz tN)),(pc 6 tN 0),(8,(.w 241 (.arr 16 tN) 2)),(pv 9 tI)],ob:=[(pv 0 tN)],lo:=2,nx:=3 })]
noncomputable def aaY:Code:=aQ (aO Tryz.f102) 0
noncomputable def a4Y:Lp:=cB Xd a4X 98 dQ
abbrev Xe:Shape:= { sl:=[(0,(.pz (.pair tN (.pair tU (.pair tN tN))))),(2,(.sz tN)),(pc 6 tN 0),(8,(.w 241 (.arr 16 tN) 5)),(12,(.c ⟨.fn,(.mk 148 [])⟩)),(pc 13 tN 3),(pv 14 tI),(74,(.sz tN)),(pv 75 tI),(pv 76 tI)],ob:=[(pv 0 tN),(pv 3 tN)],lo:=5,nx:=6 }
abbrev a4Z:List Ex:=[(.normal, { sl:=[(0,(.pz (.pair tN (.pair tU (.pair tN tN))))),(2,(.sz tN)),(pc 6 tN 0),(8,(.w 241 (.arr 16 tN) 6)),(12,(.c ⟨.fn,(.mk 148 [])⟩)),(pc 13 tN 3),(pv 14 tI)],ob:=[(pv 0 tN),(pv 3 tN)],lo:=6,nx:=7 })]
noncomputable def aaZ:Code:=aQ (aO Tryz.f102) 6
noncomputable def a1d:Lp:=cB Xe a4Z 98 dR
abbrev Xf:Shape:= { sl:=[(0,(.pz (.pair tN (.pair tU (.pair tN tN))))),(2,(.sz tN)),(pc 6 tN 0),(8,(.w 241 (.arr 16 tN) 4)),(12,(.c ⟨.fn,(.mk 148 [])⟩)),(pc 13 tN 3),(pv 14 tI)],ob:=[(pv 0 tN),(pv 3 tN)],lo:=4,nx:=5 }
abbrev a5a:List Ex:=[(.normal, { sl:=[(0,(.pz (.pair tN (.pair tU (.pair tN tN))))),(pc 6 tN 0),(pc 13 tN 3)],ob:=[(pv 0 tN),(pv 3 tN)],lo:=5,nx:=5 })]
noncomputable def ab0:Code:=aQ (aO Tryz.f102) 2
noncomputable def a5b:Lp:=cB Xf a5a 98 dS
noncomputable def aj9:Con:=bG true [(.ptr (.pair tN (.pair tU (.pair tN tN)))),(.sl tN),(.sl tN)] [tN,tI] fun x=>lS x.1 x.2.1.1 x.2.1.2 x.2.2.1.1 x.2.2.1.2
noncomputable def V9:Cx:= { ti:=ti,con:=[(100,aa8),(147,aj3),(49,aa7),(151,aa9),(148,aj7),(50,a4q)],fns:=[],un:=6 }
theorem Va:ay Tryz.prog V9:=ay.of mixed aK (fc ⟨a05,fc ⟨ae8,fc ⟨a04,fc ⟨a06,fc ⟨aeb,fc ⟨V6,fz⟩⟩⟩⟩⟩⟩) fz
theorem aja(x:Xd.X):bJ V9 [] (denF V9 8) aaY (Xd.mkS 98 x) (aL 0 Xd a4X)=dQ x:=by kernel_rfl
theorem ajb:bF Tryz.prog 0 (.loop aaY) a4Y:=aC Va 8 (ah) Xd a4X 98 dQ (by decide) aja
theorem ajc(x:Xe.X):bJ V9 [] (denF V9 8) aaZ (Xe.mkS 98 x) (aL 6 Xe a4Z)=dR x:=by kernel_rfl
theorem ab1:bF Tryz.prog 6 (.loop aaZ) a1d:=aC Va 8 (ah) Xe a4Z 98 dR (by decide) ajc
theorem ajd(x:Xf.X):bJ V9 [(6,a1d)] (denF V9 8) ab0 (Xf.mkS 98 x) (aL 2 Xf a5a)=dS x:=by kernel_rfl
theorem aje:bF Tryz.prog 2 (.loop ab0) a5b:=aC Va 8 (aU (by kernel_rfl) (aB ab1 (by kernel_rfl) fz)) Xf a5a 98 dS (by decide) ajd
theorem ajf:aY Tryz.prog 102 Tryz.f102 [(0,a4Y),(6,a1d),(2,a5b)]:=⟨Tryz.func102,Tryz.call102,aU (by kernel_rfl) (aB ajb (by kernel_rfl) (aB ab1 (by kernel_rfl) (aB aje (by kernel_rfl) fz)))⟩
theorem aoI(r)(nbases)(bases)(nexps)(exps):bodyK V9 [(0,a4Y),(6,a1d),(2,a5b)] (denF V9 8) Tryz.f102 (domV [(.ptr (.pair tN (.pair tU (.pair tN tN)))),(.sl tN),(.sl tN)] (r,(nbases,bases),(nexps,exps),())) [] 0 (bT [tN,tI])=nN r nbases bases nexps exps:=by cases r<;>kernel_rfl
theorem aec:aD Tryz.prog 102 aj9:=aN Va 8 ajf true [(.ptr (.pair tN (.pair tU (.pair tN tN)))),(.sl tN),(.sl tN)] [tN,tI] _ (by decide) (fun x=>by rw[tu]; exact aoI x.1 x.2.1.1 x.2.1.2 x.2.2.1.1 x.2.2.1.2)
noncomputable def aed:Con:=bG true [(.ptr (.pair tN (.pair tU (.pair tN tN)))),tN,tN] [tN] fun x=>bZ x.1 x.2.1 x.2.2.1
noncomputable def aee:Cx:= { ti:=ti,con:=[(102,aj9)],fns:=[],un:=6 }
theorem aef:ay Tryz.prog aee:=ay.of mixed aK (fc ⟨aec,fz⟩) fz
theorem ajg:aY Tryz.prog 52 Tryz.f52 []:=⟨Tryz.func52,Tryz.call52,ah⟩
theorem aoJ(r)(a)(e):bodyK aee [] (denF aee 8) Tryz.f52 (domV [(.ptr (.pair tN (.pair tU (.pair tN tN)))),tN,tN] (r,a,e,())) [] 0 (bT [tN])=tC r a e:=by cases r<;>kernel_rfl
theorem a5c:aD Tryz.prog 52 aed:=aN aef 8 ajg true [(.ptr (.pair tN (.pair tU (.pair tN tN)))),tN,tN] [tN] _ (by decide) (fun x=>by rw[Cq]; exact aoJ x.1 x.2.1 x.2.2.1)
noncomputable def ajh:Con:=bG true [(.ptr (.pair tN (.pair tU (.pair tN tN)))),tN] [.bool] fun x=>mP x.1 x.2.1
noncomputable def aeg:Cx:= { ti:=ti,con:=[(100,aa8),(101,a2n)],fns:=[],un:=6 }
theorem aeh:ay Tryz.prog aeg:=ay.of mixed aK (fc ⟨a05,fc ⟨QT,fz⟩⟩) fz
theorem aji:aY Tryz.prog 51 Tryz.f51 []:=⟨Tryz.func51,Tryz.call51,ah⟩
theorem aoK(r)(a):bodyK aeg [] (denF aeg 8) Tryz.f51 (domV [(.ptr (.pair tN (.pair tU (.pair tN tN)))),tN] (r,a,())) [] 0 (bT [.bool])=vR r a:=by cases r<;>kernel_rfl
theorem aei:aD Tryz.prog 51 ajh:=aN aeh 8 aji true [(.ptr (.pair tN (.pair tU (.pair tN tN)))),tN] [.bool] _ (by decide) (fun x=>by rw[EC]; exact aoK x.1 x.2.1)
end Go.Proofs.YtidodcilgldjoaaGreat
namespace Go.Proofs.YtidodcilgldjoaaGreat
abbrev Xg:Shape:= { sl:=[(pv 0 tI),(3,(.v .bool)),(pv 11 tI),(pv 12 tI)],ob:=[],lo:=0,nx:=0 }
abbrev a5d:List Ex:=[(.normal, { sl:=[(3,(.v .bool))],ob:=[],lo:=0,nx:=0 })]
noncomputable def ab2:Code:=aQ (aO Tryz.f95) 0
noncomputable def a5e:Lp:=cB Xg a5d 31 cZ
noncomputable def ajj:Con:=bG true [tI] [.bool] fun x=>AO x.1
noncomputable def a5f:Cx:= { ti:=ti,con:=[],fns:=[],un:=6 }
theorem a5g:ay Tryz.prog a5f:=ay.of mixed aK fz fz
theorem ajk(x:Xg.X):bJ a5f [] (denF a5f 8) ab2 (Xg.mkS 31 x) (aL 0 Xg a5d)=cZ x:=by kernel_rfl
theorem ajl:bF Tryz.prog 0 (.loop ab2) a5e:=aC a5g 8 (ah) Xg a5d 31 cZ (by decide) ajk
theorem ajm:aY Tryz.prog 95 Tryz.f95 [(0,a5e)]:=⟨Tryz.func95,Tryz.call95,aU (by kernel_rfl) (aB ajl (by kernel_rfl) fz)⟩
theorem aoL(n):bodyK a5f [(0,a5e)] (denF a5f 8) Tryz.f95 (domV [tI] (n,())) [] 0 (bT [.bool])=yG n:=by kernel_rfl
theorem aej:aD Tryz.prog 95 ajj:=aN a5g 8 ajm true [tI] [.bool] _ (by decide) (fun x=>by rw[FL]; exact aoL x.1)
noncomputable def ajn:Con:=bG true [tN,tN,tI] [.bool] fun x=>DC x.1 x.2.1 x.2.2.1
noncomputable def aek:Cx:= { ti:=ti,con:=[(48,adS),(50,a4q),(141,a4w),(142,adL),(143,adF),(101,a2n),(52,aed),(144,aiO),(145,aiQ)],fns:=[],un:=6 }
theorem ael:ay Tryz.prog aek:=ay.of mixed aK (fc ⟨a4S,fc ⟨V6,fc ⟨V7,fc ⟨a4N,fc ⟨a4M,fc ⟨QT,fc ⟨a5c,fc ⟨adQ,fc ⟨adR,fz⟩⟩⟩⟩⟩⟩⟩⟩⟩) fz
theorem ajo:aY Tryz.prog 96 Tryz.f96 []:=⟨Tryz.func96,Tryz.call96,ah⟩
theorem aoM(n)(factor)(witness):bodyK aek [] (denF aek 8) Tryz.f96 (domV [tN,tN,tI] (n,factor,witness,())) [] 0 (bT [.bool])=AP n factor witness:=by kernel_rfl
theorem aem:aD Tryz.prog 96 ajn:=aN ael 8 ajo true [tN,tN,tI] [.bool] _ (by decide) (fun x=>by rw[IV]; exact aoM x.1 x.2.1 x.2.2.1)
abbrev Xh:Shape:= { sl:=[(0,(.sz (.pair tN tI))),(pv 5 tI)],ob:=[],lo:=0,nx:=0 }
abbrev a5h:List Ex:=[(.ret, { sl:=[(pv 2 tI)],ob:=[],lo:=0,nx:=0 }),(.normal, { sl:=[],ob:=[],lo:=0,nx:=0 })]
noncomputable def ab3:Code:=aQ (aO Tryz.f47) 0
noncomputable def a5i:Lp:=cB Xh a5h 60 eu
noncomputable def ajp:Con:=bG true [(.sl (.pair tN tI))] [tI] fun x=>rW x.1.1 x.1.2
noncomputable def a5j:Cx:= { ti:=ti,con:=[(94,ade),(95,ajj),(96,ajn)],fns:=[],un:=6 }
theorem a5k:ay Tryz.prog a5j:=ay.of mixed aK (fc ⟨a4p,fc ⟨aej,fc ⟨aem,fz⟩⟩⟩) fz
theorem ajq(x:Xh.X):bJ a5j [] (denF a5j 8) ab3 (Xh.mkS 60 x) (aL 0 Xh a5h)=eu x:=by kernel_rfl
theorem ajr:bF Tryz.prog 0 (.loop ab3) a5i:=aC a5k 8 (ah) Xh a5h 60 eu (by decide) ajq
theorem ajs:aY Tryz.prog 47 Tryz.f47 [(0,a5i)]:=⟨Tryz.func47,Tryz.call47,aU (by kernel_rfl) (aB ajr (by kernel_rfl) fz)⟩
theorem aoN(nl)(l):bodyK a5j [(0,a5i)] (denF a5j 8) Tryz.f47 (domV [(.sl (.pair tN tI))] ((nl,l),())) [] 0 (bT [tI])=yH nl l:=by kernel_rfl
theorem aen:aD Tryz.prog 47 ajp:=aN a5k 8 ajs true [(.sl (.pair tN tI))] [tI] _ (by decide) (fun x=>by rw[FM]; exact aoN x.1.1 x.1.2)
end Go.Proofs.YtidodcilgldjoaaGreat
namespace Go.Proofs.YtidodcilgldjoaaGreat
noncomputable def ajt:Con:=bG false [(.pair (.sl (.pair tN tI)) tN)] [(.ptr (.pair (.pair (.ptr (.pair tN (.pair tU (.pair tN tN)))) (.ptr (.pair tN (.pair tU (.pair tN tN))))) tN)),tI] fun x=>vD x.1
noncomputable def aeo:Cx:= { ti:=ti,con:=[(47,ajp),(48,adS),(49,aa7),(50,a4q),(51,ajh),(52,aed)],fns:=[],un:=6 }
theorem aep:ay Tryz.prog aeo:=ay.of mixed aK (fc ⟨aen,fc ⟨a4S,fc ⟨a04,fc ⟨V6,fc ⟨aei,fc ⟨a5c,fz⟩⟩⟩⟩⟩⟩) fz
theorem aju:aY Tryz.prog 17 Tryz.f17 []:=⟨Tryz.func17,Tryz.call17,ah⟩
theorem aoO(p):bodyK aeo [] (denF aeo 8) Tryz.f17 (domV [(.pair (.sl (.pair tN tI)) tN)] (p,())) [] 0 (bT [(.ptr (.pair (.pair (.ptr (.pair tN (.pair tU (.pair tN tN)))) (.ptr (.pair tN (.pair tU (.pair tN tN))))) tN)),tI])=DF p:=by kernel_rfl
theorem aer:aD Tryz.prog 17 ajt:=aN aep 8 aju false [(.pair (.sl (.pair tN tI)) tN)] [(.ptr (.pair (.pair (.ptr (.pair tN (.pair tU (.pair tN tN)))) (.ptr (.pair tN (.pair tU (.pair tN tN))))) tN)),tI] _ (by decide) (fun x=>by rw[KP]; exact aoO x.1)
noncomputable def ajv:Con:=bG false [(.ptr (.pair (.pair (.ptr (.pair tN (.pair tU (.pair tN tN)))) (.ptr (.pair tN (.pair tU (.pair tN tN))))) tN))] [(.ptr (.pair tN (.pair tU (.pair tN tN))))] fun x=>eU x.1
noncomputable def aes:Cx:= { ti:=ti,con:=[],fns:=[],un:=6 }
theorem aeu:ay Tryz.prog aes:=ay.of mixed aK fz fz
theorem ajw:aY Tryz.prog 103 Tryz.f103 []:=⟨Tryz.func103,Tryz.call103,ah⟩
theorem aoP(g:(Option (((sJ (NI×(Int×(NI×NI))))×(sJ (NI×(Int×(NI×NI)))))×NI))):bodyK aes [] (denF aes 8) Tryz.f103 (domV [(.ptr (.pair (.pair (.ptr (.pair tN (.pair tU (.pair tN tN)))) (.ptr (.pair tN (.pair tU (.pair tN tN))))) tN))] (g,())) [] 0 (bT [(.ptr (.pair tN (.pair tU (.pair tN tN))))])=jC g:=by cases g<;>kernel_rfl
theorem aev:aD Tryz.prog 103 ajv:=aN aeu 8 ajw false [(.ptr (.pair (.pair (.ptr (.pair tN (.pair tU (.pair tN tN)))) (.ptr (.pair tN (.pair tU (.pair tN tN))))) tN))] [(.ptr (.pair tN (.pair tU (.pair tN tN))))] _ (by decide) (fun x=>by rw[oP]; exact aoP x.1)
end Go.Proofs.YtidodcilgldjoaaGreat
namespace Go.Proofs.YtidodcilgldjoaaGreat
noncomputable def ajx:Con:=bG false [] [(.pair (.sl (.pair tN tI)) tN)] fun x=>Hu
noncomputable def aew:Cx:= { ti:=ti,con:=[],fns:=[],un:=6 }
theorem aex:ay Tryz.prog aew:=ay.of mixed aK fz fz
theorem ajy:aY Tryz.prog 24 Tryz.f24 []:=⟨Tryz.func24,Tryz.call24,ah⟩
theorem aoQ:bodyK aew [] (denF aew 8) Tryz.f24 (domV [] (())) [] 0 (bT [(.pair (.sl (.pair tN tI)) tN)])=JR:=by kernel_rfl
theorem aey:aD Tryz.prog 24 ajx:=aN aex 8 ajy false [] [(.pair (.sl (.pair tN tI)) tN)] _ (by decide) (fun x=>by rw[KY]; exact aoQ)
end Go.Proofs.YtidodcilgldjoaaGreat
namespace Go.Proofs.YtidodcilgldjoaaGreat
abbrev Xi:Shape:= { sl:=[(pc 1 tN 0),(pc 2 (.arr 256 .bool) 1),(pc 3 (.arr 256 .bool) 2),(pv 4 tI)],ob:=[(pv 0 tN),(pv 1 (.arr 256 .bool)),(pv 2 (.arr 256 .bool))],lo:=3,nx:=3 }
abbrev a5l:List Ex:=[(.normal, { sl:=[(pc 2 (.arr 256 .bool) 1),(pc 3 (.arr 256 .bool) 2)],ob:=[(pv 1 (.arr 256 .bool)),(pv 2 (.arr 256 .bool))],lo:=3,nx:=3 })]
noncomputable def ab4:Code:=aQ (aO Tryz.f117) 0
noncomputable def a5m:Lp:=cB Xi a5l 22 oQ
noncomputable def a5n:Con:=bG true [tN] [(.arr 256 .bool)] fun x=>FN x.1
noncomputable def a5o:Cx:= { ti:=ti,con:=[],fns:=[],un:=6 }
theorem a5p:ay Tryz.prog a5o:=ay.of mixed aK fz fz
theorem ajz(x:Xi.X):bJ a5o [] (denF a5o 8) ab4 (Xi.mkS 22 x) (aL 0 Xi a5l)=oQ x:=by kernel_rfl
theorem ajA:bF Tryz.prog 0 (.loop ab4) a5m:=aC a5p 8 (ah) Xi a5l 22 oQ (by decide) ajz
theorem ajB:aY Tryz.prog 117 Tryz.f117 [(0,a5m)]:=⟨Tryz.func117,Tryz.call117,aU (by kernel_rfl) (aB ajA (by kernel_rfl) fz)⟩
theorem aoR(a):bodyK a5o [(0,a5m)] (denF a5o 8) Tryz.f117 (domV [tN] (a,())) [] 0 (bT [(.arr 256 .bool)])=Pt a:=by kernel_rfl
theorem Vb:aD Tryz.prog 117 a5n:=aN a5p 8 ajB true [tN] [(.arr 256 .bool)] _ (by decide) (fun x=>by rw[U6]; exact aoR x.1)
abbrev Xj:Shape:= { sl:=[(pc 3 (.arr 256 .bool) 1),(pv 4 tI)],ob:=[(pv 1 (.arr 256 .bool))],lo:=2,nx:=2 }
abbrev a5q:List Ex:=[(.ret, { sl:=[(pv 2 tI)],ob:=[],lo:=2,nx:=2 }),(.normal, { sl:=[],ob:=[],lo:=2,nx:=2 })]
noncomputable def ab5:Code:=aQ (aO Tryz.f116) 0
noncomputable def a5r:Lp:=cB Xj a5q 16 jX
noncomputable def ajC:Con:=bG true [tN] [tI] fun x=>Pw x.1
noncomputable def a5s:Cx:= { ti:=ti,con:=[(117,a5n)],fns:=[],un:=6 }
theorem a5t:ay Tryz.prog a5s:=ay.of mixed aK (fc ⟨Vb,fz⟩) fz
theorem ajD(x:Xj.X):bJ a5s [] (denF a5s 8) ab5 (Xj.mkS 16 x) (aL 0 Xj a5q)=jX x:=by kernel_rfl
theorem ajE:bF Tryz.prog 0 (.loop ab5) a5r:=aC a5t 8 (ah) Xj a5q 16 jX (by decide) ajD
theorem ajF:aY Tryz.prog 116 Tryz.f116 [(0,a5r)]:=⟨Tryz.func116,Tryz.call116,aU (by kernel_rfl) (aB ajE (by kernel_rfl) fz)⟩
theorem aoS(a):bodyK a5s [(0,a5r)] (denF a5s 8) Tryz.f116 (domV [tN] (a,())) [] 0 (bT [tI])=KT a:=by kernel_rfl
theorem aez:aD Tryz.prog 116 ajC:=aN a5t 8 ajF true [tN] [tI] _ (by decide) (fun x=>by rw[QK]; exact aoS x.1)
noncomputable def ajG:Con:=bG true [tN,tI] [tI] fun x=>Px x.1 x.2.1
noncomputable def aeA:Cx:= { ti:=ti,con:=[(117,a5n)],fns:=[],un:=6 }
theorem aeB:ay Tryz.prog aeA:=ay.of mixed aK (fc ⟨Vb,fz⟩) fz
theorem ajH:aY Tryz.prog 128 Tryz.f128 []:=⟨Tryz.func128,Tryz.call128,ah⟩
theorem aoT(a)(k):bodyK aeA [] (denF aeA 8) Tryz.f128 (domV [tN,tI] (a,k,())) [] 0 (bT [tI])=KU a k:=by kernel_rfl
theorem aeC:aD Tryz.prog 128 ajG:=aN aeB 8 ajH true [tN,tI] [tI] _ (by decide) (fun x=>by rw[QL]; exact aoT x.1 x.2.1)
abbrev Xk:Shape:= { sl:=[(pc 1 tN 0),(4,(.w 5 (.int .u8) 2)),(pv 5 tI),(pv 6 tI),(pv 7 tI)],ob:=[(pv 0 tN)],lo:=2,nx:=3 }
abbrev a5u:List Ex:=[(.normal, { sl:=[(pc 1 tN 0),(4,(.w 5 (.int .u8) 3)),(pv 5 tI),(pv 6 tI)],ob:=[(pv 0 tN)],lo:=3,nx:=4 })]
noncomputable def ab6:Code:=aQ (aO Tryz.f77) 2
noncomputable def a1e:Lp:=cB Xk a5u 40 jl
abbrev Xl:Shape:= { sl:=[(pc 1 tN 0),(4,(.w 5 (.int .u8) 1)),(pv 5 tI)],ob:=[(pv 0 tN)],lo:=1,nx:=2 }
abbrev a5v:List Ex:=[(.normal, { sl:=[(4,(.w 5 (.int .u8) 2))],ob:=[],lo:=2,nx:=3 })]
noncomputable def ab7:Code:=aQ (aO Tryz.f77) 0
noncomputable def a5w:Lp:=cB Xl a5v 40 jm
noncomputable def aeD:Con:=bG true [tN] [.str] fun x=>Cr x.1
noncomputable def a07:Cx:= { ti:=ti,con:=[(116,ajC),(128,ajG)],fns:=[],un:=6 }
theorem a08:ay Tryz.prog a07:=ay.of mixed aK (fc ⟨aez,fc ⟨aeC,fz⟩⟩) fz
theorem ajI(x:Xk.X):bJ a07 [] (denF a07 8) ab6 (Xk.mkS 40 x) (aL 2 Xk a5u)=jl x:=by kernel_rfl
theorem ab8:bF Tryz.prog 2 (.loop ab6) a1e:=aC a08 8 (ah) Xk a5u 40 jl (by decide) ajI
theorem ajJ(x:Xl.X):bJ a07 [(2,a1e)] (denF a07 8) ab7 (Xl.mkS 40 x) (aL 0 Xl a5v)=jm x:=by kernel_rfl
theorem ajK:bF Tryz.prog 0 (.loop ab7) a5w:=aC a08 8 (aU (by kernel_rfl) (aB ab8 (by kernel_rfl) fz)) Xl a5v 40 jm (by decide) ajJ
theorem ajL:aY Tryz.prog 77 Tryz.f77 [(2,a1e),(0,a5w)]:=⟨Tryz.func77,Tryz.call77,aU (by kernel_rfl) (aB ab8 (by kernel_rfl) (aB ajK (by kernel_rfl) fz))⟩
theorem aoU(a):bodyK a07 [(2,a1e),(0,a5w)] (denF a07 8) Tryz.f77 (domV [tN] (a,())) [] 0 (bT [.str])=DJ a:=by kernel_rfl
theorem a5x:aD Tryz.prog 77 aeD:=aN a08 8 ajL true [tN] [.str] _ (by decide) (fun x=>by rw[KW]; exact aoU x.1)
abbrev Xm:Shape:= { sl:=[(pc 1 (.arr 256 .bool) 0),(pc 2 tN 1),(pc 3 tN 2),(pv 4 tI)],ob:=[(pv 0 (.arr 256 .bool)),(pv 1 tN),(pv 2 tN)],lo:=3,nx:=3 }
abbrev a5y:List Ex:=[(.normal, { sl:=[(pc 2 tN 1),(pc 3 tN 2)],ob:=[(pv 1 tN),(pv 2 tN)],lo:=3,nx:=3 })]
noncomputable def ab9:Code:=aQ (aO Tryz.f164) 0
noncomputable def a5z:Lp:=cB Xm a5y 25 jV
noncomputable def aac:Con:=bG true [(.arr 256 .bool)] [tN] fun x=>DI x.1
noncomputable def a5A:Cx:= { ti:=ti,con:=[],fns:=[],un:=6 }
theorem a5B:ay Tryz.prog a5A:=ay.of mixed aK fz fz
theorem ajM(x:Xm.X):bJ a5A [] (denF a5A 8) ab9 (Xm.mkS 25 x) (aL 0 Xm a5y)=jV x:=by kernel_rfl
theorem ajN:bF Tryz.prog 0 (.loop ab9) a5z:=aC a5B 8 (ah) Xm a5y 25 jV (by decide) ajM
theorem ajO:aY Tryz.prog 164 Tryz.f164 [(0,a5z)]:=⟨Tryz.func164,Tryz.call164,aU (by kernel_rfl) (aB ajN (by kernel_rfl) fz)⟩
theorem aoV(b):bodyK a5A [(0,a5z)] (denF a5A 8) Tryz.f164 (domV [(.arr 256 .bool)] (b,())) [] 0 (bT [tN])=KQ b:=by kernel_rfl
theorem a09:aD Tryz.prog 164 aac:=aN a5B 8 ajO true [(.arr 256 .bool)] [tN] _ (by decide) (fun x=>by rw[QG]; exact aoV x.1)
abbrev Xn:Shape:= { sl:=[(pv 1 tI),(pc 4 tN 1),(pc 5 (.arr 256 .bool) 2),(pc 6 (.arr 256 .bool) 3),(pv 7 tI)],ob:=[(pv 1 tN),(pv 2 (.arr 256 .bool)),(pv 3 (.arr 256 .bool))],lo:=4,nx:=4 }
abbrev a5C:List Ex:=[(.normal, { sl:=[(pc 4 tN 1),(pc 6 (.arr 256 .bool) 3)],ob:=[(pv 1 tN),(pv 3 (.arr 256 .bool))],lo:=4,nx:=4 })]
noncomputable def abb:Code:=aQ (aO Tryz.f135) 0
noncomputable def a5D:Lp:=cB Xn a5C 34 kV
noncomputable def ajP:Con:=bG true [tN,tI] [tN] fun x=>QN x.1 x.2.1
noncomputable def a5E:Cx:= { ti:=ti,con:=[(117,a5n),(164,aac)],fns:=[],un:=6 }
theorem a5F:ay Tryz.prog a5E:=ay.of mixed aK (fc ⟨Vb,fc ⟨a09,fz⟩⟩) fz
theorem ajQ(x:Xn.X):bJ a5E [] (denF a5E 8) abb (Xn.mkS 34 x) (aL 0 Xn a5C)=kV x:=by kernel_rfl
theorem ajR:bF Tryz.prog 0 (.loop abb) a5D:=aC a5F 8 (ah) Xn a5C 34 kV (by decide) ajQ
theorem ajS:aY Tryz.prog 135 Tryz.f135 [(0,a5D)]:=⟨Tryz.func135,Tryz.call135,aU (by kernel_rfl) (aB ajR (by kernel_rfl) fz)⟩
theorem aoW(a)(n):bodyK a5E [(0,a5D)] (denF a5E 8) Tryz.f135 (domV [tN,tI] (a,n,())) [] 0 (bT [tN])=Py a n:=by kernel_rfl
theorem aeE:aD Tryz.prog 135 ajP:=aN a5F 8 ajS true [tN,tI] [tN] _ (by decide) (fun x=>by rw[U7]; exact aoW x.1 x.2.1)
abbrev Xo:Shape:= { sl:=[(pv 0 tI),(pc 2 tN 0),(pc 3 (.arr 256 .bool) 1),(pv 4 tI)],ob:=[(pv 0 tN),(pv 1 (.arr 256 .bool))],lo:=2,nx:=2 }
abbrev a5G:List Ex:=[(.normal, { sl:=[(pc 2 tN 0),(pc 3 (.arr 256 .bool) 1)],ob:=[(pv 0 tN),(pv 1 (.arr 256 .bool))],lo:=2,nx:=2 })]
noncomputable def abd:Code:=aQ (aO Tryz.f136) 0
noncomputable def a5H:Lp:=cB Xo a5G 23 jW
noncomputable def ajT:Con:=bG true [tI] [tN] fun x=>Pq x.1
noncomputable def a5I:Cx:= { ti:=ti,con:=[(164,aac)],fns:=[],un:=6 }
theorem a5J:ay Tryz.prog a5I:=ay.of mixed aK (fc ⟨a09,fz⟩) fz
theorem ajU(x:Xo.X):bJ a5I [] (denF a5I 8) abd (Xo.mkS 23 x) (aL 0 Xo a5G)=jW x:=by kernel_rfl
theorem ajV:bF Tryz.prog 0 (.loop abd) a5H:=aC a5J 8 (ah) Xo a5G 23 jW (by decide) ajU
theorem ajW:aY Tryz.prog 136 Tryz.f136 [(0,a5H)]:=⟨Tryz.func136,Tryz.call136,aU (by kernel_rfl) (aB ajV (by kernel_rfl) fz)⟩
theorem aoX(n):bodyK a5I [(0,a5H)] (denF a5I 8) Tryz.f136 (domV [tI] (n,())) [] 0 (bT [tN])=KR n:=by kernel_rfl
theorem aeF:aD Tryz.prog 136 ajT:=aN a5J 8 ajW true [tI] [tN] _ (by decide) (fun x=>by rw[QH]; exact aoX x.1)
abbrev Xp:Shape:= { sl:=[(pc 4 tN 2),(pc 6 (.arr 256 .bool) 3),(pc 7 (.arr 256 .bool) 4),(pc 8 (.arr 256 .bool) 5),(9,(.v .bool)),(pv 10 tI)],ob:=[(pv 2 tN),(pv 3 (.arr 256 .bool)),(pv 4 (.arr 256 .bool)),(pv 5 (.arr 256 .bool))],lo:=6,nx:=6 }
abbrev a5K:List Ex:=[(.normal, { sl:=[(pc 4 tN 2),(pc 8 (.arr 256 .bool) 5),(9,(.v .bool))],ob:=[(pv 2 tN),(pv 5 (.arr 256 .bool))],lo:=6,nx:=6 })]
noncomputable def abe:Code:=aQ (aO Tryz.f134) 0
noncomputable def a5L:Lp:=cB Xp a5K 57 dU
noncomputable def ajX:Con:=bG true [tN,tN] [tN,tI] fun x=>Pv x.1 x.2.1
noncomputable def a5M:Cx:= { ti:=ti,con:=[(117,a5n),(164,aac)],fns:=[],un:=6 }
theorem a5N:ay Tryz.prog a5M:=ay.of mixed aK (fc ⟨Vb,fc ⟨a09,fz⟩⟩) fz
theorem ajY(x:Xp.X):bJ a5M [] (denF a5M 8) abe (Xp.mkS 57 x) (aL 0 Xp a5K)=dU x:=by kernel_rfl
theorem ajZ:bF Tryz.prog 0 (.loop abe) a5L:=aC a5N 8 (ah) Xp a5K 57 dU (by decide) ajY
theorem ak0:aY Tryz.prog 134 Tryz.f134 [(0,a5L)]:=⟨Tryz.func134,Tryz.call134,aU (by kernel_rfl) (aB ajZ (by kernel_rfl) fz)⟩
theorem aoY(a)(b):bodyK a5M [(0,a5L)] (denF a5M 8) Tryz.f134 (domV [tN,tN] (a,b,())) [] 0 (bT [tN,tI])=KS a b:=by kernel_rfl
theorem aeG:aD Tryz.prog 134 ajX:=aN a5N 8 ak0 true [tN,tN] [tN,tI] _ (by decide) (fun x=>by rw[QJ]; exact aoY x.1 x.2.1)
abbrev Xq:Shape:= { sl:=[(0,(.v .str)),(pc 2 tN 0),(pc 4 tN 1),(pv 5 tI)],ob:=[(pv 0 tN),(pv 1 tN)],lo:=2,nx:=2 }
abbrev a5O:List Ex:=[(.normal, { sl:=[(pc 2 tN 0),(pc 4 tN 1)],ob:=[(pv 0 tN),(pv 1 tN)],lo:=2,nx:=2 })]
noncomputable def abf:Code:=aQ (aO Tryz.f85) 0
noncomputable def a5P:Lp:=cB Xq a5O 42 iC
noncomputable def aeH:Con:=bG true [.str] [tN,tI] fun x=>FR x.1
noncomputable def a5Q:Cx:= { ti:=ti,con:=[(135,ajP),(136,ajT),(134,ajX)],fns:=[],un:=6 }
theorem a5R:ay Tryz.prog a5Q:=ay.of mixed aK (fc ⟨aeE,fc ⟨aeF,fc ⟨aeG,fz⟩⟩⟩) fz
theorem ak1(x:Xq.X):bJ a5Q [] (denF a5Q 8) abf (Xq.mkS 42 x) (aL 0 Xq a5O)=iC x:=by kernel_rfl
theorem ak2:bF Tryz.prog 0 (.loop abf) a5P:=aC a5R 8 (ah) Xq a5O 42 iC (by decide) ak1
theorem ak3:aY Tryz.prog 85 Tryz.f85 [(0,a5P)]:=⟨Tryz.func85,Tryz.call85,aU (by kernel_rfl) (aB ak2 (by kernel_rfl) fz)⟩
theorem aoZ(s):bodyK a5Q [(0,a5P)] (denF a5Q 8) Tryz.f85 (domV [.str] (s,())) [] 0 (bT [tN,tI])=Ht s:=by kernel_rfl
theorem a5S:aD Tryz.prog 85 aeH:=aN a5R 8 ak3 true [.str] [tN,tI] _ (by decide) (fun x=>by rw[O9]; exact aoZ x.1)
end Go.Proofs.YtidodcilgldjoaaGreat
namespace Go.Proofs.YtidodcilgldjoaaGreat
abbrev Xr:Shape:= { sl:=[(0,(.sz tN)),(1,(.sz tN)),(pv 5 tI)],ob:=[],lo:=0,nx:=0 }
abbrev a5T:List Ex:=[(.ret, { sl:=[(4,(.v .bool))],ob:=[],lo:=0,nx:=0 }),(.normal, { sl:=[],ob:=[],lo:=0,nx:=0 })]
noncomputable def abg:Code:=aQ (aO Tryz.f140) 0
noncomputable def a5U:Lp:=cB Xr a5T 26 jd
noncomputable def aeI:Con:=bG true [(.sl tN),(.sl tN)] [.bool] fun x=>FT x.1.1 x.1.2 x.2.1.1 x.2.1.2
noncomputable def a5V:Cx:= { ti:=ti,con:=[],fns:=[],un:=6 }
theorem a5W:ay Tryz.prog a5V:=ay.of mixed aK fz fz
theorem ak4(x:Xr.X):bJ a5V [] (denF a5V 8) abg (Xr.mkS 26 x) (aL 0 Xr a5T)=jd x:=by kernel_rfl
theorem ak5:bF Tryz.prog 0 (.loop abg) a5U:=aC a5W 8 (ah) Xr a5T 26 jd (by decide) ak4
theorem ak6:aY Tryz.prog 140 Tryz.f140 [(0,a5U)]:=⟨Tryz.func140,Tryz.call140,aU (by kernel_rfl) (aB ak5 (by kernel_rfl) fz)⟩
theorem ap0(na)(a)(nb)(b):bodyK a5V [(0,a5U)] (denF a5V 8) Tryz.f140 (domV [(.sl tN),(.sl tN)] ((na,a),(nb,b),())) [] 0 (bT [.bool])=Hw na a nb b:=by kernel_rfl
theorem a5X:aD Tryz.prog 140 aeI:=aN a5W 8 ak6 true [(.sl tN),(.sl tN)] [.bool] _ (by decide) (fun x=>by rw[Oa]; exact ap0 x.1.1 x.1.2 x.2.1.1 x.2.1.2)
end Go.Proofs.YtidodcilgldjoaaGreat
