/-
  The functions of the program are the plain ones.
-/
import Derived.Test.YtidodcilgldjoaaGreatProg
import Derived.Test.YtidodcilgldjoaaGreatDenD
import Derived.KernelRfl
import Derived.Test.YtidodcilgldjoaaGreatPlA
set_option linter.unusedVariables false
set_option linter.unusedSimpArgs false
set_option maxRecDepth 100000
set_option maxHeartbeats 0
namespace Go.Pl
end Go.Pl
open Go Go.Den Go.Pl
namespace Go.Proofs.YtidodcilgldjoaaGreat
abbrev tN : Ty := .arr 4 (.int .u64)
abbrev tU : Ty := .int .u64
abbrev tI : Ty := .int .i64
abbrev pc (i : Nat) (t : Ty) (r : Nat) : Nat × Pat := (i, .c ⟨.ptr t, .rf r []⟩)
abbrev pv (i : Nat) (t : Ty) : Nat × Pat := (i, .v t)
theorem fc {α : Type _} {p : α → Prop} {a : α} {l : List α} (h : p a ∧ ∀ x ∈ l, p x) : ∀ x ∈ a :: l, p x := List.forall_mem_cons.2 h
theorem fz {α : Type _} {p : α → Prop} : ∀ x ∈ ([] : List α), p x := List.forall_mem_nil _
noncomputable def ti : List (Nat × TI) := [
  (3, ⟨(TypeDesc.int IntKind.i64), (.int .i64), 8⟩),
  (4, ⟨TypeDesc.bool, .bool, 1⟩),
  (5, ⟨(TypeDesc.int IntKind.u8), (.int .u8), 1⟩),
  (9, ⟨TypeDesc.string, .str, 16⟩),
  (22, ⟨(TypeDesc.slice 3), (.sl (.int .i64)), 24⟩),
  (23, ⟨(TypeDesc.slice 71), (.sl (.pair .str (.pair (.pair (.pair (.int .i64) (.int .i64)) (.pair .str (.pair (.sl (.sl (.arr 4 (.int .u64)))) (.pair (.sl (.arr 4 (.int .u64))) (.int .i64))))) (.pair (.sl (.pair (.int .i64) (.pair (.pair (.int .i64) (.int .i64)) .str))) (.pair (.sl (.pair (.int .i64) (.pair (.pair (.int .i64) (.int .i64)) .str))) (.sl (.pair (.pair (.pair (.int .i64) (.int .i64)) (.pair .str (.pair (.sl (.sl (.arr 4 (.int .u64)))) (.pair (.sl (.arr 4 (.int .u64))) (.int .i64))))) (.pair (.pair (.pair (.int .i64) (.int .i64)) (.pair .str (.pair (.sl (.sl (.arr 4 (.int .u64)))) (.pair (.sl (.arr 4 (.int .u64))) (.int .i64))))) (.pair (.pair (.pair (.int .i64) (.int .i64)) (.pair .str (.pair (.sl (.sl (.arr 4 (.int .u64)))) (.pair (.sl (.arr 4 (.int .u64))) (.int .i64))))) (.pair (.int .i64) (.int .i64))))))))))), 24⟩),
  (25, ⟨(TypeDesc.struct #[{ name := "T", type := 3, offset := 0, embedded := false, tag := "", pkgPath := "", byteOffset := 0 }, { name := "Number", type := 3, offset := 1, embedded := false, tag := "", pkgPath := "", byteOffset := 8 }, { name := "Clients", type := 3, offset := 2, embedded := false, tag := "", pkgPath := "", byteOffset := 16 }, { name := "Used", type := 22, offset := 3, embedded := false, tag := "", pkgPath := "", byteOffset := 24 }, { name := "Records", type := 23, offset := 4, embedded := false, tag := "", pkgPath := "", byteOffset := 48 }]), (.pair (.int .i64) (.pair (.int .i64) (.pair (.int .i64) (.pair (.sl (.int .i64)) (.sl (.pair .str (.pair (.pair (.pair (.int .i64) (.int .i64)) (.pair .str (.pair (.sl (.sl (.arr 4 (.int .u64)))) (.pair (.sl (.arr 4 (.int .u64))) (.int .i64))))) (.pair (.sl (.pair (.int .i64) (.pair (.pair (.int .i64) (.int .i64)) .str))) (.pair (.sl (.pair (.int .i64) (.pair (.pair (.int .i64) (.int .i64)) .str))) (.sl (.pair (.pair (.pair (.int .i64) (.int .i64)) (.pair .str (.pair (.sl (.sl (.arr 4 (.int .u64)))) (.pair (.sl (.arr 4 (.int .u64))) (.int .i64))))) (.pair (.pair (.pair (.int .i64) (.int .i64)) (.pair .str (.pair (.sl (.sl (.arr 4 (.int .u64)))) (.pair (.sl (.arr 4 (.int .u64))) (.int .i64))))) (.pair (.pair (.pair (.int .i64) (.int .i64)) (.pair .str (.pair (.sl (.sl (.arr 4 (.int .u64)))) (.pair (.sl (.arr 4 (.int .u64))) (.int .i64))))) (.pair (.int .i64) (.int .i64))))))))))))))), 72⟩),
  (28, ⟨(TypeDesc.int IntKind.i64), (.int .i64), 8⟩),
  (36, ⟨(TypeDesc.pointer 124), (.ptr (.pair (.pair (.ptr (.pair (.arr 4 (.int .u64)) (.pair (.int .u64) (.pair (.arr 4 (.int .u64)) (.arr 4 (.int .u64)))))) (.ptr (.pair (.arr 4 (.int .u64)) (.pair (.int .u64) (.pair (.arr 4 (.int .u64)) (.arr 4 (.int .u64))))))) (.arr 4 (.int .u64)))), 8⟩),
  (39, ⟨(TypeDesc.slice 116), (.sl (.pair (.arr 4 (.int .u64)) (.int .i64))), 24⟩),
  (40, ⟨(TypeDesc.int IntKind.u64), (.int .u64), 8⟩),
  (42, ⟨(TypeDesc.array 4 40), (.arr 4 (.int .u64)), 32⟩),
  (44, ⟨(TypeDesc.struct #[{ name := "Chain", type := 39, offset := 0, embedded := false, tag := "", pkgPath := "", byteOffset := 0 }, { name := "G", type := 42, offset := 1, embedded := false, tag := "", pkgPath := "", byteOffset := 24 }]), (.pair (.sl (.pair (.arr 4 (.int .u64)) (.int .i64))) (.arr 4 (.int .u64))), 56⟩),
  (46, ⟨(TypeDesc.pointer 59), (.ptr (.pair (.ptr (.pair (.pair (.ptr (.pair (.arr 4 (.int .u64)) (.pair (.int .u64) (.pair (.arr 4 (.int .u64)) (.arr 4 (.int .u64)))))) (.ptr (.pair (.arr 4 (.int .u64)) (.pair (.int .u64) (.pair (.arr 4 (.int .u64)) (.arr 4 (.int .u64))))))) (.arr 4 (.int .u64)))) (.pair (.int .i64) (.pair (.int .i64) (.pair (.int .i64) (.pair (.int .i64) (.pair (.ptr (.pair (.int .i64) (.pair (.int .i64) (.pair (.sl .str) .mp)))) (.pair .mp (.sl (.pair (.int .i64) (.pair (.int .i64) (.pair (.int .i64) (.pair .str (.pair (.pair (.int .i64) (.int .i64)) (.pair .str (.pair (.sl (.sl (.arr 4 (.int .u64)))) (.sl (.arr 4 (.int .u64))))))))))))))))))), 8⟩),
  (55, ⟨(TypeDesc.pointer 192), (.ptr (.pair (.int .i64) (.pair (.int .i64) (.pair (.sl .str) .mp)))), 8⟩),
  (56, ⟨(TypeDesc.map 9 129), .mp, 8⟩),
  (57, ⟨(TypeDesc.slice 323), (.sl (.pair (.int .i64) (.pair (.int .i64) (.pair (.int .i64) (.pair .str (.pair (.pair (.int .i64) (.int .i64)) (.pair .str (.pair (.sl (.sl (.arr 4 (.int .u64)))) (.sl (.arr 4 (.int .u64))))))))))), 24⟩),
  (59, ⟨(TypeDesc.struct #[{ name := "g", type := 36, offset := 0, embedded := false, tag := "", pkgPath := "sacristy/server", byteOffset := 0 }, { name := "t", type := 3, offset := 1, embedded := false, tag := "", pkgPath := "sacristy/server", byteOffset := 8 }, { name := "number", type := 3, offset := 2, embedded := false, tag := "", pkgPath := "sacristy/server", byteOffset := 16 }, { name := "n", type := 3, offset := 3, embedded := false, tag := "", pkgPath := "sacristy/server", byteOffset := 24 }, { name := "m", type := 3, offset := 4, embedded := false, tag := "", pkgPath := "sacristy/server", byteOffset := 32 }, { name := "space", type := 55, offset := 5, embedded := false, tag := "", pkgPath := "sacristy/server", byteOffset := 40 }, { name := "records", type := 56, offset := 6, embedded := false, tag := "", pkgPath := "sacristy/server", byteOffset := 48 }, { name := "out", type := 57, offset := 7, embedded := false, tag := "", pkgPath := "sacristy/server", byteOffset := 56 }]), (.pair (.ptr (.pair (.pair (.ptr (.pair (.arr 4 (.int .u64)) (.pair (.int .u64) (.pair (.arr 4 (.int .u64)) (.arr 4 (.int .u64)))))) (.ptr (.pair (.arr 4 (.int .u64)) (.pair (.int .u64) (.pair (.arr 4 (.int .u64)) (.arr 4 (.int .u64))))))) (.arr 4 (.int .u64)))) (.pair (.int .i64) (.pair (.int .i64) (.pair (.int .i64) (.pair (.int .i64) (.pair (.ptr (.pair (.int .i64) (.pair (.int .i64) (.pair (.sl .str) .mp)))) (.pair .mp (.sl (.pair (.int .i64) (.pair (.int .i64) (.pair (.int .i64) (.pair .str (.pair (.pair (.int .i64) (.int .i64)) (.pair .str (.pair (.sl (.sl (.arr 4 (.int .u64)))) (.sl (.arr 4 (.int .u64)))))))))))))))))), 80⟩),
  (60, ⟨(TypeDesc.slice 46), (.sl (.ptr (.pair (.ptr (.pair (.pair (.ptr (.pair (.arr 4 (.int .u64)) (.pair (.int .u64) (.pair (.arr 4 (.int .u64)) (.arr 4 (.int .u64)))))) (.ptr (.pair (.arr 4 (.int .u64)) (.pair (.int .u64) (.pair (.arr 4 (.int .u64)) (.arr 4 (.int .u64))))))) (.arr 4 (.int .u64)))) (.pair (.int .i64) (.pair (.int .i64) (.pair (.int .i64) (.pair (.int .i64) (.pair (.ptr (.pair (.int .i64) (.pair (.int .i64) (.pair (.sl .str) .mp)))) (.pair .mp (.sl (.pair (.int .i64) (.pair (.int .i64) (.pair (.int .i64) (.pair .str (.pair (.pair (.int .i64) (.int .i64)) (.pair .str (.pair (.sl (.sl (.arr 4 (.int .u64)))) (.sl (.arr 4 (.int .u64)))))))))))))))))))), 24⟩),
  (62, ⟨(TypeDesc.struct #[{ name := "Seq", type := 3, offset := 0, embedded := false, tag := "", pkgPath := "", byteOffset := 0 }, { name := "Client", type := 3, offset := 1, embedded := false, tag := "", pkgPath := "", byteOffset := 8 }]), (.pair (.int .i64) (.int .i64)), 16⟩),
  (64, ⟨(TypeDesc.slice 65), (.sl (.sl (.arr 4 (.int .u64)))), 24⟩),
  (65, ⟨(TypeDesc.slice 42), (.sl (.arr 4 (.int .u64))), 24⟩),
  (67, ⟨(TypeDesc.struct #[{ name := "Stamp", type := 62, offset := 0, embedded := false, tag := "", pkgPath := "", byteOffset := 0 }, { name := "Digest", type := 9, offset := 2, embedded := false, tag := "", pkgPath := "", byteOffset := 16 }, { name := "Matrix", type := 64, offset := 3, embedded := false, tag := "", pkgPath := "", byteOffset := 32 }, { name := "Ys", type := 65, offset := 4, embedded := false, tag := "", pkgPath := "", byteOffset := 56 }, { name := "Op", type := 3, offset := 5, embedded := false, tag := "", pkgPath := "", byteOffset := 80 }]), (.pair (.pair (.int .i64) (.int .i64)) (.pair .str (.pair (.sl (.sl (.arr 4 (.int .u64)))) (.pair (.sl (.arr 4 (.int .u64))) (.int .i64))))), 88⟩),
  (68, ⟨(TypeDesc.slice 74), (.sl (.pair (.int .i64) (.pair (.pair (.int .i64) (.int .i64)) .str))), 24⟩),
  (69, ⟨(TypeDesc.slice 76), (.sl (.pair (.pair (.pair (.int .i64) (.int .i64)) (.pair .str (.pair (.sl (.sl (.arr 4 (.int .u64)))) (.pair (.sl (.arr 4 (.int .u64))) (.int .i64))))) (.pair (.pair (.pair (.int .i64) (.int .i64)) (.pair .str (.pair (.sl (.sl (.arr 4 (.int .u64)))) (.pair (.sl (.arr 4 (.int .u64))) (.int .i64))))) (.pair (.pair (.pair (.int .i64) (.int .i64)) (.pair .str (.pair (.sl (.sl (.arr 4 (.int .u64)))) (.pair (.sl (.arr 4 (.int .u64))) (.int .i64))))) (.pair (.int .i64) (.int .i64)))))), 24⟩),
  (71, ⟨(TypeDesc.struct #[{ name := "Key", type := 9, offset := 0, embedded := false, tag := "", pkgPath := "", byteOffset := 0 }, { name := "Held", type := 67, offset := 1, embedded := false, tag := "", pkgPath := "", byteOffset := 16 }, { name := "Echoes", type := 68, offset := 7, embedded := false, tag := "", pkgPath := "", byteOffset := 104 }, { name := "Readies", type := 68, offset := 8, embedded := false, tag := "", pkgPath := "", byteOffset := 128 }, { name := "Clients", type := 69, offset := 9, embedded := false, tag := "", pkgPath := "", byteOffset := 152 }]), (.pair .str (.pair (.pair (.pair (.int .i64) (.int .i64)) (.pair .str (.pair (.sl (.sl (.arr 4 (.int .u64)))) (.pair (.sl (.arr 4 (.int .u64))) (.int .i64))))) (.pair (.sl (.pair (.int .i64) (.pair (.pair (.int .i64) (.int .i64)) .str))) (.pair (.sl (.pair (.int .i64) (.pair (.pair (.int .i64) (.int .i64)) .str))) (.sl (.pair (.pair (.pair (.int .i64) (.int .i64)) (.pair .str (.pair (.sl (.sl (.arr 4 (.int .u64)))) (.pair (.sl (.arr 4 (.int .u64))) (.int .i64))))) (.pair (.pair (.pair (.int .i64) (.int .i64)) (.pair .str (.pair (.sl (.sl (.arr 4 (.int .u64)))) (.pair (.sl (.arr 4 (.int .u64))) (.int .i64))))) (.pair (.pair (.pair (.int .i64) (.int .i64)) (.pair .str (.pair (.sl (.sl (.arr 4 (.int .u64)))) (.pair (.sl (.arr 4 (.int .u64))) (.int .i64))))) (.pair (.int .i64) (.int .i64)))))))))), 176⟩),
  (74, ⟨(TypeDesc.struct #[{ name := "Server", type := 3, offset := 0, embedded := false, tag := "", pkgPath := "", byteOffset := 0 }, { name := "Stamp", type := 62, offset := 1, embedded := false, tag := "", pkgPath := "", byteOffset := 8 }, { name := "Digest", type := 9, offset := 3, embedded := false, tag := "", pkgPath := "", byteOffset := 24 }]), (.pair (.int .i64) (.pair (.pair (.int .i64) (.int .i64)) .str)), 40⟩),
  (76, ⟨(TypeDesc.struct #[{ name := "Even", type := 67, offset := 0, embedded := false, tag := "", pkgPath := "", byteOffset := 0 }, { name := "Odd", type := 67, offset := 6, embedded := false, tag := "", pkgPath := "", byteOffset := 88 }, { name := "Waits", type := 67, offset := 12, embedded := false, tag := "", pkgPath := "", byteOffset := 176 }, { name := "Op", type := 3, offset := 18, embedded := false, tag := "", pkgPath := "", byteOffset := 264 }, { name := "Left", type := 3, offset := 19, embedded := false, tag := "", pkgPath := "", byteOffset := 272 }]), (.pair (.pair (.pair (.int .i64) (.int .i64)) (.pair .str (.pair (.sl (.sl (.arr 4 (.int .u64)))) (.pair (.sl (.arr 4 (.int .u64))) (.int .i64))))) (.pair (.pair (.pair (.int .i64) (.int .i64)) (.pair .str (.pair (.sl (.sl (.arr 4 (.int .u64)))) (.pair (.sl (.arr 4 (.int .u64))) (.int .i64))))) (.pair (.pair (.pair (.int .i64) (.int .i64)) (.pair .str (.pair (.sl (.sl (.arr 4 (.int .u64)))) (.pair (.sl (.arr 4 (.int .u64))) (.int .i64))))) (.pair (.int .i64) (.int .i64))))), 280⟩),
  (78, ⟨(TypeDesc.slice 5), (.sl (.int .u8)), 24⟩),
  (80, ⟨(TypeDesc.pointer 82), (.sp 82), 8⟩),
  (82, ⟨(TypeDesc.struct #[{ name := "addr", type := 80, offset := 0, embedded := false, tag := "", pkgPath := "strings", byteOffset := 0 }, { name := "buf", type := 78, offset := 1, embedded := false, tag := "", pkgPath := "strings", byteOffset := 8 }]), (.pair (.sp 82) (.sl (.int .u8))), 32⟩),
  (84, ⟨(TypeDesc.struct #[{ name := "Builder", type := 82, offset := 0, embedded := true, tag := "", pkgPath := "", byteOffset := 0 }, { name := "bad", type := 4, offset := 2, embedded := false, tag := "", pkgPath := "sacristy/keep", byteOffset := 32 }]), (.pair (.pair (.sp 82) (.sl (.int .u8))) .bool), 40⟩),
  (94, ⟨(TypeDesc.pointer 96), (.ptr (.pair .str .bool)), 8⟩),
  (96, ⟨(TypeDesc.struct #[{ name := "rest", type := 9, offset := 0, embedded := false, tag := "", pkgPath := "sacristy/keep", byteOffset := 0 }, { name := "bad", type := 4, offset := 1, embedded := false, tag := "", pkgPath := "sacristy/keep", byteOffset := 16 }]), (.pair .str .bool), 24⟩),
  (108, ⟨(TypeDesc.array 8 3), (.arr 8 (.int .i64)), 64⟩),
  (112, ⟨(TypeDesc.pointer 183), (.ptr (.pair (.arr 4 (.int .u64)) (.pair (.int .u64) (.pair (.arr 4 (.int .u64)) (.arr 4 (.int .u64)))))), 8⟩),
  (116, ⟨(TypeDesc.struct #[{ name := "N", type := 42, offset := 0, embedded := false, tag := "", pkgPath := "", byteOffset := 0 }, { name := "A", type := 3, offset := 4, embedded := false, tag := "", pkgPath := "", byteOffset := 32 }]), (.pair (.arr 4 (.int .u64)) (.int .i64)), 40⟩),
  (122, ⟨(TypeDesc.struct #[{ name := "ring", type := 112, offset := 0, embedded := false, tag := "", pkgPath := "sacristy/group", byteOffset := 0 }, { name := "field", type := 112, offset := 1, embedded := false, tag := "", pkgPath := "sacristy/group", byteOffset := 8 }]), (.pair (.ptr (.pair (.arr 4 (.int .u64)) (.pair (.int .u64) (.pair (.arr 4 (.int .u64)) (.arr 4 (.int .u64)))))) (.ptr (.pair (.arr 4 (.int .u64)) (.pair (.int .u64) (.pair (.arr 4 (.int .u64)) (.arr 4 (.int .u64))))))), 16⟩),
  (124, ⟨(TypeDesc.struct #[{ name := "rings", type := 122, offset := 0, embedded := true, tag := "", pkgPath := "sacristy/group", byteOffset := 0 }, { name := "g", type := 42, offset := 2, embedded := false, tag := "", pkgPath := "sacristy/group", byteOffset := 16 }]), (.pair (.pair (.ptr (.pair (.arr 4 (.int .u64)) (.pair (.int .u64) (.pair (.arr 4 (.int .u64)) (.arr 4 (.int .u64)))))) (.ptr (.pair (.arr 4 (.int .u64)) (.pair (.int .u64) (.pair (.arr 4 (.int .u64)) (.arr 4 (.int .u64))))))) (.arr 4 (.int .u64))), 48⟩),
  (126, ⟨(TypeDesc.slice 9), (.sl .str), 24⟩),
  (129, ⟨(TypeDesc.pointer 154), (.ptr (.pair (.pair (.pair (.int .i64) (.int .i64)) (.pair .str (.pair (.sl (.sl (.arr 4 (.int .u64)))) (.sl (.arr 4 (.int .u64)))))) (.pair .str (.pair (.ptr (.pair (.int .i64) (.arr 7 (.arr 4 (.arr 2 (.pair (.pair (.int .i64) (.int .i64)) .str)))))) (.pair (.ptr (.pair (.int .i64) (.arr 7 (.arr 4 (.arr 2 (.pair (.pair (.int .i64) (.int .i64)) .str)))))) (.arr 4 (.pair (.arr 2 (.pair (.pair (.pair (.int .i64) (.int .i64)) (.pair .str (.pair (.sl (.sl (.arr 4 (.int .u64)))) (.sl (.arr 4 (.int .u64)))))) (.int .i64))) (.pair (.pair (.pair (.pair (.int .i64) (.int .i64)) (.pair .str (.pair (.sl (.sl (.arr 4 (.int .u64)))) (.sl (.arr 4 (.int .u64)))))) (.int .i64)) (.pair (.int .i64) (.int .i64)))))))))), 8⟩),
  (163, ⟨(TypeDesc.pointer 5), (.ptr (.int .u8)), 8⟩),
  (167, ⟨(TypeDesc.int IntKind.u64), (.int .u64), 8⟩),
  (172, ⟨(TypeDesc.pointer 230), (.ptr (.pair .bool (.pair (.arr 8 (.int .u32)) (.pair (.arr 64 (.int .u8)) (.int .i64))))), 8⟩),
  (176, ⟨(TypeDesc.array 64 3), (.arr 64 (.int .i64)), 512⟩),
  (183, ⟨(TypeDesc.struct #[{ name := "m", type := 42, offset := 0, embedded := false, tag := "", pkgPath := "sacristy/mont", byteOffset := 0 }, { name := "inv", type := 40, offset := 4, embedded := false, tag := "", pkgPath := "sacristy/mont", byteOffset := 32 }, { name := "one", type := 42, offset := 5, embedded := false, tag := "", pkgPath := "sacristy/mont", byteOffset := 40 }, { name := "square", type := 42, offset := 9, embedded := false, tag := "", pkgPath := "sacristy/mont", byteOffset := 72 }]), (.pair (.arr 4 (.int .u64)) (.pair (.int .u64) (.pair (.arr 4 (.int .u64)) (.arr 4 (.int .u64))))), 104⟩),
  (190, ⟨(TypeDesc.map 3 3), .mp, 8⟩),
  (192, ⟨(TypeDesc.struct #[{ name := "servers", type := 3, offset := 0, embedded := false, tag := "", pkgPath := "sacristy/space", byteOffset := 0 }, { name := "clients", type := 3, offset := 1, embedded := false, tag := "", pkgPath := "sacristy/space", byteOffset := 8 }, { name := "keys", type := 126, offset := 2, embedded := false, tag := "", pkgPath := "sacristy/space", byteOffset := 16 }, { name := "used", type := 190, offset := 3, embedded := false, tag := "", pkgPath := "sacristy/space", byteOffset := 40 }]), (.pair (.int .i64) (.pair (.int .i64) (.pair (.sl .str) .mp))), 48⟩),
  (225, ⟨(TypeDesc.int IntKind.u32), (.int .u32), 4⟩),
  (226, ⟨(TypeDesc.array 8 225), (.arr 8 (.int .u32)), 32⟩),
  (228, ⟨(TypeDesc.array 64 5), (.arr 64 (.int .u8)), 64⟩),
  (230, ⟨(TypeDesc.struct #[{ name := "given", type := 4, offset := 0, embedded := false, tag := "", pkgPath := "sacristy/sha", byteOffset := 0 }, { name := "words", type := 226, offset := 1, embedded := false, tag := "", pkgPath := "sacristy/sha", byteOffset := 4 }, { name := "rest", type := 228, offset := 9, embedded := false, tag := "", pkgPath := "sacristy/sha", byteOffset := 36 }, { name := "n", type := 3, offset := 73, embedded := false, tag := "", pkgPath := "sacristy/sha", byteOffset := 104 }]), (.pair .bool (.pair (.arr 8 (.int .u32)) (.pair (.arr 64 (.int .u8)) (.int .i64)))), 112⟩),
  (232, ⟨(TypeDesc.array 8 5), (.arr 8 (.int .u8)), 8⟩),
  (240, ⟨(TypeDesc.slice 241), (.sl (.arr 16 (.arr 4 (.int .u64)))), 24⟩),
  (241, ⟨(TypeDesc.array 16 42), (.arr 16 (.arr 4 (.int .u64))), 512⟩),
  (262, ⟨(TypeDesc.array 64 225), (.arr 64 (.int .u32)), 256⟩),
  (266, ⟨(TypeDesc.slice 225), (.sl (.int .u32)), 24⟩),
  (270, ⟨(TypeDesc.array 8 40), (.arr 8 (.int .u64)), 64⟩),
  (273, ⟨(TypeDesc.slice 40), (.sl (.int .u64)), 24⟩),
  (276, ⟨(TypeDesc.array 6 40), (.arr 6 (.int .u64)), 48⟩),
  (321, ⟨(TypeDesc.struct #[{ name := "Kind", type := 3, offset := 0, embedded := false, tag := "", pkgPath := "", byteOffset := 0 }, { name := "Op", type := 3, offset := 1, embedded := false, tag := "", pkgPath := "", byteOffset := 8 }, { name := "Key", type := 9, offset := 2, embedded := false, tag := "", pkgPath := "", byteOffset := 16 }, { name := "Stamp", type := 62, offset := 3, embedded := false, tag := "", pkgPath := "", byteOffset := 32 }, { name := "Digest", type := 9, offset := 5, embedded := false, tag := "", pkgPath := "", byteOffset := 48 }, { name := "Matrix", type := 64, offset := 6, embedded := false, tag := "", pkgPath := "", byteOffset := 64 }, { name := "Ys", type := 65, offset := 7, embedded := false, tag := "", pkgPath := "", byteOffset := 88 }]), (.pair (.int .i64) (.pair (.int .i64) (.pair .str (.pair (.pair (.int .i64) (.int .i64)) (.pair .str (.pair (.sl (.sl (.arr 4 (.int .u64)))) (.sl (.arr 4 (.int .u64))))))))), 112⟩),
  (323, ⟨(TypeDesc.struct #[{ name := "To", type := 3, offset := 0, embedded := false, tag := "", pkgPath := "", byteOffset := 0 }, { name := "M", type := 321, offset := 1, embedded := false, tag := "", pkgPath := "", byteOffset := 8 }]), (.pair (.int .i64) (.pair (.int .i64) (.pair (.int .i64) (.pair .str (.pair (.pair (.int .i64) (.int .i64)) (.pair .str (.pair (.sl (.sl (.arr 4 (.int .u64)))) (.sl (.arr 4 (.int .u64)))))))))), 120⟩)]
theorem ti3 : TI1 Tryz.prog ti (3, ⟨(TypeDesc.int IntKind.i64), (.int .i64), 8⟩) where
  under := Tryz.underlying3
  info := by kernel_rfl
  zero := by kernel_rfl
  shape := rfl
  head := by intro _ h; cases h
  eq := fun h => absurd h (by decide)
theorem ti4 : TI1 Tryz.prog ti (4, ⟨TypeDesc.bool, .bool, 1⟩) where
  under := Tryz.underlying4
  info := by kernel_rfl
  zero := by kernel_rfl
  shape := rfl
  head := by intro _ h; cases h
  eq := fun h => absurd h (by decide)
theorem ti5 : TI1 Tryz.prog ti (5, ⟨(TypeDesc.int IntKind.u8), (.int .u8), 1⟩) where
  under := Tryz.underlying5
  info := by kernel_rfl
  zero := by kernel_rfl
  shape := rfl
  head := by intro _ h; cases h
  eq := fun h => absurd h (by decide)
theorem ti9 : TI1 Tryz.prog ti (9, ⟨TypeDesc.string, .str, 16⟩) where
  under := Tryz.underlying9
  info := by kernel_rfl
  zero := by kernel_rfl
  shape := rfl
  head := by intro _ h; cases h
  eq := fun h => absurd h (by decide)
theorem ti22 : TI1 Tryz.prog ti (22, ⟨(TypeDesc.slice 3), (.sl (.int .i64)), 24⟩) where
  under := Tryz.underlying22
  info := by kernel_rfl
  zero := by kernel_rfl
  shape := ⟨_, rfl, rfl, by decide⟩
  head := by intro _ h; cases h
  eq := fun h => absurd h (by decide)
theorem ti23 : TI1 Tryz.prog ti (23, ⟨(TypeDesc.slice 71), (.sl (.pair .str (.pair (.pair (.pair (.int .i64) (.int .i64)) (.pair .str (.pair (.sl (.sl (.arr 4 (.int .u64)))) (.pair (.sl (.arr 4 (.int .u64))) (.int .i64))))) (.pair (.sl (.pair (.int .i64) (.pair (.pair (.int .i64) (.int .i64)) .str))) (.pair (.sl (.pair (.int .i64) (.pair (.pair (.int .i64) (.int .i64)) .str))) (.sl (.pair (.pair (.pair (.int .i64) (.int .i64)) (.pair .str (.pair (.sl (.sl (.arr 4 (.int .u64)))) (.pair (.sl (.arr 4 (.int .u64))) (.int .i64))))) (.pair (.pair (.pair (.int .i64) (.int .i64)) (.pair .str (.pair (.sl (.sl (.arr 4 (.int .u64)))) (.pair (.sl (.arr 4 (.int .u64))) (.int .i64))))) (.pair (.pair (.pair (.int .i64) (.int .i64)) (.pair .str (.pair (.sl (.sl (.arr 4 (.int .u64)))) (.pair (.sl (.arr 4 (.int .u64))) (.int .i64))))) (.pair (.int .i64) (.int .i64))))))))))), 24⟩) where
  under := Tryz.underlying23
  info := by kernel_rfl
  zero := by kernel_rfl
  shape := ⟨_, rfl, rfl, by decide⟩
  head := by intro _ h; cases h
  eq := fun h => absurd h (by decide)
theorem ti25 : TI1 Tryz.prog ti (25, ⟨(TypeDesc.struct #[{ name := "T", type := 3, offset := 0, embedded := false, tag := "", pkgPath := "", byteOffset := 0 }, { name := "Number", type := 3, offset := 1, embedded := false, tag := "", pkgPath := "", byteOffset := 8 }, { name := "Clients", type := 3, offset := 2, embedded := false, tag := "", pkgPath := "", byteOffset := 16 }, { name := "Used", type := 22, offset := 3, embedded := false, tag := "", pkgPath := "", byteOffset := 24 }, { name := "Records", type := 23, offset := 4, embedded := false, tag := "", pkgPath := "", byteOffset := 48 }]), (.pair (.int .i64) (.pair (.int .i64) (.pair (.int .i64) (.pair (.sl (.int .i64)) (.sl (.pair .str (.pair (.pair (.pair (.int .i64) (.int .i64)) (.pair .str (.pair (.sl (.sl (.arr 4 (.int .u64)))) (.pair (.sl (.arr 4 (.int .u64))) (.int .i64))))) (.pair (.sl (.pair (.int .i64) (.pair (.pair (.int .i64) (.int .i64)) .str))) (.pair (.sl (.pair (.int .i64) (.pair (.pair (.int .i64) (.int .i64)) .str))) (.sl (.pair (.pair (.pair (.int .i64) (.int .i64)) (.pair .str (.pair (.sl (.sl (.arr 4 (.int .u64)))) (.pair (.sl (.arr 4 (.int .u64))) (.int .i64))))) (.pair (.pair (.pair (.int .i64) (.int .i64)) (.pair .str (.pair (.sl (.sl (.arr 4 (.int .u64)))) (.pair (.sl (.arr 4 (.int .u64))) (.int .i64))))) (.pair (.pair (.pair (.int .i64) (.int .i64)) (.pair .str (.pair (.sl (.sl (.arr 4 (.int .u64)))) (.pair (.sl (.arr 4 (.int .u64))) (.int .i64))))) (.pair (.int .i64) (.int .i64))))))))))))))), 72⟩) where
  under := Tryz.underlying25
  info := by kernel_rfl
  zero := by kernel_rfl
  shape := ⟨rfl, ⟨rfl, by decide, ⟨_, rfl, rfl, by decide⟩, ⟨rfl, by decide, ⟨_, rfl, rfl, by decide⟩, ⟨rfl, by decide, ⟨_, rfl, rfl, by decide⟩, ⟨rfl, by decide, ⟨_, rfl, rfl, by decide⟩, ⟨rfl, by decide, _, rfl, rfl, by decide⟩⟩⟩⟩⟩⟩
  head := by intro _ h; cases h
  eq := fun _ h => absurd h (by decide)
theorem ti28 : TI1 Tryz.prog ti (28, ⟨(TypeDesc.int IntKind.i64), (.int .i64), 8⟩) where
  under := Tryz.underlying28
  info := by kernel_rfl
  zero := by kernel_rfl
  shape := rfl
  head := by intro _ h; cases h
  eq := fun h => absurd h (by decide)
theorem ti36 : TI1 Tryz.prog ti (36, ⟨(TypeDesc.pointer 124), (.ptr (.pair (.pair (.ptr (.pair (.arr 4 (.int .u64)) (.pair (.int .u64) (.pair (.arr 4 (.int .u64)) (.arr 4 (.int .u64)))))) (.ptr (.pair (.arr 4 (.int .u64)) (.pair (.int .u64) (.pair (.arr 4 (.int .u64)) (.arr 4 (.int .u64))))))) (.arr 4 (.int .u64)))), 8⟩) where
  under := Tryz.underlying36
  info := by kernel_rfl
  zero := by kernel_rfl
  shape := .inl ⟨_, rfl⟩
  head := by intro _ h; cases h
  eq := fun h => absurd h (by decide)
theorem ti39 : TI1 Tryz.prog ti (39, ⟨(TypeDesc.slice 116), (.sl (.pair (.arr 4 (.int .u64)) (.int .i64))), 24⟩) where
  under := Tryz.underlying39
  info := by kernel_rfl
  zero := by kernel_rfl
  shape := ⟨_, rfl, rfl, by decide⟩
  head := by intro _ h; cases h
  eq := fun h => absurd h (by decide)
theorem ti40 : TI1 Tryz.prog ti (40, ⟨(TypeDesc.int IntKind.u64), (.int .u64), 8⟩) where
  under := Tryz.underlying40
  info := by kernel_rfl
  zero := by kernel_rfl
  shape := rfl
  head := by intro _ h; cases h
  eq := fun h => absurd h (by decide)
theorem ti42 : TI1 Tryz.prog ti (42, ⟨(TypeDesc.array 4 40), (.arr 4 (.int .u64)), 32⟩) where
  under := Tryz.underlying42
  info := by kernel_rfl
  zero := by kernel_rfl
  shape := ⟨_, rfl, rfl, by decide, by decide⟩
  head := by intro _ h; cases h
  eq := fun _ _ => ⟨by kernel_rfl, by kernel_rfl, (by intro fs h; cases h <;> decide), by decide⟩
theorem ti44 : TI1 Tryz.prog ti (44, ⟨(TypeDesc.struct #[{ name := "Chain", type := 39, offset := 0, embedded := false, tag := "", pkgPath := "", byteOffset := 0 }, { name := "G", type := 42, offset := 1, embedded := false, tag := "", pkgPath := "", byteOffset := 24 }]), (.pair (.sl (.pair (.arr 4 (.int .u64)) (.int .i64))) (.arr 4 (.int .u64))), 56⟩) where
  under := Tryz.underlying44
  info := by kernel_rfl
  zero := by kernel_rfl
  shape := ⟨rfl, ⟨rfl, by decide, ⟨_, rfl, rfl, by decide⟩, ⟨rfl, by decide, _, rfl, rfl, by decide⟩⟩⟩
  head := by intro _ h; cases h
  eq := fun _ h => absurd h (by decide)
theorem ti46 : TI1 Tryz.prog ti (46, ⟨(TypeDesc.pointer 59), (.ptr (.pair (.ptr (.pair (.pair (.ptr (.pair (.arr 4 (.int .u64)) (.pair (.int .u64) (.pair (.arr 4 (.int .u64)) (.arr 4 (.int .u64)))))) (.ptr (.pair (.arr 4 (.int .u64)) (.pair (.int .u64) (.pair (.arr 4 (.int .u64)) (.arr 4 (.int .u64))))))) (.arr 4 (.int .u64)))) (.pair (.int .i64) (.pair (.int .i64) (.pair (.int .i64) (.pair (.int .i64) (.pair (.ptr (.pair (.int .i64) (.pair (.int .i64) (.pair (.sl .str) .mp)))) (.pair .mp (.sl (.pair (.int .i64) (.pair (.int .i64) (.pair (.int .i64) (.pair .str (.pair (.pair (.int .i64) (.int .i64)) (.pair .str (.pair (.sl (.sl (.arr 4 (.int .u64)))) (.sl (.arr 4 (.int .u64))))))))))))))))))), 8⟩) where
  under := Tryz.underlying46
  info := by kernel_rfl
  zero := by kernel_rfl
  shape := .inl ⟨_, rfl⟩
  head := by intro _ h; cases h
  eq := fun h => absurd h (by decide)
theorem ti55 : TI1 Tryz.prog ti (55, ⟨(TypeDesc.pointer 192), (.ptr (.pair (.int .i64) (.pair (.int .i64) (.pair (.sl .str) .mp)))), 8⟩) where
  under := Tryz.underlying55
  info := by kernel_rfl
  zero := by kernel_rfl
  shape := .inl ⟨_, rfl⟩
  head := by intro _ h; cases h
  eq := fun h => absurd h (by decide)
theorem ti56 : TI1 Tryz.prog ti (56, ⟨(TypeDesc.map 9 129), .mp, 8⟩) where
  under := Tryz.underlying56
  info := by kernel_rfl
  zero := by kernel_rfl
  shape := rfl
  head := by intro _ h; cases h
  eq := fun h => absurd h (by decide)
theorem ti57 : TI1 Tryz.prog ti (57, ⟨(TypeDesc.slice 323), (.sl (.pair (.int .i64) (.pair (.int .i64) (.pair (.int .i64) (.pair .str (.pair (.pair (.int .i64) (.int .i64)) (.pair .str (.pair (.sl (.sl (.arr 4 (.int .u64)))) (.sl (.arr 4 (.int .u64))))))))))), 24⟩) where
  under := Tryz.underlying57
  info := by kernel_rfl
  zero := by kernel_rfl
  shape := ⟨_, rfl, rfl, by decide⟩
  head := by intro _ h; cases h
  eq := fun h => absurd h (by decide)
theorem ti59 : TI1 Tryz.prog ti (59, ⟨(TypeDesc.struct #[{ name := "g", type := 36, offset := 0, embedded := false, tag := "", pkgPath := "sacristy/server", byteOffset := 0 }, { name := "t", type := 3, offset := 1, embedded := false, tag := "", pkgPath := "sacristy/server", byteOffset := 8 }, { name := "number", type := 3, offset := 2, embedded := false, tag := "", pkgPath := "sacristy/server", byteOffset := 16 }, { name := "n", type := 3, offset := 3, embedded := false, tag := "", pkgPath := "sacristy/server", byteOffset := 24 }, { name := "m", type := 3, offset := 4, embedded := false, tag := "", pkgPath := "sacristy/server", byteOffset := 32 }, { name := "space", type := 55, offset := 5, embedded := false, tag := "", pkgPath := "sacristy/server", byteOffset := 40 }, { name := "records", type := 56, offset := 6, embedded := false, tag := "", pkgPath := "sacristy/server", byteOffset := 48 }, { name := "out", type := 57, offset := 7, embedded := false, tag := "", pkgPath := "sacristy/server", byteOffset := 56 }]), (.pair (.ptr (.pair (.pair (.ptr (.pair (.arr 4 (.int .u64)) (.pair (.int .u64) (.pair (.arr 4 (.int .u64)) (.arr 4 (.int .u64)))))) (.ptr (.pair (.arr 4 (.int .u64)) (.pair (.int .u64) (.pair (.arr 4 (.int .u64)) (.arr 4 (.int .u64))))))) (.arr 4 (.int .u64)))) (.pair (.int .i64) (.pair (.int .i64) (.pair (.int .i64) (.pair (.int .i64) (.pair (.ptr (.pair (.int .i64) (.pair (.int .i64) (.pair (.sl .str) .mp)))) (.pair .mp (.sl (.pair (.int .i64) (.pair (.int .i64) (.pair (.int .i64) (.pair .str (.pair (.pair (.int .i64) (.int .i64)) (.pair .str (.pair (.sl (.sl (.arr 4 (.int .u64)))) (.sl (.arr 4 (.int .u64)))))))))))))))))), 80⟩) where
  under := Tryz.underlying59
  info := by kernel_rfl
  zero := by kernel_rfl
  shape := ⟨rfl, ⟨rfl, by decide, ⟨_, rfl, rfl, by decide⟩, ⟨rfl, by decide, ⟨_, rfl, rfl, by decide⟩, ⟨rfl, by decide, ⟨_, rfl, rfl, by decide⟩, ⟨rfl, by decide, ⟨_, rfl, rfl, by decide⟩, ⟨rfl, by decide, ⟨_, rfl, rfl, by decide⟩, ⟨rfl, by decide, ⟨_, rfl, rfl, by decide⟩, ⟨rfl, by decide, ⟨_, rfl, rfl, by decide⟩, ⟨rfl, by decide, _, rfl, rfl, by decide⟩⟩⟩⟩⟩⟩⟩⟩⟩
  head := by intro _ h; cases h
  eq := fun _ h => absurd h (by decide)
theorem ti60 : TI1 Tryz.prog ti (60, ⟨(TypeDesc.slice 46), (.sl (.ptr (.pair (.ptr (.pair (.pair (.ptr (.pair (.arr 4 (.int .u64)) (.pair (.int .u64) (.pair (.arr 4 (.int .u64)) (.arr 4 (.int .u64)))))) (.ptr (.pair (.arr 4 (.int .u64)) (.pair (.int .u64) (.pair (.arr 4 (.int .u64)) (.arr 4 (.int .u64))))))) (.arr 4 (.int .u64)))) (.pair (.int .i64) (.pair (.int .i64) (.pair (.int .i64) (.pair (.int .i64) (.pair (.ptr (.pair (.int .i64) (.pair (.int .i64) (.pair (.sl .str) .mp)))) (.pair .mp (.sl (.pair (.int .i64) (.pair (.int .i64) (.pair (.int .i64) (.pair .str (.pair (.pair (.int .i64) (.int .i64)) (.pair .str (.pair (.sl (.sl (.arr 4 (.int .u64)))) (.sl (.arr 4 (.int .u64)))))))))))))))))))), 24⟩) where
  under := Tryz.underlying60
  info := by kernel_rfl
  zero := by kernel_rfl
  shape := ⟨_, rfl, rfl, by decide⟩
  head := by intro _ h; cases h
  eq := fun h => absurd h (by decide)
theorem ti62 : TI1 Tryz.prog ti (62, ⟨(TypeDesc.struct #[{ name := "Seq", type := 3, offset := 0, embedded := false, tag := "", pkgPath := "", byteOffset := 0 }, { name := "Client", type := 3, offset := 1, embedded := false, tag := "", pkgPath := "", byteOffset := 8 }]), (.pair (.int .i64) (.int .i64)), 16⟩) where
  under := Tryz.underlying62
  info := by kernel_rfl
  zero := by kernel_rfl
  shape := ⟨rfl, ⟨rfl, by decide, ⟨_, rfl, rfl, by decide⟩, ⟨rfl, by decide, _, rfl, rfl, by decide⟩⟩⟩
  head := by intro _ h; cases h
  eq := fun _ _ => ⟨by kernel_rfl, by kernel_rfl, (by intro fs h; cases h <;> decide), by decide⟩
theorem ti64 : TI1 Tryz.prog ti (64, ⟨(TypeDesc.slice 65), (.sl (.sl (.arr 4 (.int .u64)))), 24⟩) where
  under := Tryz.underlying64
  info := by kernel_rfl
  zero := by kernel_rfl
  shape := ⟨_, rfl, rfl, by decide⟩
  head := by intro _ h; cases h
  eq := fun h => absurd h (by decide)
theorem ti65 : TI1 Tryz.prog ti (65, ⟨(TypeDesc.slice 42), (.sl (.arr 4 (.int .u64))), 24⟩) where
  under := Tryz.underlying65
  info := by kernel_rfl
  zero := by kernel_rfl
  shape := ⟨_, rfl, rfl, by decide⟩
  head := by intro _ h; cases h
  eq := fun h => absurd h (by decide)
theorem ti67 : TI1 Tryz.prog ti (67, ⟨(TypeDesc.struct #[{ name := "Stamp", type := 62, offset := 0, embedded := false, tag := "", pkgPath := "", byteOffset := 0 }, { name := "Digest", type := 9, offset := 2, embedded := false, tag := "", pkgPath := "", byteOffset := 16 }, { name := "Matrix", type := 64, offset := 3, embedded := false, tag := "", pkgPath := "", byteOffset := 32 }, { name := "Ys", type := 65, offset := 4, embedded := false, tag := "", pkgPath := "", byteOffset := 56 }, { name := "Op", type := 3, offset := 5, embedded := false, tag := "", pkgPath := "", byteOffset := 80 }]), (.pair (.pair (.int .i64) (.int .i64)) (.pair .str (.pair (.sl (.sl (.arr 4 (.int .u64)))) (.pair (.sl (.arr 4 (.int .u64))) (.int .i64))))), 88⟩) where
  under := Tryz.underlying67
  info := by kernel_rfl
  zero := by kernel_rfl
  shape := ⟨rfl, ⟨rfl, by decide, ⟨_, rfl, rfl, by decide⟩, ⟨rfl, by decide, ⟨_, rfl, rfl, by decide⟩, ⟨rfl, by decide, ⟨_, rfl, rfl, by decide⟩, ⟨rfl, by decide, ⟨_, rfl, rfl, by decide⟩, ⟨rfl, by decide, _, rfl, rfl, by decide⟩⟩⟩⟩⟩⟩
  head := by intro _ h; cases h
  eq := fun _ h => absurd h (by decide)
theorem ti68 : TI1 Tryz.prog ti (68, ⟨(TypeDesc.slice 74), (.sl (.pair (.int .i64) (.pair (.pair (.int .i64) (.int .i64)) .str))), 24⟩) where
  under := Tryz.underlying68
  info := by kernel_rfl
  zero := by kernel_rfl
  shape := ⟨_, rfl, rfl, by decide⟩
  head := by intro _ h; cases h
  eq := fun h => absurd h (by decide)
theorem ti69 : TI1 Tryz.prog ti (69, ⟨(TypeDesc.slice 76), (.sl (.pair (.pair (.pair (.int .i64) (.int .i64)) (.pair .str (.pair (.sl (.sl (.arr 4 (.int .u64)))) (.pair (.sl (.arr 4 (.int .u64))) (.int .i64))))) (.pair (.pair (.pair (.int .i64) (.int .i64)) (.pair .str (.pair (.sl (.sl (.arr 4 (.int .u64)))) (.pair (.sl (.arr 4 (.int .u64))) (.int .i64))))) (.pair (.pair (.pair (.int .i64) (.int .i64)) (.pair .str (.pair (.sl (.sl (.arr 4 (.int .u64)))) (.pair (.sl (.arr 4 (.int .u64))) (.int .i64))))) (.pair (.int .i64) (.int .i64)))))), 24⟩) where
  under := Tryz.underlying69
  info := by kernel_rfl
  zero := by kernel_rfl
  shape := ⟨_, rfl, rfl, by decide⟩
  head := by intro _ h; cases h
  eq := fun h => absurd h (by decide)
theorem ti71 : TI1 Tryz.prog ti (71, ⟨(TypeDesc.struct #[{ name := "Key", type := 9, offset := 0, embedded := false, tag := "", pkgPath := "", byteOffset := 0 }, { name := "Held", type := 67, offset := 1, embedded := false, tag := "", pkgPath := "", byteOffset := 16 }, { name := "Echoes", type := 68, offset := 7, embedded := false, tag := "", pkgPath := "", byteOffset := 104 }, { name := "Readies", type := 68, offset := 8, embedded := false, tag := "", pkgPath := "", byteOffset := 128 }, { name := "Clients", type := 69, offset := 9, embedded := false, tag := "", pkgPath := "", byteOffset := 152 }]), (.pair .str (.pair (.pair (.pair (.int .i64) (.int .i64)) (.pair .str (.pair (.sl (.sl (.arr 4 (.int .u64)))) (.pair (.sl (.arr 4 (.int .u64))) (.int .i64))))) (.pair (.sl (.pair (.int .i64) (.pair (.pair (.int .i64) (.int .i64)) .str))) (.pair (.sl (.pair (.int .i64) (.pair (.pair (.int .i64) (.int .i64)) .str))) (.sl (.pair (.pair (.pair (.int .i64) (.int .i64)) (.pair .str (.pair (.sl (.sl (.arr 4 (.int .u64)))) (.pair (.sl (.arr 4 (.int .u64))) (.int .i64))))) (.pair (.pair (.pair (.int .i64) (.int .i64)) (.pair .str (.pair (.sl (.sl (.arr 4 (.int .u64)))) (.pair (.sl (.arr 4 (.int .u64))) (.int .i64))))) (.pair (.pair (.pair (.int .i64) (.int .i64)) (.pair .str (.pair (.sl (.sl (.arr 4 (.int .u64)))) (.pair (.sl (.arr 4 (.int .u64))) (.int .i64))))) (.pair (.int .i64) (.int .i64)))))))))), 176⟩) where
  under := Tryz.underlying71
  info := by kernel_rfl
  zero := by kernel_rfl
  shape := ⟨rfl, ⟨rfl, by decide, ⟨_, rfl, rfl, by decide⟩, ⟨rfl, by decide, ⟨_, rfl, rfl, by decide⟩, ⟨rfl, by decide, ⟨_, rfl, rfl, by decide⟩, ⟨rfl, by decide, ⟨_, rfl, rfl, by decide⟩, ⟨rfl, by decide, _, rfl, rfl, by decide⟩⟩⟩⟩⟩⟩
  head := by intro _ h; cases h
  eq := fun _ h => absurd h (by decide)
theorem ti74 : TI1 Tryz.prog ti (74, ⟨(TypeDesc.struct #[{ name := "Server", type := 3, offset := 0, embedded := false, tag := "", pkgPath := "", byteOffset := 0 }, { name := "Stamp", type := 62, offset := 1, embedded := false, tag := "", pkgPath := "", byteOffset := 8 }, { name := "Digest", type := 9, offset := 3, embedded := false, tag := "", pkgPath := "", byteOffset := 24 }]), (.pair (.int .i64) (.pair (.pair (.int .i64) (.int .i64)) .str)), 40⟩) where
  under := Tryz.underlying74
  info := by kernel_rfl
  zero := by kernel_rfl
  shape := ⟨rfl, ⟨rfl, by decide, ⟨_, rfl, rfl, by decide⟩, ⟨rfl, by decide, ⟨_, rfl, rfl, by decide⟩, ⟨rfl, by decide, _, rfl, rfl, by decide⟩⟩⟩⟩
  head := by intro _ h; cases h
  eq := fun _ _ => ⟨by kernel_rfl, by kernel_rfl, (by intro fs h; cases h <;> decide), by decide⟩
theorem ti76 : TI1 Tryz.prog ti (76, ⟨(TypeDesc.struct #[{ name := "Even", type := 67, offset := 0, embedded := false, tag := "", pkgPath := "", byteOffset := 0 }, { name := "Odd", type := 67, offset := 6, embedded := false, tag := "", pkgPath := "", byteOffset := 88 }, { name := "Waits", type := 67, offset := 12, embedded := false, tag := "", pkgPath := "", byteOffset := 176 }, { name := "Op", type := 3, offset := 18, embedded := false, tag := "", pkgPath := "", byteOffset := 264 }, { name := "Left", type := 3, offset := 19, embedded := false, tag := "", pkgPath := "", byteOffset := 272 }]), (.pair (.pair (.pair (.int .i64) (.int .i64)) (.pair .str (.pair (.sl (.sl (.arr 4 (.int .u64)))) (.pair (.sl (.arr 4 (.int .u64))) (.int .i64))))) (.pair (.pair (.pair (.int .i64) (.int .i64)) (.pair .str (.pair (.sl (.sl (.arr 4 (.int .u64)))) (.pair (.sl (.arr 4 (.int .u64))) (.int .i64))))) (.pair (.pair (.pair (.int .i64) (.int .i64)) (.pair .str (.pair (.sl (.sl (.arr 4 (.int .u64)))) (.pair (.sl (.arr 4 (.int .u64))) (.int .i64))))) (.pair (.int .i64) (.int .i64))))), 280⟩) where
  under := Tryz.underlying76
  info := by kernel_rfl
  zero := by kernel_rfl
  shape := ⟨rfl, ⟨rfl, by decide, ⟨_, rfl, rfl, by decide⟩, ⟨rfl, by decide, ⟨_, rfl, rfl, by decide⟩, ⟨rfl, by decide, ⟨_, rfl, rfl, by decide⟩, ⟨rfl, by decide, ⟨_, rfl, rfl, by decide⟩, ⟨rfl, by decide, _, rfl, rfl, by decide⟩⟩⟩⟩⟩⟩
  head := by intro _ h; cases h
  eq := fun _ h => absurd h (by decide)
theorem ti78 : TI1 Tryz.prog ti (78, ⟨(TypeDesc.slice 5), (.sl (.int .u8)), 24⟩) where
  under := Tryz.underlying78
  info := by kernel_rfl
  zero := by kernel_rfl
  shape := ⟨_, rfl, rfl, by decide⟩
  head := by intro _ h; cases h
  eq := fun h => absurd h (by decide)
theorem ti80 : TI1 Tryz.prog ti (80, ⟨(TypeDesc.pointer 82), (.sp 82), 8⟩) where
  under := Tryz.underlying80
  info := by kernel_rfl
  zero := by kernel_rfl
  shape := .inr ⟨_, rfl⟩
  head := by intro _ h; cases h
  eq := fun h => absurd h (by decide)
theorem ti82 : TI1 Tryz.prog ti (82, ⟨(TypeDesc.struct #[{ name := "addr", type := 80, offset := 0, embedded := false, tag := "", pkgPath := "strings", byteOffset := 0 }, { name := "buf", type := 78, offset := 1, embedded := false, tag := "", pkgPath := "strings", byteOffset := 8 }]), (.pair (.sp 82) (.sl (.int .u8))), 32⟩) where
  under := Tryz.underlying82
  info := by kernel_rfl
  zero := by kernel_rfl
  shape := ⟨rfl, ⟨rfl, by decide, ⟨_, rfl, rfl, by decide⟩, ⟨rfl, by decide, _, rfl, rfl, by decide⟩⟩⟩
  head := by intro _ h; cases h; rfl
  eq := fun _ h => absurd h (by decide)
theorem ti84 : TI1 Tryz.prog ti (84, ⟨(TypeDesc.struct #[{ name := "Builder", type := 82, offset := 0, embedded := true, tag := "", pkgPath := "", byteOffset := 0 }, { name := "bad", type := 4, offset := 2, embedded := false, tag := "", pkgPath := "sacristy/keep", byteOffset := 32 }]), (.pair (.pair (.sp 82) (.sl (.int .u8))) .bool), 40⟩) where
  under := Tryz.underlying84
  info := by kernel_rfl
  zero := by kernel_rfl
  shape := ⟨rfl, ⟨rfl, by decide, ⟨_, rfl, rfl, by decide⟩, ⟨rfl, by decide, _, rfl, rfl, by decide⟩⟩⟩
  head := by intro _ h; cases h; rfl
  eq := fun _ h => absurd h (by decide)
theorem ti94 : TI1 Tryz.prog ti (94, ⟨(TypeDesc.pointer 96), (.ptr (.pair .str .bool)), 8⟩) where
  under := Tryz.underlying94
  info := by kernel_rfl
  zero := by kernel_rfl
  shape := .inl ⟨_, rfl⟩
  head := by intro _ h; cases h
  eq := fun h => absurd h (by decide)
theorem ti96 : TI1 Tryz.prog ti (96, ⟨(TypeDesc.struct #[{ name := "rest", type := 9, offset := 0, embedded := false, tag := "", pkgPath := "sacristy/keep", byteOffset := 0 }, { name := "bad", type := 4, offset := 1, embedded := false, tag := "", pkgPath := "sacristy/keep", byteOffset := 16 }]), (.pair .str .bool), 24⟩) where
  under := Tryz.underlying96
  info := by kernel_rfl
  zero := by kernel_rfl
  shape := ⟨rfl, ⟨rfl, by decide, ⟨_, rfl, rfl, by decide⟩, ⟨rfl, by decide, _, rfl, rfl, by decide⟩⟩⟩
  head := by intro _ h; cases h
  eq := fun _ _ => ⟨by kernel_rfl, by kernel_rfl, (by intro fs h; cases h <;> decide), by decide⟩
theorem ti108 : TI1 Tryz.prog ti (108, ⟨(TypeDesc.array 8 3), (.arr 8 (.int .i64)), 64⟩) where
  under := Tryz.underlying108
  info := by kernel_rfl
  zero := by kernel_rfl
  shape := ⟨_, rfl, rfl, by decide, by decide⟩
  head := by intro _ h; cases h
  eq := fun _ _ => ⟨by kernel_rfl, by kernel_rfl, (by intro fs h; cases h <;> decide), by decide⟩
theorem ti112 : TI1 Tryz.prog ti (112, ⟨(TypeDesc.pointer 183), (.ptr (.pair (.arr 4 (.int .u64)) (.pair (.int .u64) (.pair (.arr 4 (.int .u64)) (.arr 4 (.int .u64)))))), 8⟩) where
  under := Tryz.underlying112
  info := by kernel_rfl
  zero := by kernel_rfl
  shape := .inl ⟨_, rfl⟩
  head := by intro _ h; cases h
  eq := fun h => absurd h (by decide)
theorem ti116 : TI1 Tryz.prog ti (116, ⟨(TypeDesc.struct #[{ name := "N", type := 42, offset := 0, embedded := false, tag := "", pkgPath := "", byteOffset := 0 }, { name := "A", type := 3, offset := 4, embedded := false, tag := "", pkgPath := "", byteOffset := 32 }]), (.pair (.arr 4 (.int .u64)) (.int .i64)), 40⟩) where
  under := Tryz.underlying116
  info := by kernel_rfl
  zero := by kernel_rfl
  shape := ⟨rfl, ⟨rfl, by decide, ⟨_, rfl, rfl, by decide⟩, ⟨rfl, by decide, _, rfl, rfl, by decide⟩⟩⟩
  head := by intro _ h; cases h
  eq := fun _ _ => ⟨by kernel_rfl, by kernel_rfl, (by intro fs h; cases h <;> decide), by decide⟩
theorem ti122 : TI1 Tryz.prog ti (122, ⟨(TypeDesc.struct #[{ name := "ring", type := 112, offset := 0, embedded := false, tag := "", pkgPath := "sacristy/group", byteOffset := 0 }, { name := "field", type := 112, offset := 1, embedded := false, tag := "", pkgPath := "sacristy/group", byteOffset := 8 }]), (.pair (.ptr (.pair (.arr 4 (.int .u64)) (.pair (.int .u64) (.pair (.arr 4 (.int .u64)) (.arr 4 (.int .u64)))))) (.ptr (.pair (.arr 4 (.int .u64)) (.pair (.int .u64) (.pair (.arr 4 (.int .u64)) (.arr 4 (.int .u64))))))), 16⟩) where
  under := Tryz.underlying122
  info := by kernel_rfl
  zero := by kernel_rfl
  shape := ⟨rfl, ⟨rfl, by decide, ⟨_, rfl, rfl, by decide⟩, ⟨rfl, by decide, _, rfl, rfl, by decide⟩⟩⟩
  head := by intro _ h; cases h
  eq := fun _ h => absurd h (by decide)
theorem ti124 : TI1 Tryz.prog ti (124, ⟨(TypeDesc.struct #[{ name := "rings", type := 122, offset := 0, embedded := true, tag := "", pkgPath := "sacristy/group", byteOffset := 0 }, { name := "g", type := 42, offset := 2, embedded := false, tag := "", pkgPath := "sacristy/group", byteOffset := 16 }]), (.pair (.pair (.ptr (.pair (.arr 4 (.int .u64)) (.pair (.int .u64) (.pair (.arr 4 (.int .u64)) (.arr 4 (.int .u64)))))) (.ptr (.pair (.arr 4 (.int .u64)) (.pair (.int .u64) (.pair (.arr 4 (.int .u64)) (.arr 4 (.int .u64))))))) (.arr 4 (.int .u64))), 48⟩) where
  under := Tryz.underlying124
  info := by kernel_rfl
  zero := by kernel_rfl
  shape := ⟨rfl, ⟨rfl, by decide, ⟨_, rfl, rfl, by decide⟩, ⟨rfl, by decide, _, rfl, rfl, by decide⟩⟩⟩
  head := by intro _ h; cases h
  eq := fun _ h => absurd h (by decide)
theorem ti126 : TI1 Tryz.prog ti (126, ⟨(TypeDesc.slice 9), (.sl .str), 24⟩) where
  under := Tryz.underlying126
  info := by kernel_rfl
  zero := by kernel_rfl
  shape := ⟨_, rfl, rfl, by decide⟩
  head := by intro _ h; cases h
  eq := fun h => absurd h (by decide)
theorem ti129 : TI1 Tryz.prog ti (129, ⟨(TypeDesc.pointer 154), (.ptr (.pair (.pair (.pair (.int .i64) (.int .i64)) (.pair .str (.pair (.sl (.sl (.arr 4 (.int .u64)))) (.sl (.arr 4 (.int .u64)))))) (.pair .str (.pair (.ptr (.pair (.int .i64) (.arr 7 (.arr 4 (.arr 2 (.pair (.pair (.int .i64) (.int .i64)) .str)))))) (.pair (.ptr (.pair (.int .i64) (.arr 7 (.arr 4 (.arr 2 (.pair (.pair (.int .i64) (.int .i64)) .str)))))) (.arr 4 (.pair (.arr 2 (.pair (.pair (.pair (.int .i64) (.int .i64)) (.pair .str (.pair (.sl (.sl (.arr 4 (.int .u64)))) (.sl (.arr 4 (.int .u64)))))) (.int .i64))) (.pair (.pair (.pair (.pair (.int .i64) (.int .i64)) (.pair .str (.pair (.sl (.sl (.arr 4 (.int .u64)))) (.sl (.arr 4 (.int .u64)))))) (.int .i64)) (.pair (.int .i64) (.int .i64)))))))))), 8⟩) where
  under := Tryz.underlying129
  info := by kernel_rfl
  zero := by kernel_rfl
  shape := .inl ⟨_, rfl⟩
  head := by intro _ h; cases h
  eq := fun h => absurd h (by decide)
theorem ti163 : TI1 Tryz.prog ti (163, ⟨(TypeDesc.pointer 5), (.ptr (.int .u8)), 8⟩) where
  under := Tryz.underlying163
  info := by kernel_rfl
  zero := by kernel_rfl
  shape := .inl ⟨_, rfl⟩
  head := by intro _ h; cases h
  eq := fun h => absurd h (by decide)
theorem ti167 : TI1 Tryz.prog ti (167, ⟨(TypeDesc.int IntKind.u64), (.int .u64), 8⟩) where
  under := Tryz.underlying167
  info := by kernel_rfl
  zero := by kernel_rfl
  shape := rfl
  head := by intro _ h; cases h
  eq := fun h => absurd h (by decide)
theorem ti172 : TI1 Tryz.prog ti (172, ⟨(TypeDesc.pointer 230), (.ptr (.pair .bool (.pair (.arr 8 (.int .u32)) (.pair (.arr 64 (.int .u8)) (.int .i64))))), 8⟩) where
  under := Tryz.underlying172
  info := by kernel_rfl
  zero := by kernel_rfl
  shape := .inl ⟨_, rfl⟩
  head := by intro _ h; cases h
  eq := fun h => absurd h (by decide)
theorem ti176 : TI1 Tryz.prog ti (176, ⟨(TypeDesc.array 64 3), (.arr 64 (.int .i64)), 512⟩) where
  under := Tryz.underlying176
  info := by kernel_rfl
  zero := by kernel_rfl
  shape := ⟨_, rfl, rfl, by decide, by decide⟩
  head := by intro _ h; cases h
  eq := fun _ _ => ⟨by kernel_rfl, by kernel_rfl, (by intro fs h; cases h <;> decide), by decide⟩
theorem ti183 : TI1 Tryz.prog ti (183, ⟨(TypeDesc.struct #[{ name := "m", type := 42, offset := 0, embedded := false, tag := "", pkgPath := "sacristy/mont", byteOffset := 0 }, { name := "inv", type := 40, offset := 4, embedded := false, tag := "", pkgPath := "sacristy/mont", byteOffset := 32 }, { name := "one", type := 42, offset := 5, embedded := false, tag := "", pkgPath := "sacristy/mont", byteOffset := 40 }, { name := "square", type := 42, offset := 9, embedded := false, tag := "", pkgPath := "sacristy/mont", byteOffset := 72 }]), (.pair (.arr 4 (.int .u64)) (.pair (.int .u64) (.pair (.arr 4 (.int .u64)) (.arr 4 (.int .u64))))), 104⟩) where
  under := Tryz.underlying183
  info := by kernel_rfl
  zero := by kernel_rfl
  shape := ⟨rfl, ⟨rfl, by decide, ⟨_, rfl, rfl, by decide⟩, ⟨rfl, by decide, ⟨_, rfl, rfl, by decide⟩, ⟨rfl, by decide, ⟨_, rfl, rfl, by decide⟩, ⟨rfl, by decide, _, rfl, rfl, by decide⟩⟩⟩⟩⟩
  head := by intro _ h; cases h
  eq := fun _ _ => ⟨by kernel_rfl, by kernel_rfl, (by intro fs h; cases h <;> decide), by decide⟩
theorem ti190 : TI1 Tryz.prog ti (190, ⟨(TypeDesc.map 3 3), .mp, 8⟩) where
  under := Tryz.underlying190
  info := by kernel_rfl
  zero := by kernel_rfl
  shape := rfl
  head := by intro _ h; cases h
  eq := fun h => absurd h (by decide)
theorem ti192 : TI1 Tryz.prog ti (192, ⟨(TypeDesc.struct #[{ name := "servers", type := 3, offset := 0, embedded := false, tag := "", pkgPath := "sacristy/space", byteOffset := 0 }, { name := "clients", type := 3, offset := 1, embedded := false, tag := "", pkgPath := "sacristy/space", byteOffset := 8 }, { name := "keys", type := 126, offset := 2, embedded := false, tag := "", pkgPath := "sacristy/space", byteOffset := 16 }, { name := "used", type := 190, offset := 3, embedded := false, tag := "", pkgPath := "sacristy/space", byteOffset := 40 }]), (.pair (.int .i64) (.pair (.int .i64) (.pair (.sl .str) .mp))), 48⟩) where
  under := Tryz.underlying192
  info := by kernel_rfl
  zero := by kernel_rfl
  shape := ⟨rfl, ⟨rfl, by decide, ⟨_, rfl, rfl, by decide⟩, ⟨rfl, by decide, ⟨_, rfl, rfl, by decide⟩, ⟨rfl, by decide, ⟨_, rfl, rfl, by decide⟩, ⟨rfl, by decide, _, rfl, rfl, by decide⟩⟩⟩⟩⟩
  head := by intro _ h; cases h
  eq := fun _ h => absurd h (by decide)
theorem ti225 : TI1 Tryz.prog ti (225, ⟨(TypeDesc.int IntKind.u32), (.int .u32), 4⟩) where
  under := Tryz.underlying225
  info := by kernel_rfl
  zero := by kernel_rfl
  shape := rfl
  head := by intro _ h; cases h
  eq := fun h => absurd h (by decide)
theorem ti226 : TI1 Tryz.prog ti (226, ⟨(TypeDesc.array 8 225), (.arr 8 (.int .u32)), 32⟩) where
  under := Tryz.underlying226
  info := by kernel_rfl
  zero := by kernel_rfl
  shape := ⟨_, rfl, rfl, by decide, by decide⟩
  head := by intro _ h; cases h
  eq := fun _ _ => ⟨by kernel_rfl, by kernel_rfl, (by intro fs h; cases h <;> decide), by decide⟩
theorem ti228 : TI1 Tryz.prog ti (228, ⟨(TypeDesc.array 64 5), (.arr 64 (.int .u8)), 64⟩) where
  under := Tryz.underlying228
  info := by kernel_rfl
  zero := by kernel_rfl
  shape := ⟨_, rfl, rfl, by decide, by decide⟩
  head := by intro _ h; cases h
  eq := fun _ _ => ⟨by kernel_rfl, by kernel_rfl, (by intro fs h; cases h <;> decide), by decide⟩
theorem ti230 : TI1 Tryz.prog ti (230, ⟨(TypeDesc.struct #[{ name := "given", type := 4, offset := 0, embedded := false, tag := "", pkgPath := "sacristy/sha", byteOffset := 0 }, { name := "words", type := 226, offset := 1, embedded := false, tag := "", pkgPath := "sacristy/sha", byteOffset := 4 }, { name := "rest", type := 228, offset := 9, embedded := false, tag := "", pkgPath := "sacristy/sha", byteOffset := 36 }, { name := "n", type := 3, offset := 73, embedded := false, tag := "", pkgPath := "sacristy/sha", byteOffset := 104 }]), (.pair .bool (.pair (.arr 8 (.int .u32)) (.pair (.arr 64 (.int .u8)) (.int .i64)))), 112⟩) where
  under := Tryz.underlying230
  info := by kernel_rfl
  zero := by kernel_rfl
  shape := ⟨rfl, ⟨rfl, by decide, ⟨_, rfl, rfl, by decide⟩, ⟨rfl, by decide, ⟨_, rfl, rfl, by decide⟩, ⟨rfl, by decide, ⟨_, rfl, rfl, by decide⟩, ⟨rfl, by decide, _, rfl, rfl, by decide⟩⟩⟩⟩⟩
  head := by intro _ h; cases h
  eq := fun _ _ => ⟨by kernel_rfl, by kernel_rfl, (by intro fs h; cases h <;> decide), by decide⟩
theorem ti232 : TI1 Tryz.prog ti (232, ⟨(TypeDesc.array 8 5), (.arr 8 (.int .u8)), 8⟩) where
  under := Tryz.underlying232
  info := by kernel_rfl
  zero := by kernel_rfl
  shape := ⟨_, rfl, rfl, by decide, by decide⟩
  head := by intro _ h; cases h
  eq := fun _ _ => ⟨by kernel_rfl, by kernel_rfl, (by intro fs h; cases h <;> decide), by decide⟩
theorem ti240 : TI1 Tryz.prog ti (240, ⟨(TypeDesc.slice 241), (.sl (.arr 16 (.arr 4 (.int .u64)))), 24⟩) where
  under := Tryz.underlying240
  info := by kernel_rfl
  zero := by kernel_rfl
  shape := ⟨_, rfl, rfl, by decide⟩
  head := by intro _ h; cases h
  eq := fun h => absurd h (by decide)
theorem ti241 : TI1 Tryz.prog ti (241, ⟨(TypeDesc.array 16 42), (.arr 16 (.arr 4 (.int .u64))), 512⟩) where
  under := Tryz.underlying241
  info := by kernel_rfl
  zero := by kernel_rfl
  shape := ⟨_, rfl, rfl, by decide, by decide⟩
  head := by intro _ h; cases h
  eq := fun _ _ => ⟨by kernel_rfl, by kernel_rfl, (by intro fs h; cases h <;> decide), by decide⟩
theorem ti262 : TI1 Tryz.prog ti (262, ⟨(TypeDesc.array 64 225), (.arr 64 (.int .u32)), 256⟩) where
  under := Tryz.underlying262
  info := by kernel_rfl
  zero := by kernel_rfl
  shape := ⟨_, rfl, rfl, by decide, by decide⟩
  head := by intro _ h; cases h
  eq := fun _ _ => ⟨by kernel_rfl, by kernel_rfl, (by intro fs h; cases h <;> decide), by decide⟩
theorem ti266 : TI1 Tryz.prog ti (266, ⟨(TypeDesc.slice 225), (.sl (.int .u32)), 24⟩) where
  under := Tryz.underlying266
  info := by kernel_rfl
  zero := by kernel_rfl
  shape := ⟨_, rfl, rfl, by decide⟩
  head := by intro _ h; cases h
  eq := fun h => absurd h (by decide)
theorem ti270 : TI1 Tryz.prog ti (270, ⟨(TypeDesc.array 8 40), (.arr 8 (.int .u64)), 64⟩) where
  under := Tryz.underlying270
  info := by kernel_rfl
  zero := by kernel_rfl
  shape := ⟨_, rfl, rfl, by decide, by decide⟩
  head := by intro _ h; cases h
  eq := fun _ _ => ⟨by kernel_rfl, by kernel_rfl, (by intro fs h; cases h <;> decide), by decide⟩
theorem ti273 : TI1 Tryz.prog ti (273, ⟨(TypeDesc.slice 40), (.sl (.int .u64)), 24⟩) where
  under := Tryz.underlying273
  info := by kernel_rfl
  zero := by kernel_rfl
  shape := ⟨_, rfl, rfl, by decide⟩
  head := by intro _ h; cases h
  eq := fun h => absurd h (by decide)
theorem ti276 : TI1 Tryz.prog ti (276, ⟨(TypeDesc.array 6 40), (.arr 6 (.int .u64)), 48⟩) where
  under := Tryz.underlying276
  info := by kernel_rfl
  zero := by kernel_rfl
  shape := ⟨_, rfl, rfl, by decide, by decide⟩
  head := by intro _ h; cases h
  eq := fun _ _ => ⟨by kernel_rfl, by kernel_rfl, (by intro fs h; cases h <;> decide), by decide⟩
theorem ti321 : TI1 Tryz.prog ti (321, ⟨(TypeDesc.struct #[{ name := "Kind", type := 3, offset := 0, embedded := false, tag := "", pkgPath := "", byteOffset := 0 }, { name := "Op", type := 3, offset := 1, embedded := false, tag := "", pkgPath := "", byteOffset := 8 }, { name := "Key", type := 9, offset := 2, embedded := false, tag := "", pkgPath := "", byteOffset := 16 }, { name := "Stamp", type := 62, offset := 3, embedded := false, tag := "", pkgPath := "", byteOffset := 32 }, { name := "Digest", type := 9, offset := 5, embedded := false, tag := "", pkgPath := "", byteOffset := 48 }, { name := "Matrix", type := 64, offset := 6, embedded := false, tag := "", pkgPath := "", byteOffset := 64 }, { name := "Ys", type := 65, offset := 7, embedded := false, tag := "", pkgPath := "", byteOffset := 88 }]), (.pair (.int .i64) (.pair (.int .i64) (.pair .str (.pair (.pair (.int .i64) (.int .i64)) (.pair .str (.pair (.sl (.sl (.arr 4 (.int .u64)))) (.sl (.arr 4 (.int .u64))))))))), 112⟩) where
  under := Tryz.underlying321
  info := by kernel_rfl
  zero := by kernel_rfl
  shape := ⟨rfl, ⟨rfl, by decide, ⟨_, rfl, rfl, by decide⟩, ⟨rfl, by decide, ⟨_, rfl, rfl, by decide⟩, ⟨rfl, by decide, ⟨_, rfl, rfl, by decide⟩, ⟨rfl, by decide, ⟨_, rfl, rfl, by decide⟩, ⟨rfl, by decide, ⟨_, rfl, rfl, by decide⟩, ⟨rfl, by decide, ⟨_, rfl, rfl, by decide⟩, ⟨rfl, by decide, _, rfl, rfl, by decide⟩⟩⟩⟩⟩⟩⟩⟩
  head := by intro _ h; cases h
  eq := fun _ h => absurd h (by decide)
theorem ti323 : TI1 Tryz.prog ti (323, ⟨(TypeDesc.struct #[{ name := "To", type := 3, offset := 0, embedded := false, tag := "", pkgPath := "", byteOffset := 0 }, { name := "M", type := 321, offset := 1, embedded := false, tag := "", pkgPath := "", byteOffset := 8 }]), (.pair (.int .i64) (.pair (.int .i64) (.pair (.int .i64) (.pair .str (.pair (.pair (.int .i64) (.int .i64)) (.pair .str (.pair (.sl (.sl (.arr 4 (.int .u64)))) (.sl (.arr 4 (.int .u64)))))))))), 120⟩) where
  under := Tryz.underlying323
  info := by kernel_rfl
  zero := by kernel_rfl
  shape := ⟨rfl, ⟨rfl, by decide, ⟨_, rfl, rfl, by decide⟩, ⟨rfl, by decide, _, rfl, rfl, by decide⟩⟩⟩
  head := by intro _ h; cases h
  eq := fun _ h => absurd h (by decide)
theorem ti_ok : TIok Tryz.prog ti := TIok.of (List.forall_mem_cons.2 ⟨ti3, List.forall_mem_cons.2 ⟨ti4, List.forall_mem_cons.2 ⟨ti5, List.forall_mem_cons.2 ⟨ti9, List.forall_mem_cons.2 ⟨ti22, List.forall_mem_cons.2 ⟨ti23, List.forall_mem_cons.2 ⟨ti25, List.forall_mem_cons.2 ⟨ti28, List.forall_mem_cons.2 ⟨ti36, List.forall_mem_cons.2 ⟨ti39, List.forall_mem_cons.2 ⟨ti40, List.forall_mem_cons.2 ⟨ti42, List.forall_mem_cons.2 ⟨ti44, List.forall_mem_cons.2 ⟨ti46, List.forall_mem_cons.2 ⟨ti55, List.forall_mem_cons.2 ⟨ti56, List.forall_mem_cons.2 ⟨ti57, List.forall_mem_cons.2 ⟨ti59, List.forall_mem_cons.2 ⟨ti60, List.forall_mem_cons.2 ⟨ti62, List.forall_mem_cons.2 ⟨ti64, List.forall_mem_cons.2 ⟨ti65, List.forall_mem_cons.2 ⟨ti67, List.forall_mem_cons.2 ⟨ti68, List.forall_mem_cons.2 ⟨ti69, List.forall_mem_cons.2 ⟨ti71, List.forall_mem_cons.2 ⟨ti74, List.forall_mem_cons.2 ⟨ti76, List.forall_mem_cons.2 ⟨ti78, List.forall_mem_cons.2 ⟨ti80, List.forall_mem_cons.2 ⟨ti82, List.forall_mem_cons.2 ⟨ti84, List.forall_mem_cons.2 ⟨ti94, List.forall_mem_cons.2 ⟨ti96, List.forall_mem_cons.2 ⟨ti108, List.forall_mem_cons.2 ⟨ti112, List.forall_mem_cons.2 ⟨ti116, List.forall_mem_cons.2 ⟨ti122, List.forall_mem_cons.2 ⟨ti124, List.forall_mem_cons.2 ⟨ti126, List.forall_mem_cons.2 ⟨ti129, List.forall_mem_cons.2 ⟨ti163, List.forall_mem_cons.2 ⟨ti167, List.forall_mem_cons.2 ⟨ti172, List.forall_mem_cons.2 ⟨ti176, List.forall_mem_cons.2 ⟨ti183, List.forall_mem_cons.2 ⟨ti190, List.forall_mem_cons.2 ⟨ti192, List.forall_mem_cons.2 ⟨ti225, List.forall_mem_cons.2 ⟨ti226, List.forall_mem_cons.2 ⟨ti228, List.forall_mem_cons.2 ⟨ti230, List.forall_mem_cons.2 ⟨ti232, List.forall_mem_cons.2 ⟨ti240, List.forall_mem_cons.2 ⟨ti241, List.forall_mem_cons.2 ⟨ti262, List.forall_mem_cons.2 ⟨ti266, List.forall_mem_cons.2 ⟨ti270, List.forall_mem_cons.2 ⟨ti273, List.forall_mem_cons.2 ⟨ti276, List.forall_mem_cons.2 ⟨ti321, List.forall_mem_cons.2 ⟨ti323, List.forall_mem_nil _⟩⟩⟩⟩⟩⟩⟩⟩⟩⟩⟩⟩⟩⟩⟩⟩⟩⟩⟩⟩⟩⟩⟩⟩⟩⟩⟩⟩⟩⟩⟩⟩⟩⟩⟩⟩⟩⟩⟩⟩⟩⟩⟩⟩⟩⟩⟩⟩⟩⟩⟩⟩⟩⟩⟩⟩⟩⟩⟩⟩⟩⟩)
theorem mixed : Tryz.prog.follows .mixedOrders = true := by kernel_rfl
noncomputable def c_sub64 : Con := conV false [u64, u64, u64] [u64, u64] fun x => sub64 x.1 x.2.1 x.2.2.1
theorem con_sub64 : ConOk Tryz.prog 168 c_sub64 := sub64_ok Tryz.func168 (by kernel_rfl) (by kernel_rfl) (by kernel_rfl) (by kernel_rfl)
noncomputable def c_add64 : Con := conV false [u64, u64, u64] [u64, u64] fun x => add64 x.1 x.2.1 x.2.2.1
theorem con_add64 : ConOk Tryz.prog 171 c_add64 := add64_ok Tryz.func171 (by kernel_rfl) (by kernel_rfl) (by kernel_rfl) (by kernel_rfl)
end Go.Proofs.YtidodcilgldjoaaGreat

namespace Go.Proofs.YtidodcilgldjoaaGreat
noncomputable def c00_ : Con := conV true [(.int .u32), tI] [(.int .u32)] fun x => bits_RotateLeft32 x.1 x.2.1
noncomputable def x00_ : Cx := { ti := ti, con := [], fns := [], un := 6 }
theorem xok00_ : CxOk Tryz.prog x00_ := CxOk.of mixed ti_ok fz fz
theorem fn00_ : FnOk Tryz.prog 187 Tryz.f187 [] := ⟨Tryz.func187, Tryz.call187, lps_nil⟩
theorem e00_ (x : Int) (k : Int) : bodyK x00_ [] (denF x00_ 8) Tryz.f187 (domV [(.int .u32), tI] (x, k, ())) [] 0 (kOut [(.int .u32)]) = bits_RotateLeft32' x k := by kernel_rfl
theorem con00_ : ConOk Tryz.prog 187 c00_ := con_ok xok00_ 8 fn00_ true [(.int .u32), tI] [(.int .u32)] _ (by decide) (fun x => by rw [bits_RotateLeft32_eq]; exact e00_ x.1 x.2.1)
noncomputable def c01_ : Con := conV true [tU] [tI] fun x => bits_Len64 x.1
noncomputable def x01_ : Cx := { ti := ti, con := [], fns := [], un := 6 }
theorem xok01_ : CxOk Tryz.prog x01_ := CxOk.of mixed ti_ok fz fz
theorem fn01_ : FnOk Tryz.prog 99 Tryz.f99 [] := ⟨Tryz.func99, Tryz.call99, lps_nil⟩
theorem e01_ (x : Int) : bodyK x01_ [] (denF x01_ 8) Tryz.f99 (domV [tU] (x, ())) [] 0 (kOut [tI]) = bits_Len64' x := by kernel_rfl
theorem con01_ : ConOk Tryz.prog 99 c01_ := con_ok xok01_ 8 fn01_ true [tU] [tI] _ (by decide) (fun x => by rw [bits_Len64_eq]; exact e01_ x.1)
noncomputable def c02_ : Con := conV true [tU] [tI] fun x => bits_LeadingZeros64 x.1
noncomputable def x02_ : Cx := { ti := ti, con := [(99, c01_)], fns := [], un := 6 }
theorem xok02_ : CxOk Tryz.prog x02_ := CxOk.of mixed ti_ok (fc ⟨con01_, fz⟩) fz
theorem fn02_ : FnOk Tryz.prog 200 Tryz.f200 [] := ⟨Tryz.func200, Tryz.call200, lps_nil⟩
theorem e02_ (x : Int) : bodyK x02_ [] (denF x02_ 8) Tryz.f200 (domV [tU] (x, ())) [] 0 (kOut [tI]) = bits_LeadingZeros64' x := by kernel_rfl
theorem con02_ : ConOk Tryz.prog 200 c02_ := con_ok xok02_ 8 fn02_ true [tU] [tI] _ (by decide) (fun x => by rw [bits_LeadingZeros64_eq]; exact e02_ x.1)
abbrev S03_0 : Shape := { sl := [(pv 2 tU), (pv 8 tU), (pv 9 tU), (pv 10 tU), (pv 11 tU), (pv 13 tU), (pv 14 tU), (pv 15 tU), (pv 16 tU)], ob := [], lo := 0, nx := 0 }
abbrev E03_0 : List Ex := [(.normal, { sl := [(pv 2 tU), (pv 8 tU), (pv 9 tU), (pv 10 tU), (pv 11 tU), (pv 13 tU), (pv 14 tU), (pv 15 tU)], ob := [], lo := 0, nx := 0 })]
noncomputable def L03_0 : Code := loopIn (bodyOf Tryz.f188) 0
noncomputable def P03_0 : Lp := lpOf S03_0 E03_0 135 R_bits_Div64_0
abbrev S03_2 : Shape := { sl := [(pv 2 tU), (pv 8 tU), (pv 9 tU), (pv 10 tU), (pv 14 tU), (pv 15 tU), (pv 16 tU), (pv 17 tU), (pv 18 tU)], ob := [], lo := 0, nx := 0 }
abbrev E03_2 : List Ex := [(.normal, { sl := [(pv 2 tU), (pv 8 tU), (pv 14 tU), (pv 15 tU), (pv 17 tU), (pv 18 tU)], ob := [], lo := 0, nx := 0 })]
noncomputable def L03_2 : Code := loopIn (bodyOf Tryz.f188) 2
noncomputable def P03_2 : Lp := lpOf S03_2 E03_2 135 R_bits_Div64_2
noncomputable def c03_ : Con := conV true [tU, tU, tU] [tU, tU] fun x => bits_Div64 x.1 x.2.1 x.2.2.1
noncomputable def x03_ : Cx := { ti := ti, con := [(200, c02_)], fns := [], un := 6 }
theorem xok03_ : CxOk Tryz.prog x03_ := CxOk.of mixed ti_ok (fc ⟨con02_, fz⟩) fz
theorem r03_0 (x : S03_0.X) : denC x03_ [] (denF x03_ 8) L03_0 (S03_0.mkS 135 x) (kRound 0 S03_0 E03_0) = R_bits_Div64_0 x := by kernel_rfl
theorem l03_0 : LpOk Tryz.prog 0 (.loop L03_0) P03_0 := lpOf_ok xok03_ 8 (lps_nil) S03_0 E03_0 135 R_bits_Div64_0 (by decide) r03_0
theorem r03_2 (x : S03_2.X) : denC x03_ [] (denF x03_ 8) L03_2 (S03_2.mkS 135 x) (kRound 2 S03_2 E03_2) = R_bits_Div64_2 x := by kernel_rfl
theorem l03_2 : LpOk Tryz.prog 2 (.loop L03_2) P03_2 := lpOf_ok xok03_ 8 (lps_nil) S03_2 E03_2 135 R_bits_Div64_2 (by decide) r03_2
theorem fn03_ : FnOk Tryz.prog 188 Tryz.f188 [(0, P03_0), (2, P03_2)] := ⟨Tryz.func188, Tryz.call188, lps_of (by kernel_rfl) (lps_one l03_0 (by kernel_rfl) (lps_one l03_2 (by kernel_rfl) fz))⟩
theorem e03_ (hi : Int) (lo : Int) (y : Int) : bodyK x03_ [(0, P03_0), (2, P03_2)] (denF x03_ 8) Tryz.f188 (domV [tU, tU, tU] (hi, lo, y, ())) [] 0 (kOut [tU, tU]) = bits_Div64' hi lo y := by kernel_rfl
theorem con03_ : ConOk Tryz.prog 188 c03_ := con_ok xok03_ 8 fn03_ true [tU, tU, tU] [tU, tU] _ (by decide) (fun x => by rw [bits_Div64_eq]; exact e03_ x.1 x.2.1 x.2.2.1)
noncomputable def c04_ : Con := conV true [tU, tU] [tU, tU] fun x => bits_Mul64 x.1 x.2.1
noncomputable def x04_ : Cx := { ti := ti, con := [], fns := [], un := 6 }
theorem xok04_ : CxOk Tryz.prog x04_ := CxOk.of mixed ti_ok fz fz
theorem fn04_ : FnOk Tryz.prog 170 Tryz.f170 [] := ⟨Tryz.func170, Tryz.call170, lps_nil⟩
theorem e04_ (x : Int) (y : Int) : bodyK x04_ [] (denF x04_ 8) Tryz.f170 (domV [tU, tU] (x, y, ())) [] 0 (kOut [tU, tU]) = bits_Mul64' x y := by kernel_rfl
theorem con04_ : ConOk Tryz.prog 170 c04_ := con_ok xok04_ 8 fn04_ true [tU, tU] [tU, tU] _ (by decide) (fun x => by rw [bits_Mul64_eq]; exact e04_ x.1 x.2.1)
end Go.Proofs.YtidodcilgldjoaaGreat

namespace Go.Proofs.YtidodcilgldjoaaGreat
noncomputable def c05_ : Con := conV true [tN] [tI, .bool] fun x => nat_Int x.1
noncomputable def x05_ : Cx := { ti := ti, con := [], fns := [], un := 6 }
theorem xok05_ : CxOk Tryz.prog x05_ := CxOk.of mixed ti_ok fz fz
theorem fn05_ : FnOk Tryz.prog 94 Tryz.f94 [] := ⟨Tryz.func94, Tryz.call94, lps_nil⟩
theorem e05_ (a : NI) : bodyK x05_ [] (denF x05_ 8) Tryz.f94 (domV [tN] (a, ())) [] 0 (kOut [tI, .bool]) = nat_Int' a := by kernel_rfl
theorem con05_ : ConOk Tryz.prog 94 c05_ := con_ok xok05_ 8 fn05_ true [tN] [tI, .bool] _ (by decide) (fun x => by rw [nat_Int_eq]; exact e05_ x.1)
noncomputable def c06_ : Con := conV true [tI] [tN] fun x => nat_Of x.1
noncomputable def x06_ : Cx := { ti := ti, con := [], fns := [], un := 6 }
theorem xok06_ : CxOk Tryz.prog x06_ := CxOk.of mixed ti_ok fz fz
theorem fn06_ : FnOk Tryz.prog 50 Tryz.f50 [] := ⟨Tryz.func50, Tryz.call50, lps_nil⟩
theorem e06_ (n : Int) : bodyK x06_ [] (denF x06_ 8) Tryz.f50 (domV [tI] (n, ())) [] 0 (kOut [tN]) = nat_Of' n := by kernel_rfl
theorem con06_ : ConOk Tryz.prog 50 c06_ := con_ok xok06_ 8 fn06_ true [tI] [tN] _ (by decide) (fun x => by rw [nat_Of_eq]; exact e06_ x.1)
noncomputable def c07_ : Con := conV true [tN, tI] [tI] fun x => nat_Bit x.1 x.2.1
noncomputable def x07_ : Cx := { ti := ti, con := [], fns := [], un := 6 }
theorem xok07_ : CxOk Tryz.prog x07_ := CxOk.of mixed ti_ok fz fz
theorem fn07_ : FnOk Tryz.prog 174 Tryz.f174 [] := ⟨Tryz.func174, Tryz.call174, lps_nil⟩
theorem e07_ (a : NI) (k : Int) : bodyK x07_ [] (denF x07_ 8) Tryz.f174 (domV [tN, tI] (a, k, ())) [] 0 (kOut [tI]) = nat_Bit' a k := by kernel_rfl
theorem con07_ : ConOk Tryz.prog 174 c07_ := con_ok xok07_ 8 fn07_ true [tN, tI] [tI] _ (by decide) (fun x => by rw [nat_Bit_eq]; exact e07_ x.1 x.2.1)
abbrev S08_0 : Shape := { sl := [(pc 2 tN 0), (pc 4 tN 1), (pc 5 tN 2), (pv 6 tI), (pv 7 tI), (pv 8 tI)], ob := [(pv 0 tN), (pv 1 tN), (pv 2 tN)], lo := 3, nx := 3 }
abbrev E08_0 : List Ex := [(.normal, { sl := [(pc 4 tN 1), (pc 5 tN 2)], ob := [(pv 1 tN), (pv 2 tN)], lo := 3, nx := 3 })]
noncomputable def L08_0 : Code := loopIn (bodyOf Tryz.f150) 0
noncomputable def P08_0 : Lp := lpOf S08_0 E08_0 51 R_nat_Up_0
noncomputable def c08_ : Con := conV true [tN, tI] [tN] fun x => nat_Up x.1 x.2.1
noncomputable def x08_ : Cx := { ti := ti, con := [], fns := [], un := 6 }
theorem xok08_ : CxOk Tryz.prog x08_ := CxOk.of mixed ti_ok fz fz
theorem r08_0 (x : S08_0.X) : denC x08_ [] (denF x08_ 8) L08_0 (S08_0.mkS 51 x) (kRound 0 S08_0 E08_0) = R_nat_Up_0 x := by kernel_rfl
theorem l08_0 : LpOk Tryz.prog 0 (.loop L08_0) P08_0 := lpOf_ok xok08_ 8 (lps_nil) S08_0 E08_0 51 R_nat_Up_0 (by decide) r08_0
theorem fn08_ : FnOk Tryz.prog 150 Tryz.f150 [(0, P08_0)] := ⟨Tryz.func150, Tryz.call150, lps_of (by kernel_rfl) (lps_one l08_0 (by kernel_rfl) fz)⟩
theorem e08_ (a : NI) (k : Int) : bodyK x08_ [(0, P08_0)] (denF x08_ 8) Tryz.f150 (domV [tN, tI] (a, k, ())) [] 0 (kOut [tN]) = nat_Up' a k := by kernel_rfl
theorem con08_ : ConOk Tryz.prog 150 c08_ := con_ok xok08_ 8 fn08_ true [tN, tI] [tN] _ (by decide) (fun x => by rw [nat_Up_eq]; exact e08_ x.1 x.2.1)
noncomputable def c09_ : Con := conV true [tN, tN] [tN, tI] fun x => nat_Sub x.1 x.2.1
noncomputable def x09_ : Cx := { ti := ti, con := [(168, c_sub64)], fns := [], un := 6 }
theorem xok09_ : CxOk Tryz.prog x09_ := CxOk.of mixed ti_ok (fc ⟨con_sub64, fz⟩) fz
theorem fn09_ : FnOk Tryz.prog 141 Tryz.f141 [] := ⟨Tryz.func141, Tryz.call141, lps_nil⟩
theorem e09_ (a : NI) (b : NI) : bodyK x09_ [] (denF x09_ 8) Tryz.f141 (domV [tN, tN] (a, b, ())) [] 0 (kOut [tN, tI]) = nat_Sub' a b := by kernel_rfl
theorem con09_ : ConOk Tryz.prog 141 c09_ := con_ok xok09_ 8 fn09_ true [tN, tN] [tN, tI] _ (by decide) (fun x => by rw [nat_Sub_eq]; exact e09_ x.1 x.2.1)
noncomputable def c0a_ : Con := conV true [tN, tN] [tI] fun x => nat_Cmp x.1 x.2.1
noncomputable def x0a_ : Cx := { ti := ti, con := [], fns := [], un := 6 }
theorem xok0a_ : CxOk Tryz.prog x0a_ := CxOk.of mixed ti_ok fz fz
theorem fn0a_ : FnOk Tryz.prog 101 Tryz.f101 [] := ⟨Tryz.func101, Tryz.call101, lps_nil⟩
theorem e0a_ (a : NI) (b : NI) : bodyK x0a_ [] (denF x0a_ 8) Tryz.f101 (domV [tN, tN] (a, b, ())) [] 0 (kOut [tI]) = nat_Cmp' a b := by kernel_rfl
theorem con0a_ : ConOk Tryz.prog 101 c0a_ := con_ok xok0a_ 8 fn0a_ true [tN, tN] [tI] _ (by decide) (fun x => by rw [nat_Cmp_eq]; exact e0a_ x.1 x.2.1)
noncomputable def c0b_ : Con := conV true [tN] [tI] fun x => nat_Len x.1
noncomputable def x0b_ : Cx := { ti := ti, con := [(99, c01_)], fns := [], un := 6 }
theorem xok0b_ : CxOk Tryz.prog x0b_ := CxOk.of mixed ti_ok (fc ⟨con01_, fz⟩) fz
theorem fn0b_ : FnOk Tryz.prog 49 Tryz.f49 [] := ⟨Tryz.func49, Tryz.call49, lps_nil⟩
theorem e0b_ (a : NI) : bodyK x0b_ [] (denF x0b_ 8) Tryz.f49 (domV [tN] (a, ())) [] 0 (kOut [tI]) = nat_Len' a := by kernel_rfl
theorem con0b_ : ConOk Tryz.prog 49 c0b_ := con_ok xok0b_ 8 fn0b_ true [tN] [tI] _ (by decide) (fun x => by rw [nat_Len_eq]; exact e0b_ x.1)
abbrev S0c_0 : Shape := { sl := [(pc 2 tN 0), (pc 4 tN 1), (pc 5 tN 2), (pv 6 tI), (pv 7 tI), (pv 20 tI), (pv 21 tI)], ob := [(pv 0 tN), (pv 1 tN), (pv 2 tN)], lo := 3, nx := 3 }
abbrev E0c_0 : List Ex := [(.normal, { sl := [(pc 4 tN 1), (pc 5 tN 2)], ob := [(pv 1 tN), (pv 2 tN)], lo := 3, nx := 3 })]
noncomputable def L0c_0 : Code := loopIn (bodyOf Tryz.f149) 0
noncomputable def P0c_0 : Lp := lpOf S0c_0 E0c_0 54 R_nat_Down_0
noncomputable def c0c_ : Con := conV true [tN, tI] [tN] fun x => nat_Down x.1 x.2.1
noncomputable def x0c_ : Cx := { ti := ti, con := [], fns := [], un := 6 }
theorem xok0c_ : CxOk Tryz.prog x0c_ := CxOk.of mixed ti_ok fz fz
theorem r0c_0 (x : S0c_0.X) : denC x0c_ [] (denF x0c_ 8) L0c_0 (S0c_0.mkS 54 x) (kRound 0 S0c_0 E0c_0) = R_nat_Down_0 x := by kernel_rfl
theorem l0c_0 : LpOk Tryz.prog 0 (.loop L0c_0) P0c_0 := lpOf_ok xok0c_ 8 (lps_nil) S0c_0 E0c_0 54 R_nat_Down_0 (by decide) r0c_0
theorem fn0c_ : FnOk Tryz.prog 149 Tryz.f149 [(0, P0c_0)] := ⟨Tryz.func149, Tryz.call149, lps_of (by kernel_rfl) (lps_one l0c_0 (by kernel_rfl) fz)⟩
theorem e0c_ (a : NI) (k : Int) : bodyK x0c_ [(0, P0c_0)] (denF x0c_ 8) Tryz.f149 (domV [tN, tI] (a, k, ())) [] 0 (kOut [tN]) = nat_Down' a k := by kernel_rfl
theorem con0c_ : ConOk Tryz.prog 149 c0c_ := con_ok xok0c_ 8 fn0c_ true [tN, tI] [tN] _ (by decide) (fun x => by rw [nat_Down_eq]; exact e0c_ x.1 x.2.1)
noncomputable def c0d_ : Con := conV true [tN, tN] [tN, tI] fun x => nat_Add x.1 x.2.1
noncomputable def x0d_ : Cx := { ti := ti, con := [(171, c_add64)], fns := [], un := 6 }
theorem xok0d_ : CxOk Tryz.prog x0d_ := CxOk.of mixed ti_ok (fc ⟨con_add64, fz⟩) fz
theorem fn0d_ : FnOk Tryz.prog 172 Tryz.f172 [] := ⟨Tryz.func172, Tryz.call172, lps_nil⟩
theorem e0d_ (a : NI) (b : NI) : bodyK x0d_ [] (denF x0d_ 8) Tryz.f172 (domV [tN, tN] (a, b, ())) [] 0 (kOut [tN, tI]) = nat_Add' a b := by kernel_rfl
theorem con0d_ : ConOk Tryz.prog 172 c0d_ := con_ok xok0d_ 8 fn0d_ true [tN, tN] [tN, tI] _ (by decide) (fun x => by rw [nat_Add_eq]; exact e0d_ x.1 x.2.1)
end Go.Proofs.YtidodcilgldjoaaGreat

namespace Go.Proofs.YtidodcilgldjoaaGreat
noncomputable def c0e_ : Con := conV true [tN, tU, tU] [tN, tN] fun x => wide_short x.1 x.2.1 x.2.2.1
noncomputable def x0e_ : Cx := { ti := ti, con := [(188, c03_)], fns := [], un := 6 }
theorem xok0e_ : CxOk Tryz.prog x0e_ := CxOk.of mixed ti_ok (fc ⟨con03_, fz⟩) fz
theorem fn0e_ : FnOk Tryz.prog 173 Tryz.f173 [] := ⟨Tryz.func173, Tryz.call173, lps_nil⟩
theorem e0e_ (a : NI) (left_ : Int) (m : Int) : bodyK x0e_ [] (denF x0e_ 8) Tryz.f173 (domV [tN, tU, tU] (a, left_, m, ())) [] 0 (kOut [tN, tN]) = wide_short' a left_ m := by kernel_rfl
theorem con0e_ : ConOk Tryz.prog 173 c0e_ := con_ok xok0e_ 8 fn0e_ true [tN, tU, tU] [tN, tN] _ (by decide) (fun x => by rw [wide_short_eq]; exact e0e_ x.1 x.2.1 x.2.2.1)
abbrev S0f_0 : Shape := { sl := [(pc 3 tN 0), (pc 4 tN 1), (pc 5 tN 2), (pc 6 tN 3), (pc 7 tN 4), (pc 8 tN 5), (pv 25 tI)], ob := [(pv 0 tN), (pv 1 tN), (pv 2 tN), (pv 3 tN), (pv 4 tN), (pv 5 tN)], lo := 6, nx := 6 }
abbrev E0f_0 : List Ex := [(.normal, { sl := [(pc 4 tN 1), (pc 6 tN 3), (pc 7 tN 4), (pc 8 tN 5)], ob := [(pv 1 tN), (pv 3 tN), (pv 4 tN), (pv 5 tN)], lo := 6, nx := 6 })]
noncomputable def L0f_0 : Code := loopIn (bodyOf Tryz.f146) 0
noncomputable def P0f_0 : Lp := lpOf S0f_0 E0f_0 68 R_wide_parted_0
noncomputable def c0f_ : Con := conV true [tN, tN, tN] [tN, tN] fun x => wide_parted x.1 x.2.1 x.2.2.1
noncomputable def x0f_ : Cx := { ti := ti, con := [(173, c0e_), (174, c07_), (150, c08_), (141, c09_), (101, c0a_)], fns := [], un := 6 }
theorem xok0f_ : CxOk Tryz.prog x0f_ := CxOk.of mixed ti_ok (fc ⟨con0e_, fc ⟨con07_, fc ⟨con08_, fc ⟨con09_, fc ⟨con0a_, fz⟩⟩⟩⟩⟩) fz
theorem r0f_0 (x : S0f_0.X) : denC x0f_ [] (denF x0f_ 8) L0f_0 (S0f_0.mkS 68 x) (kRound 0 S0f_0 E0f_0) = R_wide_parted_0 x := by kernel_rfl
theorem l0f_0 : LpOk Tryz.prog 0 (.loop L0f_0) P0f_0 := lpOf_ok xok0f_ 8 (lps_nil) S0f_0 E0f_0 68 R_wide_parted_0 (by decide) r0f_0
theorem fn0f_ : FnOk Tryz.prog 146 Tryz.f146 [(0, P0f_0)] := ⟨Tryz.func146, Tryz.call146, lps_of (by kernel_rfl) (lps_one l0f_0 (by kernel_rfl) fz)⟩
theorem e0f_ (a : NI) (left_ : NI) (m : NI) : bodyK x0f_ [(0, P0f_0)] (denF x0f_ 8) Tryz.f146 (domV [tN, tN, tN] (a, left_, m, ())) [] 0 (kOut [tN, tN]) = wide_parted' a left_ m := by kernel_rfl
theorem con0f_ : ConOk Tryz.prog 146 c0f_ := con_ok xok0f_ 8 fn0f_ true [tN, tN, tN] [tN, tN] _ (by decide) (fun x => by rw [wide_parted_eq]; exact e0f_ x.1 x.2.1 x.2.2.1)
noncomputable def c0g_ : Con := conV true [tN, tN, tN] [tN, tI] fun x => wide_Rem x.1 x.2.1 x.2.2.1
noncomputable def x0g_ : Cx := { ti := ti, con := [(146, c0f_)], fns := [], un := 6 }
theorem xok0g_ : CxOk Tryz.prog x0g_ := CxOk.of mixed ti_ok (fc ⟨con0f_, fz⟩) fz
theorem fn0g_ : FnOk Tryz.prog 97 Tryz.f97 [] := ⟨Tryz.func97, Tryz.call97, lps_nil⟩
theorem e0g_ (low : NI) (high : NI) (m : NI) : bodyK x0g_ [] (denF x0g_ 8) Tryz.f97 (domV [tN, tN, tN] (low, high, m, ())) [] 0 (kOut [tN, tI]) = wide_Rem' low high m := by kernel_rfl
theorem con0g_ : ConOk Tryz.prog 97 c0g_ := con_ok xok0g_ 8 fn0g_ true [tN, tN, tN] [tN, tI] _ (by decide) (fun x => by rw [wide_Rem_eq]; exact e0g_ x.1 x.2.1 x.2.2.1)
noncomputable def c0h_ : Con := conV true [tN, tN] [tN, tN] fun x => wide_Mul x.1 x.2.1
noncomputable def x0h_ : Cx := { ti := ti, con := [(170, c04_), (171, c_add64)], fns := [(169, Tryz.f169, [])], un := 6 }
theorem xok0h_ : CxOk Tryz.prog x0h_ := CxOk.of mixed ti_ok (fc ⟨con04_, fc ⟨con_add64, fz⟩⟩) (fc ⟨⟨Tryz.func169, Tryz.call169, lps_nil⟩, fz⟩)
theorem fn0h_ : FnOk Tryz.prog 143 Tryz.f143 [] := ⟨Tryz.func143, Tryz.call143, lps_nil⟩
theorem e0h_ (a : NI) (b : NI) : bodyK x0h_ [] (denF x0h_ 8) Tryz.f143 (domV [tN, tN] (a, b, ())) [] 0 (kOut [tN, tN]) = wide_Mul' a b := by kernel_rfl
theorem con0h_ : ConOk Tryz.prog 143 c0h_ := con_ok xok0h_ 8 fn0h_ true [tN, tN] [tN, tN] _ (by decide) (fun x => by rw [wide_Mul_eq]; exact e0h_ x.1 x.2.1)
noncomputable def c0i_ : Con := conV true [tN, tN, tN] [tN, tI] fun x => wide_MulMod x.1 x.2.1 x.2.2.1
noncomputable def x0i_ : Cx := { ti := ti, con := [(143, c0h_), (97, c0g_)], fns := [], un := 6 }
theorem xok0i_ : CxOk Tryz.prog x0i_ := CxOk.of mixed ti_ok (fc ⟨con0h_, fc ⟨con0g_, fz⟩⟩) fz
theorem fn0i_ : FnOk Tryz.prog 98 Tryz.f98 [] := ⟨Tryz.func98, Tryz.call98, lps_nil⟩
theorem e0i_ (a : NI) (b : NI) (m : NI) : bodyK x0i_ [] (denF x0i_ 8) Tryz.f98 (domV [tN, tN, tN] (a, b, m, ())) [] 0 (kOut [tN, tI]) = wide_MulMod' a b m := by kernel_rfl
theorem con0i_ : ConOk Tryz.prog 98 c0i_ := con_ok xok0i_ 8 fn0i_ true [tN, tN, tN] [tN, tI] _ (by decide) (fun x => by rw [wide_MulMod_eq]; exact e0i_ x.1 x.2.1 x.2.2.1)
noncomputable def c0j_ : Con := conV true [tN, tN] [tN, tN, tI] fun x => wide_Div x.1 x.2.1
noncomputable def x0j_ : Cx := { ti := ti, con := [(146, c0f_)], fns := [], un := 6 }
theorem xok0j_ : CxOk Tryz.prog x0j_ := CxOk.of mixed ti_ok (fc ⟨con0f_, fz⟩) fz
theorem fn0j_ : FnOk Tryz.prog 142 Tryz.f142 [] := ⟨Tryz.func142, Tryz.call142, lps_nil⟩
theorem e0j_ (a : NI) (b : NI) : bodyK x0j_ [] (denF x0j_ 8) Tryz.f142 (domV [tN, tN] (a, b, ())) [] 0 (kOut [tN, tN, tI]) = wide_Div' a b := by kernel_rfl
theorem con0j_ : ConOk Tryz.prog 142 c0j_ := con_ok xok0j_ 8 fn0j_ true [tN, tN] [tN, tN, tI] _ (by decide) (fun x => by rw [wide_Div_eq]; exact e0j_ x.1 x.2.1)
noncomputable def c0k_ : Con := conV true [tN, tN, tN] [tN, tI] fun x => wide_SubMod x.1 x.2.1 x.2.2.1
noncomputable def x0k_ : Cx := { ti := ti, con := [(97, c0g_), (141, c09_), (172, c0d_)], fns := [], un := 6 }
theorem xok0k_ : CxOk Tryz.prog x0k_ := CxOk.of mixed ti_ok (fc ⟨con0g_, fc ⟨con09_, fc ⟨con0d_, fz⟩⟩⟩) fz
theorem fn0k_ : FnOk Tryz.prog 144 Tryz.f144 [] := ⟨Tryz.func144, Tryz.call144, lps_nil⟩
theorem e0k_ (a : NI) (b : NI) (m : NI) : bodyK x0k_ [] (denF x0k_ 8) Tryz.f144 (domV [tN, tN, tN] (a, b, m, ())) [] 0 (kOut [tN, tI]) = wide_SubMod' a b m := by kernel_rfl
theorem con0k_ : ConOk Tryz.prog 144 c0k_ := con_ok xok0k_ 8 fn0k_ true [tN, tN, tN] [tN, tI] _ (by decide) (fun x => by rw [wide_SubMod_eq]; exact e0k_ x.1 x.2.1 x.2.2.1)
abbrev S0l_0 : Shape := { sl := [(pc 2 tN 0), (pc 3 tN 1), (pc 4 tN 2)], ob := [(pv 0 tN), (pv 1 tN), (pv 2 tN)], lo := 3, nx := 3 }
abbrev E0l_0 : List Ex := [(.normal, { sl := [(pc 2 tN 0), (pc 4 tN 2)], ob := [(pv 0 tN), (pv 2 tN)], lo := 3, nx := 3 })]
noncomputable def L0l_0 : Code := loopIn (bodyOf Tryz.f145) 0
noncomputable def P0l_0 : Lp := lpOf S0l_0 E0l_0 21 R_wide_Gcd_0
noncomputable def c0l_ : Con := conV true [tN, tN] [tN] fun x => wide_Gcd x.1 x.2.1
noncomputable def x0l_ : Cx := { ti := ti, con := [(142, c0j_)], fns := [], un := 6 }
theorem xok0l_ : CxOk Tryz.prog x0l_ := CxOk.of mixed ti_ok (fc ⟨con0j_, fz⟩) fz
theorem r0l_0 (x : S0l_0.X) : denC x0l_ [] (denF x0l_ 8) L0l_0 (S0l_0.mkS 21 x) (kRound 0 S0l_0 E0l_0) = R_wide_Gcd_0 x := by kernel_rfl
theorem l0l_0 : LpOk Tryz.prog 0 (.loop L0l_0) P0l_0 := lpOf_ok xok0l_ 8 (lps_nil) S0l_0 E0l_0 21 R_wide_Gcd_0 (by decide) r0l_0
theorem fn0l_ : FnOk Tryz.prog 145 Tryz.f145 [(0, P0l_0)] := ⟨Tryz.func145, Tryz.call145, lps_of (by kernel_rfl) (lps_one l0l_0 (by kernel_rfl) fz)⟩
theorem e0l_ (a : NI) (b : NI) : bodyK x0l_ [(0, P0l_0)] (denF x0l_ 8) Tryz.f145 (domV [tN, tN] (a, b, ())) [] 0 (kOut [tN]) = wide_Gcd' a b := by kernel_rfl
theorem con0l_ : ConOk Tryz.prog 145 c0l_ := con_ok xok0l_ 8 fn0l_ true [tN, tN] [tN] _ (by decide) (fun x => by rw [wide_Gcd_eq]; exact e0l_ x.1 x.2.1)
end Go.Proofs.YtidodcilgldjoaaGreat

namespace Go.Proofs.YtidodcilgldjoaaGreat
noncomputable def c0m_ : Con := conV false [tN] [(.ptr (.pair tN (.pair tU (.pair tN tN)))), tI] fun x => mont_New x.1
noncomputable def x0m_ : Cx := { ti := ti, con := [(50, c06_), (97, c0g_), (98, c0i_)], fns := [], un := 6 }
theorem xok0m_ : CxOk Tryz.prog x0m_ := CxOk.of mixed ti_ok (fc ⟨con06_, fc ⟨con0g_, fc ⟨con0i_, fz⟩⟩⟩) fz
theorem fn0m_ : FnOk Tryz.prog 48 Tryz.f48 [] := ⟨Tryz.func48, Tryz.call48, lps_nil⟩
theorem e0m_ (m : NI) : bodyK x0m_ [] (denF x0m_ 8) Tryz.f48 (domV [tN] (m, ())) [] 0 (kOut [(.ptr (.pair tN (.pair tU (.pair tN tN)))), tI]) = mont_New' m := by kernel_rfl
theorem con0m_ : ConOk Tryz.prog 48 c0m_ := con_ok xok0m_ 8 fn0m_ false [tN] [(.ptr (.pair tN (.pair tU (.pair tN tN)))), tI] _ (by decide) (fun x => by rw [mont_New_eq]; exact e0m_ x.1)
noncomputable def c0n_ : Con := conV true [(.ptr (.pair tN (.pair tU (.pair tN tN))))] [.bool] fun x => mont_Ring_given x.1
noncomputable def x0n_ : Cx := { ti := ti, con := [], fns := [], un := 6 }
theorem xok0n_ : CxOk Tryz.prog x0n_ := CxOk.of mixed ti_ok fz fz
theorem fn0n_ : FnOk Tryz.prog 100 Tryz.f100 [] := ⟨Tryz.func100, Tryz.call100, lps_nil⟩
theorem e0n_ (r : (Option (NI × (Int × (NI × NI))))) : bodyK x0n_ [] (denF x0n_ 8) Tryz.f100 (domV [(.ptr (.pair tN (.pair tU (.pair tN tN))))] (r, ())) [] 0 (kOut [.bool]) = mont_Ring_given' r := by cases r <;> kernel_rfl
theorem con0n_ : ConOk Tryz.prog 100 c0n_ := con_ok xok0n_ 8 fn0n_ true [(.ptr (.pair tN (.pair tU (.pair tN tN))))] [.bool] _ (by decide) (fun x => by rw [mont_Ring_given_eq]; exact e0n_ x.1)
noncomputable def c0o_ : Con := conV true [(.ptr (.pair tN (.pair tU (.pair tN tN)))), tN] [tN] fun x => mont_Ring_low x.1 x.2.1
noncomputable def x0o_ : Cx := { ti := ti, con := [(101, c0a_), (97, c0g_)], fns := [], un := 6 }
theorem xok0o_ : CxOk Tryz.prog x0o_ := CxOk.of mixed ti_ok (fc ⟨con0a_, fc ⟨con0g_, fz⟩⟩) fz
theorem fn0o_ : FnOk Tryz.prog 189 Tryz.f189 [] := ⟨Tryz.func189, Tryz.call189, lps_nil⟩
theorem e0o_ (r : (Option (NI × (Int × (NI × NI))))) (a : NI) : bodyK x0o_ [] (denF x0o_ 8) Tryz.f189 (domV [(.ptr (.pair tN (.pair tU (.pair tN tN)))), tN] (r, a, ())) [] 0 (kOut [tN]) = mont_Ring_low' r a := by cases r <;> kernel_rfl
theorem con0o_ : ConOk Tryz.prog 189 c0o_ := con_ok xok0o_ 8 fn0o_ true [(.ptr (.pair tN (.pair tU (.pair tN tN)))), tN] [tN] _ (by decide) (fun x => by rw [mont_Ring_low_eq]; exact e0o_ x.1 x.2.1)
noncomputable def c0p_ : Con := conV true [(.arr 6 tU), tU, tN] [(.arr 6 tU)] fun x => mont_adds x.1 x.2.1 x.2.2.1
noncomputable def x0p_ : Cx := { ti := ti, con := [(170, c04_), (171, c_add64)], fns := [], un := 6 }
theorem xok0p_ : CxOk Tryz.prog x0p_ := CxOk.of mixed ti_ok (fc ⟨con04_, fc ⟨con_add64, fz⟩⟩) fz
theorem fn0p_ : FnOk Tryz.prog 176 Tryz.f176 [] := ⟨Tryz.func176, Tryz.call176, lps_nil⟩
theorem e0p_ (t : NI) (x : Int) (b : NI) : bodyK x0p_ [] (denF x0p_ 8) Tryz.f176 (domV [(.arr 6 tU), tU, tN] (t, x, b, ())) [] 0 (kOut [(.arr 6 tU)]) = mont_adds' t x b := by kernel_rfl
theorem con0p_ : ConOk Tryz.prog 176 c0p_ := con_ok xok0p_ 8 fn0p_ true [(.arr 6 tU), tU, tN] [(.arr 6 tU)] _ (by decide) (fun x => by rw [mont_adds_eq]; exact e0p_ x.1 x.2.1 x.2.2.1)
noncomputable def c0q_ : Con := conV true [(.ptr (.pair tN (.pair tU (.pair tN tN)))), tN, tN] [tN] fun x => mont_Ring_redc x.1 x.2.1 x.2.2.1
noncomputable def x0q_ : Cx := { ti := ti, con := [(176, c0p_), (141, c09_), (101, c0a_)], fns := [], un := 6 }
theorem xok0q_ : CxOk Tryz.prog x0q_ := CxOk.of mixed ti_ok (fc ⟨con0p_, fc ⟨con09_, fc ⟨con0a_, fz⟩⟩⟩) fz
theorem fn0q_ : FnOk Tryz.prog 151 Tryz.f151 [] := ⟨Tryz.func151, Tryz.call151, lps_nil⟩
theorem e0q_ (r : (Option (NI × (Int × (NI × NI))))) (a : NI) (b : NI) : bodyK x0q_ [] (denF x0q_ 8) Tryz.f151 (domV [(.ptr (.pair tN (.pair tU (.pair tN tN)))), tN, tN] (r, a, b, ())) [] 0 (kOut [tN]) = mont_Ring_redc' r a b := by cases r <;> kernel_rfl
theorem con0q_ : ConOk Tryz.prog 151 c0q_ := con_ok xok0q_ 8 fn0q_ true [(.ptr (.pair tN (.pair tU (.pair tN tN)))), tN, tN] [tN] _ (by decide) (fun x => by rw [mont_Ring_redc_eq]; exact e0q_ x.1 x.2.1 x.2.2.1)
noncomputable def c0r_ : Con := conV true [(.ptr (.pair tN (.pair tU (.pair tN tN)))), tN] [tN] fun x => mont_Ring_Form x.1 x.2.1
noncomputable def x0r_ : Cx := { ti := ti, con := [(100, c0n_), (189, c0o_), (151, c0q_)], fns := [], un := 6 }
theorem xok0r_ : CxOk Tryz.prog x0r_ := CxOk.of mixed ti_ok (fc ⟨con0n_, fc ⟨con0o_, fc ⟨con0q_, fz⟩⟩⟩) fz
theorem fn0r_ : FnOk Tryz.prog 175 Tryz.f175 [] := ⟨Tryz.func175, Tryz.call175, lps_nil⟩
theorem e0r_ (r : (Option (NI × (Int × (NI × NI))))) (a : NI) : bodyK x0r_ [] (denF x0r_ 8) Tryz.f175 (domV [(.ptr (.pair tN (.pair tU (.pair tN tN)))), tN] (r, a, ())) [] 0 (kOut [tN]) = mont_Ring_Form' r a := by cases r <;> kernel_rfl
theorem con0r_ : ConOk Tryz.prog 175 c0r_ := con_ok xok0r_ 8 fn0r_ true [(.ptr (.pair tN (.pair tU (.pair tN tN)))), tN] [tN] _ (by decide) (fun x => by rw [mont_Ring_Form_eq]; exact e0r_ x.1 x.2.1)
abbrev S0s_0 : Shape := { sl := [(0, (.pz (.pair tN (.pair tU (.pair tN tN))))), (pc 4 (.arr 16 tN) 1), (pc 5 (.arr 16 tN) 2), (pc 6 tN 3), (pv 7 tI)], ob := [(pv 1 (.arr 16 tN)), (pv 2 (.arr 16 tN)), (pv 3 tN)], lo := 4, nx := 4 }
abbrev E0s_0 : List Ex := [(.normal, { sl := [(pc 4 (.arr 16 tN) 1), (pc 5 (.arr 16 tN) 2)], ob := [(pv 1 (.arr 16 tN)), (pv 2 (.arr 16 tN))], lo := 4, nx := 4 })]
noncomputable def L0s_0 : Code := loopIn (bodyOf Tryz.f147) 0
noncomputable def P0s_0 : Lp := lpOf S0s_0 E0s_0 30 R_mont_Ring_powers_0
noncomputable def c0s_ : Con := conV true [(.ptr (.pair tN (.pair tU (.pair tN tN)))), tN] [(.arr 16 tN)] fun x => mont_Ring_powers x.1 x.2.1
noncomputable def x0s_ : Cx := { ti := ti, con := [(175, c0r_), (151, c0q_)], fns := [], un := 6 }
theorem xok0s_ : CxOk Tryz.prog x0s_ := CxOk.of mixed ti_ok (fc ⟨con0r_, fc ⟨con0q_, fz⟩⟩) fz
theorem r0s_0 (x : S0s_0.X) : denC x0s_ [] (denF x0s_ 8) L0s_0 (S0s_0.mkS 30 x) (kRound 0 S0s_0 E0s_0) = R_mont_Ring_powers_0 x := by kernel_rfl
theorem l0s_0 : LpOk Tryz.prog 0 (.loop L0s_0) P0s_0 := lpOf_ok xok0s_ 8 (lps_nil) S0s_0 E0s_0 30 R_mont_Ring_powers_0 (by decide) r0s_0
theorem fn0s_ : FnOk Tryz.prog 147 Tryz.f147 [(0, P0s_0)] := ⟨Tryz.func147, Tryz.call147, lps_of (by kernel_rfl) (lps_one l0s_0 (by kernel_rfl) fz)⟩
theorem e0s_ (r : (Option (NI × (Int × (NI × NI))))) (a : NI) : bodyK x0s_ [(0, P0s_0)] (denF x0s_ 8) Tryz.f147 (domV [(.ptr (.pair tN (.pair tU (.pair tN tN)))), tN] (r, a, ())) [] 0 (kOut [(.arr 16 tN)]) = mont_Ring_powers' r a := by cases r <;> kernel_rfl
theorem con0s_ : ConOk Tryz.prog 147 c0s_ := con_ok xok0s_ 8 fn0s_ true [(.ptr (.pair tN (.pair tU (.pair tN tN)))), tN] [(.arr 16 tN)] _ (by decide) (fun x => by rw [mont_Ring_powers_eq]; exact e0s_ x.1 x.2.1)
noncomputable def c0t_ : Con := conV true [tN, tI] [tI] fun x => mont_Ring_Prod_1 x.1 x.2.1
noncomputable def x0t_ : Cx := { ti := ti, con := [(149, c0c_), (150, c08_), (94, c05_)], fns := [], un := 6 }
theorem xok0t_ : CxOk Tryz.prog x0t_ := CxOk.of mixed ti_ok (fc ⟨con0c_, fc ⟨con08_, fc ⟨con05_, fz⟩⟩⟩) fz
theorem fn0t_ : FnOk Tryz.prog 148 Tryz.f148 [] := ⟨Tryz.func148, Tryz.call148, lps_nil⟩
theorem e0t_ (e : NI) (at_ : Int) : bodyK x0t_ [] (denF x0t_ 8) Tryz.f148 (domV [tN, tI] (e, at_, ())) [] 0 (kOut [tI]) = mont_Ring_Prod_1' e at_ := by kernel_rfl
theorem con0t_ : ConOk Tryz.prog 148 c0t_ := con_ok xok0t_ 8 fn0t_ true [tN, tI] [tI] _ (by decide) (fun x => by rw [mont_Ring_Prod_1_eq]; exact e0t_ x.1 x.2.1)
abbrev S0u_0 : Shape := { sl := [(0, (.pz (.pair tN (.pair tU (.pair tN tN))))), (2, (.sz tN)), (pc 6 tN 0), (8, (.w 241 (.arr 16 tN) 1)), (pv 9 tI), (33, (.sz tN)), (pv 34 tI), (pv 35 tI)], ob := [(pv 0 tN)], lo := 1, nx := 2 }
abbrev E0u_0 : List Ex := [(.normal, { sl := [(0, (.pz (.pair tN (.pair tU (.pair tN tN))))), (2, (.sz tN)), (pc 6 tN 0), (8, (.w 241 (.arr 16 tN) 2)), (pv 9 tI)], ob := [(pv 0 tN)], lo := 2, nx := 3 })]
noncomputable def L0u_0 : Code := loopIn (bodyOf Tryz.f102) 0
noncomputable def P0u_0 : Lp := lpOf S0u_0 E0u_0 98 R_mont_Ring_Prod_0
abbrev S0u_6 : Shape := { sl := [(0, (.pz (.pair tN (.pair tU (.pair tN tN))))), (2, (.sz tN)), (pc 6 tN 0), (8, (.w 241 (.arr 16 tN) 5)), (12, (.c ⟨.fn, (.mk 148 [])⟩)), (pc 13 tN 3), (pv 14 tI), (74, (.sz tN)), (pv 75 tI), (pv 76 tI)], ob := [(pv 0 tN), (pv 3 tN)], lo := 5, nx := 6 }
abbrev E0u_6 : List Ex := [(.normal, { sl := [(0, (.pz (.pair tN (.pair tU (.pair tN tN))))), (2, (.sz tN)), (pc 6 tN 0), (8, (.w 241 (.arr 16 tN) 6)), (12, (.c ⟨.fn, (.mk 148 [])⟩)), (pc 13 tN 3), (pv 14 tI)], ob := [(pv 0 tN), (pv 3 tN)], lo := 6, nx := 7 })]
noncomputable def L0u_6 : Code := loopIn (bodyOf Tryz.f102) 6
noncomputable def P0u_6 : Lp := lpOf S0u_6 E0u_6 98 R_mont_Ring_Prod_6
abbrev S0u_2 : Shape := { sl := [(0, (.pz (.pair tN (.pair tU (.pair tN tN))))), (2, (.sz tN)), (pc 6 tN 0), (8, (.w 241 (.arr 16 tN) 4)), (12, (.c ⟨.fn, (.mk 148 [])⟩)), (pc 13 tN 3), (pv 14 tI)], ob := [(pv 0 tN), (pv 3 tN)], lo := 4, nx := 5 }
abbrev E0u_2 : List Ex := [(.normal, { sl := [(0, (.pz (.pair tN (.pair tU (.pair tN tN))))), (pc 6 tN 0), (pc 13 tN 3)], ob := [(pv 0 tN), (pv 3 tN)], lo := 5, nx := 5 })]
noncomputable def L0u_2 : Code := loopIn (bodyOf Tryz.f102) 2
noncomputable def P0u_2 : Lp := lpOf S0u_2 E0u_2 98 R_mont_Ring_Prod_2
noncomputable def c0u_ : Con := conV true [(.ptr (.pair tN (.pair tU (.pair tN tN)))), (.sl tN), (.sl tN)] [tN, tI] fun x => mont_Ring_Prod x.1 x.2.1.1 x.2.1.2 x.2.2.1.1 x.2.2.1.2
noncomputable def x0u_ : Cx := { ti := ti, con := [(100, c0n_), (147, c0s_), (49, c0b_), (151, c0q_), (148, c0t_), (50, c06_)], fns := [], un := 6 }
theorem xok0u_ : CxOk Tryz.prog x0u_ := CxOk.of mixed ti_ok (fc ⟨con0n_, fc ⟨con0s_, fc ⟨con0b_, fc ⟨con0q_, fc ⟨con0t_, fc ⟨con06_, fz⟩⟩⟩⟩⟩⟩) fz
theorem r0u_0 (x : S0u_0.X) : denC x0u_ [] (denF x0u_ 8) L0u_0 (S0u_0.mkS 98 x) (kRound 0 S0u_0 E0u_0) = R_mont_Ring_Prod_0 x := by kernel_rfl
theorem l0u_0 : LpOk Tryz.prog 0 (.loop L0u_0) P0u_0 := lpOf_ok xok0u_ 8 (lps_nil) S0u_0 E0u_0 98 R_mont_Ring_Prod_0 (by decide) r0u_0
theorem r0u_6 (x : S0u_6.X) : denC x0u_ [] (denF x0u_ 8) L0u_6 (S0u_6.mkS 98 x) (kRound 6 S0u_6 E0u_6) = R_mont_Ring_Prod_6 x := by kernel_rfl
theorem l0u_6 : LpOk Tryz.prog 6 (.loop L0u_6) P0u_6 := lpOf_ok xok0u_ 8 (lps_nil) S0u_6 E0u_6 98 R_mont_Ring_Prod_6 (by decide) r0u_6
theorem r0u_2 (x : S0u_2.X) : denC x0u_ [(6, P0u_6)] (denF x0u_ 8) L0u_2 (S0u_2.mkS 98 x) (kRound 2 S0u_2 E0u_2) = R_mont_Ring_Prod_2 x := by kernel_rfl
theorem l0u_2 : LpOk Tryz.prog 2 (.loop L0u_2) P0u_2 := lpOf_ok xok0u_ 8 (lps_of (by kernel_rfl) (lps_one l0u_6 (by kernel_rfl) fz)) S0u_2 E0u_2 98 R_mont_Ring_Prod_2 (by decide) r0u_2
theorem fn0u_ : FnOk Tryz.prog 102 Tryz.f102 [(0, P0u_0), (6, P0u_6), (2, P0u_2)] := ⟨Tryz.func102, Tryz.call102, lps_of (by kernel_rfl) (lps_one l0u_0 (by kernel_rfl) (lps_one l0u_6 (by kernel_rfl) (lps_one l0u_2 (by kernel_rfl) fz)))⟩
theorem e0u_ (r : (Option (NI × (Int × (NI × NI))))) (nbases : Nat) (bases : Nat → NI) (nexps : Nat) (exps : Nat → NI) : bodyK x0u_ [(0, P0u_0), (6, P0u_6), (2, P0u_2)] (denF x0u_ 8) Tryz.f102 (domV [(.ptr (.pair tN (.pair tU (.pair tN tN)))), (.sl tN), (.sl tN)] (r, (nbases, bases), (nexps, exps), ())) [] 0 (kOut [tN, tI]) = mont_Ring_Prod' r nbases bases nexps exps := by cases r <;> kernel_rfl
theorem con0u_ : ConOk Tryz.prog 102 c0u_ := con_ok xok0u_ 8 fn0u_ true [(.ptr (.pair tN (.pair tU (.pair tN tN)))), (.sl tN), (.sl tN)] [tN, tI] _ (by decide) (fun x => by rw [mont_Ring_Prod_eq]; exact e0u_ x.1 x.2.1.1 x.2.1.2 x.2.2.1.1 x.2.2.1.2)
noncomputable def c0v_ : Con := conV true [(.ptr (.pair tN (.pair tU (.pair tN tN)))), tN, tN] [tN] fun x => mont_Ring_Exp x.1 x.2.1 x.2.2.1
noncomputable def x0v_ : Cx := { ti := ti, con := [(102, c0u_)], fns := [], un := 6 }
theorem xok0v_ : CxOk Tryz.prog x0v_ := CxOk.of mixed ti_ok (fc ⟨con0u_, fz⟩) fz
theorem fn0v_ : FnOk Tryz.prog 52 Tryz.f52 [] := ⟨Tryz.func52, Tryz.call52, lps_nil⟩
theorem e0v_ (r : (Option (NI × (Int × (NI × NI))))) (a : NI) (e : NI) : bodyK x0v_ [] (denF x0v_ 8) Tryz.f52 (domV [(.ptr (.pair tN (.pair tU (.pair tN tN)))), tN, tN] (r, a, e, ())) [] 0 (kOut [tN]) = mont_Ring_Exp' r a e := by cases r <;> kernel_rfl
theorem con0v_ : ConOk Tryz.prog 52 c0v_ := con_ok xok0v_ 8 fn0v_ true [(.ptr (.pair tN (.pair tU (.pair tN tN)))), tN, tN] [tN] _ (by decide) (fun x => by rw [mont_Ring_Exp_eq]; exact e0v_ x.1 x.2.1 x.2.2.1)
noncomputable def c0w_ : Con := conV true [(.ptr (.pair tN (.pair tU (.pair tN tN)))), tN] [.bool] fun x => mont_Ring_In x.1 x.2.1
noncomputable def x0w_ : Cx := { ti := ti, con := [(100, c0n_), (101, c0a_)], fns := [], un := 6 }
theorem xok0w_ : CxOk Tryz.prog x0w_ := CxOk.of mixed ti_ok (fc ⟨con0n_, fc ⟨con0a_, fz⟩⟩) fz
theorem fn0w_ : FnOk Tryz.prog 51 Tryz.f51 [] := ⟨Tryz.func51, Tryz.call51, lps_nil⟩
theorem e0w_ (r : (Option (NI × (Int × (NI × NI))))) (a : NI) : bodyK x0w_ [] (denF x0w_ 8) Tryz.f51 (domV [(.ptr (.pair tN (.pair tU (.pair tN tN)))), tN] (r, a, ())) [] 0 (kOut [.bool]) = mont_Ring_In' r a := by cases r <;> kernel_rfl
theorem con0w_ : ConOk Tryz.prog 51 c0w_ := con_ok xok0w_ 8 fn0w_ true [(.ptr (.pair tN (.pair tU (.pair tN tN)))), tN] [.bool] _ (by decide) (fun x => by rw [mont_Ring_In_eq]; exact e0w_ x.1 x.2.1)
end Go.Proofs.YtidodcilgldjoaaGreat

namespace Go.Proofs.YtidodcilgldjoaaGreat
abbrev S0x_0 : Shape := { sl := [(pv 0 tI), (3, (.v .bool)), (pv 11 tI), (pv 12 tI)], ob := [], lo := 0, nx := 0 }
abbrev E0x_0 : List Ex := [(.normal, { sl := [(3, (.v .bool))], ob := [], lo := 0, nx := 0 })]
noncomputable def L0x_0 : Code := loopIn (bodyOf Tryz.f95) 0
noncomputable def P0x_0 : Lp := lpOf S0x_0 E0x_0 31 R_prime_Small_0
noncomputable def c0x_ : Con := conV true [tI] [.bool] fun x => prime_Small x.1
noncomputable def x0x_ : Cx := { ti := ti, con := [], fns := [], un := 6 }
theorem xok0x_ : CxOk Tryz.prog x0x_ := CxOk.of mixed ti_ok fz fz
theorem r0x_0 (x : S0x_0.X) : denC x0x_ [] (denF x0x_ 8) L0x_0 (S0x_0.mkS 31 x) (kRound 0 S0x_0 E0x_0) = R_prime_Small_0 x := by kernel_rfl
theorem l0x_0 : LpOk Tryz.prog 0 (.loop L0x_0) P0x_0 := lpOf_ok xok0x_ 8 (lps_nil) S0x_0 E0x_0 31 R_prime_Small_0 (by decide) r0x_0
theorem fn0x_ : FnOk Tryz.prog 95 Tryz.f95 [(0, P0x_0)] := ⟨Tryz.func95, Tryz.call95, lps_of (by kernel_rfl) (lps_one l0x_0 (by kernel_rfl) fz)⟩
theorem e0x_ (n : Int) : bodyK x0x_ [(0, P0x_0)] (denF x0x_ 8) Tryz.f95 (domV [tI] (n, ())) [] 0 (kOut [.bool]) = prime_Small' n := by kernel_rfl
theorem con0x_ : ConOk Tryz.prog 95 c0x_ := con_ok xok0x_ 8 fn0x_ true [tI] [.bool] _ (by decide) (fun x => by rw [prime_Small_eq]; exact e0x_ x.1)
noncomputable def c0y_ : Con := conV true [tN, tN, tI] [.bool] fun x => prime_Step x.1 x.2.1 x.2.2.1
noncomputable def x0y_ : Cx := { ti := ti, con := [(48, c0m_), (50, c06_), (141, c09_), (142, c0j_), (143, c0h_), (101, c0a_), (52, c0v_), (144, c0k_), (145, c0l_)], fns := [], un := 6 }
theorem xok0y_ : CxOk Tryz.prog x0y_ := CxOk.of mixed ti_ok (fc ⟨con0m_, fc ⟨con06_, fc ⟨con09_, fc ⟨con0j_, fc ⟨con0h_, fc ⟨con0a_, fc ⟨con0v_, fc ⟨con0k_, fc ⟨con0l_, fz⟩⟩⟩⟩⟩⟩⟩⟩⟩) fz
theorem fn0y_ : FnOk Tryz.prog 96 Tryz.f96 [] := ⟨Tryz.func96, Tryz.call96, lps_nil⟩
theorem e0y_ (n : NI) (factor : NI) (witness : Int) : bodyK x0y_ [] (denF x0y_ 8) Tryz.f96 (domV [tN, tN, tI] (n, factor, witness, ())) [] 0 (kOut [.bool]) = prime_Step' n factor witness := by kernel_rfl
theorem con0y_ : ConOk Tryz.prog 96 c0y_ := con_ok xok0y_ 8 fn0y_ true [tN, tN, tI] [.bool] _ (by decide) (fun x => by rw [prime_Step_eq]; exact e0y_ x.1 x.2.1 x.2.2.1)
abbrev S0z_0 : Shape := { sl := [(0, (.sz (.pair tN tI))), (pv 5 tI)], ob := [], lo := 0, nx := 0 }
abbrev E0z_0 : List Ex := [(.ret, { sl := [(pv 2 tI)], ob := [], lo := 0, nx := 0 }), (.normal, { sl := [], ob := [], lo := 0, nx := 0 })]
noncomputable def L0z_0 : Code := loopIn (bodyOf Tryz.f47) 0
noncomputable def P0z_0 : Lp := lpOf S0z_0 E0z_0 60 R_prime_Check_0
noncomputable def c0z_ : Con := conV true [(.sl (.pair tN tI))] [tI] fun x => prime_Check x.1.1 x.1.2
noncomputable def x0z_ : Cx := { ti := ti, con := [(94, c05_), (95, c0x_), (96, c0y_)], fns := [], un := 6 }
theorem xok0z_ : CxOk Tryz.prog x0z_ := CxOk.of mixed ti_ok (fc ⟨con05_, fc ⟨con0x_, fc ⟨con0y_, fz⟩⟩⟩) fz
theorem r0z_0 (x : S0z_0.X) : denC x0z_ [] (denF x0z_ 8) L0z_0 (S0z_0.mkS 60 x) (kRound 0 S0z_0 E0z_0) = R_prime_Check_0 x := by kernel_rfl
theorem l0z_0 : LpOk Tryz.prog 0 (.loop L0z_0) P0z_0 := lpOf_ok xok0z_ 8 (lps_nil) S0z_0 E0z_0 60 R_prime_Check_0 (by decide) r0z_0
theorem fn0z_ : FnOk Tryz.prog 47 Tryz.f47 [(0, P0z_0)] := ⟨Tryz.func47, Tryz.call47, lps_of (by kernel_rfl) (lps_one l0z_0 (by kernel_rfl) fz)⟩
theorem e0z_ (nl : Nat) (l : Nat → (NI × Int)) : bodyK x0z_ [(0, P0z_0)] (denF x0z_ 8) Tryz.f47 (domV [(.sl (.pair tN tI))] ((nl, l), ())) [] 0 (kOut [tI]) = prime_Check' nl l := by kernel_rfl
theorem con0z_ : ConOk Tryz.prog 47 c0z_ := con_ok xok0z_ 8 fn0z_ true [(.sl (.pair tN tI))] [tI] _ (by decide) (fun x => by rw [prime_Check_eq]; exact e0z_ x.1.1 x.1.2)
end Go.Proofs.YtidodcilgldjoaaGreat

namespace Go.Proofs.YtidodcilgldjoaaGreat
noncomputable def c10_ : Con := conV false [(.pair (.sl (.pair tN tI)) tN)] [(.ptr (.pair (.pair (.ptr (.pair tN (.pair tU (.pair tN tN)))) (.ptr (.pair tN (.pair tU (.pair tN tN))))) tN)), tI] fun x => group_New x.1
noncomputable def x10_ : Cx := { ti := ti, con := [(47, c0z_), (48, c0m_), (49, c0b_), (50, c06_), (51, c0w_), (52, c0v_)], fns := [], un := 6 }
theorem xok10_ : CxOk Tryz.prog x10_ := CxOk.of mixed ti_ok (fc ⟨con0z_, fc ⟨con0m_, fc ⟨con0b_, fc ⟨con06_, fc ⟨con0w_, fc ⟨con0v_, fz⟩⟩⟩⟩⟩⟩) fz
theorem fn10_ : FnOk Tryz.prog 17 Tryz.f17 [] := ⟨Tryz.func17, Tryz.call17, lps_nil⟩
theorem e10_ (p : ((Nat × (Nat → (NI × Int))) × NI)) : bodyK x10_ [] (denF x10_ 8) Tryz.f17 (domV [(.pair (.sl (.pair tN tI)) tN)] (p, ())) [] 0 (kOut [(.ptr (.pair (.pair (.ptr (.pair tN (.pair tU (.pair tN tN)))) (.ptr (.pair tN (.pair tU (.pair tN tN))))) tN)), tI]) = group_New' p := by kernel_rfl
theorem con10_ : ConOk Tryz.prog 17 c10_ := con_ok xok10_ 8 fn10_ false [(.pair (.sl (.pair tN tI)) tN)] [(.ptr (.pair (.pair (.ptr (.pair tN (.pair tU (.pair tN tN)))) (.ptr (.pair tN (.pair tU (.pair tN tN))))) tN)), tI] _ (by decide) (fun x => by rw [group_New_eq]; exact e10_ x.1)
noncomputable def c11_ : Con := conV false [(.ptr (.pair (.pair (.ptr (.pair tN (.pair tU (.pair tN tN)))) (.ptr (.pair tN (.pair tU (.pair tN tN))))) tN))] [(.ptr (.pair tN (.pair tU (.pair tN tN))))] fun x => group_Group_Field x.1
noncomputable def x11_ : Cx := { ti := ti, con := [], fns := [], un := 6 }
theorem xok11_ : CxOk Tryz.prog x11_ := CxOk.of mixed ti_ok fz fz
theorem fn11_ : FnOk Tryz.prog 103 Tryz.f103 [] := ⟨Tryz.func103, Tryz.call103, lps_nil⟩
theorem e11_ (g : (Option (((PtrV (NI × (Int × (NI × NI)))) × (PtrV (NI × (Int × (NI × NI))))) × NI))) : bodyK x11_ [] (denF x11_ 8) Tryz.f103 (domV [(.ptr (.pair (.pair (.ptr (.pair tN (.pair tU (.pair tN tN)))) (.ptr (.pair tN (.pair tU (.pair tN tN))))) tN))] (g, ())) [] 0 (kOut [(.ptr (.pair tN (.pair tU (.pair tN tN))))]) = group_Group_Field' g := by cases g <;> kernel_rfl
theorem con11_ : ConOk Tryz.prog 103 c11_ := con_ok xok11_ 8 fn11_ false [(.ptr (.pair (.pair (.ptr (.pair tN (.pair tU (.pair tN tN)))) (.ptr (.pair tN (.pair tU (.pair tN tN))))) tN))] [(.ptr (.pair tN (.pair tU (.pair tN tN))))] _ (by decide) (fun x => by rw [group_Group_Field_eq]; exact e11_ x.1)
end Go.Proofs.YtidodcilgldjoaaGreat

namespace Go.Proofs.YtidodcilgldjoaaGreat
noncomputable def c1l_ : Con := conV false [] [(.pair (.sl (.pair tN tI)) tN)] fun x => r07_Least 
noncomputable def x1l_ : Cx := { ti := ti, con := [], fns := [], un := 6 }
theorem xok1l_ : CxOk Tryz.prog x1l_ := CxOk.of mixed ti_ok fz fz
theorem fn1l_ : FnOk Tryz.prog 24 Tryz.f24 [] := ⟨Tryz.func24, Tryz.call24, lps_nil⟩
theorem e1l_  : bodyK x1l_ [] (denF x1l_ 8) Tryz.f24 (domV [] (())) [] 0 (kOut [(.pair (.sl (.pair tN tI)) tN)]) = r07_Least'  := by kernel_rfl
theorem con1l_ : ConOk Tryz.prog 24 c1l_ := con_ok xok1l_ 8 fn1l_ false [] [(.pair (.sl (.pair tN tI)) tN)] _ (by decide) (fun x => by rw [r07_Least_eq]; exact e1l_ )
end Go.Proofs.YtidodcilgldjoaaGreat

namespace Go.Proofs.YtidodcilgldjoaaGreat
abbrev S1m_0 : Shape := { sl := [(0, (.sz tN)), (1, (.sz tN)), (pv 5 tI)], ob := [], lo := 0, nx := 0 }
abbrev E1m_0 : List Ex := [(.ret, { sl := [(4, (.v .bool))], ob := [], lo := 0, nx := 0 }), (.normal, { sl := [], ob := [], lo := 0, nx := 0 })]
noncomputable def L1m_0 : Code := loopIn (bodyOf Tryz.f140) 0
noncomputable def P1m_0 : Lp := lpOf S1m_0 E1m_0 26 R_r08_Same_0
noncomputable def c1m_ : Con := conV true [(.sl tN), (.sl tN)] [.bool] fun x => r08_Same x.1.1 x.1.2 x.2.1.1 x.2.1.2
noncomputable def x1m_ : Cx := { ti := ti, con := [], fns := [], un := 6 }
theorem xok1m_ : CxOk Tryz.prog x1m_ := CxOk.of mixed ti_ok fz fz
theorem r1m_0 (x : S1m_0.X) : denC x1m_ [] (denF x1m_ 8) L1m_0 (S1m_0.mkS 26 x) (kRound 0 S1m_0 E1m_0) = R_r08_Same_0 x := by kernel_rfl
theorem l1m_0 : LpOk Tryz.prog 0 (.loop L1m_0) P1m_0 := lpOf_ok xok1m_ 8 (lps_nil) S1m_0 E1m_0 26 R_r08_Same_0 (by decide) r1m_0
theorem fn1m_ : FnOk Tryz.prog 140 Tryz.f140 [(0, P1m_0)] := ⟨Tryz.func140, Tryz.call140, lps_of (by kernel_rfl) (lps_one l1m_0 (by kernel_rfl) fz)⟩
theorem e1m_ (na : Nat) (a : Nat → NI) (nb : Nat) (b : Nat → NI) : bodyK x1m_ [(0, P1m_0)] (denF x1m_ 8) Tryz.f140 (domV [(.sl tN), (.sl tN)] ((na, a), (nb, b), ())) [] 0 (kOut [.bool]) = r08_Same' na a nb b := by kernel_rfl
theorem con1m_ : ConOk Tryz.prog 140 c1m_ := con_ok xok1m_ 8 fn1m_ true [(.sl tN), (.sl tN)] [.bool] _ (by decide) (fun x => by rw [r08_Same_eq]; exact e1m_ x.1.1 x.1.2 x.2.1.1 x.2.1.2)
end Go.Proofs.YtidodcilgldjoaaGreat
