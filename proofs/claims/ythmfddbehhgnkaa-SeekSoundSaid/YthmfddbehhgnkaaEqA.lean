/-
  The functions of the program are the plain ones.
-/
import Derived.Test.YthmfddbehhgnkaaProg
import Derived.Test.YthmfddbehhgnkaaDenD
import Derived.KernelRfl
import Derived.Test.YthmfddbehhgnkaaPlA
set_option linter.unusedVariables false
set_option linter.unusedSimpArgs false
set_option maxRecDepth 100000
set_option maxHeartbeats 0
namespace Go.Pl
end Go.Pl
open Go Go.Den Go.Pl
namespace Go.Proofs.Ythmfddbehhgnkaa
noncomputable def ti : List (Nat × TI) := [
  (3, ⟨(TypeDesc.int IntKind.i64), (.int .i64), 8⟩),
  (4, ⟨TypeDesc.bool, .bool, 1⟩),
  (5, ⟨(TypeDesc.int IntKind.u8), (.int .u8), 1⟩),
  (9, ⟨TypeDesc.string, .str, 16⟩),
  (22, ⟨(TypeDesc.array 2 5), (.arr 2 (.int .u8)), 2⟩),
  (24, ⟨(TypeDesc.slice 44), (.sl (.pair (.arr 4 (.int .u64)) (.int .i64))), 24⟩),
  (25, ⟨(TypeDesc.int IntKind.u64), (.int .u64), 8⟩),
  (27, ⟨(TypeDesc.array 4 25), (.arr 4 (.int .u64)), 32⟩),
  (29, ⟨(TypeDesc.struct #[{ name := "Chain", type := 24, offset := 0, embedded := false, tag := "", pkgPath := "", byteOffset := 0 }, { name := "G", type := 27, offset := 1, embedded := false, tag := "", pkgPath := "", byteOffset := 24 }]), (.pair (.sl (.pair (.arr 4 (.int .u64)) (.int .i64))) (.arr 4 (.int .u64))), 56⟩),
  (30, ⟨(TypeDesc.int IntKind.i64), (.int .i64), 8⟩),
  (33, ⟨(TypeDesc.slice 3), (.sl (.int .i64)), 24⟩),
  (34, ⟨(TypeDesc.pointer 65), (.ptr (.pair (.pair (.ptr (.pair (.arr 4 (.int .u64)) (.pair (.int .u64) (.pair (.arr 4 (.int .u64)) (.arr 4 (.int .u64)))))) (.ptr (.pair (.arr 4 (.int .u64)) (.pair (.int .u64) (.pair (.arr 4 (.int .u64)) (.arr 4 (.int .u64))))))) (.arr 4 (.int .u64)))), 8⟩),
  (44, ⟨(TypeDesc.struct #[{ name := "N", type := 27, offset := 0, embedded := false, tag := "", pkgPath := "", byteOffset := 0 }, { name := "A", type := 3, offset := 4, embedded := false, tag := "", pkgPath := "", byteOffset := 32 }]), (.pair (.arr 4 (.int .u64)) (.int .i64)), 40⟩),
  (51, ⟨(TypeDesc.pointer 87), (.ptr (.pair .str (.pair .str (.int .i64)))), 8⟩),
  (57, ⟨(TypeDesc.pointer 92), (.ptr (.pair (.arr 4 (.int .u64)) (.pair (.int .u64) (.pair (.arr 4 (.int .u64)) (.arr 4 (.int .u64)))))), 8⟩),
  (63, ⟨(TypeDesc.struct #[{ name := "ring", type := 57, offset := 0, embedded := false, tag := "", pkgPath := "sacristy/group", byteOffset := 0 }, { name := "field", type := 57, offset := 1, embedded := false, tag := "", pkgPath := "sacristy/group", byteOffset := 8 }]), (.pair (.ptr (.pair (.arr 4 (.int .u64)) (.pair (.int .u64) (.pair (.arr 4 (.int .u64)) (.arr 4 (.int .u64)))))) (.ptr (.pair (.arr 4 (.int .u64)) (.pair (.int .u64) (.pair (.arr 4 (.int .u64)) (.arr 4 (.int .u64))))))), 16⟩),
  (65, ⟨(TypeDesc.struct #[{ name := "rings", type := 63, offset := 0, embedded := true, tag := "", pkgPath := "sacristy/group", byteOffset := 0 }, { name := "g", type := 27, offset := 2, embedded := false, tag := "", pkgPath := "sacristy/group", byteOffset := 16 }]), (.pair (.pair (.ptr (.pair (.arr 4 (.int .u64)) (.pair (.int .u64) (.pair (.arr 4 (.int .u64)) (.arr 4 (.int .u64)))))) (.ptr (.pair (.arr 4 (.int .u64)) (.pair (.int .u64) (.pair (.arr 4 (.int .u64)) (.arr 4 (.int .u64))))))) (.arr 4 (.int .u64))), 48⟩),
  (67, ⟨(TypeDesc.array 256 4), (.arr 256 .bool), 256⟩),
  (87, ⟨(TypeDesc.struct #[{ name := "k", type := 9, offset := 0, embedded := false, tag := "", pkgPath := "sacristy/drbg", byteOffset := 0 }, { name := "v", type := 9, offset := 1, embedded := false, tag := "", pkgPath := "sacristy/drbg", byteOffset := 16 }, { name := "told", type := 3, offset := 2, embedded := false, tag := "", pkgPath := "sacristy/drbg", byteOffset := 32 }]), (.pair .str (.pair .str (.int .i64))), 40⟩),
  (92, ⟨(TypeDesc.struct #[{ name := "m", type := 27, offset := 0, embedded := false, tag := "", pkgPath := "sacristy/mont", byteOffset := 0 }, { name := "inv", type := 25, offset := 4, embedded := false, tag := "", pkgPath := "sacristy/mont", byteOffset := 32 }, { name := "one", type := 27, offset := 5, embedded := false, tag := "", pkgPath := "sacristy/mont", byteOffset := 40 }, { name := "square", type := 27, offset := 9, embedded := false, tag := "", pkgPath := "sacristy/mont", byteOffset := 72 }]), (.pair (.arr 4 (.int .u64)) (.pair (.int .u64) (.pair (.arr 4 (.int .u64)) (.arr 4 (.int .u64))))), 104⟩),
  (95, ⟨(TypeDesc.slice 27), (.sl (.arr 4 (.int .u64))), 24⟩),
  (101, ⟨(TypeDesc.array 8 25), (.arr 8 (.int .u64)), 64⟩),
  (104, ⟨(TypeDesc.slice 25), (.sl (.int .u64)), 24⟩),
  (105, ⟨(TypeDesc.int IntKind.u64), (.int .u64), 8⟩),
  (109, ⟨(TypeDesc.pointer 112), (.sp 112), 8⟩),
  (110, ⟨(TypeDesc.slice 5), (.sl (.int .u8)), 24⟩),
  (112, ⟨(TypeDesc.struct #[{ name := "addr", type := 109, offset := 0, embedded := false, tag := "", pkgPath := "strings", byteOffset := 0 }, { name := "buf", type := 110, offset := 1, embedded := false, tag := "", pkgPath := "strings", byteOffset := 8 }]), (.pair (.sp 112) (.sl (.int .u8))), 32⟩),
  (123, ⟨(TypeDesc.slice 124), (.sl (.arr 16 (.arr 4 (.int .u64)))), 24⟩),
  (124, ⟨(TypeDesc.array 16 27), (.arr 16 (.arr 4 (.int .u64))), 512⟩),
  (128, ⟨(TypeDesc.int IntKind.u32), (.int .u32), 4⟩),
  (131, ⟨(TypeDesc.pointer 5), (.ptr (.int .u8)), 8⟩),
  (134, ⟨(TypeDesc.slice 9), (.sl .str), 24⟩),
  (136, ⟨(TypeDesc.array 6 25), (.arr 6 (.int .u64)), 48⟩),
  (141, ⟨(TypeDesc.pointer 147), (.ptr (.pair .bool (.pair (.arr 8 (.int .u32)) (.pair (.arr 64 (.int .u8)) (.int .i64))))), 8⟩),
  (143, ⟨(TypeDesc.array 8 128), (.arr 8 (.int .u32)), 32⟩),
  (145, ⟨(TypeDesc.array 64 5), (.arr 64 (.int .u8)), 64⟩),
  (147, ⟨(TypeDesc.struct #[{ name := "given", type := 4, offset := 0, embedded := false, tag := "", pkgPath := "sacristy/sha", byteOffset := 0 }, { name := "words", type := 143, offset := 1, embedded := false, tag := "", pkgPath := "sacristy/sha", byteOffset := 4 }, { name := "rest", type := 145, offset := 9, embedded := false, tag := "", pkgPath := "sacristy/sha", byteOffset := 36 }, { name := "n", type := 3, offset := 73, embedded := false, tag := "", pkgPath := "sacristy/sha", byteOffset := 104 }]), (.pair .bool (.pair (.arr 8 (.int .u32)) (.pair (.arr 64 (.int .u8)) (.int .i64)))), 112⟩),
  (149, ⟨(TypeDesc.array 8 5), (.arr 8 (.int .u8)), 8⟩),
  (150, ⟨(TypeDesc.array 64 128), (.arr 64 (.int .u32)), 256⟩),
  (154, ⟨(TypeDesc.slice 128), (.sl (.int .u32)), 24⟩)]
theorem ti3 : TI1 Try.prog ti (3, ⟨(TypeDesc.int IntKind.i64), (.int .i64), 8⟩) where
  under := Try.underlying3
  info := by kernel_rfl
  zero := by kernel_rfl
  shape := rfl
  head := by intro _ h; cases h
  eq := fun h => absurd h (by decide)
theorem ti4 : TI1 Try.prog ti (4, ⟨TypeDesc.bool, .bool, 1⟩) where
  under := Try.underlying4
  info := by kernel_rfl
  zero := by kernel_rfl
  shape := rfl
  head := by intro _ h; cases h
  eq := fun h => absurd h (by decide)
theorem ti5 : TI1 Try.prog ti (5, ⟨(TypeDesc.int IntKind.u8), (.int .u8), 1⟩) where
  under := Try.underlying5
  info := by kernel_rfl
  zero := by kernel_rfl
  shape := rfl
  head := by intro _ h; cases h
  eq := fun h => absurd h (by decide)
theorem ti9 : TI1 Try.prog ti (9, ⟨TypeDesc.string, .str, 16⟩) where
  under := Try.underlying9
  info := by kernel_rfl
  zero := by kernel_rfl
  shape := rfl
  head := by intro _ h; cases h
  eq := fun h => absurd h (by decide)
theorem ti22 : TI1 Try.prog ti (22, ⟨(TypeDesc.array 2 5), (.arr 2 (.int .u8)), 2⟩) where
  under := Try.underlying22
  info := by kernel_rfl
  zero := by kernel_rfl
  shape := ⟨_, rfl, rfl, by decide, by decide⟩
  head := by intro _ h; cases h
  eq := fun _ _ => ⟨by kernel_rfl, by kernel_rfl, (by intro fs h; cases h <;> decide), by decide⟩
theorem ti24 : TI1 Try.prog ti (24, ⟨(TypeDesc.slice 44), (.sl (.pair (.arr 4 (.int .u64)) (.int .i64))), 24⟩) where
  under := Try.underlying24
  info := by kernel_rfl
  zero := by kernel_rfl
  shape := ⟨_, rfl, rfl, by decide⟩
  head := by intro _ h; cases h
  eq := fun h => absurd h (by decide)
theorem ti25 : TI1 Try.prog ti (25, ⟨(TypeDesc.int IntKind.u64), (.int .u64), 8⟩) where
  under := Try.underlying25
  info := by kernel_rfl
  zero := by kernel_rfl
  shape := rfl
  head := by intro _ h; cases h
  eq := fun h => absurd h (by decide)
theorem ti27 : TI1 Try.prog ti (27, ⟨(TypeDesc.array 4 25), (.arr 4 (.int .u64)), 32⟩) where
  under := Try.underlying27
  info := by kernel_rfl
  zero := by kernel_rfl
  shape := ⟨_, rfl, rfl, by decide, by decide⟩
  head := by intro _ h; cases h
  eq := fun _ _ => ⟨by kernel_rfl, by kernel_rfl, (by intro fs h; cases h <;> decide), by decide⟩
theorem ti29 : TI1 Try.prog ti (29, ⟨(TypeDesc.struct #[{ name := "Chain", type := 24, offset := 0, embedded := false, tag := "", pkgPath := "", byteOffset := 0 }, { name := "G", type := 27, offset := 1, embedded := false, tag := "", pkgPath := "", byteOffset := 24 }]), (.pair (.sl (.pair (.arr 4 (.int .u64)) (.int .i64))) (.arr 4 (.int .u64))), 56⟩) where
  under := Try.underlying29
  info := by kernel_rfl
  zero := by kernel_rfl
  shape := ⟨rfl, ⟨rfl, by decide, ⟨_, rfl, rfl, by decide⟩, ⟨rfl, by decide, _, rfl, rfl, by decide⟩⟩⟩
  head := by intro _ h; cases h
  eq := fun _ h => absurd h (by decide)
theorem ti30 : TI1 Try.prog ti (30, ⟨(TypeDesc.int IntKind.i64), (.int .i64), 8⟩) where
  under := Try.underlying30
  info := by kernel_rfl
  zero := by kernel_rfl
  shape := rfl
  head := by intro _ h; cases h
  eq := fun h => absurd h (by decide)
theorem ti33 : TI1 Try.prog ti (33, ⟨(TypeDesc.slice 3), (.sl (.int .i64)), 24⟩) where
  under := Try.underlying33
  info := by kernel_rfl
  zero := by kernel_rfl
  shape := ⟨_, rfl, rfl, by decide⟩
  head := by intro _ h; cases h
  eq := fun h => absurd h (by decide)
theorem ti34 : TI1 Try.prog ti (34, ⟨(TypeDesc.pointer 65), (.ptr (.pair (.pair (.ptr (.pair (.arr 4 (.int .u64)) (.pair (.int .u64) (.pair (.arr 4 (.int .u64)) (.arr 4 (.int .u64)))))) (.ptr (.pair (.arr 4 (.int .u64)) (.pair (.int .u64) (.pair (.arr 4 (.int .u64)) (.arr 4 (.int .u64))))))) (.arr 4 (.int .u64)))), 8⟩) where
  under := Try.underlying34
  info := by kernel_rfl
  zero := by kernel_rfl
  shape := .inl ⟨_, rfl⟩
  head := by intro _ h; cases h
  eq := fun h => absurd h (by decide)
theorem ti44 : TI1 Try.prog ti (44, ⟨(TypeDesc.struct #[{ name := "N", type := 27, offset := 0, embedded := false, tag := "", pkgPath := "", byteOffset := 0 }, { name := "A", type := 3, offset := 4, embedded := false, tag := "", pkgPath := "", byteOffset := 32 }]), (.pair (.arr 4 (.int .u64)) (.int .i64)), 40⟩) where
  under := Try.underlying44
  info := by kernel_rfl
  zero := by kernel_rfl
  shape := ⟨rfl, ⟨rfl, by decide, ⟨_, rfl, rfl, by decide⟩, ⟨rfl, by decide, _, rfl, rfl, by decide⟩⟩⟩
  head := by intro _ h; cases h
  eq := fun _ _ => ⟨by kernel_rfl, by kernel_rfl, (by intro fs h; cases h <;> decide), by decide⟩
theorem ti51 : TI1 Try.prog ti (51, ⟨(TypeDesc.pointer 87), (.ptr (.pair .str (.pair .str (.int .i64)))), 8⟩) where
  under := Try.underlying51
  info := by kernel_rfl
  zero := by kernel_rfl
  shape := .inl ⟨_, rfl⟩
  head := by intro _ h; cases h
  eq := fun h => absurd h (by decide)
theorem ti57 : TI1 Try.prog ti (57, ⟨(TypeDesc.pointer 92), (.ptr (.pair (.arr 4 (.int .u64)) (.pair (.int .u64) (.pair (.arr 4 (.int .u64)) (.arr 4 (.int .u64)))))), 8⟩) where
  under := Try.underlying57
  info := by kernel_rfl
  zero := by kernel_rfl
  shape := .inl ⟨_, rfl⟩
  head := by intro _ h; cases h
  eq := fun h => absurd h (by decide)
theorem ti63 : TI1 Try.prog ti (63, ⟨(TypeDesc.struct #[{ name := "ring", type := 57, offset := 0, embedded := false, tag := "", pkgPath := "sacristy/group", byteOffset := 0 }, { name := "field", type := 57, offset := 1, embedded := false, tag := "", pkgPath := "sacristy/group", byteOffset := 8 }]), (.pair (.ptr (.pair (.arr 4 (.int .u64)) (.pair (.int .u64) (.pair (.arr 4 (.int .u64)) (.arr 4 (.int .u64)))))) (.ptr (.pair (.arr 4 (.int .u64)) (.pair (.int .u64) (.pair (.arr 4 (.int .u64)) (.arr 4 (.int .u64))))))), 16⟩) where
  under := Try.underlying63
  info := by kernel_rfl
  zero := by kernel_rfl
  shape := ⟨rfl, ⟨rfl, by decide, ⟨_, rfl, rfl, by decide⟩, ⟨rfl, by decide, _, rfl, rfl, by decide⟩⟩⟩
  head := by intro _ h; cases h
  eq := fun _ h => absurd h (by decide)
theorem ti65 : TI1 Try.prog ti (65, ⟨(TypeDesc.struct #[{ name := "rings", type := 63, offset := 0, embedded := true, tag := "", pkgPath := "sacristy/group", byteOffset := 0 }, { name := "g", type := 27, offset := 2, embedded := false, tag := "", pkgPath := "sacristy/group", byteOffset := 16 }]), (.pair (.pair (.ptr (.pair (.arr 4 (.int .u64)) (.pair (.int .u64) (.pair (.arr 4 (.int .u64)) (.arr 4 (.int .u64)))))) (.ptr (.pair (.arr 4 (.int .u64)) (.pair (.int .u64) (.pair (.arr 4 (.int .u64)) (.arr 4 (.int .u64))))))) (.arr 4 (.int .u64))), 48⟩) where
  under := Try.underlying65
  info := by kernel_rfl
  zero := by kernel_rfl
  shape := ⟨rfl, ⟨rfl, by decide, ⟨_, rfl, rfl, by decide⟩, ⟨rfl, by decide, _, rfl, rfl, by decide⟩⟩⟩
  head := by intro _ h; cases h
  eq := fun _ h => absurd h (by decide)
theorem ti67 : TI1 Try.prog ti (67, ⟨(TypeDesc.array 256 4), (.arr 256 .bool), 256⟩) where
  under := Try.underlying67
  info := by kernel_rfl
  zero := by kernel_rfl
  shape := ⟨_, rfl, rfl, by decide, by decide⟩
  head := by intro _ h; cases h
  eq := fun _ _ => ⟨by kernel_rfl, by kernel_rfl, (by intro fs h; cases h <;> decide), by decide⟩
theorem ti87 : TI1 Try.prog ti (87, ⟨(TypeDesc.struct #[{ name := "k", type := 9, offset := 0, embedded := false, tag := "", pkgPath := "sacristy/drbg", byteOffset := 0 }, { name := "v", type := 9, offset := 1, embedded := false, tag := "", pkgPath := "sacristy/drbg", byteOffset := 16 }, { name := "told", type := 3, offset := 2, embedded := false, tag := "", pkgPath := "sacristy/drbg", byteOffset := 32 }]), (.pair .str (.pair .str (.int .i64))), 40⟩) where
  under := Try.underlying87
  info := by kernel_rfl
  zero := by kernel_rfl
  shape := ⟨rfl, ⟨rfl, by decide, ⟨_, rfl, rfl, by decide⟩, ⟨rfl, by decide, ⟨_, rfl, rfl, by decide⟩, ⟨rfl, by decide, _, rfl, rfl, by decide⟩⟩⟩⟩
  head := by intro _ h; cases h
  eq := fun _ _ => ⟨by kernel_rfl, by kernel_rfl, (by intro fs h; cases h <;> decide), by decide⟩
theorem ti92 : TI1 Try.prog ti (92, ⟨(TypeDesc.struct #[{ name := "m", type := 27, offset := 0, embedded := false, tag := "", pkgPath := "sacristy/mont", byteOffset := 0 }, { name := "inv", type := 25, offset := 4, embedded := false, tag := "", pkgPath := "sacristy/mont", byteOffset := 32 }, { name := "one", type := 27, offset := 5, embedded := false, tag := "", pkgPath := "sacristy/mont", byteOffset := 40 }, { name := "square", type := 27, offset := 9, embedded := false, tag := "", pkgPath := "sacristy/mont", byteOffset := 72 }]), (.pair (.arr 4 (.int .u64)) (.pair (.int .u64) (.pair (.arr 4 (.int .u64)) (.arr 4 (.int .u64))))), 104⟩) where
  under := Try.underlying92
  info := by kernel_rfl
  zero := by kernel_rfl
  shape := ⟨rfl, ⟨rfl, by decide, ⟨_, rfl, rfl, by decide⟩, ⟨rfl, by decide, ⟨_, rfl, rfl, by decide⟩, ⟨rfl, by decide, ⟨_, rfl, rfl, by decide⟩, ⟨rfl, by decide, _, rfl, rfl, by decide⟩⟩⟩⟩⟩
  head := by intro _ h; cases h
  eq := fun _ _ => ⟨by kernel_rfl, by kernel_rfl, (by intro fs h; cases h <;> decide), by decide⟩
theorem ti95 : TI1 Try.prog ti (95, ⟨(TypeDesc.slice 27), (.sl (.arr 4 (.int .u64))), 24⟩) where
  under := Try.underlying95
  info := by kernel_rfl
  zero := by kernel_rfl
  shape := ⟨_, rfl, rfl, by decide⟩
  head := by intro _ h; cases h
  eq := fun h => absurd h (by decide)
theorem ti101 : TI1 Try.prog ti (101, ⟨(TypeDesc.array 8 25), (.arr 8 (.int .u64)), 64⟩) where
  under := Try.underlying101
  info := by kernel_rfl
  zero := by kernel_rfl
  shape := ⟨_, rfl, rfl, by decide, by decide⟩
  head := by intro _ h; cases h
  eq := fun _ _ => ⟨by kernel_rfl, by kernel_rfl, (by intro fs h; cases h <;> decide), by decide⟩
theorem ti104 : TI1 Try.prog ti (104, ⟨(TypeDesc.slice 25), (.sl (.int .u64)), 24⟩) where
  under := Try.underlying104
  info := by kernel_rfl
  zero := by kernel_rfl
  shape := ⟨_, rfl, rfl, by decide⟩
  head := by intro _ h; cases h
  eq := fun h => absurd h (by decide)
theorem ti105 : TI1 Try.prog ti (105, ⟨(TypeDesc.int IntKind.u64), (.int .u64), 8⟩) where
  under := Try.underlying105
  info := by kernel_rfl
  zero := by kernel_rfl
  shape := rfl
  head := by intro _ h; cases h
  eq := fun h => absurd h (by decide)
theorem ti109 : TI1 Try.prog ti (109, ⟨(TypeDesc.pointer 112), (.sp 112), 8⟩) where
  under := Try.underlying109
  info := by kernel_rfl
  zero := by kernel_rfl
  shape := .inr ⟨_, rfl⟩
  head := by intro _ h; cases h
  eq := fun h => absurd h (by decide)
theorem ti110 : TI1 Try.prog ti (110, ⟨(TypeDesc.slice 5), (.sl (.int .u8)), 24⟩) where
  under := Try.underlying110
  info := by kernel_rfl
  zero := by kernel_rfl
  shape := ⟨_, rfl, rfl, by decide⟩
  head := by intro _ h; cases h
  eq := fun h => absurd h (by decide)
theorem ti112 : TI1 Try.prog ti (112, ⟨(TypeDesc.struct #[{ name := "addr", type := 109, offset := 0, embedded := false, tag := "", pkgPath := "strings", byteOffset := 0 }, { name := "buf", type := 110, offset := 1, embedded := false, tag := "", pkgPath := "strings", byteOffset := 8 }]), (.pair (.sp 112) (.sl (.int .u8))), 32⟩) where
  under := Try.underlying112
  info := by kernel_rfl
  zero := by kernel_rfl
  shape := ⟨rfl, ⟨rfl, by decide, ⟨_, rfl, rfl, by decide⟩, ⟨rfl, by decide, _, rfl, rfl, by decide⟩⟩⟩
  head := by intro _ h; cases h; rfl
  eq := fun _ h => absurd h (by decide)
theorem ti123 : TI1 Try.prog ti (123, ⟨(TypeDesc.slice 124), (.sl (.arr 16 (.arr 4 (.int .u64)))), 24⟩) where
  under := Try.underlying123
  info := by kernel_rfl
  zero := by kernel_rfl
  shape := ⟨_, rfl, rfl, by decide⟩
  head := by intro _ h; cases h
  eq := fun h => absurd h (by decide)
theorem ti124 : TI1 Try.prog ti (124, ⟨(TypeDesc.array 16 27), (.arr 16 (.arr 4 (.int .u64))), 512⟩) where
  under := Try.underlying124
  info := by kernel_rfl
  zero := by kernel_rfl
  shape := ⟨_, rfl, rfl, by decide, by decide⟩
  head := by intro _ h; cases h
  eq := fun _ _ => ⟨by kernel_rfl, by kernel_rfl, (by intro fs h; cases h <;> decide), by decide⟩
theorem ti128 : TI1 Try.prog ti (128, ⟨(TypeDesc.int IntKind.u32), (.int .u32), 4⟩) where
  under := Try.underlying128
  info := by kernel_rfl
  zero := by kernel_rfl
  shape := rfl
  head := by intro _ h; cases h
  eq := fun h => absurd h (by decide)
theorem ti131 : TI1 Try.prog ti (131, ⟨(TypeDesc.pointer 5), (.ptr (.int .u8)), 8⟩) where
  under := Try.underlying131
  info := by kernel_rfl
  zero := by kernel_rfl
  shape := .inl ⟨_, rfl⟩
  head := by intro _ h; cases h
  eq := fun h => absurd h (by decide)
theorem ti134 : TI1 Try.prog ti (134, ⟨(TypeDesc.slice 9), (.sl .str), 24⟩) where
  under := Try.underlying134
  info := by kernel_rfl
  zero := by kernel_rfl
  shape := ⟨_, rfl, rfl, by decide⟩
  head := by intro _ h; cases h
  eq := fun h => absurd h (by decide)
theorem ti136 : TI1 Try.prog ti (136, ⟨(TypeDesc.array 6 25), (.arr 6 (.int .u64)), 48⟩) where
  under := Try.underlying136
  info := by kernel_rfl
  zero := by kernel_rfl
  shape := ⟨_, rfl, rfl, by decide, by decide⟩
  head := by intro _ h; cases h
  eq := fun _ _ => ⟨by kernel_rfl, by kernel_rfl, (by intro fs h; cases h <;> decide), by decide⟩
theorem ti141 : TI1 Try.prog ti (141, ⟨(TypeDesc.pointer 147), (.ptr (.pair .bool (.pair (.arr 8 (.int .u32)) (.pair (.arr 64 (.int .u8)) (.int .i64))))), 8⟩) where
  under := Try.underlying141
  info := by kernel_rfl
  zero := by kernel_rfl
  shape := .inl ⟨_, rfl⟩
  head := by intro _ h; cases h
  eq := fun h => absurd h (by decide)
theorem ti143 : TI1 Try.prog ti (143, ⟨(TypeDesc.array 8 128), (.arr 8 (.int .u32)), 32⟩) where
  under := Try.underlying143
  info := by kernel_rfl
  zero := by kernel_rfl
  shape := ⟨_, rfl, rfl, by decide, by decide⟩
  head := by intro _ h; cases h
  eq := fun _ _ => ⟨by kernel_rfl, by kernel_rfl, (by intro fs h; cases h <;> decide), by decide⟩
theorem ti145 : TI1 Try.prog ti (145, ⟨(TypeDesc.array 64 5), (.arr 64 (.int .u8)), 64⟩) where
  under := Try.underlying145
  info := by kernel_rfl
  zero := by kernel_rfl
  shape := ⟨_, rfl, rfl, by decide, by decide⟩
  head := by intro _ h; cases h
  eq := fun _ _ => ⟨by kernel_rfl, by kernel_rfl, (by intro fs h; cases h <;> decide), by decide⟩
theorem ti147 : TI1 Try.prog ti (147, ⟨(TypeDesc.struct #[{ name := "given", type := 4, offset := 0, embedded := false, tag := "", pkgPath := "sacristy/sha", byteOffset := 0 }, { name := "words", type := 143, offset := 1, embedded := false, tag := "", pkgPath := "sacristy/sha", byteOffset := 4 }, { name := "rest", type := 145, offset := 9, embedded := false, tag := "", pkgPath := "sacristy/sha", byteOffset := 36 }, { name := "n", type := 3, offset := 73, embedded := false, tag := "", pkgPath := "sacristy/sha", byteOffset := 104 }]), (.pair .bool (.pair (.arr 8 (.int .u32)) (.pair (.arr 64 (.int .u8)) (.int .i64)))), 112⟩) where
  under := Try.underlying147
  info := by kernel_rfl
  zero := by kernel_rfl
  shape := ⟨rfl, ⟨rfl, by decide, ⟨_, rfl, rfl, by decide⟩, ⟨rfl, by decide, ⟨_, rfl, rfl, by decide⟩, ⟨rfl, by decide, ⟨_, rfl, rfl, by decide⟩, ⟨rfl, by decide, _, rfl, rfl, by decide⟩⟩⟩⟩⟩
  head := by intro _ h; cases h
  eq := fun _ _ => ⟨by kernel_rfl, by kernel_rfl, (by intro fs h; cases h <;> decide), by decide⟩
theorem ti149 : TI1 Try.prog ti (149, ⟨(TypeDesc.array 8 5), (.arr 8 (.int .u8)), 8⟩) where
  under := Try.underlying149
  info := by kernel_rfl
  zero := by kernel_rfl
  shape := ⟨_, rfl, rfl, by decide, by decide⟩
  head := by intro _ h; cases h
  eq := fun _ _ => ⟨by kernel_rfl, by kernel_rfl, (by intro fs h; cases h <;> decide), by decide⟩
theorem ti150 : TI1 Try.prog ti (150, ⟨(TypeDesc.array 64 128), (.arr 64 (.int .u32)), 256⟩) where
  under := Try.underlying150
  info := by kernel_rfl
  zero := by kernel_rfl
  shape := ⟨_, rfl, rfl, by decide, by decide⟩
  head := by intro _ h; cases h
  eq := fun _ _ => ⟨by kernel_rfl, by kernel_rfl, (by intro fs h; cases h <;> decide), by decide⟩
theorem ti154 : TI1 Try.prog ti (154, ⟨(TypeDesc.slice 128), (.sl (.int .u32)), 24⟩) where
  under := Try.underlying154
  info := by kernel_rfl
  zero := by kernel_rfl
  shape := ⟨_, rfl, rfl, by decide⟩
  head := by intro _ h; cases h
  eq := fun h => absurd h (by decide)
theorem ti_ok : TIok Try.prog ti := TIok.of (List.forall_mem_cons.2 ⟨ti3, List.forall_mem_cons.2 ⟨ti4, List.forall_mem_cons.2 ⟨ti5, List.forall_mem_cons.2 ⟨ti9, List.forall_mem_cons.2 ⟨ti22, List.forall_mem_cons.2 ⟨ti24, List.forall_mem_cons.2 ⟨ti25, List.forall_mem_cons.2 ⟨ti27, List.forall_mem_cons.2 ⟨ti29, List.forall_mem_cons.2 ⟨ti30, List.forall_mem_cons.2 ⟨ti33, List.forall_mem_cons.2 ⟨ti34, List.forall_mem_cons.2 ⟨ti44, List.forall_mem_cons.2 ⟨ti51, List.forall_mem_cons.2 ⟨ti57, List.forall_mem_cons.2 ⟨ti63, List.forall_mem_cons.2 ⟨ti65, List.forall_mem_cons.2 ⟨ti67, List.forall_mem_cons.2 ⟨ti87, List.forall_mem_cons.2 ⟨ti92, List.forall_mem_cons.2 ⟨ti95, List.forall_mem_cons.2 ⟨ti101, List.forall_mem_cons.2 ⟨ti104, List.forall_mem_cons.2 ⟨ti105, List.forall_mem_cons.2 ⟨ti109, List.forall_mem_cons.2 ⟨ti110, List.forall_mem_cons.2 ⟨ti112, List.forall_mem_cons.2 ⟨ti123, List.forall_mem_cons.2 ⟨ti124, List.forall_mem_cons.2 ⟨ti128, List.forall_mem_cons.2 ⟨ti131, List.forall_mem_cons.2 ⟨ti134, List.forall_mem_cons.2 ⟨ti136, List.forall_mem_cons.2 ⟨ti141, List.forall_mem_cons.2 ⟨ti143, List.forall_mem_cons.2 ⟨ti145, List.forall_mem_cons.2 ⟨ti147, List.forall_mem_cons.2 ⟨ti149, List.forall_mem_cons.2 ⟨ti150, List.forall_mem_cons.2 ⟨ti154, List.forall_mem_nil _⟩⟩⟩⟩⟩⟩⟩⟩⟩⟩⟩⟩⟩⟩⟩⟩⟩⟩⟩⟩⟩⟩⟩⟩⟩⟩⟩⟩⟩⟩⟩⟩⟩⟩⟩⟩⟩⟩⟩⟩)
theorem mixed : Try.prog.follows .mixedOrders = true := by kernel_rfl
noncomputable def c_add64 : Con := conV false [u64, u64, u64] [u64, u64] fun x => add64 x.1 x.2.1 x.2.2.1
theorem con_add64 : ConOk Try.prog 52 c_add64 := add64_ok Try.func52 (by kernel_rfl) (by kernel_rfl) (by kernel_rfl) (by kernel_rfl)
noncomputable def c_sub64 : Con := conV false [u64, u64, u64] [u64, u64] fun x => sub64 x.1 x.2.1 x.2.2.1
theorem con_sub64 : ConOk Try.prog 57 c_sub64 := sub64_ok Try.func57 (by kernel_rfl) (by kernel_rfl) (by kernel_rfl) (by kernel_rfl)



end Go.Proofs.Ythmfddbehhgnkaa

set_option linter.unusedVariables false
set_option linter.unusedSimpArgs false
set_option maxRecDepth 100000
set_option maxHeartbeats 0
namespace Go.Pl
end Go.Pl
open Go Go.Den Go.Pl
namespace Go.Proofs.Ythmfddbehhgnkaa
noncomputable def c_bits_Len64 : Con := conV true [(.int .u64)] [(.int .i64)] fun x => bits_Len64 x.1
noncomputable def x_bits_Len64 : Cx := { ti := ti, con := [], fns := [], un := 6 }
theorem xok_bits_Len64 : CxOk Try.prog x_bits_Len64 := CxOk.of mixed ti_ok (List.forall_mem_nil _) (List.forall_mem_nil _)
theorem fn_bits_Len64 : FnOk Try.prog 49 Try.f49 [] := ⟨Try.func49, Try.call49, lps_nil⟩
theorem e_bits_Len64 (x : Int) : bodyK x_bits_Len64 [] (denF x_bits_Len64 8) Try.f49 (domV [(.int .u64)] (x, ())) [] 0 (kOut [(.int .i64)]) = bits_Len64' x := by kernel_rfl
theorem con_bits_Len64 : ConOk Try.prog 49 c_bits_Len64 := con_ok xok_bits_Len64 8 fn_bits_Len64 true [(.int .u64)] [(.int .i64)] _ (by decide) (fun x => by rw [bits_Len64_eq]; exact e_bits_Len64 x.1)
noncomputable def c_bits_LeadingZeros64 : Con := conV true [(.int .u64)] [(.int .i64)] fun x => bits_LeadingZeros64 x.1
noncomputable def x_bits_LeadingZeros64 : Cx := { ti := ti, con := [(49, c_bits_Len64)], fns := [], un := 6 }
theorem xok_bits_LeadingZeros64 : CxOk Try.prog x_bits_LeadingZeros64 := CxOk.of mixed ti_ok (List.forall_mem_cons.2 ⟨con_bits_Len64, List.forall_mem_nil _⟩) (List.forall_mem_nil _)
theorem fn_bits_LeadingZeros64 : FnOk Try.prog 92 Try.f92 [] := ⟨Try.func92, Try.call92, lps_nil⟩
theorem e_bits_LeadingZeros64 (x : Int) : bodyK x_bits_LeadingZeros64 [] (denF x_bits_LeadingZeros64 8) Try.f92 (domV [(.int .u64)] (x, ())) [] 0 (kOut [(.int .i64)]) = bits_LeadingZeros64' x := by kernel_rfl
theorem con_bits_LeadingZeros64 : ConOk Try.prog 92 c_bits_LeadingZeros64 := con_ok xok_bits_LeadingZeros64 8 fn_bits_LeadingZeros64 true [(.int .u64)] [(.int .i64)] _ (by decide) (fun x => by rw [bits_LeadingZeros64_eq]; exact e_bits_LeadingZeros64 x.1)
abbrev S_bits_Div64_0 : Shape := { sl := [(2, (.v (.int .u64))), (8, (.v (.int .u64))), (9, (.v (.int .u64))), (10, (.v (.int .u64))), (11, (.v (.int .u64))), (13, (.v (.int .u64))), (14, (.v (.int .u64))), (15, (.v (.int .u64))), (16, (.v (.int .u64)))], ob := [], lo := 0, nx := 0 }
abbrev E_bits_Div64_0 : List Ex := [(.normal, { sl := [(2, (.v (.int .u64))), (8, (.v (.int .u64))), (9, (.v (.int .u64))), (10, (.v (.int .u64))), (11, (.v (.int .u64))), (13, (.v (.int .u64))), (14, (.v (.int .u64))), (15, (.v (.int .u64)))], ob := [], lo := 0, nx := 0 })]
noncomputable def L_bits_Div64_0 : Code := loopIn (bodyOf Try.f85) 0
noncomputable def P_bits_Div64_0 : Lp := lpOf S_bits_Div64_0 E_bits_Div64_0 135 R_bits_Div64_0
abbrev S_bits_Div64_2 : Shape := { sl := [(2, (.v (.int .u64))), (8, (.v (.int .u64))), (9, (.v (.int .u64))), (10, (.v (.int .u64))), (14, (.v (.int .u64))), (15, (.v (.int .u64))), (16, (.v (.int .u64))), (17, (.v (.int .u64))), (18, (.v (.int .u64)))], ob := [], lo := 0, nx := 0 }
abbrev E_bits_Div64_2 : List Ex := [(.normal, { sl := [(2, (.v (.int .u64))), (8, (.v (.int .u64))), (14, (.v (.int .u64))), (15, (.v (.int .u64))), (17, (.v (.int .u64))), (18, (.v (.int .u64)))], ob := [], lo := 0, nx := 0 })]
noncomputable def L_bits_Div64_2 : Code := loopIn (bodyOf Try.f85) 2
noncomputable def P_bits_Div64_2 : Lp := lpOf S_bits_Div64_2 E_bits_Div64_2 135 R_bits_Div64_2
noncomputable def c_bits_Div64 : Con := conV true [(.int .u64), (.int .u64), (.int .u64)] [(.int .u64), (.int .u64)] fun x => bits_Div64 x.1 x.2.1 x.2.2.1
noncomputable def x_bits_Div64 : Cx := { ti := ti, con := [(92, c_bits_LeadingZeros64)], fns := [], un := 6 }
theorem xok_bits_Div64 : CxOk Try.prog x_bits_Div64 := CxOk.of mixed ti_ok (List.forall_mem_cons.2 ⟨con_bits_LeadingZeros64, List.forall_mem_nil _⟩) (List.forall_mem_nil _)
theorem r_bits_Div64_0 (x : S_bits_Div64_0.X) : denC x_bits_Div64 [] (denF x_bits_Div64 8) L_bits_Div64_0 (S_bits_Div64_0.mkS 135 x) (kRound 0 S_bits_Div64_0 E_bits_Div64_0) = R_bits_Div64_0 x := by kernel_rfl
theorem l_bits_Div64_0 : LpOk Try.prog 0 (.loop L_bits_Div64_0) P_bits_Div64_0 := lpOf_ok xok_bits_Div64 8 (lps_nil) S_bits_Div64_0 E_bits_Div64_0 135 R_bits_Div64_0 (by decide) r_bits_Div64_0
theorem r_bits_Div64_2 (x : S_bits_Div64_2.X) : denC x_bits_Div64 [] (denF x_bits_Div64 8) L_bits_Div64_2 (S_bits_Div64_2.mkS 135 x) (kRound 2 S_bits_Div64_2 E_bits_Div64_2) = R_bits_Div64_2 x := by kernel_rfl
theorem l_bits_Div64_2 : LpOk Try.prog 2 (.loop L_bits_Div64_2) P_bits_Div64_2 := lpOf_ok xok_bits_Div64 8 (lps_nil) S_bits_Div64_2 E_bits_Div64_2 135 R_bits_Div64_2 (by decide) r_bits_Div64_2
theorem fn_bits_Div64 : FnOk Try.prog 85 Try.f85 [(0, P_bits_Div64_0), (2, P_bits_Div64_2)] := ⟨Try.func85, Try.call85, lps_of (by kernel_rfl) (lps_one l_bits_Div64_0 (by kernel_rfl) (lps_one l_bits_Div64_2 (by kernel_rfl) (List.forall_mem_nil _)))⟩
theorem e_bits_Div64 (hi : Int) (lo : Int) (y : Int) : bodyK x_bits_Div64 [(0, P_bits_Div64_0), (2, P_bits_Div64_2)] (denF x_bits_Div64 8) Try.f85 (domV [(.int .u64), (.int .u64), (.int .u64)] (hi, lo, y, ())) [] 0 (kOut [(.int .u64), (.int .u64)]) = bits_Div64' hi lo y := by kernel_rfl
theorem con_bits_Div64 : ConOk Try.prog 85 c_bits_Div64 := con_ok xok_bits_Div64 8 fn_bits_Div64 true [(.int .u64), (.int .u64), (.int .u64)] [(.int .u64), (.int .u64)] _ (by decide) (fun x => by rw [bits_Div64_eq]; exact e_bits_Div64 x.1 x.2.1 x.2.2.1)
noncomputable def c_bits_Mul64 : Con := conV true [(.int .u64), (.int .u64)] [(.int .u64), (.int .u64)] fun x => bits_Mul64 x.1 x.2.1
noncomputable def x_bits_Mul64 : Cx := { ti := ti, con := [], fns := [], un := 6 }
theorem xok_bits_Mul64 : CxOk Try.prog x_bits_Mul64 := CxOk.of mixed ti_ok (List.forall_mem_nil _) (List.forall_mem_nil _)
theorem fn_bits_Mul64 : FnOk Try.prog 60 Try.f60 [] := ⟨Try.func60, Try.call60, lps_nil⟩
theorem e_bits_Mul64 (x : Int) (y : Int) : bodyK x_bits_Mul64 [] (denF x_bits_Mul64 8) Try.f60 (domV [(.int .u64), (.int .u64)] (x, y, ())) [] 0 (kOut [(.int .u64), (.int .u64)]) = bits_Mul64' x y := by kernel_rfl
theorem con_bits_Mul64 : ConOk Try.prog 60 c_bits_Mul64 := con_ok xok_bits_Mul64 8 fn_bits_Mul64 true [(.int .u64), (.int .u64)] [(.int .u64), (.int .u64)] _ (by decide) (fun x => by rw [bits_Mul64_eq]; exact e_bits_Mul64 x.1 x.2.1)
noncomputable def c_bits_RotateLeft32 : Con := conV true [(.int .u32), (.int .i64)] [(.int .u32)] fun x => bits_RotateLeft32 x.1 x.2.1
noncomputable def x_bits_RotateLeft32 : Cx := { ti := ti, con := [], fns := [], un := 6 }
theorem xok_bits_RotateLeft32 : CxOk Try.prog x_bits_RotateLeft32 := CxOk.of mixed ti_ok (List.forall_mem_nil _) (List.forall_mem_nil _)
theorem fn_bits_RotateLeft32 : FnOk Try.prog 98 Try.f98 [] := ⟨Try.func98, Try.call98, lps_nil⟩
theorem e_bits_RotateLeft32 (x : Int) (k : Int) : bodyK x_bits_RotateLeft32 [] (denF x_bits_RotateLeft32 8) Try.f98 (domV [(.int .u32), (.int .i64)] (x, k, ())) [] 0 (kOut [(.int .u32)]) = bits_RotateLeft32' x k := by kernel_rfl
theorem con_bits_RotateLeft32 : ConOk Try.prog 98 c_bits_RotateLeft32 := con_ok xok_bits_RotateLeft32 8 fn_bits_RotateLeft32 true [(.int .u32), (.int .i64)] [(.int .u32)] _ (by decide) (fun x => by rw [bits_RotateLeft32_eq]; exact e_bits_RotateLeft32 x.1 x.2.1)
end Go.Proofs.Ythmfddbehhgnkaa

set_option linter.unusedVariables false
set_option linter.unusedSimpArgs false
set_option maxRecDepth 100000
set_option maxHeartbeats 0
namespace Go.Pl
end Go.Pl
open Go Go.Den Go.Pl
namespace Go.Proofs.Ythmfddbehhgnkaa
noncomputable def c_nat_Len : Con := conV true [(.arr 4 (.int .u64))] [(.int .i64)] fun x => nat_Len x.1
noncomputable def x_nat_Len : Cx := { ti := ti, con := [(49, c_bits_Len64)], fns := [], un := 6 }
theorem xok_nat_Len : CxOk Try.prog x_nat_Len := CxOk.of mixed ti_ok (List.forall_mem_cons.2 ⟨con_bits_Len64, List.forall_mem_nil _⟩) (List.forall_mem_nil _)
theorem fn_nat_Len : FnOk Try.prog 20 Try.f20 [] := ⟨Try.func20, Try.call20, lps_nil⟩
theorem e_nat_Len (a : (Nat → Int)) : bodyK x_nat_Len [] (denF x_nat_Len 8) Try.f20 (domV [(.arr 4 (.int .u64))] (a, ())) [] 0 (kOut [(.int .i64)]) = nat_Len' a := by kernel_rfl
theorem con_nat_Len : ConOk Try.prog 20 c_nat_Len := con_ok xok_nat_Len 8 fn_nat_Len true [(.arr 4 (.int .u64))] [(.int .i64)] _ (by decide) (fun x => by rw [nat_Len_eq]; exact e_nat_Len x.1)
noncomputable def c_nat_Of : Con := conV true [(.int .i64)] [(.arr 4 (.int .u64))] fun x => nat_Of x.1
noncomputable def x_nat_Of : Cx := { ti := ti, con := [], fns := [], un := 6 }
theorem xok_nat_Of : CxOk Try.prog x_nat_Of := CxOk.of mixed ti_ok (List.forall_mem_nil _) (List.forall_mem_nil _)
theorem fn_nat_Of : FnOk Try.prog 21 Try.f21 [] := ⟨Try.func21, Try.call21, lps_nil⟩
theorem e_nat_Of (n : Int) : bodyK x_nat_Of [] (denF x_nat_Of 8) Try.f21 (domV [(.int .i64)] (n, ())) [] 0 (kOut [(.arr 4 (.int .u64))]) = nat_Of' n := by kernel_rfl
theorem con_nat_Of : ConOk Try.prog 21 c_nat_Of := con_ok xok_nat_Of 8 fn_nat_Of true [(.int .i64)] [(.arr 4 (.int .u64))] _ (by decide) (fun x => by rw [nat_Of_eq]; exact e_nat_Of x.1)
abbrev S_nat_Up_0 : Shape := { sl := [(2, (.c ⟨(.ptr (.arr 4 (.int .u64))), (.rf 0 [])⟩)), (4, (.c ⟨(.ptr (.arr 4 (.int .u64))), (.rf 1 [])⟩)), (5, (.c ⟨(.ptr (.arr 4 (.int .u64))), (.rf 2 [])⟩)), (6, (.v (.int .i64))), (7, (.v (.int .i64))), (8, (.v (.int .i64)))], ob := [(0, (.v (.arr 4 (.int .u64)))), (1, (.v (.arr 4 (.int .u64)))), (2, (.v (.arr 4 (.int .u64))))], lo := 3, nx := 3 }
abbrev E_nat_Up_0 : List Ex := [(.normal, { sl := [(4, (.c ⟨(.ptr (.arr 4 (.int .u64))), (.rf 1 [])⟩)), (5, (.c ⟨(.ptr (.arr 4 (.int .u64))), (.rf 2 [])⟩))], ob := [(1, (.v (.arr 4 (.int .u64)))), (2, (.v (.arr 4 (.int .u64))))], lo := 3, nx := 3 })]
noncomputable def L_nat_Up_0 : Code := loopIn (bodyOf Try.f53) 0
noncomputable def P_nat_Up_0 : Lp := lpOf S_nat_Up_0 E_nat_Up_0 51 R_nat_Up_0
noncomputable def c_nat_Up : Con := conV true [(.arr 4 (.int .u64)), (.int .i64)] [(.arr 4 (.int .u64))] fun x => nat_Up x.1 x.2.1
noncomputable def x_nat_Up : Cx := { ti := ti, con := [], fns := [], un := 6 }
theorem xok_nat_Up : CxOk Try.prog x_nat_Up := CxOk.of mixed ti_ok (List.forall_mem_nil _) (List.forall_mem_nil _)
theorem r_nat_Up_0 (x : S_nat_Up_0.X) : denC x_nat_Up [] (denF x_nat_Up 8) L_nat_Up_0 (S_nat_Up_0.mkS 51 x) (kRound 0 S_nat_Up_0 E_nat_Up_0) = R_nat_Up_0 x := by kernel_rfl
theorem l_nat_Up_0 : LpOk Try.prog 0 (.loop L_nat_Up_0) P_nat_Up_0 := lpOf_ok xok_nat_Up 8 (lps_nil) S_nat_Up_0 E_nat_Up_0 51 R_nat_Up_0 (by decide) r_nat_Up_0
theorem fn_nat_Up : FnOk Try.prog 53 Try.f53 [(0, P_nat_Up_0)] := ⟨Try.func53, Try.call53, lps_of (by kernel_rfl) (lps_one l_nat_Up_0 (by kernel_rfl) (List.forall_mem_nil _))⟩
theorem e_nat_Up (a : (Nat → Int)) (k : Int) : bodyK x_nat_Up [(0, P_nat_Up_0)] (denF x_nat_Up 8) Try.f53 (domV [(.arr 4 (.int .u64)), (.int .i64)] (a, k, ())) [] 0 (kOut [(.arr 4 (.int .u64))]) = nat_Up' a k := by kernel_rfl
theorem con_nat_Up : ConOk Try.prog 53 c_nat_Up := con_ok xok_nat_Up 8 fn_nat_Up true [(.arr 4 (.int .u64)), (.int .i64)] [(.arr 4 (.int .u64))] _ (by decide) (fun x => by rw [nat_Up_eq]; exact e_nat_Up x.1 x.2.1)
noncomputable def c_nat_Bit : Con := conV true [(.arr 4 (.int .u64)), (.int .i64)] [(.int .i64)] fun x => nat_Bit x.1 x.2.1
noncomputable def x_nat_Bit : Cx := { ti := ti, con := [], fns := [], un := 6 }
theorem xok_nat_Bit : CxOk Try.prog x_nat_Bit := CxOk.of mixed ti_ok (List.forall_mem_nil _) (List.forall_mem_nil _)
theorem fn_nat_Bit : FnOk Try.prog 74 Try.f74 [] := ⟨Try.func74, Try.call74, lps_nil⟩
theorem e_nat_Bit (a : (Nat → Int)) (k : Int) : bodyK x_nat_Bit [] (denF x_nat_Bit 8) Try.f74 (domV [(.arr 4 (.int .u64)), (.int .i64)] (a, k, ())) [] 0 (kOut [(.int .i64)]) = nat_Bit' a k := by kernel_rfl
theorem con_nat_Bit : ConOk Try.prog 74 c_nat_Bit := con_ok xok_nat_Bit 8 fn_nat_Bit true [(.arr 4 (.int .u64)), (.int .i64)] [(.int .i64)] _ (by decide) (fun x => by rw [nat_Bit_eq]; exact e_nat_Bit x.1 x.2.1)
noncomputable def c_nat_Sub : Con := conV true [(.arr 4 (.int .u64)), (.arr 4 (.int .u64))] [(.arr 4 (.int .u64)), (.int .i64)] fun x => nat_Sub x.1 x.2.1
noncomputable def x_nat_Sub : Cx := { ti := ti, con := [(57, c_sub64)], fns := [], un := 6 }
theorem xok_nat_Sub : CxOk Try.prog x_nat_Sub := CxOk.of mixed ti_ok (List.forall_mem_cons.2 ⟨con_sub64, List.forall_mem_nil _⟩) (List.forall_mem_nil _)
theorem fn_nat_Sub : FnOk Try.prog 37 Try.f37 [] := ⟨Try.func37, Try.call37, lps_nil⟩
theorem e_nat_Sub (a : (Nat → Int)) (b : (Nat → Int)) : bodyK x_nat_Sub [] (denF x_nat_Sub 8) Try.f37 (domV [(.arr 4 (.int .u64)), (.arr 4 (.int .u64))] (a, b, ())) [] 0 (kOut [(.arr 4 (.int .u64)), (.int .i64)]) = nat_Sub' a b := by kernel_rfl
theorem con_nat_Sub : ConOk Try.prog 37 c_nat_Sub := con_ok xok_nat_Sub 8 fn_nat_Sub true [(.arr 4 (.int .u64)), (.arr 4 (.int .u64))] [(.arr 4 (.int .u64)), (.int .i64)] _ (by decide) (fun x => by rw [nat_Sub_eq]; exact e_nat_Sub x.1 x.2.1)
noncomputable def c_nat_Cmp : Con := conV true [(.arr 4 (.int .u64)), (.arr 4 (.int .u64))] [(.int .i64)] fun x => nat_Cmp x.1 x.2.1
noncomputable def x_nat_Cmp : Cx := { ti := ti, con := [], fns := [], un := 6 }
theorem xok_nat_Cmp : CxOk Try.prog x_nat_Cmp := CxOk.of mixed ti_ok (List.forall_mem_nil _) (List.forall_mem_nil _)
theorem fn_nat_Cmp : FnOk Try.prog 36 Try.f36 [] := ⟨Try.func36, Try.call36, lps_nil⟩
theorem e_nat_Cmp (a : (Nat → Int)) (b : (Nat → Int)) : bodyK x_nat_Cmp [] (denF x_nat_Cmp 8) Try.f36 (domV [(.arr 4 (.int .u64)), (.arr 4 (.int .u64))] (a, b, ())) [] 0 (kOut [(.int .i64)]) = nat_Cmp' a b := by kernel_rfl
theorem con_nat_Cmp : ConOk Try.prog 36 c_nat_Cmp := con_ok xok_nat_Cmp 8 fn_nat_Cmp true [(.arr 4 (.int .u64)), (.arr 4 (.int .u64))] [(.int .i64)] _ (by decide) (fun x => by rw [nat_Cmp_eq]; exact e_nat_Cmp x.1 x.2.1)
abbrev S_nat_Down_0 : Shape := { sl := [(2, (.c ⟨(.ptr (.arr 4 (.int .u64))), (.rf 0 [])⟩)), (4, (.c ⟨(.ptr (.arr 4 (.int .u64))), (.rf 1 [])⟩)), (5, (.c ⟨(.ptr (.arr 4 (.int .u64))), (.rf 2 [])⟩)), (6, (.v (.int .i64))), (7, (.v (.int .i64))), (20, (.v (.int .i64))), (21, (.v (.int .i64)))], ob := [(0, (.v (.arr 4 (.int .u64)))), (1, (.v (.arr 4 (.int .u64)))), (2, (.v (.arr 4 (.int .u64))))], lo := 3, nx := 3 }
abbrev E_nat_Down_0 : List Ex := [(.normal, { sl := [(4, (.c ⟨(.ptr (.arr 4 (.int .u64))), (.rf 1 [])⟩)), (5, (.c ⟨(.ptr (.arr 4 (.int .u64))), (.rf 2 [])⟩))], ob := [(1, (.v (.arr 4 (.int .u64)))), (2, (.v (.arr 4 (.int .u64))))], lo := 3, nx := 3 })]
noncomputable def L_nat_Down_0 : Code := loopIn (bodyOf Try.f54) 0
noncomputable def P_nat_Down_0 : Lp := lpOf S_nat_Down_0 E_nat_Down_0 54 R_nat_Down_0
noncomputable def c_nat_Down : Con := conV true [(.arr 4 (.int .u64)), (.int .i64)] [(.arr 4 (.int .u64))] fun x => nat_Down x.1 x.2.1
noncomputable def x_nat_Down : Cx := { ti := ti, con := [], fns := [], un := 6 }
theorem xok_nat_Down : CxOk Try.prog x_nat_Down := CxOk.of mixed ti_ok (List.forall_mem_nil _) (List.forall_mem_nil _)
theorem r_nat_Down_0 (x : S_nat_Down_0.X) : denC x_nat_Down [] (denF x_nat_Down 8) L_nat_Down_0 (S_nat_Down_0.mkS 54 x) (kRound 0 S_nat_Down_0 E_nat_Down_0) = R_nat_Down_0 x := by kernel_rfl
theorem l_nat_Down_0 : LpOk Try.prog 0 (.loop L_nat_Down_0) P_nat_Down_0 := lpOf_ok xok_nat_Down 8 (lps_nil) S_nat_Down_0 E_nat_Down_0 54 R_nat_Down_0 (by decide) r_nat_Down_0
theorem fn_nat_Down : FnOk Try.prog 54 Try.f54 [(0, P_nat_Down_0)] := ⟨Try.func54, Try.call54, lps_of (by kernel_rfl) (lps_one l_nat_Down_0 (by kernel_rfl) (List.forall_mem_nil _))⟩
theorem e_nat_Down (a : (Nat → Int)) (k : Int) : bodyK x_nat_Down [(0, P_nat_Down_0)] (denF x_nat_Down 8) Try.f54 (domV [(.arr 4 (.int .u64)), (.int .i64)] (a, k, ())) [] 0 (kOut [(.arr 4 (.int .u64))]) = nat_Down' a k := by kernel_rfl
theorem con_nat_Down : ConOk Try.prog 54 c_nat_Down := con_ok xok_nat_Down 8 fn_nat_Down true [(.arr 4 (.int .u64)), (.int .i64)] [(.arr 4 (.int .u64))] _ (by decide) (fun x => by rw [nat_Down_eq]; exact e_nat_Down x.1 x.2.1)
noncomputable def c_nat_Add : Con := conV true [(.arr 4 (.int .u64)), (.arr 4 (.int .u64))] [(.arr 4 (.int .u64)), (.int .i64)] fun x => nat_Add x.1 x.2.1
noncomputable def x_nat_Add : Cx := { ti := ti, con := [(52, c_add64)], fns := [], un := 6 }
theorem xok_nat_Add : CxOk Try.prog x_nat_Add := CxOk.of mixed ti_ok (List.forall_mem_cons.2 ⟨con_add64, List.forall_mem_nil _⟩) (List.forall_mem_nil _)
theorem fn_nat_Add : FnOk Try.prog 30 Try.f30 [] := ⟨Try.func30, Try.call30, lps_nil⟩
theorem e_nat_Add (a : (Nat → Int)) (b : (Nat → Int)) : bodyK x_nat_Add [] (denF x_nat_Add 8) Try.f30 (domV [(.arr 4 (.int .u64)), (.arr 4 (.int .u64))] (a, b, ())) [] 0 (kOut [(.arr 4 (.int .u64)), (.int .i64)]) = nat_Add' a b := by kernel_rfl
theorem con_nat_Add : ConOk Try.prog 30 c_nat_Add := con_ok xok_nat_Add 8 fn_nat_Add true [(.arr 4 (.int .u64)), (.arr 4 (.int .u64))] [(.arr 4 (.int .u64)), (.int .i64)] _ (by decide) (fun x => by rw [nat_Add_eq]; exact e_nat_Add x.1 x.2.1)
noncomputable def c_nat_Int : Con := conV true [(.arr 4 (.int .u64))] [(.int .i64), .bool] fun x => nat_Int x.1
noncomputable def x_nat_Int : Cx := { ti := ti, con := [], fns := [], un := 6 }
theorem xok_nat_Int : CxOk Try.prog x_nat_Int := CxOk.of mixed ti_ok (List.forall_mem_nil _) (List.forall_mem_nil _)
theorem fn_nat_Int : FnOk Try.prog 28 Try.f28 [] := ⟨Try.func28, Try.call28, lps_nil⟩
theorem e_nat_Int (a : (Nat → Int)) : bodyK x_nat_Int [] (denF x_nat_Int 8) Try.f28 (domV [(.arr 4 (.int .u64))] (a, ())) [] 0 (kOut [(.int .i64), .bool]) = nat_Int' a := by kernel_rfl
theorem con_nat_Int : ConOk Try.prog 28 c_nat_Int := con_ok xok_nat_Int 8 fn_nat_Int true [(.arr 4 (.int .u64))] [(.int .i64), .bool] _ (by decide) (fun x => by rw [nat_Int_eq]; exact e_nat_Int x.1)
end Go.Proofs.Ythmfddbehhgnkaa

set_option linter.unusedVariables false
set_option linter.unusedSimpArgs false
set_option maxRecDepth 100000
set_option maxHeartbeats 0
namespace Go.Pl
end Go.Pl
open Go Go.Den Go.Pl
namespace Go.Proofs.Ythmfddbehhgnkaa
noncomputable def c_wide_short : Con := conV true [(.arr 4 (.int .u64)), (.int .u64), (.int .u64)] [(.arr 4 (.int .u64)), (.arr 4 (.int .u64))] fun x => wide_short x.1 x.2.1 x.2.2.1
noncomputable def x_wide_short : Cx := { ti := ti, con := [(85, c_bits_Div64)], fns := [], un := 6 }
theorem xok_wide_short : CxOk Try.prog x_wide_short := CxOk.of mixed ti_ok (List.forall_mem_cons.2 ⟨con_bits_Div64, List.forall_mem_nil _⟩) (List.forall_mem_nil _)
theorem fn_wide_short : FnOk Try.prog 73 Try.f73 [] := ⟨Try.func73, Try.call73, lps_nil⟩
theorem e_wide_short (a : (Nat → Int)) (left_ : Int) (m : Int) : bodyK x_wide_short [] (denF x_wide_short 8) Try.f73 (domV [(.arr 4 (.int .u64)), (.int .u64), (.int .u64)] (a, left_, m, ())) [] 0 (kOut [(.arr 4 (.int .u64)), (.arr 4 (.int .u64))]) = wide_short' a left_ m := by kernel_rfl
theorem con_wide_short : ConOk Try.prog 73 c_wide_short := con_ok xok_wide_short 8 fn_wide_short true [(.arr 4 (.int .u64)), (.int .u64), (.int .u64)] [(.arr 4 (.int .u64)), (.arr 4 (.int .u64))] _ (by decide) (fun x => by rw [wide_short_eq]; exact e_wide_short x.1 x.2.1 x.2.2.1)
abbrev S_wide_parted_0 : Shape := { sl := [(3, (.c ⟨(.ptr (.arr 4 (.int .u64))), (.rf 0 [])⟩)), (4, (.c ⟨(.ptr (.arr 4 (.int .u64))), (.rf 1 [])⟩)), (5, (.c ⟨(.ptr (.arr 4 (.int .u64))), (.rf 2 [])⟩)), (6, (.c ⟨(.ptr (.arr 4 (.int .u64))), (.rf 3 [])⟩)), (7, (.c ⟨(.ptr (.arr 4 (.int .u64))), (.rf 4 [])⟩)), (8, (.c ⟨(.ptr (.arr 4 (.int .u64))), (.rf 5 [])⟩)), (25, (.v (.int .i64)))], ob := [(0, (.v (.arr 4 (.int .u64)))), (1, (.v (.arr 4 (.int .u64)))), (2, (.v (.arr 4 (.int .u64)))), (3, (.v (.arr 4 (.int .u64)))), (4, (.v (.arr 4 (.int .u64)))), (5, (.v (.arr 4 (.int .u64))))], lo := 6, nx := 6 }
abbrev E_wide_parted_0 : List Ex := [(.normal, { sl := [(4, (.c ⟨(.ptr (.arr 4 (.int .u64))), (.rf 1 [])⟩)), (6, (.c ⟨(.ptr (.arr 4 (.int .u64))), (.rf 3 [])⟩)), (7, (.c ⟨(.ptr (.arr 4 (.int .u64))), (.rf 4 [])⟩)), (8, (.c ⟨(.ptr (.arr 4 (.int .u64))), (.rf 5 [])⟩))], ob := [(1, (.v (.arr 4 (.int .u64)))), (3, (.v (.arr 4 (.int .u64)))), (4, (.v (.arr 4 (.int .u64)))), (5, (.v (.arr 4 (.int .u64))))], lo := 6, nx := 6 })]
noncomputable def L_wide_parted_0 : Code := loopIn (bodyOf Try.f58) 0
noncomputable def P_wide_parted_0 : Lp := lpOf S_wide_parted_0 E_wide_parted_0 68 R_wide_parted_0
noncomputable def c_wide_parted : Con := conV true [(.arr 4 (.int .u64)), (.arr 4 (.int .u64)), (.arr 4 (.int .u64))] [(.arr 4 (.int .u64)), (.arr 4 (.int .u64))] fun x => wide_parted x.1 x.2.1 x.2.2.1
noncomputable def x_wide_parted : Cx := { ti := ti, con := [(73, c_wide_short), (74, c_nat_Bit), (53, c_nat_Up), (37, c_nat_Sub), (36, c_nat_Cmp)], fns := [], un := 6 }
theorem xok_wide_parted : CxOk Try.prog x_wide_parted := CxOk.of mixed ti_ok (List.forall_mem_cons.2 ⟨con_wide_short, List.forall_mem_cons.2 ⟨con_nat_Bit, List.forall_mem_cons.2 ⟨con_nat_Up, List.forall_mem_cons.2 ⟨con_nat_Sub, List.forall_mem_cons.2 ⟨con_nat_Cmp, List.forall_mem_nil _⟩⟩⟩⟩⟩) (List.forall_mem_nil _)
theorem r_wide_parted_0 (x : S_wide_parted_0.X) : denC x_wide_parted [] (denF x_wide_parted 8) L_wide_parted_0 (S_wide_parted_0.mkS 68 x) (kRound 0 S_wide_parted_0 E_wide_parted_0) = R_wide_parted_0 x := by kernel_rfl
theorem l_wide_parted_0 : LpOk Try.prog 0 (.loop L_wide_parted_0) P_wide_parted_0 := lpOf_ok xok_wide_parted 8 (lps_nil) S_wide_parted_0 E_wide_parted_0 68 R_wide_parted_0 (by decide) r_wide_parted_0
theorem fn_wide_parted : FnOk Try.prog 58 Try.f58 [(0, P_wide_parted_0)] := ⟨Try.func58, Try.call58, lps_of (by kernel_rfl) (lps_one l_wide_parted_0 (by kernel_rfl) (List.forall_mem_nil _))⟩
theorem e_wide_parted (a : (Nat → Int)) (left_ : (Nat → Int)) (m : (Nat → Int)) : bodyK x_wide_parted [(0, P_wide_parted_0)] (denF x_wide_parted 8) Try.f58 (domV [(.arr 4 (.int .u64)), (.arr 4 (.int .u64)), (.arr 4 (.int .u64))] (a, left_, m, ())) [] 0 (kOut [(.arr 4 (.int .u64)), (.arr 4 (.int .u64))]) = wide_parted' a left_ m := by kernel_rfl
theorem con_wide_parted : ConOk Try.prog 58 c_wide_parted := con_ok xok_wide_parted 8 fn_wide_parted true [(.arr 4 (.int .u64)), (.arr 4 (.int .u64)), (.arr 4 (.int .u64))] [(.arr 4 (.int .u64)), (.arr 4 (.int .u64))] _ (by decide) (fun x => by rw [wide_parted_eq]; exact e_wide_parted x.1 x.2.1 x.2.2.1)
noncomputable def c_wide_Div : Con := conV true [(.arr 4 (.int .u64)), (.arr 4 (.int .u64))] [(.arr 4 (.int .u64)), (.arr 4 (.int .u64)), (.int .i64)] fun x => wide_Div x.1 x.2.1
noncomputable def x_wide_Div : Cx := { ti := ti, con := [(58, c_wide_parted)], fns := [], un := 6 }
theorem xok_wide_Div : CxOk Try.prog x_wide_Div := CxOk.of mixed ti_ok (List.forall_mem_cons.2 ⟨con_wide_parted, List.forall_mem_nil _⟩) (List.forall_mem_nil _)
theorem fn_wide_Div : FnOk Try.prog 38 Try.f38 [] := ⟨Try.func38, Try.call38, lps_nil⟩
theorem e_wide_Div (a : (Nat → Int)) (b : (Nat → Int)) : bodyK x_wide_Div [] (denF x_wide_Div 8) Try.f38 (domV [(.arr 4 (.int .u64)), (.arr 4 (.int .u64))] (a, b, ())) [] 0 (kOut [(.arr 4 (.int .u64)), (.arr 4 (.int .u64)), (.int .i64)]) = wide_Div' a b := by kernel_rfl
theorem con_wide_Div : ConOk Try.prog 38 c_wide_Div := con_ok xok_wide_Div 8 fn_wide_Div true [(.arr 4 (.int .u64)), (.arr 4 (.int .u64))] [(.arr 4 (.int .u64)), (.arr 4 (.int .u64)), (.int .i64)] _ (by decide) (fun x => by rw [wide_Div_eq]; exact e_wide_Div x.1 x.2.1)
noncomputable def c_wide_Mul : Con := conV true [(.arr 4 (.int .u64)), (.arr 4 (.int .u64))] [(.arr 4 (.int .u64)), (.arr 4 (.int .u64))] fun x => wide_Mul x.1 x.2.1
noncomputable def x_wide_Mul : Cx := { ti := ti, con := [(60, c_bits_Mul64), (52, c_add64)], fns := [(59, Try.f59, [])], un := 6 }
theorem xok_wide_Mul : CxOk Try.prog x_wide_Mul := CxOk.of mixed ti_ok (List.forall_mem_cons.2 ⟨con_bits_Mul64, List.forall_mem_cons.2 ⟨con_add64, List.forall_mem_nil _⟩⟩) (List.forall_mem_cons.2 ⟨⟨Try.func59, Try.call59, lps_nil⟩, List.forall_mem_nil _⟩)
theorem fn_wide_Mul : FnOk Try.prog 39 Try.f39 [] := ⟨Try.func39, Try.call39, lps_nil⟩
theorem e_wide_Mul (a : (Nat → Int)) (b : (Nat → Int)) : bodyK x_wide_Mul [] (denF x_wide_Mul 8) Try.f39 (domV [(.arr 4 (.int .u64)), (.arr 4 (.int .u64))] (a, b, ())) [] 0 (kOut [(.arr 4 (.int .u64)), (.arr 4 (.int .u64))]) = wide_Mul' a b := by kernel_rfl
theorem con_wide_Mul : ConOk Try.prog 39 c_wide_Mul := con_ok xok_wide_Mul 8 fn_wide_Mul true [(.arr 4 (.int .u64)), (.arr 4 (.int .u64))] [(.arr 4 (.int .u64)), (.arr 4 (.int .u64))] _ (by decide) (fun x => by rw [wide_Mul_eq]; exact e_wide_Mul x.1 x.2.1)
noncomputable def c_wide_Rem : Con := conV true [(.arr 4 (.int .u64)), (.arr 4 (.int .u64)), (.arr 4 (.int .u64))] [(.arr 4 (.int .u64)), (.int .i64)] fun x => wide_Rem x.1 x.2.1 x.2.2.1
noncomputable def x_wide_Rem : Cx := { ti := ti, con := [(58, c_wide_parted)], fns := [], un := 6 }
theorem xok_wide_Rem : CxOk Try.prog x_wide_Rem := CxOk.of mixed ti_ok (List.forall_mem_cons.2 ⟨con_wide_parted, List.forall_mem_nil _⟩) (List.forall_mem_nil _)
theorem fn_wide_Rem : FnOk Try.prog 47 Try.f47 [] := ⟨Try.func47, Try.call47, lps_nil⟩
theorem e_wide_Rem (low : (Nat → Int)) (high : (Nat → Int)) (m : (Nat → Int)) : bodyK x_wide_Rem [] (denF x_wide_Rem 8) Try.f47 (domV [(.arr 4 (.int .u64)), (.arr 4 (.int .u64)), (.arr 4 (.int .u64))] (low, high, m, ())) [] 0 (kOut [(.arr 4 (.int .u64)), (.int .i64)]) = wide_Rem' low high m := by kernel_rfl
theorem con_wide_Rem : ConOk Try.prog 47 c_wide_Rem := con_ok xok_wide_Rem 8 fn_wide_Rem true [(.arr 4 (.int .u64)), (.arr 4 (.int .u64)), (.arr 4 (.int .u64))] [(.arr 4 (.int .u64)), (.int .i64)] _ (by decide) (fun x => by rw [wide_Rem_eq]; exact e_wide_Rem x.1 x.2.1 x.2.2.1)
noncomputable def c_wide_MulMod : Con := conV true [(.arr 4 (.int .u64)), (.arr 4 (.int .u64)), (.arr 4 (.int .u64))] [(.arr 4 (.int .u64)), (.int .i64)] fun x => wide_MulMod x.1 x.2.1 x.2.2.1
noncomputable def x_wide_MulMod : Cx := { ti := ti, con := [(39, c_wide_Mul), (47, c_wide_Rem)], fns := [], un := 6 }
theorem xok_wide_MulMod : CxOk Try.prog x_wide_MulMod := CxOk.of mixed ti_ok (List.forall_mem_cons.2 ⟨con_wide_Mul, List.forall_mem_cons.2 ⟨con_wide_Rem, List.forall_mem_nil _⟩⟩) (List.forall_mem_nil _)
theorem fn_wide_MulMod : FnOk Try.prog 48 Try.f48 [] := ⟨Try.func48, Try.call48, lps_nil⟩
theorem e_wide_MulMod (a : (Nat → Int)) (b : (Nat → Int)) (m : (Nat → Int)) : bodyK x_wide_MulMod [] (denF x_wide_MulMod 8) Try.f48 (domV [(.arr 4 (.int .u64)), (.arr 4 (.int .u64)), (.arr 4 (.int .u64))] (a, b, m, ())) [] 0 (kOut [(.arr 4 (.int .u64)), (.int .i64)]) = wide_MulMod' a b m := by kernel_rfl
theorem con_wide_MulMod : ConOk Try.prog 48 c_wide_MulMod := con_ok xok_wide_MulMod 8 fn_wide_MulMod true [(.arr 4 (.int .u64)), (.arr 4 (.int .u64)), (.arr 4 (.int .u64))] [(.arr 4 (.int .u64)), (.int .i64)] _ (by decide) (fun x => by rw [wide_MulMod_eq]; exact e_wide_MulMod x.1 x.2.1 x.2.2.1)
noncomputable def c_wide_SubMod : Con := conV true [(.arr 4 (.int .u64)), (.arr 4 (.int .u64)), (.arr 4 (.int .u64))] [(.arr 4 (.int .u64)), (.int .i64)] fun x => wide_SubMod x.1 x.2.1 x.2.2.1
noncomputable def x_wide_SubMod : Cx := { ti := ti, con := [(47, c_wide_Rem), (37, c_nat_Sub), (30, c_nat_Add)], fns := [], un := 6 }
theorem xok_wide_SubMod : CxOk Try.prog x_wide_SubMod := CxOk.of mixed ti_ok (List.forall_mem_cons.2 ⟨con_wide_Rem, List.forall_mem_cons.2 ⟨con_nat_Sub, List.forall_mem_cons.2 ⟨con_nat_Add, List.forall_mem_nil _⟩⟩⟩) (List.forall_mem_nil _)
theorem fn_wide_SubMod : FnOk Try.prog 40 Try.f40 [] := ⟨Try.func40, Try.call40, lps_nil⟩
theorem e_wide_SubMod (a : (Nat → Int)) (b : (Nat → Int)) (m : (Nat → Int)) : bodyK x_wide_SubMod [] (denF x_wide_SubMod 8) Try.f40 (domV [(.arr 4 (.int .u64)), (.arr 4 (.int .u64)), (.arr 4 (.int .u64))] (a, b, m, ())) [] 0 (kOut [(.arr 4 (.int .u64)), (.int .i64)]) = wide_SubMod' a b m := by kernel_rfl
theorem con_wide_SubMod : ConOk Try.prog 40 c_wide_SubMod := con_ok xok_wide_SubMod 8 fn_wide_SubMod true [(.arr 4 (.int .u64)), (.arr 4 (.int .u64)), (.arr 4 (.int .u64))] [(.arr 4 (.int .u64)), (.int .i64)] _ (by decide) (fun x => by rw [wide_SubMod_eq]; exact e_wide_SubMod x.1 x.2.1 x.2.2.1)
abbrev S_wide_Gcd_0 : Shape := { sl := [(2, (.c ⟨(.ptr (.arr 4 (.int .u64))), (.rf 0 [])⟩)), (3, (.c ⟨(.ptr (.arr 4 (.int .u64))), (.rf 1 [])⟩)), (4, (.c ⟨(.ptr (.arr 4 (.int .u64))), (.rf 2 [])⟩))], ob := [(0, (.v (.arr 4 (.int .u64)))), (1, (.v (.arr 4 (.int .u64)))), (2, (.v (.arr 4 (.int .u64))))], lo := 3, nx := 3 }
abbrev E_wide_Gcd_0 : List Ex := [(.normal, { sl := [(2, (.c ⟨(.ptr (.arr 4 (.int .u64))), (.rf 0 [])⟩)), (4, (.c ⟨(.ptr (.arr 4 (.int .u64))), (.rf 2 [])⟩))], ob := [(0, (.v (.arr 4 (.int .u64)))), (2, (.v (.arr 4 (.int .u64))))], lo := 3, nx := 3 })]
noncomputable def L_wide_Gcd_0 : Code := loopIn (bodyOf Try.f41) 0
noncomputable def P_wide_Gcd_0 : Lp := lpOf S_wide_Gcd_0 E_wide_Gcd_0 21 R_wide_Gcd_0
noncomputable def c_wide_Gcd : Con := conV true [(.arr 4 (.int .u64)), (.arr 4 (.int .u64))] [(.arr 4 (.int .u64))] fun x => wide_Gcd x.1 x.2.1
noncomputable def x_wide_Gcd : Cx := { ti := ti, con := [(38, c_wide_Div)], fns := [], un := 6 }
theorem xok_wide_Gcd : CxOk Try.prog x_wide_Gcd := CxOk.of mixed ti_ok (List.forall_mem_cons.2 ⟨con_wide_Div, List.forall_mem_nil _⟩) (List.forall_mem_nil _)
theorem r_wide_Gcd_0 (x : S_wide_Gcd_0.X) : denC x_wide_Gcd [] (denF x_wide_Gcd 8) L_wide_Gcd_0 (S_wide_Gcd_0.mkS 21 x) (kRound 0 S_wide_Gcd_0 E_wide_Gcd_0) = R_wide_Gcd_0 x := by kernel_rfl
theorem l_wide_Gcd_0 : LpOk Try.prog 0 (.loop L_wide_Gcd_0) P_wide_Gcd_0 := lpOf_ok xok_wide_Gcd 8 (lps_nil) S_wide_Gcd_0 E_wide_Gcd_0 21 R_wide_Gcd_0 (by decide) r_wide_Gcd_0
theorem fn_wide_Gcd : FnOk Try.prog 41 Try.f41 [(0, P_wide_Gcd_0)] := ⟨Try.func41, Try.call41, lps_of (by kernel_rfl) (lps_one l_wide_Gcd_0 (by kernel_rfl) (List.forall_mem_nil _))⟩
theorem e_wide_Gcd (a : (Nat → Int)) (b : (Nat → Int)) : bodyK x_wide_Gcd [(0, P_wide_Gcd_0)] (denF x_wide_Gcd 8) Try.f41 (domV [(.arr 4 (.int .u64)), (.arr 4 (.int .u64))] (a, b, ())) [] 0 (kOut [(.arr 4 (.int .u64))]) = wide_Gcd' a b := by kernel_rfl
theorem con_wide_Gcd : ConOk Try.prog 41 c_wide_Gcd := con_ok xok_wide_Gcd 8 fn_wide_Gcd true [(.arr 4 (.int .u64)), (.arr 4 (.int .u64))] [(.arr 4 (.int .u64))] _ (by decide) (fun x => by rw [wide_Gcd_eq]; exact e_wide_Gcd x.1 x.2.1)
end Go.Proofs.Ythmfddbehhgnkaa

set_option linter.unusedVariables false
set_option linter.unusedSimpArgs false
set_option maxRecDepth 100000
set_option maxHeartbeats 0
namespace Go.Pl
end Go.Pl
open Go Go.Den Go.Pl
namespace Go.Proofs.Ythmfddbehhgnkaa
noncomputable def c_mont_New : Con := conV false [(.arr 4 (.int .u64))] [(.ptr (.pair (.arr 4 (.int .u64)) (.pair (.int .u64) (.pair (.arr 4 (.int .u64)) (.arr 4 (.int .u64)))))), (.int .i64)] fun x => mont_New x.1
noncomputable def x_mont_New : Cx := { ti := ti, con := [(21, c_nat_Of), (47, c_wide_Rem), (48, c_wide_MulMod)], fns := [], un := 6 }
theorem xok_mont_New : CxOk Try.prog x_mont_New := CxOk.of mixed ti_ok (List.forall_mem_cons.2 ⟨con_nat_Of, List.forall_mem_cons.2 ⟨con_wide_Rem, List.forall_mem_cons.2 ⟨con_wide_MulMod, List.forall_mem_nil _⟩⟩⟩) (List.forall_mem_nil _)
theorem fn_mont_New : FnOk Try.prog 19 Try.f19 [] := ⟨Try.func19, Try.call19, lps_nil⟩
theorem e_mont_New (m : (Nat → Int)) : bodyK x_mont_New [] (denF x_mont_New 8) Try.f19 (domV [(.arr 4 (.int .u64))] (m, ())) [] 0 (kOut [(.ptr (.pair (.arr 4 (.int .u64)) (.pair (.int .u64) (.pair (.arr 4 (.int .u64)) (.arr 4 (.int .u64)))))), (.int .i64)]) = mont_New' m := by kernel_rfl
theorem con_mont_New : ConOk Try.prog 19 c_mont_New := con_ok xok_mont_New 8 fn_mont_New false [(.arr 4 (.int .u64))] [(.ptr (.pair (.arr 4 (.int .u64)) (.pair (.int .u64) (.pair (.arr 4 (.int .u64)) (.arr 4 (.int .u64)))))), (.int .i64)] _ (by decide) (fun x => by rw [mont_New_eq]; exact e_mont_New x.1)
noncomputable def c_mont_Ring_given : Con := conV true [(.ptr (.pair (.arr 4 (.int .u64)) (.pair (.int .u64) (.pair (.arr 4 (.int .u64)) (.arr 4 (.int .u64))))))] [.bool] fun x => mont_Ring_given x.1
noncomputable def x_mont_Ring_given : Cx := { ti := ti, con := [], fns := [], un := 6 }
theorem xok_mont_Ring_given : CxOk Try.prog x_mont_Ring_given := CxOk.of mixed ti_ok (List.forall_mem_nil _) (List.forall_mem_nil _)
theorem fn_mont_Ring_given : FnOk Try.prog 50 Try.f50 [] := ⟨Try.func50, Try.call50, lps_nil⟩
theorem e_mont_Ring_given (r : (Option ((Nat → Int) × (Int × ((Nat → Int) × (Nat → Int)))))) : bodyK x_mont_Ring_given [] (denF x_mont_Ring_given 8) Try.f50 (domV [(.ptr (.pair (.arr 4 (.int .u64)) (.pair (.int .u64) (.pair (.arr 4 (.int .u64)) (.arr 4 (.int .u64))))))] (r, ())) [] 0 (kOut [.bool]) = mont_Ring_given' r := by cases r <;> kernel_rfl
theorem con_mont_Ring_given : ConOk Try.prog 50 c_mont_Ring_given := con_ok xok_mont_Ring_given 8 fn_mont_Ring_given true [(.ptr (.pair (.arr 4 (.int .u64)) (.pair (.int .u64) (.pair (.arr 4 (.int .u64)) (.arr 4 (.int .u64))))))] [.bool] _ (by decide) (fun x => by rw [mont_Ring_given_eq]; exact e_mont_Ring_given x.1)
noncomputable def c_mont_Ring_low : Con := conV true [(.ptr (.pair (.arr 4 (.int .u64)) (.pair (.int .u64) (.pair (.arr 4 (.int .u64)) (.arr 4 (.int .u64)))))), (.arr 4 (.int .u64))] [(.arr 4 (.int .u64))] fun x => mont_Ring_low x.1 x.2.1
noncomputable def x_mont_Ring_low : Cx := { ti := ti, con := [(36, c_nat_Cmp), (47, c_wide_Rem)], fns := [], un := 6 }
theorem xok_mont_Ring_low : CxOk Try.prog x_mont_Ring_low := CxOk.of mixed ti_ok (List.forall_mem_cons.2 ⟨con_nat_Cmp, List.forall_mem_cons.2 ⟨con_wide_Rem, List.forall_mem_nil _⟩⟩) (List.forall_mem_nil _)
theorem fn_mont_Ring_low : FnOk Try.prog 91 Try.f91 [] := ⟨Try.func91, Try.call91, lps_nil⟩
theorem e_mont_Ring_low (r : (Option ((Nat → Int) × (Int × ((Nat → Int) × (Nat → Int)))))) (a : (Nat → Int)) : bodyK x_mont_Ring_low [] (denF x_mont_Ring_low 8) Try.f91 (domV [(.ptr (.pair (.arr 4 (.int .u64)) (.pair (.int .u64) (.pair (.arr 4 (.int .u64)) (.arr 4 (.int .u64)))))), (.arr 4 (.int .u64))] (r, a, ())) [] 0 (kOut [(.arr 4 (.int .u64))]) = mont_Ring_low' r a := by cases r <;> kernel_rfl
theorem con_mont_Ring_low : ConOk Try.prog 91 c_mont_Ring_low := con_ok xok_mont_Ring_low 8 fn_mont_Ring_low true [(.ptr (.pair (.arr 4 (.int .u64)) (.pair (.int .u64) (.pair (.arr 4 (.int .u64)) (.arr 4 (.int .u64)))))), (.arr 4 (.int .u64))] [(.arr 4 (.int .u64))] _ (by decide) (fun x => by rw [mont_Ring_low_eq]; exact e_mont_Ring_low x.1 x.2.1)
noncomputable def c_mont_adds : Con := conV true [(.arr 6 (.int .u64)), (.int .u64), (.arr 4 (.int .u64))] [(.arr 6 (.int .u64))] fun x => mont_adds x.1 x.2.1 x.2.2.1
noncomputable def x_mont_adds : Cx := { ti := ti, con := [(60, c_bits_Mul64), (52, c_add64)], fns := [], un := 6 }
theorem xok_mont_adds : CxOk Try.prog x_mont_adds := CxOk.of mixed ti_ok (List.forall_mem_cons.2 ⟨con_bits_Mul64, List.forall_mem_cons.2 ⟨con_add64, List.forall_mem_nil _⟩⟩) (List.forall_mem_nil _)
theorem fn_mont_adds : FnOk Try.prog 84 Try.f84 [] := ⟨Try.func84, Try.call84, lps_nil⟩
theorem e_mont_adds (t : (Nat → Int)) (x : Int) (b : (Nat → Int)) : bodyK x_mont_adds [] (denF x_mont_adds 8) Try.f84 (domV [(.arr 6 (.int .u64)), (.int .u64), (.arr 4 (.int .u64))] (t, x, b, ())) [] 0 (kOut [(.arr 6 (.int .u64))]) = mont_adds' t x b := by kernel_rfl
theorem con_mont_adds : ConOk Try.prog 84 c_mont_adds := con_ok xok_mont_adds 8 fn_mont_adds true [(.arr 6 (.int .u64)), (.int .u64), (.arr 4 (.int .u64))] [(.arr 6 (.int .u64))] _ (by decide) (fun x => by rw [mont_adds_eq]; exact e_mont_adds x.1 x.2.1 x.2.2.1)
noncomputable def c_mont_Ring_redc : Con := conV true [(.ptr (.pair (.arr 4 (.int .u64)) (.pair (.int .u64) (.pair (.arr 4 (.int .u64)) (.arr 4 (.int .u64)))))), (.arr 4 (.int .u64)), (.arr 4 (.int .u64))] [(.arr 4 (.int .u64))] fun x => mont_Ring_redc x.1 x.2.1 x.2.2.1
noncomputable def x_mont_Ring_redc : Cx := { ti := ti, con := [(84, c_mont_adds), (37, c_nat_Sub), (36, c_nat_Cmp)], fns := [], un := 6 }
theorem xok_mont_Ring_redc : CxOk Try.prog x_mont_Ring_redc := CxOk.of mixed ti_ok (List.forall_mem_cons.2 ⟨con_mont_adds, List.forall_mem_cons.2 ⟨con_nat_Sub, List.forall_mem_cons.2 ⟨con_nat_Cmp, List.forall_mem_nil _⟩⟩⟩) (List.forall_mem_nil _)
theorem fn_mont_Ring_redc : FnOk Try.prog 72 Try.f72 [] := ⟨Try.func72, Try.call72, lps_nil⟩
theorem e_mont_Ring_redc (r : (Option ((Nat → Int) × (Int × ((Nat → Int) × (Nat → Int)))))) (a : (Nat → Int)) (b : (Nat → Int)) : bodyK x_mont_Ring_redc [] (denF x_mont_Ring_redc 8) Try.f72 (domV [(.ptr (.pair (.arr 4 (.int .u64)) (.pair (.int .u64) (.pair (.arr 4 (.int .u64)) (.arr 4 (.int .u64)))))), (.arr 4 (.int .u64)), (.arr 4 (.int .u64))] (r, a, b, ())) [] 0 (kOut [(.arr 4 (.int .u64))]) = mont_Ring_redc' r a b := by cases r <;> kernel_rfl
theorem con_mont_Ring_redc : ConOk Try.prog 72 c_mont_Ring_redc := con_ok xok_mont_Ring_redc 8 fn_mont_Ring_redc true [(.ptr (.pair (.arr 4 (.int .u64)) (.pair (.int .u64) (.pair (.arr 4 (.int .u64)) (.arr 4 (.int .u64)))))), (.arr 4 (.int .u64)), (.arr 4 (.int .u64))] [(.arr 4 (.int .u64))] _ (by decide) (fun x => by rw [mont_Ring_redc_eq]; exact e_mont_Ring_redc x.1 x.2.1 x.2.2.1)
noncomputable def c_mont_Ring_Form : Con := conV true [(.ptr (.pair (.arr 4 (.int .u64)) (.pair (.int .u64) (.pair (.arr 4 (.int .u64)) (.arr 4 (.int .u64)))))), (.arr 4 (.int .u64))] [(.arr 4 (.int .u64))] fun x => mont_Ring_Form x.1 x.2.1
noncomputable def x_mont_Ring_Form : Cx := { ti := ti, con := [(50, c_mont_Ring_given), (91, c_mont_Ring_low), (72, c_mont_Ring_redc)], fns := [], un := 6 }
theorem xok_mont_Ring_Form : CxOk Try.prog x_mont_Ring_Form := CxOk.of mixed ti_ok (List.forall_mem_cons.2 ⟨con_mont_Ring_given, List.forall_mem_cons.2 ⟨con_mont_Ring_low, List.forall_mem_cons.2 ⟨con_mont_Ring_redc, List.forall_mem_nil _⟩⟩⟩) (List.forall_mem_nil _)
theorem fn_mont_Ring_Form : FnOk Try.prog 83 Try.f83 [] := ⟨Try.func83, Try.call83, lps_nil⟩
theorem e_mont_Ring_Form (r : (Option ((Nat → Int) × (Int × ((Nat → Int) × (Nat → Int)))))) (a : (Nat → Int)) : bodyK x_mont_Ring_Form [] (denF x_mont_Ring_Form 8) Try.f83 (domV [(.ptr (.pair (.arr 4 (.int .u64)) (.pair (.int .u64) (.pair (.arr 4 (.int .u64)) (.arr 4 (.int .u64)))))), (.arr 4 (.int .u64))] (r, a, ())) [] 0 (kOut [(.arr 4 (.int .u64))]) = mont_Ring_Form' r a := by cases r <;> kernel_rfl
theorem con_mont_Ring_Form : ConOk Try.prog 83 c_mont_Ring_Form := con_ok xok_mont_Ring_Form 8 fn_mont_Ring_Form true [(.ptr (.pair (.arr 4 (.int .u64)) (.pair (.int .u64) (.pair (.arr 4 (.int .u64)) (.arr 4 (.int .u64)))))), (.arr 4 (.int .u64))] [(.arr 4 (.int .u64))] _ (by decide) (fun x => by rw [mont_Ring_Form_eq]; exact e_mont_Ring_Form x.1 x.2.1)
abbrev S_mont_Ring_powers_0 : Shape := { sl := [(0, (.pz (.pair (.arr 4 (.int .u64)) (.pair (.int .u64) (.pair (.arr 4 (.int .u64)) (.arr 4 (.int .u64))))))), (4, (.c ⟨(.ptr (.arr 16 (.arr 4 (.int .u64)))), (.rf 1 [])⟩)), (5, (.c ⟨(.ptr (.arr 16 (.arr 4 (.int .u64)))), (.rf 2 [])⟩)), (6, (.c ⟨(.ptr (.arr 4 (.int .u64))), (.rf 3 [])⟩)), (7, (.v (.int .i64)))], ob := [(1, (.v (.arr 16 (.arr 4 (.int .u64))))), (2, (.v (.arr 16 (.arr 4 (.int .u64))))), (3, (.v (.arr 4 (.int .u64))))], lo := 4, nx := 4 }
abbrev E_mont_Ring_powers_0 : List Ex := [(.normal, { sl := [(4, (.c ⟨(.ptr (.arr 16 (.arr 4 (.int .u64)))), (.rf 1 [])⟩)), (5, (.c ⟨(.ptr (.arr 16 (.arr 4 (.int .u64)))), (.rf 2 [])⟩))], ob := [(1, (.v (.arr 16 (.arr 4 (.int .u64))))), (2, (.v (.arr 16 (.arr 4 (.int .u64)))))], lo := 4, nx := 4 })]
noncomputable def L_mont_Ring_powers_0 : Code := loopIn (bodyOf Try.f70) 0
noncomputable def P_mont_Ring_powers_0 : Lp := lpOf S_mont_Ring_powers_0 E_mont_Ring_powers_0 30 R_mont_Ring_powers_0
noncomputable def c_mont_Ring_powers : Con := conV true [(.ptr (.pair (.arr 4 (.int .u64)) (.pair (.int .u64) (.pair (.arr 4 (.int .u64)) (.arr 4 (.int .u64)))))), (.arr 4 (.int .u64))] [(.arr 16 (.arr 4 (.int .u64)))] fun x => mont_Ring_powers x.1 x.2.1
noncomputable def x_mont_Ring_powers : Cx := { ti := ti, con := [(83, c_mont_Ring_Form), (72, c_mont_Ring_redc)], fns := [], un := 6 }
theorem xok_mont_Ring_powers : CxOk Try.prog x_mont_Ring_powers := CxOk.of mixed ti_ok (List.forall_mem_cons.2 ⟨con_mont_Ring_Form, List.forall_mem_cons.2 ⟨con_mont_Ring_redc, List.forall_mem_nil _⟩⟩) (List.forall_mem_nil _)
theorem r_mont_Ring_powers_0 (x : S_mont_Ring_powers_0.X) : denC x_mont_Ring_powers [] (denF x_mont_Ring_powers 8) L_mont_Ring_powers_0 (S_mont_Ring_powers_0.mkS 30 x) (kRound 0 S_mont_Ring_powers_0 E_mont_Ring_powers_0) = R_mont_Ring_powers_0 x := by kernel_rfl
theorem l_mont_Ring_powers_0 : LpOk Try.prog 0 (.loop L_mont_Ring_powers_0) P_mont_Ring_powers_0 := lpOf_ok xok_mont_Ring_powers 8 (lps_nil) S_mont_Ring_powers_0 E_mont_Ring_powers_0 30 R_mont_Ring_powers_0 (by decide) r_mont_Ring_powers_0
theorem fn_mont_Ring_powers : FnOk Try.prog 70 Try.f70 [(0, P_mont_Ring_powers_0)] := ⟨Try.func70, Try.call70, lps_of (by kernel_rfl) (lps_one l_mont_Ring_powers_0 (by kernel_rfl) (List.forall_mem_nil _))⟩
theorem e_mont_Ring_powers (r : (Option ((Nat → Int) × (Int × ((Nat → Int) × (Nat → Int)))))) (a : (Nat → Int)) : bodyK x_mont_Ring_powers [(0, P_mont_Ring_powers_0)] (denF x_mont_Ring_powers 8) Try.f70 (domV [(.ptr (.pair (.arr 4 (.int .u64)) (.pair (.int .u64) (.pair (.arr 4 (.int .u64)) (.arr 4 (.int .u64)))))), (.arr 4 (.int .u64))] (r, a, ())) [] 0 (kOut [(.arr 16 (.arr 4 (.int .u64)))]) = mont_Ring_powers' r a := by cases r <;> kernel_rfl
theorem con_mont_Ring_powers : ConOk Try.prog 70 c_mont_Ring_powers := con_ok xok_mont_Ring_powers 8 fn_mont_Ring_powers true [(.ptr (.pair (.arr 4 (.int .u64)) (.pair (.int .u64) (.pair (.arr 4 (.int .u64)) (.arr 4 (.int .u64)))))), (.arr 4 (.int .u64))] [(.arr 16 (.arr 4 (.int .u64)))] _ (by decide) (fun x => by rw [mont_Ring_powers_eq]; exact e_mont_Ring_powers x.1 x.2.1)
noncomputable def c_mont_Ring_Prod_1 : Con := conV true [(.arr 4 (.int .u64)), (.int .i64)] [(.int .i64)] fun x => mont_Ring_Prod_1 x.1 x.2.1
noncomputable def x_mont_Ring_Prod_1 : Cx := { ti := ti, con := [(54, c_nat_Down), (53, c_nat_Up), (28, c_nat_Int)], fns := [], un := 6 }
theorem xok_mont_Ring_Prod_1 : CxOk Try.prog x_mont_Ring_Prod_1 := CxOk.of mixed ti_ok (List.forall_mem_cons.2 ⟨con_nat_Down, List.forall_mem_cons.2 ⟨con_nat_Up, List.forall_mem_cons.2 ⟨con_nat_Int, List.forall_mem_nil _⟩⟩⟩) (List.forall_mem_nil _)
theorem fn_mont_Ring_Prod_1 : FnOk Try.prog 71 Try.f71 [] := ⟨Try.func71, Try.call71, lps_nil⟩
theorem e_mont_Ring_Prod_1 (e : (Nat → Int)) (at_ : Int) : bodyK x_mont_Ring_Prod_1 [] (denF x_mont_Ring_Prod_1 8) Try.f71 (domV [(.arr 4 (.int .u64)), (.int .i64)] (e, at_, ())) [] 0 (kOut [(.int .i64)]) = mont_Ring_Prod_1' e at_ := by kernel_rfl
theorem con_mont_Ring_Prod_1 : ConOk Try.prog 71 c_mont_Ring_Prod_1 := con_ok xok_mont_Ring_Prod_1 8 fn_mont_Ring_Prod_1 true [(.arr 4 (.int .u64)), (.int .i64)] [(.int .i64)] _ (by decide) (fun x => by rw [mont_Ring_Prod_1_eq]; exact e_mont_Ring_Prod_1 x.1 x.2.1)
abbrev S_mont_Ring_Prod_0 : Shape := { sl := [(0, (.pz (.pair (.arr 4 (.int .u64)) (.pair (.int .u64) (.pair (.arr 4 (.int .u64)) (.arr 4 (.int .u64))))))), (2, (.sz (.arr 4 (.int .u64)))), (6, (.c ⟨(.ptr (.arr 4 (.int .u64))), (.rf 0 [])⟩)), (8, (.w 124 (.arr 16 (.arr 4 (.int .u64))) 1)), (9, (.v (.int .i64))), (33, (.sz (.arr 4 (.int .u64)))), (34, (.v (.int .i64))), (35, (.v (.int .i64)))], ob := [(0, (.v (.arr 4 (.int .u64))))], lo := 1, nx := 2 }
abbrev E_mont_Ring_Prod_0 : List Ex := [(.normal, { sl := [(0, (.pz (.pair (.arr 4 (.int .u64)) (.pair (.int .u64) (.pair (.arr 4 (.int .u64)) (.arr 4 (.int .u64))))))), (2, (.sz (.arr 4 (.int .u64)))), (6, (.c ⟨(.ptr (.arr 4 (.int .u64))), (.rf 0 [])⟩)), (8, (.w 124 (.arr 16 (.arr 4 (.int .u64))) 2)), (9, (.v (.int .i64)))], ob := [(0, (.v (.arr 4 (.int .u64))))], lo := 2, nx := 3 })]
noncomputable def L_mont_Ring_Prod_0 : Code := loopIn (bodyOf Try.f51) 0
noncomputable def P_mont_Ring_Prod_0 : Lp := lpOf S_mont_Ring_Prod_0 E_mont_Ring_Prod_0 98 R_mont_Ring_Prod_0
abbrev S_mont_Ring_Prod_6 : Shape := { sl := [(0, (.pz (.pair (.arr 4 (.int .u64)) (.pair (.int .u64) (.pair (.arr 4 (.int .u64)) (.arr 4 (.int .u64))))))), (2, (.sz (.arr 4 (.int .u64)))), (6, (.c ⟨(.ptr (.arr 4 (.int .u64))), (.rf 0 [])⟩)), (8, (.w 124 (.arr 16 (.arr 4 (.int .u64))) 5)), (12, (.c ⟨.fn, (.mk 71 [])⟩)), (13, (.c ⟨(.ptr (.arr 4 (.int .u64))), (.rf 3 [])⟩)), (14, (.v (.int .i64))), (74, (.sz (.arr 4 (.int .u64)))), (75, (.v (.int .i64))), (76, (.v (.int .i64)))], ob := [(0, (.v (.arr 4 (.int .u64)))), (3, (.v (.arr 4 (.int .u64))))], lo := 5, nx := 6 }
abbrev E_mont_Ring_Prod_6 : List Ex := [(.normal, { sl := [(0, (.pz (.pair (.arr 4 (.int .u64)) (.pair (.int .u64) (.pair (.arr 4 (.int .u64)) (.arr 4 (.int .u64))))))), (2, (.sz (.arr 4 (.int .u64)))), (6, (.c ⟨(.ptr (.arr 4 (.int .u64))), (.rf 0 [])⟩)), (8, (.w 124 (.arr 16 (.arr 4 (.int .u64))) 6)), (12, (.c ⟨.fn, (.mk 71 [])⟩)), (13, (.c ⟨(.ptr (.arr 4 (.int .u64))), (.rf 3 [])⟩)), (14, (.v (.int .i64)))], ob := [(0, (.v (.arr 4 (.int .u64)))), (3, (.v (.arr 4 (.int .u64))))], lo := 6, nx := 7 })]
noncomputable def L_mont_Ring_Prod_6 : Code := loopIn (bodyOf Try.f51) 6
noncomputable def P_mont_Ring_Prod_6 : Lp := lpOf S_mont_Ring_Prod_6 E_mont_Ring_Prod_6 98 R_mont_Ring_Prod_6
abbrev S_mont_Ring_Prod_2 : Shape := { sl := [(0, (.pz (.pair (.arr 4 (.int .u64)) (.pair (.int .u64) (.pair (.arr 4 (.int .u64)) (.arr 4 (.int .u64))))))), (2, (.sz (.arr 4 (.int .u64)))), (6, (.c ⟨(.ptr (.arr 4 (.int .u64))), (.rf 0 [])⟩)), (8, (.w 124 (.arr 16 (.arr 4 (.int .u64))) 4)), (12, (.c ⟨.fn, (.mk 71 [])⟩)), (13, (.c ⟨(.ptr (.arr 4 (.int .u64))), (.rf 3 [])⟩)), (14, (.v (.int .i64)))], ob := [(0, (.v (.arr 4 (.int .u64)))), (3, (.v (.arr 4 (.int .u64))))], lo := 4, nx := 5 }
abbrev E_mont_Ring_Prod_2 : List Ex := [(.normal, { sl := [(0, (.pz (.pair (.arr 4 (.int .u64)) (.pair (.int .u64) (.pair (.arr 4 (.int .u64)) (.arr 4 (.int .u64))))))), (6, (.c ⟨(.ptr (.arr 4 (.int .u64))), (.rf 0 [])⟩)), (13, (.c ⟨(.ptr (.arr 4 (.int .u64))), (.rf 3 [])⟩))], ob := [(0, (.v (.arr 4 (.int .u64)))), (3, (.v (.arr 4 (.int .u64))))], lo := 5, nx := 5 })]
noncomputable def L_mont_Ring_Prod_2 : Code := loopIn (bodyOf Try.f51) 2
noncomputable def P_mont_Ring_Prod_2 : Lp := lpOf S_mont_Ring_Prod_2 E_mont_Ring_Prod_2 98 R_mont_Ring_Prod_2
noncomputable def c_mont_Ring_Prod : Con := conV true [(.ptr (.pair (.arr 4 (.int .u64)) (.pair (.int .u64) (.pair (.arr 4 (.int .u64)) (.arr 4 (.int .u64)))))), (.sl (.arr 4 (.int .u64))), (.sl (.arr 4 (.int .u64)))] [(.arr 4 (.int .u64)), (.int .i64)] fun x => mont_Ring_Prod x.1 x.2.1.1 x.2.1.2 x.2.2.1.1 x.2.2.1.2
noncomputable def x_mont_Ring_Prod : Cx := { ti := ti, con := [(50, c_mont_Ring_given), (70, c_mont_Ring_powers), (20, c_nat_Len), (72, c_mont_Ring_redc), (71, c_mont_Ring_Prod_1), (21, c_nat_Of)], fns := [], un := 6 }
theorem xok_mont_Ring_Prod : CxOk Try.prog x_mont_Ring_Prod := CxOk.of mixed ti_ok (List.forall_mem_cons.2 ⟨con_mont_Ring_given, List.forall_mem_cons.2 ⟨con_mont_Ring_powers, List.forall_mem_cons.2 ⟨con_nat_Len, List.forall_mem_cons.2 ⟨con_mont_Ring_redc, List.forall_mem_cons.2 ⟨con_mont_Ring_Prod_1, List.forall_mem_cons.2 ⟨con_nat_Of, List.forall_mem_nil _⟩⟩⟩⟩⟩⟩) (List.forall_mem_nil _)
theorem r_mont_Ring_Prod_0 (x : S_mont_Ring_Prod_0.X) : denC x_mont_Ring_Prod [] (denF x_mont_Ring_Prod 8) L_mont_Ring_Prod_0 (S_mont_Ring_Prod_0.mkS 98 x) (kRound 0 S_mont_Ring_Prod_0 E_mont_Ring_Prod_0) = R_mont_Ring_Prod_0 x := by kernel_rfl
theorem l_mont_Ring_Prod_0 : LpOk Try.prog 0 (.loop L_mont_Ring_Prod_0) P_mont_Ring_Prod_0 := lpOf_ok xok_mont_Ring_Prod 8 (lps_nil) S_mont_Ring_Prod_0 E_mont_Ring_Prod_0 98 R_mont_Ring_Prod_0 (by decide) r_mont_Ring_Prod_0
theorem r_mont_Ring_Prod_6 (x : S_mont_Ring_Prod_6.X) : denC x_mont_Ring_Prod [] (denF x_mont_Ring_Prod 8) L_mont_Ring_Prod_6 (S_mont_Ring_Prod_6.mkS 98 x) (kRound 6 S_mont_Ring_Prod_6 E_mont_Ring_Prod_6) = R_mont_Ring_Prod_6 x := by kernel_rfl
theorem l_mont_Ring_Prod_6 : LpOk Try.prog 6 (.loop L_mont_Ring_Prod_6) P_mont_Ring_Prod_6 := lpOf_ok xok_mont_Ring_Prod 8 (lps_nil) S_mont_Ring_Prod_6 E_mont_Ring_Prod_6 98 R_mont_Ring_Prod_6 (by decide) r_mont_Ring_Prod_6
theorem r_mont_Ring_Prod_2 (x : S_mont_Ring_Prod_2.X) : denC x_mont_Ring_Prod [(6, P_mont_Ring_Prod_6)] (denF x_mont_Ring_Prod 8) L_mont_Ring_Prod_2 (S_mont_Ring_Prod_2.mkS 98 x) (kRound 2 S_mont_Ring_Prod_2 E_mont_Ring_Prod_2) = R_mont_Ring_Prod_2 x := by kernel_rfl
theorem l_mont_Ring_Prod_2 : LpOk Try.prog 2 (.loop L_mont_Ring_Prod_2) P_mont_Ring_Prod_2 := lpOf_ok xok_mont_Ring_Prod 8 (lps_of (by kernel_rfl) (lps_one l_mont_Ring_Prod_6 (by kernel_rfl) (List.forall_mem_nil _))) S_mont_Ring_Prod_2 E_mont_Ring_Prod_2 98 R_mont_Ring_Prod_2 (by decide) r_mont_Ring_Prod_2
theorem fn_mont_Ring_Prod : FnOk Try.prog 51 Try.f51 [(0, P_mont_Ring_Prod_0), (6, P_mont_Ring_Prod_6), (2, P_mont_Ring_Prod_2)] := ⟨Try.func51, Try.call51, lps_of (by kernel_rfl) (lps_one l_mont_Ring_Prod_0 (by kernel_rfl) (lps_one l_mont_Ring_Prod_6 (by kernel_rfl) (lps_one l_mont_Ring_Prod_2 (by kernel_rfl) (List.forall_mem_nil _))))⟩
theorem e_mont_Ring_Prod (r : (Option ((Nat → Int) × (Int × ((Nat → Int) × (Nat → Int)))))) (nbases : Nat) (bases : Nat → (Nat → Int)) (nexps : Nat) (exps : Nat → (Nat → Int)) : bodyK x_mont_Ring_Prod [(0, P_mont_Ring_Prod_0), (6, P_mont_Ring_Prod_6), (2, P_mont_Ring_Prod_2)] (denF x_mont_Ring_Prod 8) Try.f51 (domV [(.ptr (.pair (.arr 4 (.int .u64)) (.pair (.int .u64) (.pair (.arr 4 (.int .u64)) (.arr 4 (.int .u64)))))), (.sl (.arr 4 (.int .u64))), (.sl (.arr 4 (.int .u64)))] (r, (nbases, bases), (nexps, exps), ())) [] 0 (kOut [(.arr 4 (.int .u64)), (.int .i64)]) = mont_Ring_Prod' r nbases bases nexps exps := by cases r <;> kernel_rfl
theorem con_mont_Ring_Prod : ConOk Try.prog 51 c_mont_Ring_Prod := con_ok xok_mont_Ring_Prod 8 fn_mont_Ring_Prod true [(.ptr (.pair (.arr 4 (.int .u64)) (.pair (.int .u64) (.pair (.arr 4 (.int .u64)) (.arr 4 (.int .u64)))))), (.sl (.arr 4 (.int .u64))), (.sl (.arr 4 (.int .u64)))] [(.arr 4 (.int .u64)), (.int .i64)] _ (by decide) (fun x => by rw [mont_Ring_Prod_eq]; exact e_mont_Ring_Prod x.1 x.2.1.1 x.2.1.2 x.2.2.1.1 x.2.2.1.2)
noncomputable def c_mont_Ring_Exp : Con := conV true [(.ptr (.pair (.arr 4 (.int .u64)) (.pair (.int .u64) (.pair (.arr 4 (.int .u64)) (.arr 4 (.int .u64)))))), (.arr 4 (.int .u64)), (.arr 4 (.int .u64))] [(.arr 4 (.int .u64))] fun x => mont_Ring_Exp x.1 x.2.1 x.2.2.1
noncomputable def x_mont_Ring_Exp : Cx := { ti := ti, con := [(51, c_mont_Ring_Prod)], fns := [], un := 6 }
theorem xok_mont_Ring_Exp : CxOk Try.prog x_mont_Ring_Exp := CxOk.of mixed ti_ok (List.forall_mem_cons.2 ⟨con_mont_Ring_Prod, List.forall_mem_nil _⟩) (List.forall_mem_nil _)
theorem fn_mont_Ring_Exp : FnOk Try.prog 23 Try.f23 [] := ⟨Try.func23, Try.call23, lps_nil⟩
theorem e_mont_Ring_Exp (r : (Option ((Nat → Int) × (Int × ((Nat → Int) × (Nat → Int)))))) (a : (Nat → Int)) (e : (Nat → Int)) : bodyK x_mont_Ring_Exp [] (denF x_mont_Ring_Exp 8) Try.f23 (domV [(.ptr (.pair (.arr 4 (.int .u64)) (.pair (.int .u64) (.pair (.arr 4 (.int .u64)) (.arr 4 (.int .u64)))))), (.arr 4 (.int .u64)), (.arr 4 (.int .u64))] (r, a, e, ())) [] 0 (kOut [(.arr 4 (.int .u64))]) = mont_Ring_Exp' r a e := by cases r <;> kernel_rfl
theorem con_mont_Ring_Exp : ConOk Try.prog 23 c_mont_Ring_Exp := con_ok xok_mont_Ring_Exp 8 fn_mont_Ring_Exp true [(.ptr (.pair (.arr 4 (.int .u64)) (.pair (.int .u64) (.pair (.arr 4 (.int .u64)) (.arr 4 (.int .u64)))))), (.arr 4 (.int .u64)), (.arr 4 (.int .u64))] [(.arr 4 (.int .u64))] _ (by decide) (fun x => by rw [mont_Ring_Exp_eq]; exact e_mont_Ring_Exp x.1 x.2.1 x.2.2.1)
noncomputable def c_mont_Ring_In : Con := conV true [(.ptr (.pair (.arr 4 (.int .u64)) (.pair (.int .u64) (.pair (.arr 4 (.int .u64)) (.arr 4 (.int .u64)))))), (.arr 4 (.int .u64))] [.bool] fun x => mont_Ring_In x.1 x.2.1
noncomputable def x_mont_Ring_In : Cx := { ti := ti, con := [(50, c_mont_Ring_given), (36, c_nat_Cmp)], fns := [], un := 6 }
theorem xok_mont_Ring_In : CxOk Try.prog x_mont_Ring_In := CxOk.of mixed ti_ok (List.forall_mem_cons.2 ⟨con_mont_Ring_given, List.forall_mem_cons.2 ⟨con_nat_Cmp, List.forall_mem_nil _⟩⟩) (List.forall_mem_nil _)
theorem fn_mont_Ring_In : FnOk Try.prog 22 Try.f22 [] := ⟨Try.func22, Try.call22, lps_nil⟩
theorem e_mont_Ring_In (r : (Option ((Nat → Int) × (Int × ((Nat → Int) × (Nat → Int)))))) (a : (Nat → Int)) : bodyK x_mont_Ring_In [] (denF x_mont_Ring_In 8) Try.f22 (domV [(.ptr (.pair (.arr 4 (.int .u64)) (.pair (.int .u64) (.pair (.arr 4 (.int .u64)) (.arr 4 (.int .u64)))))), (.arr 4 (.int .u64))] (r, a, ())) [] 0 (kOut [.bool]) = mont_Ring_In' r a := by cases r <;> kernel_rfl
theorem con_mont_Ring_In : ConOk Try.prog 22 c_mont_Ring_In := con_ok xok_mont_Ring_In 8 fn_mont_Ring_In true [(.ptr (.pair (.arr 4 (.int .u64)) (.pair (.int .u64) (.pair (.arr 4 (.int .u64)) (.arr 4 (.int .u64)))))), (.arr 4 (.int .u64))] [.bool] _ (by decide) (fun x => by rw [mont_Ring_In_eq]; exact e_mont_Ring_In x.1 x.2.1)
noncomputable def c_mont_Ring_M : Con := conV true [(.ptr (.pair (.arr 4 (.int .u64)) (.pair (.int .u64) (.pair (.arr 4 (.int .u64)) (.arr 4 (.int .u64))))))] [(.arr 4 (.int .u64))] fun x => mont_Ring_M x.1
noncomputable def x_mont_Ring_M : Cx := { ti := ti, con := [(50, c_mont_Ring_given)], fns := [], un := 6 }
theorem xok_mont_Ring_M : CxOk Try.prog x_mont_Ring_M := CxOk.of mixed ti_ok (List.forall_mem_cons.2 ⟨con_mont_Ring_given, List.forall_mem_nil _⟩) (List.forall_mem_nil _)
theorem fn_mont_Ring_M : FnOk Try.prog 26 Try.f26 [] := ⟨Try.func26, Try.call26, lps_nil⟩
theorem e_mont_Ring_M (r : (Option ((Nat → Int) × (Int × ((Nat → Int) × (Nat → Int)))))) : bodyK x_mont_Ring_M [] (denF x_mont_Ring_M 8) Try.f26 (domV [(.ptr (.pair (.arr 4 (.int .u64)) (.pair (.int .u64) (.pair (.arr 4 (.int .u64)) (.arr 4 (.int .u64))))))] (r, ())) [] 0 (kOut [(.arr 4 (.int .u64))]) = mont_Ring_M' r := by cases r <;> kernel_rfl
theorem con_mont_Ring_M : ConOk Try.prog 26 c_mont_Ring_M := con_ok xok_mont_Ring_M 8 fn_mont_Ring_M true [(.ptr (.pair (.arr 4 (.int .u64)) (.pair (.int .u64) (.pair (.arr 4 (.int .u64)) (.arr 4 (.int .u64))))))] [(.arr 4 (.int .u64))] _ (by decide) (fun x => by rw [mont_Ring_M_eq]; exact e_mont_Ring_M x.1)
end Go.Proofs.Ythmfddbehhgnkaa

set_option linter.unusedVariables false
set_option linter.unusedSimpArgs false
set_option maxRecDepth 100000
set_option maxHeartbeats 0
namespace Go.Pl
end Go.Pl
open Go Go.Den Go.Pl
namespace Go.Proofs.Ythmfddbehhgnkaa
abbrev S_prime_Small_0 : Shape := { sl := [(0, (.v (.int .i64))), (3, (.v .bool)), (11, (.v (.int .i64))), (12, (.v (.int .i64)))], ob := [], lo := 0, nx := 0 }
abbrev E_prime_Small_0 : List Ex := [(.normal, { sl := [(3, (.v .bool))], ob := [], lo := 0, nx := 0 })]
noncomputable def L_prime_Small_0 : Code := loopIn (bodyOf Try.f29) 0
noncomputable def P_prime_Small_0 : Lp := lpOf S_prime_Small_0 E_prime_Small_0 31 R_prime_Small_0
noncomputable def c_prime_Small : Con := conV true [(.int .i64)] [.bool] fun x => prime_Small x.1
noncomputable def x_prime_Small : Cx := { ti := ti, con := [], fns := [], un := 6 }
theorem xok_prime_Small : CxOk Try.prog x_prime_Small := CxOk.of mixed ti_ok (List.forall_mem_nil _) (List.forall_mem_nil _)
theorem r_prime_Small_0 (x : S_prime_Small_0.X) : denC x_prime_Small [] (denF x_prime_Small 8) L_prime_Small_0 (S_prime_Small_0.mkS 31 x) (kRound 0 S_prime_Small_0 E_prime_Small_0) = R_prime_Small_0 x := by kernel_rfl
theorem l_prime_Small_0 : LpOk Try.prog 0 (.loop L_prime_Small_0) P_prime_Small_0 := lpOf_ok xok_prime_Small 8 (lps_nil) S_prime_Small_0 E_prime_Small_0 31 R_prime_Small_0 (by decide) r_prime_Small_0
theorem fn_prime_Small : FnOk Try.prog 29 Try.f29 [(0, P_prime_Small_0)] := ⟨Try.func29, Try.call29, lps_of (by kernel_rfl) (lps_one l_prime_Small_0 (by kernel_rfl) (List.forall_mem_nil _))⟩
theorem e_prime_Small (n : Int) : bodyK x_prime_Small [(0, P_prime_Small_0)] (denF x_prime_Small 8) Try.f29 (domV [(.int .i64)] (n, ())) [] 0 (kOut [.bool]) = prime_Small' n := by kernel_rfl
theorem con_prime_Small : ConOk Try.prog 29 c_prime_Small := con_ok xok_prime_Small 8 fn_prime_Small true [(.int .i64)] [.bool] _ (by decide) (fun x => by rw [prime_Small_eq]; exact e_prime_Small x.1)
noncomputable def c_prime_Step : Con := conV true [(.arr 4 (.int .u64)), (.arr 4 (.int .u64)), (.int .i64)] [.bool] fun x => prime_Step x.1 x.2.1 x.2.2.1
noncomputable def x_prime_Step : Cx := { ti := ti, con := [(19, c_mont_New), (21, c_nat_Of), (37, c_nat_Sub), (38, c_wide_Div), (39, c_wide_Mul), (36, c_nat_Cmp), (23, c_mont_Ring_Exp), (40, c_wide_SubMod), (41, c_wide_Gcd)], fns := [], un := 6 }
theorem xok_prime_Step : CxOk Try.prog x_prime_Step := CxOk.of mixed ti_ok (List.forall_mem_cons.2 ⟨con_mont_New, List.forall_mem_cons.2 ⟨con_nat_Of, List.forall_mem_cons.2 ⟨con_nat_Sub, List.forall_mem_cons.2 ⟨con_wide_Div, List.forall_mem_cons.2 ⟨con_wide_Mul, List.forall_mem_cons.2 ⟨con_nat_Cmp, List.forall_mem_cons.2 ⟨con_mont_Ring_Exp, List.forall_mem_cons.2 ⟨con_wide_SubMod, List.forall_mem_cons.2 ⟨con_wide_Gcd, List.forall_mem_nil _⟩⟩⟩⟩⟩⟩⟩⟩⟩) (List.forall_mem_nil _)
theorem fn_prime_Step : FnOk Try.prog 15 Try.f15 [] := ⟨Try.func15, Try.call15, lps_nil⟩
theorem e_prime_Step (n : (Nat → Int)) (factor : (Nat → Int)) (witness : Int) : bodyK x_prime_Step [] (denF x_prime_Step 8) Try.f15 (domV [(.arr 4 (.int .u64)), (.arr 4 (.int .u64)), (.int .i64)] (n, factor, witness, ())) [] 0 (kOut [.bool]) = prime_Step' n factor witness := by kernel_rfl
theorem con_prime_Step : ConOk Try.prog 15 c_prime_Step := con_ok xok_prime_Step 8 fn_prime_Step true [(.arr 4 (.int .u64)), (.arr 4 (.int .u64)), (.int .i64)] [.bool] _ (by decide) (fun x => by rw [prime_Step_eq]; exact e_prime_Step x.1 x.2.1 x.2.2.1)
abbrev S_prime_Witness_0 : Shape := { sl := [(2, (.c ⟨(.ptr (.arr 4 (.int .u64))), (.rf 0 [])⟩)), (3, (.c ⟨(.ptr (.arr 4 (.int .u64))), (.rf 1 [])⟩)), (6, (.v (.int .i64)))], ob := [(0, (.v (.arr 4 (.int .u64)))), (1, (.v (.arr 4 (.int .u64))))], lo := 2, nx := 2 }
abbrev E_prime_Witness_0 : List Ex := [(.ret, { sl := [(4, (.v (.int .i64))), (5, (.v (.int .i64)))], ob := [], lo := 2, nx := 2 }), (.normal, { sl := [], ob := [], lo := 2, nx := 2 })]
noncomputable def L_prime_Witness_0 : Code := loopIn (bodyOf Try.f55) 0
noncomputable def P_prime_Witness_0 : Lp := lpOf S_prime_Witness_0 E_prime_Witness_0 16 R_prime_Witness_0
noncomputable def c_prime_Witness : Con := conV true [(.arr 4 (.int .u64)), (.arr 4 (.int .u64))] [(.int .i64), (.int .i64)] fun x => prime_Witness x.1 x.2.1
noncomputable def x_prime_Witness : Cx := { ti := ti, con := [(15, c_prime_Step)], fns := [], un := 6 }
theorem xok_prime_Witness : CxOk Try.prog x_prime_Witness := CxOk.of mixed ti_ok (List.forall_mem_cons.2 ⟨con_prime_Step, List.forall_mem_nil _⟩) (List.forall_mem_nil _)
theorem r_prime_Witness_0 (x : S_prime_Witness_0.X) : denC x_prime_Witness [] (denF x_prime_Witness 8) L_prime_Witness_0 (S_prime_Witness_0.mkS 16 x) (kRound 0 S_prime_Witness_0 E_prime_Witness_0) = R_prime_Witness_0 x := by kernel_rfl
theorem l_prime_Witness_0 : LpOk Try.prog 0 (.loop L_prime_Witness_0) P_prime_Witness_0 := lpOf_ok xok_prime_Witness 8 (lps_nil) S_prime_Witness_0 E_prime_Witness_0 16 R_prime_Witness_0 (by decide) r_prime_Witness_0
theorem fn_prime_Witness : FnOk Try.prog 55 Try.f55 [(0, P_prime_Witness_0)] := ⟨Try.func55, Try.call55, lps_of (by kernel_rfl) (lps_one l_prime_Witness_0 (by kernel_rfl) (List.forall_mem_nil _))⟩
theorem e_prime_Witness (n : (Nat → Int)) (factor : (Nat → Int)) : bodyK x_prime_Witness [(0, P_prime_Witness_0)] (denF x_prime_Witness 8) Try.f55 (domV [(.arr 4 (.int .u64)), (.arr 4 (.int .u64))] (n, factor, ())) [] 0 (kOut [(.int .i64), (.int .i64)]) = prime_Witness' n factor := by kernel_rfl
theorem con_prime_Witness : ConOk Try.prog 55 c_prime_Witness := con_ok xok_prime_Witness 8 fn_prime_Witness true [(.arr 4 (.int .u64)), (.arr 4 (.int .u64))] [(.int .i64), (.int .i64)] _ (by decide) (fun x => by rw [prime_Witness_eq]; exact e_prime_Witness x.1 x.2.1)
abbrev S_prime_Check_0 : Shape := { sl := [(0, (.sz (.pair (.arr 4 (.int .u64)) (.int .i64)))), (5, (.v (.int .i64)))], ob := [], lo := 0, nx := 0 }
abbrev E_prime_Check_0 : List Ex := [(.ret, { sl := [(2, (.v (.int .i64)))], ob := [], lo := 0, nx := 0 }), (.normal, { sl := [], ob := [], lo := 0, nx := 0 })]
noncomputable def L_prime_Check_0 : Code := loopIn (bodyOf Try.f10) 0
noncomputable def P_prime_Check_0 : Lp := lpOf S_prime_Check_0 E_prime_Check_0 60 R_prime_Check_0
noncomputable def c_prime_Check : Con := conV true [(.sl (.pair (.arr 4 (.int .u64)) (.int .i64)))] [(.int .i64)] fun x => prime_Check x.1.1 x.1.2
noncomputable def x_prime_Check : Cx := { ti := ti, con := [(28, c_nat_Int), (29, c_prime_Small), (15, c_prime_Step)], fns := [], un := 6 }
theorem xok_prime_Check : CxOk Try.prog x_prime_Check := CxOk.of mixed ti_ok (List.forall_mem_cons.2 ⟨con_nat_Int, List.forall_mem_cons.2 ⟨con_prime_Small, List.forall_mem_cons.2 ⟨con_prime_Step, List.forall_mem_nil _⟩⟩⟩) (List.forall_mem_nil _)
theorem r_prime_Check_0 (x : S_prime_Check_0.X) : denC x_prime_Check [] (denF x_prime_Check 8) L_prime_Check_0 (S_prime_Check_0.mkS 60 x) (kRound 0 S_prime_Check_0 E_prime_Check_0) = R_prime_Check_0 x := by kernel_rfl
theorem l_prime_Check_0 : LpOk Try.prog 0 (.loop L_prime_Check_0) P_prime_Check_0 := lpOf_ok xok_prime_Check 8 (lps_nil) S_prime_Check_0 E_prime_Check_0 60 R_prime_Check_0 (by decide) r_prime_Check_0
theorem fn_prime_Check : FnOk Try.prog 10 Try.f10 [(0, P_prime_Check_0)] := ⟨Try.func10, Try.call10, lps_of (by kernel_rfl) (lps_one l_prime_Check_0 (by kernel_rfl) (List.forall_mem_nil _))⟩
theorem e_prime_Check (nl : Nat) (l : Nat → ((Nat → Int) × Int)) : bodyK x_prime_Check [(0, P_prime_Check_0)] (denF x_prime_Check 8) Try.f10 (domV [(.sl (.pair (.arr 4 (.int .u64)) (.int .i64)))] ((nl, l), ())) [] 0 (kOut [(.int .i64)]) = prime_Check' nl l := by kernel_rfl
theorem con_prime_Check : ConOk Try.prog 10 c_prime_Check := con_ok xok_prime_Check 8 fn_prime_Check true [(.sl (.pair (.arr 4 (.int .u64)) (.int .i64)))] [(.int .i64)] _ (by decide) (fun x => by rw [prime_Check_eq]; exact e_prime_Check x.1.1 x.1.2)
end Go.Proofs.Ythmfddbehhgnkaa

set_option linter.unusedVariables false
set_option linter.unusedSimpArgs false
set_option maxRecDepth 100000
set_option maxHeartbeats 0
namespace Go.Pl
end Go.Pl
open Go Go.Den Go.Pl
namespace Go.Proofs.Ythmfddbehhgnkaa
noncomputable def c_group_New : Con := conV false [(.pair (.sl (.pair (.arr 4 (.int .u64)) (.int .i64))) (.arr 4 (.int .u64)))] [(.ptr (.pair (.pair (.ptr (.pair (.arr 4 (.int .u64)) (.pair (.int .u64) (.pair (.arr 4 (.int .u64)) (.arr 4 (.int .u64)))))) (.ptr (.pair (.arr 4 (.int .u64)) (.pair (.int .u64) (.pair (.arr 4 (.int .u64)) (.arr 4 (.int .u64))))))) (.arr 4 (.int .u64)))), (.int .i64)] fun x => group_New x.1
noncomputable def x_group_New : Cx := { ti := ti, con := [(10, c_prime_Check), (19, c_mont_New), (20, c_nat_Len), (21, c_nat_Of), (22, c_mont_Ring_In), (23, c_mont_Ring_Exp)], fns := [], un := 6 }
theorem xok_group_New : CxOk Try.prog x_group_New := CxOk.of mixed ti_ok (List.forall_mem_cons.2 ⟨con_prime_Check, List.forall_mem_cons.2 ⟨con_mont_New, List.forall_mem_cons.2 ⟨con_nat_Len, List.forall_mem_cons.2 ⟨con_nat_Of, List.forall_mem_cons.2 ⟨con_mont_Ring_In, List.forall_mem_cons.2 ⟨con_mont_Ring_Exp, List.forall_mem_nil _⟩⟩⟩⟩⟩⟩) (List.forall_mem_nil _)
theorem fn_group_New : FnOk Try.prog 6 Try.f6 [] := ⟨Try.func6, Try.call6, lps_nil⟩
theorem e_group_New (p : ((Nat × (Nat → ((Nat → Int) × Int))) × (Nat → Int))) : bodyK x_group_New [] (denF x_group_New 8) Try.f6 (domV [(.pair (.sl (.pair (.arr 4 (.int .u64)) (.int .i64))) (.arr 4 (.int .u64)))] (p, ())) [] 0 (kOut [(.ptr (.pair (.pair (.ptr (.pair (.arr 4 (.int .u64)) (.pair (.int .u64) (.pair (.arr 4 (.int .u64)) (.arr 4 (.int .u64)))))) (.ptr (.pair (.arr 4 (.int .u64)) (.pair (.int .u64) (.pair (.arr 4 (.int .u64)) (.arr 4 (.int .u64))))))) (.arr 4 (.int .u64)))), (.int .i64)]) = group_New' p := by kernel_rfl
theorem con_group_New : ConOk Try.prog 6 c_group_New := con_ok xok_group_New 8 fn_group_New false [(.pair (.sl (.pair (.arr 4 (.int .u64)) (.int .i64))) (.arr 4 (.int .u64)))] [(.ptr (.pair (.pair (.ptr (.pair (.arr 4 (.int .u64)) (.pair (.int .u64) (.pair (.arr 4 (.int .u64)) (.arr 4 (.int .u64)))))) (.ptr (.pair (.arr 4 (.int .u64)) (.pair (.int .u64) (.pair (.arr 4 (.int .u64)) (.arr 4 (.int .u64))))))) (.arr 4 (.int .u64)))), (.int .i64)] _ (by decide) (fun x => by rw [group_New_eq]; exact e_group_New x.1)
noncomputable def c_group_Check : Con := conV true [(.pair (.sl (.pair (.arr 4 (.int .u64)) (.int .i64))) (.arr 4 (.int .u64)))] [(.int .i64)] fun x => group_Check x.1
noncomputable def x_group_Check : Cx := { ti := ti, con := [(6, c_group_New)], fns := [], un := 6 }
theorem xok_group_Check : CxOk Try.prog x_group_Check := CxOk.of mixed ti_ok (List.forall_mem_cons.2 ⟨con_group_New, List.forall_mem_nil _⟩) (List.forall_mem_nil _)
theorem fn_group_Check : FnOk Try.prog 18 Try.f18 [] := ⟨Try.func18, Try.call18, lps_nil⟩
theorem e_group_Check (p : ((Nat × (Nat → ((Nat → Int) × Int))) × (Nat → Int))) : bodyK x_group_Check [] (denF x_group_Check 8) Try.f18 (domV [(.pair (.sl (.pair (.arr 4 (.int .u64)) (.int .i64))) (.arr 4 (.int .u64)))] (p, ())) [] 0 (kOut [(.int .i64)]) = group_Check' p := by kernel_rfl
theorem con_group_Check : ConOk Try.prog 18 c_group_Check := con_ok xok_group_Check 8 fn_group_Check true [(.pair (.sl (.pair (.arr 4 (.int .u64)) (.int .i64))) (.arr 4 (.int .u64)))] [(.int .i64)] _ (by decide) (fun x => by rw [group_Check_eq]; exact e_group_Check x.1)
noncomputable def c_group_Group_Field : Con := conV false [(.ptr (.pair (.pair (.ptr (.pair (.arr 4 (.int .u64)) (.pair (.int .u64) (.pair (.arr 4 (.int .u64)) (.arr 4 (.int .u64)))))) (.ptr (.pair (.arr 4 (.int .u64)) (.pair (.int .u64) (.pair (.arr 4 (.int .u64)) (.arr 4 (.int .u64))))))) (.arr 4 (.int .u64))))] [(.ptr (.pair (.arr 4 (.int .u64)) (.pair (.int .u64) (.pair (.arr 4 (.int .u64)) (.arr 4 (.int .u64))))))] fun x => group_Group_Field x.1
noncomputable def x_group_Group_Field : Cx := { ti := ti, con := [], fns := [], un := 6 }
theorem xok_group_Group_Field : CxOk Try.prog x_group_Group_Field := CxOk.of mixed ti_ok (List.forall_mem_nil _) (List.forall_mem_nil _)
theorem fn_group_Group_Field : FnOk Try.prog 25 Try.f25 [] := ⟨Try.func25, Try.call25, lps_nil⟩
theorem e_group_Group_Field (g : (Option (((PtrV ((Nat → Int) × (Int × ((Nat → Int) × (Nat → Int))))) × (PtrV ((Nat → Int) × (Int × ((Nat → Int) × (Nat → Int)))))) × (Nat → Int)))) : bodyK x_group_Group_Field [] (denF x_group_Group_Field 8) Try.f25 (domV [(.ptr (.pair (.pair (.ptr (.pair (.arr 4 (.int .u64)) (.pair (.int .u64) (.pair (.arr 4 (.int .u64)) (.arr 4 (.int .u64)))))) (.ptr (.pair (.arr 4 (.int .u64)) (.pair (.int .u64) (.pair (.arr 4 (.int .u64)) (.arr 4 (.int .u64))))))) (.arr 4 (.int .u64))))] (g, ())) [] 0 (kOut [(.ptr (.pair (.arr 4 (.int .u64)) (.pair (.int .u64) (.pair (.arr 4 (.int .u64)) (.arr 4 (.int .u64))))))]) = group_Group_Field' g := by cases g <;> kernel_rfl
theorem con_group_Group_Field : ConOk Try.prog 25 c_group_Group_Field := con_ok xok_group_Group_Field 8 fn_group_Group_Field false [(.ptr (.pair (.pair (.ptr (.pair (.arr 4 (.int .u64)) (.pair (.int .u64) (.pair (.arr 4 (.int .u64)) (.arr 4 (.int .u64)))))) (.ptr (.pair (.arr 4 (.int .u64)) (.pair (.int .u64) (.pair (.arr 4 (.int .u64)) (.arr 4 (.int .u64))))))) (.arr 4 (.int .u64))))] [(.ptr (.pair (.arr 4 (.int .u64)) (.pair (.int .u64) (.pair (.arr 4 (.int .u64)) (.arr 4 (.int .u64))))))] _ (by decide) (fun x => by rw [group_Group_Field_eq]; exact e_group_Group_Field x.1)
noncomputable def c_group_Group_Q : Con := conV true [(.ptr (.pair (.pair (.ptr (.pair (.arr 4 (.int .u64)) (.pair (.int .u64) (.pair (.arr 4 (.int .u64)) (.arr 4 (.int .u64)))))) (.ptr (.pair (.arr 4 (.int .u64)) (.pair (.int .u64) (.pair (.arr 4 (.int .u64)) (.arr 4 (.int .u64))))))) (.arr 4 (.int .u64))))] [(.arr 4 (.int .u64))] fun x => group_Group_Q x.1
noncomputable def x_group_Group_Q : Cx := { ti := ti, con := [(25, c_group_Group_Field), (26, c_mont_Ring_M)], fns := [], un := 6 }
theorem xok_group_Group_Q : CxOk Try.prog x_group_Group_Q := CxOk.of mixed ti_ok (List.forall_mem_cons.2 ⟨con_group_Group_Field, List.forall_mem_cons.2 ⟨con_mont_Ring_M, List.forall_mem_nil _⟩⟩) (List.forall_mem_nil _)
theorem fn_group_Group_Q : FnOk Try.prog 8 Try.f8 [] := ⟨Try.func8, Try.call8, lps_nil⟩
theorem e_group_Group_Q (g : (Option (((PtrV ((Nat → Int) × (Int × ((Nat → Int) × (Nat → Int))))) × (PtrV ((Nat → Int) × (Int × ((Nat → Int) × (Nat → Int)))))) × (Nat → Int)))) : bodyK x_group_Group_Q [] (denF x_group_Group_Q 8) Try.f8 (domV [(.ptr (.pair (.pair (.ptr (.pair (.arr 4 (.int .u64)) (.pair (.int .u64) (.pair (.arr 4 (.int .u64)) (.arr 4 (.int .u64)))))) (.ptr (.pair (.arr 4 (.int .u64)) (.pair (.int .u64) (.pair (.arr 4 (.int .u64)) (.arr 4 (.int .u64))))))) (.arr 4 (.int .u64))))] (g, ())) [] 0 (kOut [(.arr 4 (.int .u64))]) = group_Group_Q' g := by cases g <;> kernel_rfl
theorem con_group_Group_Q : ConOk Try.prog 8 c_group_Group_Q := con_ok xok_group_Group_Q 8 fn_group_Group_Q true [(.ptr (.pair (.pair (.ptr (.pair (.arr 4 (.int .u64)) (.pair (.int .u64) (.pair (.arr 4 (.int .u64)) (.arr 4 (.int .u64)))))) (.ptr (.pair (.arr 4 (.int .u64)) (.pair (.int .u64) (.pair (.arr 4 (.int .u64)) (.arr 4 (.int .u64))))))) (.arr 4 (.int .u64))))] [(.arr 4 (.int .u64))] _ (by decide) (fun x => by rw [group_Group_Q_eq]; exact e_group_Group_Q x.1)
noncomputable def c_group_Group_Ring : Con := conV false [(.ptr (.pair (.pair (.ptr (.pair (.arr 4 (.int .u64)) (.pair (.int .u64) (.pair (.arr 4 (.int .u64)) (.arr 4 (.int .u64)))))) (.ptr (.pair (.arr 4 (.int .u64)) (.pair (.int .u64) (.pair (.arr 4 (.int .u64)) (.arr 4 (.int .u64))))))) (.arr 4 (.int .u64))))] [(.ptr (.pair (.arr 4 (.int .u64)) (.pair (.int .u64) (.pair (.arr 4 (.int .u64)) (.arr 4 (.int .u64))))))] fun x => group_Group_Ring x.1
noncomputable def x_group_Group_Ring : Cx := { ti := ti, con := [], fns := [], un := 6 }
theorem xok_group_Group_Ring : CxOk Try.prog x_group_Group_Ring := CxOk.of mixed ti_ok (List.forall_mem_nil _) (List.forall_mem_nil _)
theorem fn_group_Group_Ring : FnOk Try.prog 27 Try.f27 [] := ⟨Try.func27, Try.call27, lps_nil⟩
theorem e_group_Group_Ring (g : (Option (((PtrV ((Nat → Int) × (Int × ((Nat → Int) × (Nat → Int))))) × (PtrV ((Nat → Int) × (Int × ((Nat → Int) × (Nat → Int)))))) × (Nat → Int)))) : bodyK x_group_Group_Ring [] (denF x_group_Group_Ring 8) Try.f27 (domV [(.ptr (.pair (.pair (.ptr (.pair (.arr 4 (.int .u64)) (.pair (.int .u64) (.pair (.arr 4 (.int .u64)) (.arr 4 (.int .u64)))))) (.ptr (.pair (.arr 4 (.int .u64)) (.pair (.int .u64) (.pair (.arr 4 (.int .u64)) (.arr 4 (.int .u64))))))) (.arr 4 (.int .u64))))] (g, ())) [] 0 (kOut [(.ptr (.pair (.arr 4 (.int .u64)) (.pair (.int .u64) (.pair (.arr 4 (.int .u64)) (.arr 4 (.int .u64))))))]) = group_Group_Ring' g := by cases g <;> kernel_rfl
theorem con_group_Group_Ring : ConOk Try.prog 27 c_group_Group_Ring := con_ok xok_group_Group_Ring 8 fn_group_Group_Ring false [(.ptr (.pair (.pair (.ptr (.pair (.arr 4 (.int .u64)) (.pair (.int .u64) (.pair (.arr 4 (.int .u64)) (.arr 4 (.int .u64)))))) (.ptr (.pair (.arr 4 (.int .u64)) (.pair (.int .u64) (.pair (.arr 4 (.int .u64)) (.arr 4 (.int .u64))))))) (.arr 4 (.int .u64))))] [(.ptr (.pair (.arr 4 (.int .u64)) (.pair (.int .u64) (.pair (.arr 4 (.int .u64)) (.arr 4 (.int .u64))))))] _ (by decide) (fun x => by rw [group_Group_Ring_eq]; exact e_group_Group_Ring x.1)
noncomputable def c_group_Group_P : Con := conV true [(.ptr (.pair (.pair (.ptr (.pair (.arr 4 (.int .u64)) (.pair (.int .u64) (.pair (.arr 4 (.int .u64)) (.arr 4 (.int .u64)))))) (.ptr (.pair (.arr 4 (.int .u64)) (.pair (.int .u64) (.pair (.arr 4 (.int .u64)) (.arr 4 (.int .u64))))))) (.arr 4 (.int .u64))))] [(.arr 4 (.int .u64))] fun x => group_Group_P x.1
noncomputable def x_group_Group_P : Cx := { ti := ti, con := [(27, c_group_Group_Ring), (26, c_mont_Ring_M)], fns := [], un := 6 }
theorem xok_group_Group_P : CxOk Try.prog x_group_Group_P := CxOk.of mixed ti_ok (List.forall_mem_cons.2 ⟨con_group_Group_Ring, List.forall_mem_cons.2 ⟨con_mont_Ring_M, List.forall_mem_nil _⟩⟩) (List.forall_mem_nil _)
theorem fn_group_Group_P : FnOk Try.prog 9 Try.f9 [] := ⟨Try.func9, Try.call9, lps_nil⟩
theorem e_group_Group_P (g : (Option (((PtrV ((Nat → Int) × (Int × ((Nat → Int) × (Nat → Int))))) × (PtrV ((Nat → Int) × (Int × ((Nat → Int) × (Nat → Int)))))) × (Nat → Int)))) : bodyK x_group_Group_P [] (denF x_group_Group_P 8) Try.f9 (domV [(.ptr (.pair (.pair (.ptr (.pair (.arr 4 (.int .u64)) (.pair (.int .u64) (.pair (.arr 4 (.int .u64)) (.arr 4 (.int .u64)))))) (.ptr (.pair (.arr 4 (.int .u64)) (.pair (.int .u64) (.pair (.arr 4 (.int .u64)) (.arr 4 (.int .u64))))))) (.arr 4 (.int .u64))))] (g, ())) [] 0 (kOut [(.arr 4 (.int .u64))]) = group_Group_P' g := by cases g <;> kernel_rfl
theorem con_group_Group_P : ConOk Try.prog 9 c_group_Group_P := con_ok xok_group_Group_P 8 fn_group_Group_P true [(.ptr (.pair (.pair (.ptr (.pair (.arr 4 (.int .u64)) (.pair (.int .u64) (.pair (.arr 4 (.int .u64)) (.arr 4 (.int .u64)))))) (.ptr (.pair (.arr 4 (.int .u64)) (.pair (.int .u64) (.pair (.arr 4 (.int .u64)) (.arr 4 (.int .u64))))))) (.arr 4 (.int .u64))))] [(.arr 4 (.int .u64))] _ (by decide) (fun x => by rw [group_Group_P_eq]; exact e_group_Group_P x.1)
end Go.Proofs.Ythmfddbehhgnkaa

set_option linter.unusedVariables false
set_option linter.unusedSimpArgs false
set_option maxRecDepth 100000
set_option maxHeartbeats 0
namespace Go.Pl
end Go.Pl
open Go Go.Den Go.Pl
namespace Go.Proofs.Ythmfddbehhgnkaa
abbrev S_r01_Nat_0 : Shape := { sl := [(1, (.c ⟨(.ptr (.arr 256 .bool)), (.rf 0 [])⟩)), (2, (.c ⟨(.ptr (.arr 4 (.int .u64))), (.rf 1 [])⟩)), (3, (.c ⟨(.ptr (.arr 4 (.int .u64))), (.rf 2 [])⟩)), (4, (.v (.int .i64)))], ob := [(0, (.v (.arr 256 .bool))), (1, (.v (.arr 4 (.int .u64)))), (2, (.v (.arr 4 (.int .u64))))], lo := 3, nx := 3 }
abbrev E_r01_Nat_0 : List Ex := [(.normal, { sl := [(2, (.c ⟨(.ptr (.arr 4 (.int .u64))), (.rf 1 [])⟩)), (3, (.c ⟨(.ptr (.arr 4 (.int .u64))), (.rf 2 [])⟩))], ob := [(1, (.v (.arr 4 (.int .u64)))), (2, (.v (.arr 4 (.int .u64))))], lo := 3, nx := 3 })]
noncomputable def L_r01_Nat_0 : Code := loopIn (bodyOf Try.f56) 0
noncomputable def P_r01_Nat_0 : Lp := lpOf S_r01_Nat_0 E_r01_Nat_0 25 R_r01_Nat_0
noncomputable def c_r01_Nat : Con := conV true [(.arr 256 .bool)] [(.arr 4 (.int .u64))] fun x => r01_Nat x.1
noncomputable def x_r01_Nat : Cx := { ti := ti, con := [], fns := [], un := 6 }
theorem xok_r01_Nat : CxOk Try.prog x_r01_Nat := CxOk.of mixed ti_ok (List.forall_mem_nil _) (List.forall_mem_nil _)
theorem r_r01_Nat_0 (x : S_r01_Nat_0.X) : denC x_r01_Nat [] (denF x_r01_Nat 8) L_r01_Nat_0 (S_r01_Nat_0.mkS 25 x) (kRound 0 S_r01_Nat_0 E_r01_Nat_0) = R_r01_Nat_0 x := by kernel_rfl
theorem l_r01_Nat_0 : LpOk Try.prog 0 (.loop L_r01_Nat_0) P_r01_Nat_0 := lpOf_ok xok_r01_Nat 8 (lps_nil) S_r01_Nat_0 E_r01_Nat_0 25 R_r01_Nat_0 (by decide) r_r01_Nat_0
theorem fn_r01_Nat : FnOk Try.prog 56 Try.f56 [(0, P_r01_Nat_0)] := ⟨Try.func56, Try.call56, lps_of (by kernel_rfl) (lps_one l_r01_Nat_0 (by kernel_rfl) (List.forall_mem_nil _))⟩
theorem e_r01_Nat (b : (Nat → Bool)) : bodyK x_r01_Nat [(0, P_r01_Nat_0)] (denF x_r01_Nat 8) Try.f56 (domV [(.arr 256 .bool)] (b, ())) [] 0 (kOut [(.arr 4 (.int .u64))]) = r01_Nat' b := by kernel_rfl
theorem con_r01_Nat : ConOk Try.prog 56 c_r01_Nat := con_ok xok_r01_Nat 8 fn_r01_Nat true [(.arr 256 .bool)] [(.arr 4 (.int .u64))] _ (by decide) (fun x => by rw [r01_Nat_eq]; exact e_r01_Nat x.1)
abbrev S_r01_Int_0 : Shape := { sl := [(0, (.v (.int .i64))), (2, (.c ⟨(.ptr (.arr 4 (.int .u64))), (.rf 0 [])⟩)), (3, (.c ⟨(.ptr (.arr 256 .bool)), (.rf 1 [])⟩)), (4, (.v (.int .i64)))], ob := [(0, (.v (.arr 4 (.int .u64)))), (1, (.v (.arr 256 .bool)))], lo := 2, nx := 2 }
abbrev E_r01_Int_0 : List Ex := [(.normal, { sl := [(2, (.c ⟨(.ptr (.arr 4 (.int .u64))), (.rf 0 [])⟩)), (3, (.c ⟨(.ptr (.arr 256 .bool)), (.rf 1 [])⟩))], ob := [(0, (.v (.arr 4 (.int .u64)))), (1, (.v (.arr 256 .bool)))], lo := 2, nx := 2 })]
noncomputable def L_r01_Int_0 : Code := loopIn (bodyOf Try.f35) 0
noncomputable def P_r01_Int_0 : Lp := lpOf S_r01_Int_0 E_r01_Int_0 23 R_r01_Int_0
noncomputable def c_r01_Int : Con := conV true [(.int .i64)] [(.arr 4 (.int .u64))] fun x => r01_Int x.1
noncomputable def x_r01_Int : Cx := { ti := ti, con := [(56, c_r01_Nat)], fns := [], un := 6 }
theorem xok_r01_Int : CxOk Try.prog x_r01_Int := CxOk.of mixed ti_ok (List.forall_mem_cons.2 ⟨con_r01_Nat, List.forall_mem_nil _⟩) (List.forall_mem_nil _)
theorem r_r01_Int_0 (x : S_r01_Int_0.X) : denC x_r01_Int [] (denF x_r01_Int 8) L_r01_Int_0 (S_r01_Int_0.mkS 23 x) (kRound 0 S_r01_Int_0 E_r01_Int_0) = R_r01_Int_0 x := by kernel_rfl
theorem l_r01_Int_0 : LpOk Try.prog 0 (.loop L_r01_Int_0) P_r01_Int_0 := lpOf_ok xok_r01_Int 8 (lps_nil) S_r01_Int_0 E_r01_Int_0 23 R_r01_Int_0 (by decide) r_r01_Int_0
theorem fn_r01_Int : FnOk Try.prog 35 Try.f35 [(0, P_r01_Int_0)] := ⟨Try.func35, Try.call35, lps_of (by kernel_rfl) (lps_one l_r01_Int_0 (by kernel_rfl) (List.forall_mem_nil _))⟩
theorem e_r01_Int (n : Int) : bodyK x_r01_Int [(0, P_r01_Int_0)] (denF x_r01_Int 8) Try.f35 (domV [(.int .i64)] (n, ())) [] 0 (kOut [(.arr 4 (.int .u64))]) = r01_Int' n := by kernel_rfl
theorem con_r01_Int : ConOk Try.prog 35 c_r01_Int := con_ok xok_r01_Int 8 fn_r01_Int true [(.int .i64)] [(.arr 4 (.int .u64))] _ (by decide) (fun x => by rw [r01_Int_eq]; exact e_r01_Int x.1)
abbrev S_r01_Of_0 : Shape := { sl := [(1, (.c ⟨(.ptr (.arr 4 (.int .u64))), (.rf 0 [])⟩)), (2, (.c ⟨(.ptr (.arr 256 .bool)), (.rf 1 [])⟩)), (3, (.c ⟨(.ptr (.arr 256 .bool)), (.rf 2 [])⟩)), (4, (.v (.int .i64)))], ob := [(0, (.v (.arr 4 (.int .u64)))), (1, (.v (.arr 256 .bool))), (2, (.v (.arr 256 .bool)))], lo := 3, nx := 3 }
abbrev E_r01_Of_0 : List Ex := [(.normal, { sl := [(2, (.c ⟨(.ptr (.arr 256 .bool)), (.rf 1 [])⟩)), (3, (.c ⟨(.ptr (.arr 256 .bool)), (.rf 2 [])⟩))], ob := [(1, (.v (.arr 256 .bool))), (2, (.v (.arr 256 .bool)))], lo := 3, nx := 3 })]
noncomputable def L_r01_Of_0 : Code := loopIn (bodyOf Try.f24) 0
noncomputable def P_r01_Of_0 : Lp := lpOf S_r01_Of_0 E_r01_Of_0 22 R_r01_Of_0
noncomputable def c_r01_Of : Con := conV true [(.arr 4 (.int .u64))] [(.arr 256 .bool)] fun x => r01_Of x.1
noncomputable def x_r01_Of : Cx := { ti := ti, con := [], fns := [], un := 6 }
theorem xok_r01_Of : CxOk Try.prog x_r01_Of := CxOk.of mixed ti_ok (List.forall_mem_nil _) (List.forall_mem_nil _)
theorem r_r01_Of_0 (x : S_r01_Of_0.X) : denC x_r01_Of [] (denF x_r01_Of 8) L_r01_Of_0 (S_r01_Of_0.mkS 22 x) (kRound 0 S_r01_Of_0 E_r01_Of_0) = R_r01_Of_0 x := by kernel_rfl
theorem l_r01_Of_0 : LpOk Try.prog 0 (.loop L_r01_Of_0) P_r01_Of_0 := lpOf_ok xok_r01_Of 8 (lps_nil) S_r01_Of_0 E_r01_Of_0 22 R_r01_Of_0 (by decide) r_r01_Of_0
theorem fn_r01_Of : FnOk Try.prog 24 Try.f24 [(0, P_r01_Of_0)] := ⟨Try.func24, Try.call24, lps_of (by kernel_rfl) (lps_one l_r01_Of_0 (by kernel_rfl) (List.forall_mem_nil _))⟩
theorem e_r01_Of (a : (Nat → Int)) : bodyK x_r01_Of [(0, P_r01_Of_0)] (denF x_r01_Of 8) Try.f24 (domV [(.arr 4 (.int .u64))] (a, ())) [] 0 (kOut [(.arr 256 .bool)]) = r01_Of' a := by kernel_rfl
theorem con_r01_Of : ConOk Try.prog 24 c_r01_Of := con_ok xok_r01_Of 8 fn_r01_Of true [(.arr 4 (.int .u64))] [(.arr 256 .bool)] _ (by decide) (fun x => by rw [r01_Of_eq]; exact e_r01_Of x.1)
abbrev S_r01_Len_0 : Shape := { sl := [(3, (.c ⟨(.ptr (.arr 256 .bool)), (.rf 1 [])⟩)), (4, (.v (.int .i64)))], ob := [(1, (.v (.arr 256 .bool)))], lo := 2, nx := 2 }
abbrev E_r01_Len_0 : List Ex := [(.ret, { sl := [(2, (.v (.int .i64)))], ob := [], lo := 2, nx := 2 }), (.normal, { sl := [], ob := [], lo := 2, nx := 2 })]
noncomputable def L_r01_Len_0 : Code := loopIn (bodyOf Try.f7) 0
noncomputable def P_r01_Len_0 : Lp := lpOf S_r01_Len_0 E_r01_Len_0 16 R_r01_Len_0
noncomputable def c_r01_Len : Con := conV true [(.arr 4 (.int .u64))] [(.int .i64)] fun x => r01_Len x.1
noncomputable def x_r01_Len : Cx := { ti := ti, con := [(24, c_r01_Of)], fns := [], un := 6 }
theorem xok_r01_Len : CxOk Try.prog x_r01_Len := CxOk.of mixed ti_ok (List.forall_mem_cons.2 ⟨con_r01_Of, List.forall_mem_nil _⟩) (List.forall_mem_nil _)
theorem r_r01_Len_0 (x : S_r01_Len_0.X) : denC x_r01_Len [] (denF x_r01_Len 8) L_r01_Len_0 (S_r01_Len_0.mkS 16 x) (kRound 0 S_r01_Len_0 E_r01_Len_0) = R_r01_Len_0 x := by kernel_rfl
theorem l_r01_Len_0 : LpOk Try.prog 0 (.loop L_r01_Len_0) P_r01_Len_0 := lpOf_ok xok_r01_Len 8 (lps_nil) S_r01_Len_0 E_r01_Len_0 16 R_r01_Len_0 (by decide) r_r01_Len_0
theorem fn_r01_Len : FnOk Try.prog 7 Try.f7 [(0, P_r01_Len_0)] := ⟨Try.func7, Try.call7, lps_of (by kernel_rfl) (lps_one l_r01_Len_0 (by kernel_rfl) (List.forall_mem_nil _))⟩
theorem e_r01_Len (a : (Nat → Int)) : bodyK x_r01_Len [(0, P_r01_Len_0)] (denF x_r01_Len 8) Try.f7 (domV [(.arr 4 (.int .u64))] (a, ())) [] 0 (kOut [(.int .i64)]) = r01_Len' a := by kernel_rfl
theorem con_r01_Len : ConOk Try.prog 7 c_r01_Len := con_ok xok_r01_Len 8 fn_r01_Len true [(.arr 4 (.int .u64))] [(.int .i64)] _ (by decide) (fun x => by rw [r01_Len_eq]; exact e_r01_Len x.1)
end Go.Proofs.Ythmfddbehhgnkaa
