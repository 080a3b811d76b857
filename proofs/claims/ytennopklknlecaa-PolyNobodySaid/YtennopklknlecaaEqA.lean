/-
  The functions of the program are the plain ones.
-/
import Derived.Test.YtennopklknlecaaProg
import Derived.Test.YtennopklknlecaaDenD
import Derived.KernelRfl
import Derived.Test.YtennopklknlecaaPlA
import Derived.Test.YtennopklknlecaaDenH
set_option linter.unusedVariables false
set_option linter.unusedSimpArgs false
set_option maxRecDepth 100000
set_option maxHeartbeats 0
namespace Go.Pl
end Go.Pl
open Go Go.Den Go.Pl
namespace Go.Proofs.Ytennopklknlecaa
noncomputable def ti : List (Nat × TI) := [
  (3, ⟨(TypeDesc.int IntKind.i64), (.int .i64), 8⟩),
  (4, ⟨TypeDesc.bool, .bool, 1⟩),
  (5, ⟨(TypeDesc.int IntKind.u8), (.int .u8), 1⟩),
  (9, ⟨TypeDesc.string, .str, 16⟩),
  (22, ⟨(TypeDesc.slice 3), (.sl (.int .i64)), 24⟩),
  (24, ⟨(TypeDesc.pointer 62), (.ptr (.pair .bool .str)), 8⟩),
  (25, ⟨(TypeDesc.int IntKind.i64), (.int .i64), 8⟩),
  (32, ⟨(TypeDesc.slice 114), (.sl (.pair (.arr 4 (.int .u64)) (.int .i64))), 24⟩),
  (33, ⟨(TypeDesc.int IntKind.u64), (.int .u64), 8⟩),
  (35, ⟨(TypeDesc.array 4 33), (.arr 4 (.int .u64)), 32⟩),
  (37, ⟨(TypeDesc.struct #[{ name := "Chain", type := 32, offset := 0, embedded := false, tag := "", pkgPath := "", byteOffset := 0 }, { name := "G", type := 35, offset := 1, embedded := false, tag := "", pkgPath := "", byteOffset := 24 }]), (.pair (.sl (.pair (.arr 4 (.int .u64)) (.int .i64))) (.arr 4 (.int .u64))), 56⟩),
  (39, ⟨(TypeDesc.slice 37), (.sl (.pair (.sl (.pair (.arr 4 (.int .u64)) (.int .i64))) (.arr 4 (.int .u64)))), 24⟩),
  (40, ⟨(TypeDesc.pointer 110), (.ptr (.pair (.pair (.ptr (.pair (.arr 4 (.int .u64)) (.pair (.int .u64) (.pair (.arr 4 (.int .u64)) (.arr 4 (.int .u64)))))) (.ptr (.pair (.arr 4 (.int .u64)) (.pair (.int .u64) (.pair (.arr 4 (.int .u64)) (.arr 4 (.int .u64))))))) (.arr 4 (.int .u64)))), 8⟩),
  (43, ⟨(TypeDesc.slice 35), (.sl (.arr 4 (.int .u64))), 24⟩),
  (57, ⟨(TypeDesc.int IntKind.u64), (.int .u64), 8⟩),
  (58, ⟨(TypeDesc.slice 5), (.sl (.int .u8)), 24⟩),
  (62, ⟨(TypeDesc.struct #[{ name := "given", type := 4, offset := 0, embedded := false, tag := "", pkgPath := "sacristy/tape", byteOffset := 0 }, { name := "rest", type := 9, offset := 1, embedded := false, tag := "", pkgPath := "sacristy/tape", byteOffset := 8 }]), (.pair .bool .str), 24⟩),
  (63, ⟨(TypeDesc.slice 24), (.sl (.ptr (.pair .bool .str))), 24⟩),
  (65, ⟨(TypeDesc.array 2 35), (.arr 2 (.arr 4 (.int .u64))), 64⟩),
  (67, ⟨(TypeDesc.struct #[{ name := "P", type := 3, offset := 0, embedded := false, tag := "", pkgPath := "", byteOffset := 0 }, { name := "Q", type := 3, offset := 1, embedded := false, tag := "", pkgPath := "", byteOffset := 8 }, { name := "G", type := 3, offset := 2, embedded := false, tag := "", pkgPath := "", byteOffset := 16 }]), (.pair (.int .i64) (.pair (.int .i64) (.int .i64))), 24⟩),
  (70, ⟨(TypeDesc.pointer 85), (.ptr (.pair (.ptr (.pair (.arr 4 (.int .u64)) (.pair (.int .u64) (.pair (.arr 4 (.int .u64)) (.arr 4 (.int .u64)))))) (.pair (.arr 4 (.int .u64)) (.pair (.int .i64) (.sl (.arr 16 (.arr 4 (.int .u64)))))))), 8⟩),
  (78, ⟨(TypeDesc.slice 70), (.sl (.ptr (.pair (.ptr (.pair (.arr 4 (.int .u64)) (.pair (.int .u64) (.pair (.arr 4 (.int .u64)) (.arr 4 (.int .u64)))))) (.pair (.arr 4 (.int .u64)) (.pair (.int .i64) (.sl (.arr 16 (.arr 4 (.int .u64))))))))), 24⟩),
  (82, ⟨(TypeDesc.pointer 147), (.ptr (.pair (.arr 4 (.int .u64)) (.pair (.int .u64) (.pair (.arr 4 (.int .u64)) (.arr 4 (.int .u64)))))), 8⟩),
  (83, ⟨(TypeDesc.slice 130), (.sl (.arr 16 (.arr 4 (.int .u64)))), 24⟩),
  (85, ⟨(TypeDesc.struct #[{ name := "ring", type := 82, offset := 0, embedded := false, tag := "", pkgPath := "sacristy/comb", byteOffset := 0 }, { name := "base", type := 35, offset := 1, embedded := false, tag := "", pkgPath := "sacristy/comb", byteOffset := 8 }, { name := "bits", type := 3, offset := 5, embedded := false, tag := "", pkgPath := "sacristy/comb", byteOffset := 40 }, { name := "rows", type := 83, offset := 6, embedded := false, tag := "", pkgPath := "sacristy/comb", byteOffset := 48 }]), (.pair (.ptr (.pair (.arr 4 (.int .u64)) (.pair (.int .u64) (.pair (.arr 4 (.int .u64)) (.arr 4 (.int .u64)))))) (.pair (.arr 4 (.int .u64)) (.pair (.int .i64) (.sl (.arr 16 (.arr 4 (.int .u64))))))), 72⟩),
  (90, ⟨(TypeDesc.array 2 43), (.arr 2 (.sl (.arr 4 (.int .u64)))), 48⟩),
  (108, ⟨(TypeDesc.struct #[{ name := "ring", type := 82, offset := 0, embedded := false, tag := "", pkgPath := "sacristy/group", byteOffset := 0 }, { name := "field", type := 82, offset := 1, embedded := false, tag := "", pkgPath := "sacristy/group", byteOffset := 8 }]), (.pair (.ptr (.pair (.arr 4 (.int .u64)) (.pair (.int .u64) (.pair (.arr 4 (.int .u64)) (.arr 4 (.int .u64)))))) (.ptr (.pair (.arr 4 (.int .u64)) (.pair (.int .u64) (.pair (.arr 4 (.int .u64)) (.arr 4 (.int .u64))))))), 16⟩),
  (110, ⟨(TypeDesc.struct #[{ name := "rings", type := 108, offset := 0, embedded := true, tag := "", pkgPath := "sacristy/group", byteOffset := 0 }, { name := "g", type := 35, offset := 2, embedded := false, tag := "", pkgPath := "sacristy/group", byteOffset := 16 }]), (.pair (.pair (.ptr (.pair (.arr 4 (.int .u64)) (.pair (.int .u64) (.pair (.arr 4 (.int .u64)) (.arr 4 (.int .u64)))))) (.ptr (.pair (.arr 4 (.int .u64)) (.pair (.int .u64) (.pair (.arr 4 (.int .u64)) (.arr 4 (.int .u64))))))) (.arr 4 (.int .u64))), 48⟩),
  (111, ⟨(TypeDesc.slice 40), (.sl (.ptr (.pair (.pair (.ptr (.pair (.arr 4 (.int .u64)) (.pair (.int .u64) (.pair (.arr 4 (.int .u64)) (.arr 4 (.int .u64)))))) (.ptr (.pair (.arr 4 (.int .u64)) (.pair (.int .u64) (.pair (.arr 4 (.int .u64)) (.arr 4 (.int .u64))))))) (.arr 4 (.int .u64))))), 24⟩),
  (114, ⟨(TypeDesc.struct #[{ name := "N", type := 35, offset := 0, embedded := false, tag := "", pkgPath := "", byteOffset := 0 }, { name := "A", type := 3, offset := 4, embedded := false, tag := "", pkgPath := "", byteOffset := 32 }]), (.pair (.arr 4 (.int .u64)) (.int .i64)), 40⟩),
  (124, ⟨(TypeDesc.array 256 4), (.arr 256 .bool), 256⟩),
  (129, ⟨(TypeDesc.array 16 35), (.arr 16 (.arr 4 (.int .u64))), 512⟩),
  (130, ⟨(TypeDesc.array 16 35), (.arr 16 (.arr 4 (.int .u64))), 512⟩),
  (147, ⟨(TypeDesc.struct #[{ name := "m", type := 35, offset := 0, embedded := false, tag := "", pkgPath := "sacristy/mont", byteOffset := 0 }, { name := "inv", type := 33, offset := 4, embedded := false, tag := "", pkgPath := "sacristy/mont", byteOffset := 32 }, { name := "one", type := 35, offset := 5, embedded := false, tag := "", pkgPath := "sacristy/mont", byteOffset := 40 }, { name := "square", type := 35, offset := 9, embedded := false, tag := "", pkgPath := "sacristy/mont", byteOffset := 72 }]), (.pair (.arr 4 (.int .u64)) (.pair (.int .u64) (.pair (.arr 4 (.int .u64)) (.arr 4 (.int .u64))))), 104⟩),
  (153, ⟨(TypeDesc.array 32 3), (.arr 32 (.int .i64)), 256⟩),
  (167, ⟨(TypeDesc.slice 129), (.sl (.arr 16 (.arr 4 (.int .u64)))), 24⟩),
  (173, ⟨(TypeDesc.array 6 33), (.arr 6 (.int .u64)), 48⟩),
  (175, ⟨(TypeDesc.slice 33), (.sl (.int .u64)), 24⟩),
  (180, ⟨(TypeDesc.array 8 33), (.arr 8 (.int .u64)), 64⟩)]
theorem ti3 : TI1 Try.prog ti (3, ⟨(TypeDesc.int IntKind.i64), (.int .i64), 8⟩) where
  under := Try.underlying3
  info := by kernel_rfl
  zero := by kernel_rfl
  shape := rfl
  eq := fun h => absurd h (by decide)
theorem ti4 : TI1 Try.prog ti (4, ⟨TypeDesc.bool, .bool, 1⟩) where
  under := Try.underlying4
  info := by kernel_rfl
  zero := by kernel_rfl
  shape := rfl
  eq := fun h => absurd h (by decide)
theorem ti5 : TI1 Try.prog ti (5, ⟨(TypeDesc.int IntKind.u8), (.int .u8), 1⟩) where
  under := Try.underlying5
  info := by kernel_rfl
  zero := by kernel_rfl
  shape := rfl
  eq := fun h => absurd h (by decide)
theorem ti9 : TI1 Try.prog ti (9, ⟨TypeDesc.string, .str, 16⟩) where
  under := Try.underlying9
  info := by kernel_rfl
  zero := by kernel_rfl
  shape := rfl
  eq := fun h => absurd h (by decide)
theorem ti22 : TI1 Try.prog ti (22, ⟨(TypeDesc.slice 3), (.sl (.int .i64)), 24⟩) where
  under := Try.underlying22
  info := by kernel_rfl
  zero := by kernel_rfl
  shape := ⟨_, rfl, rfl, by decide⟩
  eq := fun h => absurd h (by decide)
theorem ti24 : TI1 Try.prog ti (24, ⟨(TypeDesc.pointer 62), (.ptr (.pair .bool .str)), 8⟩) where
  under := Try.underlying24
  info := by kernel_rfl
  zero := by kernel_rfl
  shape := ⟨_, rfl⟩
  eq := fun h => absurd h (by decide)
theorem ti25 : TI1 Try.prog ti (25, ⟨(TypeDesc.int IntKind.i64), (.int .i64), 8⟩) where
  under := Try.underlying25
  info := by kernel_rfl
  zero := by kernel_rfl
  shape := rfl
  eq := fun h => absurd h (by decide)
theorem ti32 : TI1 Try.prog ti (32, ⟨(TypeDesc.slice 114), (.sl (.pair (.arr 4 (.int .u64)) (.int .i64))), 24⟩) where
  under := Try.underlying32
  info := by kernel_rfl
  zero := by kernel_rfl
  shape := ⟨_, rfl, rfl, by decide⟩
  eq := fun h => absurd h (by decide)
theorem ti33 : TI1 Try.prog ti (33, ⟨(TypeDesc.int IntKind.u64), (.int .u64), 8⟩) where
  under := Try.underlying33
  info := by kernel_rfl
  zero := by kernel_rfl
  shape := rfl
  eq := fun h => absurd h (by decide)
theorem ti35 : TI1 Try.prog ti (35, ⟨(TypeDesc.array 4 33), (.arr 4 (.int .u64)), 32⟩) where
  under := Try.underlying35
  info := by kernel_rfl
  zero := by kernel_rfl
  shape := ⟨_, rfl, rfl, by decide, by decide⟩
  eq := fun _ _ => ⟨by kernel_rfl, by kernel_rfl, (by intro fs h; cases h <;> decide), by decide⟩
theorem ti37 : TI1 Try.prog ti (37, ⟨(TypeDesc.struct #[{ name := "Chain", type := 32, offset := 0, embedded := false, tag := "", pkgPath := "", byteOffset := 0 }, { name := "G", type := 35, offset := 1, embedded := false, tag := "", pkgPath := "", byteOffset := 24 }]), (.pair (.sl (.pair (.arr 4 (.int .u64)) (.int .i64))) (.arr 4 (.int .u64))), 56⟩) where
  under := Try.underlying37
  info := by kernel_rfl
  zero := by kernel_rfl
  shape := ⟨rfl, ⟨rfl, by decide, ⟨_, rfl, rfl, by decide⟩, ⟨rfl, by decide, _, rfl, rfl, by decide⟩⟩⟩
  eq := fun _ h => absurd h (by decide)
theorem ti39 : TI1 Try.prog ti (39, ⟨(TypeDesc.slice 37), (.sl (.pair (.sl (.pair (.arr 4 (.int .u64)) (.int .i64))) (.arr 4 (.int .u64)))), 24⟩) where
  under := Try.underlying39
  info := by kernel_rfl
  zero := by kernel_rfl
  shape := ⟨_, rfl, rfl, by decide⟩
  eq := fun h => absurd h (by decide)
theorem ti40 : TI1 Try.prog ti (40, ⟨(TypeDesc.pointer 110), (.ptr (.pair (.pair (.ptr (.pair (.arr 4 (.int .u64)) (.pair (.int .u64) (.pair (.arr 4 (.int .u64)) (.arr 4 (.int .u64)))))) (.ptr (.pair (.arr 4 (.int .u64)) (.pair (.int .u64) (.pair (.arr 4 (.int .u64)) (.arr 4 (.int .u64))))))) (.arr 4 (.int .u64)))), 8⟩) where
  under := Try.underlying40
  info := by kernel_rfl
  zero := by kernel_rfl
  shape := ⟨_, rfl⟩
  eq := fun h => absurd h (by decide)
theorem ti43 : TI1 Try.prog ti (43, ⟨(TypeDesc.slice 35), (.sl (.arr 4 (.int .u64))), 24⟩) where
  under := Try.underlying43
  info := by kernel_rfl
  zero := by kernel_rfl
  shape := ⟨_, rfl, rfl, by decide⟩
  eq := fun h => absurd h (by decide)
theorem ti57 : TI1 Try.prog ti (57, ⟨(TypeDesc.int IntKind.u64), (.int .u64), 8⟩) where
  under := Try.underlying57
  info := by kernel_rfl
  zero := by kernel_rfl
  shape := rfl
  eq := fun h => absurd h (by decide)
theorem ti58 : TI1 Try.prog ti (58, ⟨(TypeDesc.slice 5), (.sl (.int .u8)), 24⟩) where
  under := Try.underlying58
  info := by kernel_rfl
  zero := by kernel_rfl
  shape := ⟨_, rfl, rfl, by decide⟩
  eq := fun h => absurd h (by decide)
theorem ti62 : TI1 Try.prog ti (62, ⟨(TypeDesc.struct #[{ name := "given", type := 4, offset := 0, embedded := false, tag := "", pkgPath := "sacristy/tape", byteOffset := 0 }, { name := "rest", type := 9, offset := 1, embedded := false, tag := "", pkgPath := "sacristy/tape", byteOffset := 8 }]), (.pair .bool .str), 24⟩) where
  under := Try.underlying62
  info := by kernel_rfl
  zero := by kernel_rfl
  shape := ⟨rfl, ⟨rfl, by decide, ⟨_, rfl, rfl, by decide⟩, ⟨rfl, by decide, _, rfl, rfl, by decide⟩⟩⟩
  eq := fun _ _ => ⟨by kernel_rfl, by kernel_rfl, (by intro fs h; cases h <;> decide), by decide⟩
theorem ti63 : TI1 Try.prog ti (63, ⟨(TypeDesc.slice 24), (.sl (.ptr (.pair .bool .str))), 24⟩) where
  under := Try.underlying63
  info := by kernel_rfl
  zero := by kernel_rfl
  shape := ⟨_, rfl, rfl, by decide⟩
  eq := fun h => absurd h (by decide)
theorem ti65 : TI1 Try.prog ti (65, ⟨(TypeDesc.array 2 35), (.arr 2 (.arr 4 (.int .u64))), 64⟩) where
  under := Try.underlying65
  info := by kernel_rfl
  zero := by kernel_rfl
  shape := ⟨_, rfl, rfl, by decide, by decide⟩
  eq := fun _ _ => ⟨by kernel_rfl, by kernel_rfl, (by intro fs h; cases h <;> decide), by decide⟩
theorem ti67 : TI1 Try.prog ti (67, ⟨(TypeDesc.struct #[{ name := "P", type := 3, offset := 0, embedded := false, tag := "", pkgPath := "", byteOffset := 0 }, { name := "Q", type := 3, offset := 1, embedded := false, tag := "", pkgPath := "", byteOffset := 8 }, { name := "G", type := 3, offset := 2, embedded := false, tag := "", pkgPath := "", byteOffset := 16 }]), (.pair (.int .i64) (.pair (.int .i64) (.int .i64))), 24⟩) where
  under := Try.underlying67
  info := by kernel_rfl
  zero := by kernel_rfl
  shape := ⟨rfl, ⟨rfl, by decide, ⟨_, rfl, rfl, by decide⟩, ⟨rfl, by decide, ⟨_, rfl, rfl, by decide⟩, ⟨rfl, by decide, _, rfl, rfl, by decide⟩⟩⟩⟩
  eq := fun _ _ => ⟨by kernel_rfl, by kernel_rfl, (by intro fs h; cases h <;> decide), by decide⟩
theorem ti70 : TI1 Try.prog ti (70, ⟨(TypeDesc.pointer 85), (.ptr (.pair (.ptr (.pair (.arr 4 (.int .u64)) (.pair (.int .u64) (.pair (.arr 4 (.int .u64)) (.arr 4 (.int .u64)))))) (.pair (.arr 4 (.int .u64)) (.pair (.int .i64) (.sl (.arr 16 (.arr 4 (.int .u64)))))))), 8⟩) where
  under := Try.underlying70
  info := by kernel_rfl
  zero := by kernel_rfl
  shape := ⟨_, rfl⟩
  eq := fun h => absurd h (by decide)
theorem ti78 : TI1 Try.prog ti (78, ⟨(TypeDesc.slice 70), (.sl (.ptr (.pair (.ptr (.pair (.arr 4 (.int .u64)) (.pair (.int .u64) (.pair (.arr 4 (.int .u64)) (.arr 4 (.int .u64)))))) (.pair (.arr 4 (.int .u64)) (.pair (.int .i64) (.sl (.arr 16 (.arr 4 (.int .u64))))))))), 24⟩) where
  under := Try.underlying78
  info := by kernel_rfl
  zero := by kernel_rfl
  shape := ⟨_, rfl, rfl, by decide⟩
  eq := fun h => absurd h (by decide)
theorem ti82 : TI1 Try.prog ti (82, ⟨(TypeDesc.pointer 147), (.ptr (.pair (.arr 4 (.int .u64)) (.pair (.int .u64) (.pair (.arr 4 (.int .u64)) (.arr 4 (.int .u64)))))), 8⟩) where
  under := Try.underlying82
  info := by kernel_rfl
  zero := by kernel_rfl
  shape := ⟨_, rfl⟩
  eq := fun h => absurd h (by decide)
theorem ti83 : TI1 Try.prog ti (83, ⟨(TypeDesc.slice 130), (.sl (.arr 16 (.arr 4 (.int .u64)))), 24⟩) where
  under := Try.underlying83
  info := by kernel_rfl
  zero := by kernel_rfl
  shape := ⟨_, rfl, rfl, by decide⟩
  eq := fun h => absurd h (by decide)
theorem ti85 : TI1 Try.prog ti (85, ⟨(TypeDesc.struct #[{ name := "ring", type := 82, offset := 0, embedded := false, tag := "", pkgPath := "sacristy/comb", byteOffset := 0 }, { name := "base", type := 35, offset := 1, embedded := false, tag := "", pkgPath := "sacristy/comb", byteOffset := 8 }, { name := "bits", type := 3, offset := 5, embedded := false, tag := "", pkgPath := "sacristy/comb", byteOffset := 40 }, { name := "rows", type := 83, offset := 6, embedded := false, tag := "", pkgPath := "sacristy/comb", byteOffset := 48 }]), (.pair (.ptr (.pair (.arr 4 (.int .u64)) (.pair (.int .u64) (.pair (.arr 4 (.int .u64)) (.arr 4 (.int .u64)))))) (.pair (.arr 4 (.int .u64)) (.pair (.int .i64) (.sl (.arr 16 (.arr 4 (.int .u64))))))), 72⟩) where
  under := Try.underlying85
  info := by kernel_rfl
  zero := by kernel_rfl
  shape := ⟨rfl, ⟨rfl, by decide, ⟨_, rfl, rfl, by decide⟩, ⟨rfl, by decide, ⟨_, rfl, rfl, by decide⟩, ⟨rfl, by decide, ⟨_, rfl, rfl, by decide⟩, ⟨rfl, by decide, _, rfl, rfl, by decide⟩⟩⟩⟩⟩
  eq := fun _ h => absurd h (by decide)
theorem ti90 : TI1 Try.prog ti (90, ⟨(TypeDesc.array 2 43), (.arr 2 (.sl (.arr 4 (.int .u64)))), 48⟩) where
  under := Try.underlying90
  info := by kernel_rfl
  zero := by kernel_rfl
  shape := ⟨_, rfl, rfl, by decide, by decide⟩
  eq := fun _ h => absurd h (by decide)
theorem ti108 : TI1 Try.prog ti (108, ⟨(TypeDesc.struct #[{ name := "ring", type := 82, offset := 0, embedded := false, tag := "", pkgPath := "sacristy/group", byteOffset := 0 }, { name := "field", type := 82, offset := 1, embedded := false, tag := "", pkgPath := "sacristy/group", byteOffset := 8 }]), (.pair (.ptr (.pair (.arr 4 (.int .u64)) (.pair (.int .u64) (.pair (.arr 4 (.int .u64)) (.arr 4 (.int .u64)))))) (.ptr (.pair (.arr 4 (.int .u64)) (.pair (.int .u64) (.pair (.arr 4 (.int .u64)) (.arr 4 (.int .u64))))))), 16⟩) where
  under := Try.underlying108
  info := by kernel_rfl
  zero := by kernel_rfl
  shape := ⟨rfl, ⟨rfl, by decide, ⟨_, rfl, rfl, by decide⟩, ⟨rfl, by decide, _, rfl, rfl, by decide⟩⟩⟩
  eq := fun _ h => absurd h (by decide)
theorem ti110 : TI1 Try.prog ti (110, ⟨(TypeDesc.struct #[{ name := "rings", type := 108, offset := 0, embedded := true, tag := "", pkgPath := "sacristy/group", byteOffset := 0 }, { name := "g", type := 35, offset := 2, embedded := false, tag := "", pkgPath := "sacristy/group", byteOffset := 16 }]), (.pair (.pair (.ptr (.pair (.arr 4 (.int .u64)) (.pair (.int .u64) (.pair (.arr 4 (.int .u64)) (.arr 4 (.int .u64)))))) (.ptr (.pair (.arr 4 (.int .u64)) (.pair (.int .u64) (.pair (.arr 4 (.int .u64)) (.arr 4 (.int .u64))))))) (.arr 4 (.int .u64))), 48⟩) where
  under := Try.underlying110
  info := by kernel_rfl
  zero := by kernel_rfl
  shape := ⟨rfl, ⟨rfl, by decide, ⟨_, rfl, rfl, by decide⟩, ⟨rfl, by decide, _, rfl, rfl, by decide⟩⟩⟩
  eq := fun _ h => absurd h (by decide)
theorem ti111 : TI1 Try.prog ti (111, ⟨(TypeDesc.slice 40), (.sl (.ptr (.pair (.pair (.ptr (.pair (.arr 4 (.int .u64)) (.pair (.int .u64) (.pair (.arr 4 (.int .u64)) (.arr 4 (.int .u64)))))) (.ptr (.pair (.arr 4 (.int .u64)) (.pair (.int .u64) (.pair (.arr 4 (.int .u64)) (.arr 4 (.int .u64))))))) (.arr 4 (.int .u64))))), 24⟩) where
  under := Try.underlying111
  info := by kernel_rfl
  zero := by kernel_rfl
  shape := ⟨_, rfl, rfl, by decide⟩
  eq := fun h => absurd h (by decide)
theorem ti114 : TI1 Try.prog ti (114, ⟨(TypeDesc.struct #[{ name := "N", type := 35, offset := 0, embedded := false, tag := "", pkgPath := "", byteOffset := 0 }, { name := "A", type := 3, offset := 4, embedded := false, tag := "", pkgPath := "", byteOffset := 32 }]), (.pair (.arr 4 (.int .u64)) (.int .i64)), 40⟩) where
  under := Try.underlying114
  info := by kernel_rfl
  zero := by kernel_rfl
  shape := ⟨rfl, ⟨rfl, by decide, ⟨_, rfl, rfl, by decide⟩, ⟨rfl, by decide, _, rfl, rfl, by decide⟩⟩⟩
  eq := fun _ _ => ⟨by kernel_rfl, by kernel_rfl, (by intro fs h; cases h <;> decide), by decide⟩
theorem ti124 : TI1 Try.prog ti (124, ⟨(TypeDesc.array 256 4), (.arr 256 .bool), 256⟩) where
  under := Try.underlying124
  info := by kernel_rfl
  zero := by kernel_rfl
  shape := ⟨_, rfl, rfl, by decide, by decide⟩
  eq := fun _ _ => ⟨by kernel_rfl, by kernel_rfl, (by intro fs h; cases h <;> decide), by decide⟩
theorem ti129 : TI1 Try.prog ti (129, ⟨(TypeDesc.array 16 35), (.arr 16 (.arr 4 (.int .u64))), 512⟩) where
  under := Try.underlying129
  info := by kernel_rfl
  zero := by kernel_rfl
  shape := ⟨_, rfl, rfl, by decide, by decide⟩
  eq := fun _ _ => ⟨by kernel_rfl, by kernel_rfl, (by intro fs h; cases h <;> decide), by decide⟩
theorem ti130 : TI1 Try.prog ti (130, ⟨(TypeDesc.array 16 35), (.arr 16 (.arr 4 (.int .u64))), 512⟩) where
  under := Try.underlying130
  info := by kernel_rfl
  zero := by kernel_rfl
  shape := ⟨_, rfl, rfl, by decide, by decide⟩
  eq := fun _ _ => ⟨by kernel_rfl, by kernel_rfl, (by intro fs h; cases h <;> decide), by decide⟩
theorem ti147 : TI1 Try.prog ti (147, ⟨(TypeDesc.struct #[{ name := "m", type := 35, offset := 0, embedded := false, tag := "", pkgPath := "sacristy/mont", byteOffset := 0 }, { name := "inv", type := 33, offset := 4, embedded := false, tag := "", pkgPath := "sacristy/mont", byteOffset := 32 }, { name := "one", type := 35, offset := 5, embedded := false, tag := "", pkgPath := "sacristy/mont", byteOffset := 40 }, { name := "square", type := 35, offset := 9, embedded := false, tag := "", pkgPath := "sacristy/mont", byteOffset := 72 }]), (.pair (.arr 4 (.int .u64)) (.pair (.int .u64) (.pair (.arr 4 (.int .u64)) (.arr 4 (.int .u64))))), 104⟩) where
  under := Try.underlying147
  info := by kernel_rfl
  zero := by kernel_rfl
  shape := ⟨rfl, ⟨rfl, by decide, ⟨_, rfl, rfl, by decide⟩, ⟨rfl, by decide, ⟨_, rfl, rfl, by decide⟩, ⟨rfl, by decide, ⟨_, rfl, rfl, by decide⟩, ⟨rfl, by decide, _, rfl, rfl, by decide⟩⟩⟩⟩⟩
  eq := fun _ _ => ⟨by kernel_rfl, by kernel_rfl, (by intro fs h; cases h <;> decide), by decide⟩
theorem ti153 : TI1 Try.prog ti (153, ⟨(TypeDesc.array 32 3), (.arr 32 (.int .i64)), 256⟩) where
  under := Try.underlying153
  info := by kernel_rfl
  zero := by kernel_rfl
  shape := ⟨_, rfl, rfl, by decide, by decide⟩
  eq := fun _ _ => ⟨by kernel_rfl, by kernel_rfl, (by intro fs h; cases h <;> decide), by decide⟩
theorem ti167 : TI1 Try.prog ti (167, ⟨(TypeDesc.slice 129), (.sl (.arr 16 (.arr 4 (.int .u64)))), 24⟩) where
  under := Try.underlying167
  info := by kernel_rfl
  zero := by kernel_rfl
  shape := ⟨_, rfl, rfl, by decide⟩
  eq := fun h => absurd h (by decide)
theorem ti173 : TI1 Try.prog ti (173, ⟨(TypeDesc.array 6 33), (.arr 6 (.int .u64)), 48⟩) where
  under := Try.underlying173
  info := by kernel_rfl
  zero := by kernel_rfl
  shape := ⟨_, rfl, rfl, by decide, by decide⟩
  eq := fun _ _ => ⟨by kernel_rfl, by kernel_rfl, (by intro fs h; cases h <;> decide), by decide⟩
theorem ti175 : TI1 Try.prog ti (175, ⟨(TypeDesc.slice 33), (.sl (.int .u64)), 24⟩) where
  under := Try.underlying175
  info := by kernel_rfl
  zero := by kernel_rfl
  shape := ⟨_, rfl, rfl, by decide⟩
  eq := fun h => absurd h (by decide)
theorem ti180 : TI1 Try.prog ti (180, ⟨(TypeDesc.array 8 33), (.arr 8 (.int .u64)), 64⟩) where
  under := Try.underlying180
  info := by kernel_rfl
  zero := by kernel_rfl
  shape := ⟨_, rfl, rfl, by decide, by decide⟩
  eq := fun _ _ => ⟨by kernel_rfl, by kernel_rfl, (by intro fs h; cases h <;> decide), by decide⟩
theorem ti_ok : TIok Try.prog ti := TIok.of (List.forall_mem_cons.2 ⟨ti3, List.forall_mem_cons.2 ⟨ti4, List.forall_mem_cons.2 ⟨ti5, List.forall_mem_cons.2 ⟨ti9, List.forall_mem_cons.2 ⟨ti22, List.forall_mem_cons.2 ⟨ti24, List.forall_mem_cons.2 ⟨ti25, List.forall_mem_cons.2 ⟨ti32, List.forall_mem_cons.2 ⟨ti33, List.forall_mem_cons.2 ⟨ti35, List.forall_mem_cons.2 ⟨ti37, List.forall_mem_cons.2 ⟨ti39, List.forall_mem_cons.2 ⟨ti40, List.forall_mem_cons.2 ⟨ti43, List.forall_mem_cons.2 ⟨ti57, List.forall_mem_cons.2 ⟨ti58, List.forall_mem_cons.2 ⟨ti62, List.forall_mem_cons.2 ⟨ti63, List.forall_mem_cons.2 ⟨ti65, List.forall_mem_cons.2 ⟨ti67, List.forall_mem_cons.2 ⟨ti70, List.forall_mem_cons.2 ⟨ti78, List.forall_mem_cons.2 ⟨ti82, List.forall_mem_cons.2 ⟨ti83, List.forall_mem_cons.2 ⟨ti85, List.forall_mem_cons.2 ⟨ti90, List.forall_mem_cons.2 ⟨ti108, List.forall_mem_cons.2 ⟨ti110, List.forall_mem_cons.2 ⟨ti111, List.forall_mem_cons.2 ⟨ti114, List.forall_mem_cons.2 ⟨ti124, List.forall_mem_cons.2 ⟨ti129, List.forall_mem_cons.2 ⟨ti130, List.forall_mem_cons.2 ⟨ti147, List.forall_mem_cons.2 ⟨ti153, List.forall_mem_cons.2 ⟨ti167, List.forall_mem_cons.2 ⟨ti173, List.forall_mem_cons.2 ⟨ti175, List.forall_mem_cons.2 ⟨ti180, List.forall_mem_nil _⟩⟩⟩⟩⟩⟩⟩⟩⟩⟩⟩⟩⟩⟩⟩⟩⟩⟩⟩⟩⟩⟩⟩⟩⟩⟩⟩⟩⟩⟩⟩⟩⟩⟩⟩⟩⟩⟩⟩)
theorem mixed : Try.prog.follows .mixedOrders = true := by kernel_rfl
noncomputable def c_sub64 : Con := conV false [u64, u64, u64] [u64, u64] fun x => sub64 x.1 x.2.1 x.2.2.1
theorem con_sub64 : ConOk Try.prog 145 c_sub64 := sub64_ok Try.func145 (by kernel_rfl) (by kernel_rfl) (by kernel_rfl) (by kernel_rfl)
noncomputable def c_add64 : Con := conV false [u64, u64, u64] [u64, u64] fun x => add64 x.1 x.2.1 x.2.2.1
theorem con_add64 : ConOk Try.prog 147 c_add64 := add64_ok Try.func147 (by kernel_rfl) (by kernel_rfl) (by kernel_rfl) (by kernel_rfl)
end Go.Proofs.Ytennopklknlecaa

set_option linter.unusedVariables false
set_option linter.unusedSimpArgs false
set_option maxRecDepth 100000
set_option maxHeartbeats 0
namespace Go.Pl
end Go.Pl
open Go Go.Den Go.Pl
namespace Go.Proofs.Ytennopklknlecaa
noncomputable def c_bits_Len64 : Con := conV true [(.int .u64)] [(.int .i64)] fun x => bits_Len64 x.1
noncomputable def x_bits_Len64 : Cx := { ti := ti, con := [], fns := [], un := 6 }
theorem xok_bits_Len64 : CxOk Try.prog x_bits_Len64 := CxOk.of mixed ti_ok (List.forall_mem_nil _) (List.forall_mem_nil _)
theorem fn_bits_Len64 : FnOk Try.prog 106 Try.f106 [] := ⟨Try.func106, Try.call106, lps_nil⟩
theorem e_bits_Len64 (x : Int) : bodyK x_bits_Len64 [] (denF x_bits_Len64 8) Try.f106 (domV [(.int .u64)] (x, ())) [] 0 (kOut [(.int .i64)]) = bits_Len64' x := by kernel_rfl
theorem con_bits_Len64 : ConOk Try.prog 106 c_bits_Len64 := con_ok xok_bits_Len64 8 fn_bits_Len64 true [(.int .u64)] [(.int .i64)] _ (by decide) (fun x => by rw [bits_Len64_eq]; exact e_bits_Len64 x.1)
noncomputable def c_bits_LeadingZeros64 : Con := conV true [(.int .u64)] [(.int .i64)] fun x => bits_LeadingZeros64 x.1
noncomputable def x_bits_LeadingZeros64 : Cx := { ti := ti, con := [(106, c_bits_Len64)], fns := [], un := 6 }
theorem xok_bits_LeadingZeros64 : CxOk Try.prog x_bits_LeadingZeros64 := CxOk.of mixed ti_ok (List.forall_mem_cons.2 ⟨con_bits_Len64, List.forall_mem_nil _⟩) (List.forall_mem_nil _)
theorem fn_bits_LeadingZeros64 : FnOk Try.prog 149 Try.f149 [] := ⟨Try.func149, Try.call149, lps_nil⟩
theorem e_bits_LeadingZeros64 (x : Int) : bodyK x_bits_LeadingZeros64 [] (denF x_bits_LeadingZeros64 8) Try.f149 (domV [(.int .u64)] (x, ())) [] 0 (kOut [(.int .i64)]) = bits_LeadingZeros64' x := by kernel_rfl
theorem con_bits_LeadingZeros64 : ConOk Try.prog 149 c_bits_LeadingZeros64 := con_ok xok_bits_LeadingZeros64 8 fn_bits_LeadingZeros64 true [(.int .u64)] [(.int .i64)] _ (by decide) (fun x => by rw [bits_LeadingZeros64_eq]; exact e_bits_LeadingZeros64 x.1)
abbrev S_bits_Div64_0 : Shape := { sl := [(2, (.v (.int .u64))), (8, (.v (.int .u64))), (9, (.v (.int .u64))), (10, (.v (.int .u64))), (11, (.v (.int .u64))), (13, (.v (.int .u64))), (14, (.v (.int .u64))), (15, (.v (.int .u64))), (16, (.v (.int .u64)))], ob := [], lo := 0, nx := 0 }
abbrev E_bits_Div64_0 : List Ex := [(.normal, { sl := [(2, (.v (.int .u64))), (8, (.v (.int .u64))), (9, (.v (.int .u64))), (10, (.v (.int .u64))), (11, (.v (.int .u64))), (13, (.v (.int .u64))), (14, (.v (.int .u64))), (15, (.v (.int .u64)))], ob := [], lo := 0, nx := 0 })]
noncomputable def L_bits_Div64_0 : Code := loopIn (bodyOf Try.f144) 0
noncomputable def P_bits_Div64_0 : Lp := lpOf S_bits_Div64_0 E_bits_Div64_0 135 R_bits_Div64_0
abbrev S_bits_Div64_2 : Shape := { sl := [(2, (.v (.int .u64))), (8, (.v (.int .u64))), (9, (.v (.int .u64))), (10, (.v (.int .u64))), (14, (.v (.int .u64))), (15, (.v (.int .u64))), (16, (.v (.int .u64))), (17, (.v (.int .u64))), (18, (.v (.int .u64)))], ob := [], lo := 0, nx := 0 }
abbrev E_bits_Div64_2 : List Ex := [(.normal, { sl := [(2, (.v (.int .u64))), (8, (.v (.int .u64))), (14, (.v (.int .u64))), (15, (.v (.int .u64))), (17, (.v (.int .u64))), (18, (.v (.int .u64)))], ob := [], lo := 0, nx := 0 })]
noncomputable def L_bits_Div64_2 : Code := loopIn (bodyOf Try.f144) 2
noncomputable def P_bits_Div64_2 : Lp := lpOf S_bits_Div64_2 E_bits_Div64_2 135 R_bits_Div64_2
noncomputable def c_bits_Div64 : Con := conV true [(.int .u64), (.int .u64), (.int .u64)] [(.int .u64), (.int .u64)] fun x => bits_Div64 x.1 x.2.1 x.2.2.1
noncomputable def x_bits_Div64 : Cx := { ti := ti, con := [(149, c_bits_LeadingZeros64)], fns := [], un := 6 }
theorem xok_bits_Div64 : CxOk Try.prog x_bits_Div64 := CxOk.of mixed ti_ok (List.forall_mem_cons.2 ⟨con_bits_LeadingZeros64, List.forall_mem_nil _⟩) (List.forall_mem_nil _)
theorem r_bits_Div64_0 (x : S_bits_Div64_0.X) : denC x_bits_Div64 [] (denF x_bits_Div64 8) L_bits_Div64_0 (S_bits_Div64_0.mkS 135 x) (kRound 0 S_bits_Div64_0 E_bits_Div64_0) = R_bits_Div64_0 x := by kernel_rfl
theorem l_bits_Div64_0 : LpOk Try.prog 0 (.loop L_bits_Div64_0) P_bits_Div64_0 := lpOf_ok xok_bits_Div64 8 (lps_nil) S_bits_Div64_0 E_bits_Div64_0 135 R_bits_Div64_0 (by decide) r_bits_Div64_0
theorem r_bits_Div64_2 (x : S_bits_Div64_2.X) : denC x_bits_Div64 [] (denF x_bits_Div64 8) L_bits_Div64_2 (S_bits_Div64_2.mkS 135 x) (kRound 2 S_bits_Div64_2 E_bits_Div64_2) = R_bits_Div64_2 x := by kernel_rfl
theorem l_bits_Div64_2 : LpOk Try.prog 2 (.loop L_bits_Div64_2) P_bits_Div64_2 := lpOf_ok xok_bits_Div64 8 (lps_nil) S_bits_Div64_2 E_bits_Div64_2 135 R_bits_Div64_2 (by decide) r_bits_Div64_2
theorem fn_bits_Div64 : FnOk Try.prog 144 Try.f144 [(0, P_bits_Div64_0), (2, P_bits_Div64_2)] := ⟨Try.func144, Try.call144, lps_of (by kernel_rfl) (lps_one l_bits_Div64_0 (by kernel_rfl) (lps_one l_bits_Div64_2 (by kernel_rfl) (List.forall_mem_nil _)))⟩
theorem e_bits_Div64 (hi : Int) (lo : Int) (y : Int) : bodyK x_bits_Div64 [(0, P_bits_Div64_0), (2, P_bits_Div64_2)] (denF x_bits_Div64 8) Try.f144 (domV [(.int .u64), (.int .u64), (.int .u64)] (hi, lo, y, ())) [] 0 (kOut [(.int .u64), (.int .u64)]) = bits_Div64' hi lo y := by kernel_rfl
theorem con_bits_Div64 : ConOk Try.prog 144 c_bits_Div64 := con_ok xok_bits_Div64 8 fn_bits_Div64 true [(.int .u64), (.int .u64), (.int .u64)] [(.int .u64), (.int .u64)] _ (by decide) (fun x => by rw [bits_Div64_eq]; exact e_bits_Div64 x.1 x.2.1 x.2.2.1)
noncomputable def c_bits_Mul64 : Con := conV true [(.int .u64), (.int .u64)] [(.int .u64), (.int .u64)] fun x => bits_Mul64 x.1 x.2.1
noncomputable def x_bits_Mul64 : Cx := { ti := ti, con := [], fns := [], un := 6 }
theorem xok_bits_Mul64 : CxOk Try.prog x_bits_Mul64 := CxOk.of mixed ti_ok (List.forall_mem_nil _) (List.forall_mem_nil _)
theorem fn_bits_Mul64 : FnOk Try.prog 143 Try.f143 [] := ⟨Try.func143, Try.call143, lps_nil⟩
theorem e_bits_Mul64 (x : Int) (y : Int) : bodyK x_bits_Mul64 [] (denF x_bits_Mul64 8) Try.f143 (domV [(.int .u64), (.int .u64)] (x, y, ())) [] 0 (kOut [(.int .u64), (.int .u64)]) = bits_Mul64' x y := by kernel_rfl
theorem con_bits_Mul64 : ConOk Try.prog 143 c_bits_Mul64 := con_ok xok_bits_Mul64 8 fn_bits_Mul64 true [(.int .u64), (.int .u64)] [(.int .u64), (.int .u64)] _ (by decide) (fun x => by rw [bits_Mul64_eq]; exact e_bits_Mul64 x.1 x.2.1)
end Go.Proofs.Ytennopklknlecaa

set_option linter.unusedVariables false
set_option linter.unusedSimpArgs false
set_option maxRecDepth 100000
set_option maxHeartbeats 0
namespace Go.Pl
end Go.Pl
open Go Go.Den Go.Pl
namespace Go.Proofs.Ytennopklknlecaa
noncomputable def c_nat_Int : Con := conV true [(.arr 4 (.int .u64))] [(.int .i64), .bool] fun x => nat_Int x.1
noncomputable def x_nat_Int : Cx := { ti := ti, con := [], fns := [], un := 6 }
theorem xok_nat_Int : CxOk Try.prog x_nat_Int := CxOk.of mixed ti_ok (List.forall_mem_nil _) (List.forall_mem_nil _)
theorem fn_nat_Int : FnOk Try.prog 101 Try.f101 [] := ⟨Try.func101, Try.call101, lps_nil⟩
theorem e_nat_Int (a : (Nat → Int)) : bodyK x_nat_Int [] (denF x_nat_Int 8) Try.f101 (domV [(.arr 4 (.int .u64))] (a, ())) [] 0 (kOut [(.int .i64), .bool]) = nat_Int' a := by kernel_rfl
theorem con_nat_Int : ConOk Try.prog 101 c_nat_Int := con_ok xok_nat_Int 8 fn_nat_Int true [(.arr 4 (.int .u64))] [(.int .i64), .bool] _ (by decide) (fun x => by rw [nat_Int_eq]; exact e_nat_Int x.1)
noncomputable def c_nat_Of : Con := conV true [(.int .i64)] [(.arr 4 (.int .u64))] fun x => nat_Of x.1
noncomputable def x_nat_Of : Cx := { ti := ti, con := [], fns := [], un := 6 }
theorem xok_nat_Of : CxOk Try.prog x_nat_Of := CxOk.of mixed ti_ok (List.forall_mem_nil _) (List.forall_mem_nil _)
theorem fn_nat_Of : FnOk Try.prog 66 Try.f66 [] := ⟨Try.func66, Try.call66, lps_nil⟩
theorem e_nat_Of (n : Int) : bodyK x_nat_Of [] (denF x_nat_Of 8) Try.f66 (domV [(.int .i64)] (n, ())) [] 0 (kOut [(.arr 4 (.int .u64))]) = nat_Of' n := by kernel_rfl
theorem con_nat_Of : ConOk Try.prog 66 c_nat_Of := con_ok xok_nat_Of 8 fn_nat_Of true [(.int .i64)] [(.arr 4 (.int .u64))] _ (by decide) (fun x => by rw [nat_Of_eq]; exact e_nat_Of x.1)
noncomputable def c_nat_Bit : Con := conV true [(.arr 4 (.int .u64)), (.int .i64)] [(.int .i64)] fun x => nat_Bit x.1 x.2.1
noncomputable def x_nat_Bit : Cx := { ti := ti, con := [], fns := [], un := 6 }
theorem xok_nat_Bit : CxOk Try.prog x_nat_Bit := CxOk.of mixed ti_ok (List.forall_mem_nil _) (List.forall_mem_nil _)
theorem fn_nat_Bit : FnOk Try.prog 119 Try.f119 [] := ⟨Try.func119, Try.call119, lps_nil⟩
theorem e_nat_Bit (a : (Nat → Int)) (k : Int) : bodyK x_nat_Bit [] (denF x_nat_Bit 8) Try.f119 (domV [(.arr 4 (.int .u64)), (.int .i64)] (a, k, ())) [] 0 (kOut [(.int .i64)]) = nat_Bit' a k := by kernel_rfl
theorem con_nat_Bit : ConOk Try.prog 119 c_nat_Bit := con_ok xok_nat_Bit 8 fn_nat_Bit true [(.arr 4 (.int .u64)), (.int .i64)] [(.int .i64)] _ (by decide) (fun x => by rw [nat_Bit_eq]; exact e_nat_Bit x.1 x.2.1)
abbrev S_nat_Up_0 : Shape := { sl := [(2, (.c ⟨(.ptr (.arr 4 (.int .u64))), (.rf 0 [])⟩)), (4, (.c ⟨(.ptr (.arr 4 (.int .u64))), (.rf 1 [])⟩)), (5, (.c ⟨(.ptr (.arr 4 (.int .u64))), (.rf 2 [])⟩)), (6, (.v (.int .i64))), (7, (.v (.int .i64))), (8, (.v (.int .i64)))], ob := [(0, (.v (.arr 4 (.int .u64)))), (1, (.v (.arr 4 (.int .u64)))), (2, (.v (.arr 4 (.int .u64))))], lo := 3, nx := 3 }
abbrev E_nat_Up_0 : List Ex := [(.normal, { sl := [(4, (.c ⟨(.ptr (.arr 4 (.int .u64))), (.rf 1 [])⟩)), (5, (.c ⟨(.ptr (.arr 4 (.int .u64))), (.rf 2 [])⟩))], ob := [(1, (.v (.arr 4 (.int .u64)))), (2, (.v (.arr 4 (.int .u64))))], lo := 3, nx := 3 })]
noncomputable def L_nat_Up_0 : Code := loopIn (bodyOf Try.f136) 0
noncomputable def P_nat_Up_0 : Lp := lpOf S_nat_Up_0 E_nat_Up_0 51 R_nat_Up_0
noncomputable def c_nat_Up : Con := conV true [(.arr 4 (.int .u64)), (.int .i64)] [(.arr 4 (.int .u64))] fun x => nat_Up x.1 x.2.1
noncomputable def x_nat_Up : Cx := { ti := ti, con := [], fns := [], un := 6 }
theorem xok_nat_Up : CxOk Try.prog x_nat_Up := CxOk.of mixed ti_ok (List.forall_mem_nil _) (List.forall_mem_nil _)
theorem r_nat_Up_0 (x : S_nat_Up_0.X) : denC x_nat_Up [] (denF x_nat_Up 8) L_nat_Up_0 (S_nat_Up_0.mkS 51 x) (kRound 0 S_nat_Up_0 E_nat_Up_0) = R_nat_Up_0 x := by kernel_rfl
theorem l_nat_Up_0 : LpOk Try.prog 0 (.loop L_nat_Up_0) P_nat_Up_0 := lpOf_ok xok_nat_Up 8 (lps_nil) S_nat_Up_0 E_nat_Up_0 51 R_nat_Up_0 (by decide) r_nat_Up_0
theorem fn_nat_Up : FnOk Try.prog 136 Try.f136 [(0, P_nat_Up_0)] := ⟨Try.func136, Try.call136, lps_of (by kernel_rfl) (lps_one l_nat_Up_0 (by kernel_rfl) (List.forall_mem_nil _))⟩
theorem e_nat_Up (a : (Nat → Int)) (k : Int) : bodyK x_nat_Up [(0, P_nat_Up_0)] (denF x_nat_Up 8) Try.f136 (domV [(.arr 4 (.int .u64)), (.int .i64)] (a, k, ())) [] 0 (kOut [(.arr 4 (.int .u64))]) = nat_Up' a k := by kernel_rfl
theorem con_nat_Up : ConOk Try.prog 136 c_nat_Up := con_ok xok_nat_Up 8 fn_nat_Up true [(.arr 4 (.int .u64)), (.int .i64)] [(.arr 4 (.int .u64))] _ (by decide) (fun x => by rw [nat_Up_eq]; exact e_nat_Up x.1 x.2.1)
noncomputable def c_nat_Sub : Con := conV true [(.arr 4 (.int .u64)), (.arr 4 (.int .u64))] [(.arr 4 (.int .u64)), (.int .i64)] fun x => nat_Sub x.1 x.2.1
noncomputable def x_nat_Sub : Cx := { ti := ti, con := [(145, c_sub64)], fns := [], un := 6 }
theorem xok_nat_Sub : CxOk Try.prog x_nat_Sub := CxOk.of mixed ti_ok (List.forall_mem_cons.2 ⟨con_sub64, List.forall_mem_nil _⟩) (List.forall_mem_nil _)
theorem fn_nat_Sub : FnOk Try.prog 128 Try.f128 [] := ⟨Try.func128, Try.call128, lps_nil⟩
theorem e_nat_Sub (a : (Nat → Int)) (b : (Nat → Int)) : bodyK x_nat_Sub [] (denF x_nat_Sub 8) Try.f128 (domV [(.arr 4 (.int .u64)), (.arr 4 (.int .u64))] (a, b, ())) [] 0 (kOut [(.arr 4 (.int .u64)), (.int .i64)]) = nat_Sub' a b := by kernel_rfl
theorem con_nat_Sub : ConOk Try.prog 128 c_nat_Sub := con_ok xok_nat_Sub 8 fn_nat_Sub true [(.arr 4 (.int .u64)), (.arr 4 (.int .u64))] [(.arr 4 (.int .u64)), (.int .i64)] _ (by decide) (fun x => by rw [nat_Sub_eq]; exact e_nat_Sub x.1 x.2.1)
noncomputable def c_nat_Cmp : Con := conV true [(.arr 4 (.int .u64)), (.arr 4 (.int .u64))] [(.int .i64)] fun x => nat_Cmp x.1 x.2.1
noncomputable def x_nat_Cmp : Cx := { ti := ti, con := [], fns := [], un := 6 }
theorem xok_nat_Cmp : CxOk Try.prog x_nat_Cmp := CxOk.of mixed ti_ok (List.forall_mem_nil _) (List.forall_mem_nil _)
theorem fn_nat_Cmp : FnOk Try.prog 108 Try.f108 [] := ⟨Try.func108, Try.call108, lps_nil⟩
theorem e_nat_Cmp (a : (Nat → Int)) (b : (Nat → Int)) : bodyK x_nat_Cmp [] (denF x_nat_Cmp 8) Try.f108 (domV [(.arr 4 (.int .u64)), (.arr 4 (.int .u64))] (a, b, ())) [] 0 (kOut [(.int .i64)]) = nat_Cmp' a b := by kernel_rfl
theorem con_nat_Cmp : ConOk Try.prog 108 c_nat_Cmp := con_ok xok_nat_Cmp 8 fn_nat_Cmp true [(.arr 4 (.int .u64)), (.arr 4 (.int .u64))] [(.int .i64)] _ (by decide) (fun x => by rw [nat_Cmp_eq]; exact e_nat_Cmp x.1 x.2.1)
noncomputable def c_nat_Len : Con := conV true [(.arr 4 (.int .u64))] [(.int .i64)] fun x => nat_Len x.1
noncomputable def x_nat_Len : Cx := { ti := ti, con := [(106, c_bits_Len64)], fns := [], un := 6 }
theorem xok_nat_Len : CxOk Try.prog x_nat_Len := CxOk.of mixed ti_ok (List.forall_mem_cons.2 ⟨con_bits_Len64, List.forall_mem_nil _⟩) (List.forall_mem_nil _)
theorem fn_nat_Len : FnOk Try.prog 65 Try.f65 [] := ⟨Try.func65, Try.call65, lps_nil⟩
theorem e_nat_Len (a : (Nat → Int)) : bodyK x_nat_Len [] (denF x_nat_Len 8) Try.f65 (domV [(.arr 4 (.int .u64))] (a, ())) [] 0 (kOut [(.int .i64)]) = nat_Len' a := by kernel_rfl
theorem con_nat_Len : ConOk Try.prog 65 c_nat_Len := con_ok xok_nat_Len 8 fn_nat_Len true [(.arr 4 (.int .u64))] [(.int .i64)] _ (by decide) (fun x => by rw [nat_Len_eq]; exact e_nat_Len x.1)
abbrev S_nat_Down_0 : Shape := { sl := [(2, (.c ⟨(.ptr (.arr 4 (.int .u64))), (.rf 0 [])⟩)), (4, (.c ⟨(.ptr (.arr 4 (.int .u64))), (.rf 1 [])⟩)), (5, (.c ⟨(.ptr (.arr 4 (.int .u64))), (.rf 2 [])⟩)), (6, (.v (.int .i64))), (7, (.v (.int .i64))), (20, (.v (.int .i64))), (21, (.v (.int .i64)))], ob := [(0, (.v (.arr 4 (.int .u64)))), (1, (.v (.arr 4 (.int .u64)))), (2, (.v (.arr 4 (.int .u64))))], lo := 3, nx := 3 }
abbrev E_nat_Down_0 : List Ex := [(.normal, { sl := [(4, (.c ⟨(.ptr (.arr 4 (.int .u64))), (.rf 1 [])⟩)), (5, (.c ⟨(.ptr (.arr 4 (.int .u64))), (.rf 2 [])⟩))], ob := [(1, (.v (.arr 4 (.int .u64)))), (2, (.v (.arr 4 (.int .u64))))], lo := 3, nx := 3 })]
noncomputable def L_nat_Down_0 : Code := loopIn (bodyOf Try.f135) 0
noncomputable def P_nat_Down_0 : Lp := lpOf S_nat_Down_0 E_nat_Down_0 54 R_nat_Down_0
noncomputable def c_nat_Down : Con := conV true [(.arr 4 (.int .u64)), (.int .i64)] [(.arr 4 (.int .u64))] fun x => nat_Down x.1 x.2.1
noncomputable def x_nat_Down : Cx := { ti := ti, con := [], fns := [], un := 6 }
theorem xok_nat_Down : CxOk Try.prog x_nat_Down := CxOk.of mixed ti_ok (List.forall_mem_nil _) (List.forall_mem_nil _)
theorem r_nat_Down_0 (x : S_nat_Down_0.X) : denC x_nat_Down [] (denF x_nat_Down 8) L_nat_Down_0 (S_nat_Down_0.mkS 54 x) (kRound 0 S_nat_Down_0 E_nat_Down_0) = R_nat_Down_0 x := by kernel_rfl
theorem l_nat_Down_0 : LpOk Try.prog 0 (.loop L_nat_Down_0) P_nat_Down_0 := lpOf_ok xok_nat_Down 8 (lps_nil) S_nat_Down_0 E_nat_Down_0 54 R_nat_Down_0 (by decide) r_nat_Down_0
theorem fn_nat_Down : FnOk Try.prog 135 Try.f135 [(0, P_nat_Down_0)] := ⟨Try.func135, Try.call135, lps_of (by kernel_rfl) (lps_one l_nat_Down_0 (by kernel_rfl) (List.forall_mem_nil _))⟩
theorem e_nat_Down (a : (Nat → Int)) (k : Int) : bodyK x_nat_Down [(0, P_nat_Down_0)] (denF x_nat_Down 8) Try.f135 (domV [(.arr 4 (.int .u64)), (.int .i64)] (a, k, ())) [] 0 (kOut [(.arr 4 (.int .u64))]) = nat_Down' a k := by kernel_rfl
theorem con_nat_Down : ConOk Try.prog 135 c_nat_Down := con_ok xok_nat_Down 8 fn_nat_Down true [(.arr 4 (.int .u64)), (.int .i64)] [(.arr 4 (.int .u64))] _ (by decide) (fun x => by rw [nat_Down_eq]; exact e_nat_Down x.1 x.2.1)
noncomputable def c_nat_Add : Con := conV true [(.arr 4 (.int .u64)), (.arr 4 (.int .u64))] [(.arr 4 (.int .u64)), (.int .i64)] fun x => nat_Add x.1 x.2.1
noncomputable def x_nat_Add : Cx := { ti := ti, con := [(147, c_add64)], fns := [], un := 6 }
theorem xok_nat_Add : CxOk Try.prog x_nat_Add := CxOk.of mixed ti_ok (List.forall_mem_cons.2 ⟨con_add64, List.forall_mem_nil _⟩) (List.forall_mem_nil _)
theorem fn_nat_Add : FnOk Try.prog 142 Try.f142 [] := ⟨Try.func142, Try.call142, lps_nil⟩
theorem e_nat_Add (a : (Nat → Int)) (b : (Nat → Int)) : bodyK x_nat_Add [] (denF x_nat_Add 8) Try.f142 (domV [(.arr 4 (.int .u64)), (.arr 4 (.int .u64))] (a, b, ())) [] 0 (kOut [(.arr 4 (.int .u64)), (.int .i64)]) = nat_Add' a b := by kernel_rfl
theorem con_nat_Add : ConOk Try.prog 142 c_nat_Add := con_ok xok_nat_Add 8 fn_nat_Add true [(.arr 4 (.int .u64)), (.arr 4 (.int .u64))] [(.arr 4 (.int .u64)), (.int .i64)] _ (by decide) (fun x => by rw [nat_Add_eq]; exact e_nat_Add x.1 x.2.1)
end Go.Proofs.Ytennopklknlecaa

set_option linter.unusedVariables false
set_option linter.unusedSimpArgs false
set_option maxRecDepth 100000
set_option maxHeartbeats 0
namespace Go.Pl
end Go.Pl
open Go Go.Den Go.Pl
namespace Go.Proofs.Ytennopklknlecaa
noncomputable def c_wide_short : Con := conV true [(.arr 4 (.int .u64)), (.int .u64), (.int .u64)] [(.arr 4 (.int .u64)), (.arr 4 (.int .u64))] fun x => wide_short x.1 x.2.1 x.2.2.1
noncomputable def x_wide_short : Cx := { ti := ti, con := [(144, c_bits_Div64)], fns := [], un := 6 }
theorem xok_wide_short : CxOk Try.prog x_wide_short := CxOk.of mixed ti_ok (List.forall_mem_cons.2 ⟨con_bits_Div64, List.forall_mem_nil _⟩) (List.forall_mem_nil _)
theorem fn_wide_short : FnOk Try.prog 148 Try.f148 [] := ⟨Try.func148, Try.call148, lps_nil⟩
theorem e_wide_short (a : (Nat → Int)) (left_ : Int) (m : Int) : bodyK x_wide_short [] (denF x_wide_short 8) Try.f148 (domV [(.arr 4 (.int .u64)), (.int .u64), (.int .u64)] (a, left_, m, ())) [] 0 (kOut [(.arr 4 (.int .u64)), (.arr 4 (.int .u64))]) = wide_short' a left_ m := by kernel_rfl
theorem con_wide_short : ConOk Try.prog 148 c_wide_short := con_ok xok_wide_short 8 fn_wide_short true [(.arr 4 (.int .u64)), (.int .u64), (.int .u64)] [(.arr 4 (.int .u64)), (.arr 4 (.int .u64))] _ (by decide) (fun x => by rw [wide_short_eq]; exact e_wide_short x.1 x.2.1 x.2.2.1)
abbrev S_wide_parted_0 : Shape := { sl := [(3, (.c ⟨(.ptr (.arr 4 (.int .u64))), (.rf 0 [])⟩)), (4, (.c ⟨(.ptr (.arr 4 (.int .u64))), (.rf 1 [])⟩)), (5, (.c ⟨(.ptr (.arr 4 (.int .u64))), (.rf 2 [])⟩)), (6, (.c ⟨(.ptr (.arr 4 (.int .u64))), (.rf 3 [])⟩)), (7, (.c ⟨(.ptr (.arr 4 (.int .u64))), (.rf 4 [])⟩)), (8, (.c ⟨(.ptr (.arr 4 (.int .u64))), (.rf 5 [])⟩)), (25, (.v (.int .i64)))], ob := [(0, (.v (.arr 4 (.int .u64)))), (1, (.v (.arr 4 (.int .u64)))), (2, (.v (.arr 4 (.int .u64)))), (3, (.v (.arr 4 (.int .u64)))), (4, (.v (.arr 4 (.int .u64)))), (5, (.v (.arr 4 (.int .u64))))], lo := 6, nx := 6 }
abbrev E_wide_parted_0 : List Ex := [(.normal, { sl := [(4, (.c ⟨(.ptr (.arr 4 (.int .u64))), (.rf 1 [])⟩)), (6, (.c ⟨(.ptr (.arr 4 (.int .u64))), (.rf 3 [])⟩)), (7, (.c ⟨(.ptr (.arr 4 (.int .u64))), (.rf 4 [])⟩)), (8, (.c ⟨(.ptr (.arr 4 (.int .u64))), (.rf 5 [])⟩))], ob := [(1, (.v (.arr 4 (.int .u64)))), (3, (.v (.arr 4 (.int .u64)))), (4, (.v (.arr 4 (.int .u64)))), (5, (.v (.arr 4 (.int .u64))))], lo := 6, nx := 6 })]
noncomputable def L_wide_parted_0 : Code := loopIn (bodyOf Try.f132) 0
noncomputable def P_wide_parted_0 : Lp := lpOf S_wide_parted_0 E_wide_parted_0 68 R_wide_parted_0
noncomputable def c_wide_parted : Con := conV true [(.arr 4 (.int .u64)), (.arr 4 (.int .u64)), (.arr 4 (.int .u64))] [(.arr 4 (.int .u64)), (.arr 4 (.int .u64))] fun x => wide_parted x.1 x.2.1 x.2.2.1
noncomputable def x_wide_parted : Cx := { ti := ti, con := [(148, c_wide_short), (119, c_nat_Bit), (136, c_nat_Up), (128, c_nat_Sub), (108, c_nat_Cmp)], fns := [], un := 6 }
theorem xok_wide_parted : CxOk Try.prog x_wide_parted := CxOk.of mixed ti_ok (List.forall_mem_cons.2 ⟨con_wide_short, List.forall_mem_cons.2 ⟨con_nat_Bit, List.forall_mem_cons.2 ⟨con_nat_Up, List.forall_mem_cons.2 ⟨con_nat_Sub, List.forall_mem_cons.2 ⟨con_nat_Cmp, List.forall_mem_nil _⟩⟩⟩⟩⟩) (List.forall_mem_nil _)
theorem r_wide_parted_0 (x : S_wide_parted_0.X) : denC x_wide_parted [] (denF x_wide_parted 8) L_wide_parted_0 (S_wide_parted_0.mkS 68 x) (kRound 0 S_wide_parted_0 E_wide_parted_0) = R_wide_parted_0 x := by kernel_rfl
theorem l_wide_parted_0 : LpOk Try.prog 0 (.loop L_wide_parted_0) P_wide_parted_0 := lpOf_ok xok_wide_parted 8 (lps_nil) S_wide_parted_0 E_wide_parted_0 68 R_wide_parted_0 (by decide) r_wide_parted_0
theorem fn_wide_parted : FnOk Try.prog 132 Try.f132 [(0, P_wide_parted_0)] := ⟨Try.func132, Try.call132, lps_of (by kernel_rfl) (lps_one l_wide_parted_0 (by kernel_rfl) (List.forall_mem_nil _))⟩
theorem e_wide_parted (a : (Nat → Int)) (left_ : (Nat → Int)) (m : (Nat → Int)) : bodyK x_wide_parted [(0, P_wide_parted_0)] (denF x_wide_parted 8) Try.f132 (domV [(.arr 4 (.int .u64)), (.arr 4 (.int .u64)), (.arr 4 (.int .u64))] (a, left_, m, ())) [] 0 (kOut [(.arr 4 (.int .u64)), (.arr 4 (.int .u64))]) = wide_parted' a left_ m := by kernel_rfl
theorem con_wide_parted : ConOk Try.prog 132 c_wide_parted := con_ok xok_wide_parted 8 fn_wide_parted true [(.arr 4 (.int .u64)), (.arr 4 (.int .u64)), (.arr 4 (.int .u64))] [(.arr 4 (.int .u64)), (.arr 4 (.int .u64))] _ (by decide) (fun x => by rw [wide_parted_eq]; exact e_wide_parted x.1 x.2.1 x.2.2.1)
noncomputable def c_wide_Rem : Con := conV true [(.arr 4 (.int .u64)), (.arr 4 (.int .u64)), (.arr 4 (.int .u64))] [(.arr 4 (.int .u64)), (.int .i64)] fun x => wide_Rem x.1 x.2.1 x.2.2.1
noncomputable def x_wide_Rem : Cx := { ti := ti, con := [(132, c_wide_parted)], fns := [], un := 6 }
theorem xok_wide_Rem : CxOk Try.prog x_wide_Rem := CxOk.of mixed ti_ok (List.forall_mem_cons.2 ⟨con_wide_parted, List.forall_mem_nil _⟩) (List.forall_mem_nil _)
theorem fn_wide_Rem : FnOk Try.prog 104 Try.f104 [] := ⟨Try.func104, Try.call104, lps_nil⟩
theorem e_wide_Rem (low : (Nat → Int)) (high : (Nat → Int)) (m : (Nat → Int)) : bodyK x_wide_Rem [] (denF x_wide_Rem 8) Try.f104 (domV [(.arr 4 (.int .u64)), (.arr 4 (.int .u64)), (.arr 4 (.int .u64))] (low, high, m, ())) [] 0 (kOut [(.arr 4 (.int .u64)), (.int .i64)]) = wide_Rem' low high m := by kernel_rfl
theorem con_wide_Rem : ConOk Try.prog 104 c_wide_Rem := con_ok xok_wide_Rem 8 fn_wide_Rem true [(.arr 4 (.int .u64)), (.arr 4 (.int .u64)), (.arr 4 (.int .u64))] [(.arr 4 (.int .u64)), (.int .i64)] _ (by decide) (fun x => by rw [wide_Rem_eq]; exact e_wide_Rem x.1 x.2.1 x.2.2.1)
noncomputable def c_wide_Mul : Con := conV true [(.arr 4 (.int .u64)), (.arr 4 (.int .u64))] [(.arr 4 (.int .u64)), (.arr 4 (.int .u64))] fun x => wide_Mul x.1 x.2.1
noncomputable def x_wide_Mul : Cx := { ti := ti, con := [(143, c_bits_Mul64), (147, c_add64)], fns := [(146, Try.f146, [])], un := 6 }
theorem xok_wide_Mul : CxOk Try.prog x_wide_Mul := CxOk.of mixed ti_ok (List.forall_mem_cons.2 ⟨con_bits_Mul64, List.forall_mem_cons.2 ⟨con_add64, List.forall_mem_nil _⟩⟩) (List.forall_mem_cons.2 ⟨⟨Try.func146, Try.call146, lps_nil⟩, List.forall_mem_nil _⟩)
theorem fn_wide_Mul : FnOk Try.prog 130 Try.f130 [] := ⟨Try.func130, Try.call130, lps_nil⟩
theorem e_wide_Mul (a : (Nat → Int)) (b : (Nat → Int)) : bodyK x_wide_Mul [] (denF x_wide_Mul 8) Try.f130 (domV [(.arr 4 (.int .u64)), (.arr 4 (.int .u64))] (a, b, ())) [] 0 (kOut [(.arr 4 (.int .u64)), (.arr 4 (.int .u64))]) = wide_Mul' a b := by kernel_rfl
theorem con_wide_Mul : ConOk Try.prog 130 c_wide_Mul := con_ok xok_wide_Mul 8 fn_wide_Mul true [(.arr 4 (.int .u64)), (.arr 4 (.int .u64))] [(.arr 4 (.int .u64)), (.arr 4 (.int .u64))] _ (by decide) (fun x => by rw [wide_Mul_eq]; exact e_wide_Mul x.1 x.2.1)
noncomputable def c_wide_MulMod : Con := conV true [(.arr 4 (.int .u64)), (.arr 4 (.int .u64)), (.arr 4 (.int .u64))] [(.arr 4 (.int .u64)), (.int .i64)] fun x => wide_MulMod x.1 x.2.1 x.2.2.1
noncomputable def x_wide_MulMod : Cx := { ti := ti, con := [(130, c_wide_Mul), (104, c_wide_Rem)], fns := [], un := 6 }
theorem xok_wide_MulMod : CxOk Try.prog x_wide_MulMod := CxOk.of mixed ti_ok (List.forall_mem_cons.2 ⟨con_wide_Mul, List.forall_mem_cons.2 ⟨con_wide_Rem, List.forall_mem_nil _⟩⟩) (List.forall_mem_nil _)
theorem fn_wide_MulMod : FnOk Try.prog 105 Try.f105 [] := ⟨Try.func105, Try.call105, lps_nil⟩
theorem e_wide_MulMod (a : (Nat → Int)) (b : (Nat → Int)) (m : (Nat → Int)) : bodyK x_wide_MulMod [] (denF x_wide_MulMod 8) Try.f105 (domV [(.arr 4 (.int .u64)), (.arr 4 (.int .u64)), (.arr 4 (.int .u64))] (a, b, m, ())) [] 0 (kOut [(.arr 4 (.int .u64)), (.int .i64)]) = wide_MulMod' a b m := by kernel_rfl
theorem con_wide_MulMod : ConOk Try.prog 105 c_wide_MulMod := con_ok xok_wide_MulMod 8 fn_wide_MulMod true [(.arr 4 (.int .u64)), (.arr 4 (.int .u64)), (.arr 4 (.int .u64))] [(.arr 4 (.int .u64)), (.int .i64)] _ (by decide) (fun x => by rw [wide_MulMod_eq]; exact e_wide_MulMod x.1 x.2.1 x.2.2.1)
noncomputable def c_wide_Div : Con := conV true [(.arr 4 (.int .u64)), (.arr 4 (.int .u64))] [(.arr 4 (.int .u64)), (.arr 4 (.int .u64)), (.int .i64)] fun x => wide_Div x.1 x.2.1
noncomputable def x_wide_Div : Cx := { ti := ti, con := [(132, c_wide_parted)], fns := [], un := 6 }
theorem xok_wide_Div : CxOk Try.prog x_wide_Div := CxOk.of mixed ti_ok (List.forall_mem_cons.2 ⟨con_wide_parted, List.forall_mem_nil _⟩) (List.forall_mem_nil _)
theorem fn_wide_Div : FnOk Try.prog 129 Try.f129 [] := ⟨Try.func129, Try.call129, lps_nil⟩
theorem e_wide_Div (a : (Nat → Int)) (b : (Nat → Int)) : bodyK x_wide_Div [] (denF x_wide_Div 8) Try.f129 (domV [(.arr 4 (.int .u64)), (.arr 4 (.int .u64))] (a, b, ())) [] 0 (kOut [(.arr 4 (.int .u64)), (.arr 4 (.int .u64)), (.int .i64)]) = wide_Div' a b := by kernel_rfl
theorem con_wide_Div : ConOk Try.prog 129 c_wide_Div := con_ok xok_wide_Div 8 fn_wide_Div true [(.arr 4 (.int .u64)), (.arr 4 (.int .u64))] [(.arr 4 (.int .u64)), (.arr 4 (.int .u64)), (.int .i64)] _ (by decide) (fun x => by rw [wide_Div_eq]; exact e_wide_Div x.1 x.2.1)
noncomputable def c_wide_SubMod : Con := conV true [(.arr 4 (.int .u64)), (.arr 4 (.int .u64)), (.arr 4 (.int .u64))] [(.arr 4 (.int .u64)), (.int .i64)] fun x => wide_SubMod x.1 x.2.1 x.2.2.1
noncomputable def x_wide_SubMod : Cx := { ti := ti, con := [(104, c_wide_Rem), (128, c_nat_Sub), (142, c_nat_Add)], fns := [], un := 6 }
theorem xok_wide_SubMod : CxOk Try.prog x_wide_SubMod := CxOk.of mixed ti_ok (List.forall_mem_cons.2 ⟨con_wide_Rem, List.forall_mem_cons.2 ⟨con_nat_Sub, List.forall_mem_cons.2 ⟨con_nat_Add, List.forall_mem_nil _⟩⟩⟩) (List.forall_mem_nil _)
theorem fn_wide_SubMod : FnOk Try.prog 127 Try.f127 [] := ⟨Try.func127, Try.call127, lps_nil⟩
theorem e_wide_SubMod (a : (Nat → Int)) (b : (Nat → Int)) (m : (Nat → Int)) : bodyK x_wide_SubMod [] (denF x_wide_SubMod 8) Try.f127 (domV [(.arr 4 (.int .u64)), (.arr 4 (.int .u64)), (.arr 4 (.int .u64))] (a, b, m, ())) [] 0 (kOut [(.arr 4 (.int .u64)), (.int .i64)]) = wide_SubMod' a b m := by kernel_rfl
theorem con_wide_SubMod : ConOk Try.prog 127 c_wide_SubMod := con_ok xok_wide_SubMod 8 fn_wide_SubMod true [(.arr 4 (.int .u64)), (.arr 4 (.int .u64)), (.arr 4 (.int .u64))] [(.arr 4 (.int .u64)), (.int .i64)] _ (by decide) (fun x => by rw [wide_SubMod_eq]; exact e_wide_SubMod x.1 x.2.1 x.2.2.1)
abbrev S_wide_Gcd_0 : Shape := { sl := [(2, (.c ⟨(.ptr (.arr 4 (.int .u64))), (.rf 0 [])⟩)), (3, (.c ⟨(.ptr (.arr 4 (.int .u64))), (.rf 1 [])⟩)), (4, (.c ⟨(.ptr (.arr 4 (.int .u64))), (.rf 2 [])⟩))], ob := [(0, (.v (.arr 4 (.int .u64)))), (1, (.v (.arr 4 (.int .u64)))), (2, (.v (.arr 4 (.int .u64))))], lo := 3, nx := 3 }
abbrev E_wide_Gcd_0 : List Ex := [(.normal, { sl := [(2, (.c ⟨(.ptr (.arr 4 (.int .u64))), (.rf 0 [])⟩)), (4, (.c ⟨(.ptr (.arr 4 (.int .u64))), (.rf 2 [])⟩))], ob := [(0, (.v (.arr 4 (.int .u64)))), (2, (.v (.arr 4 (.int .u64))))], lo := 3, nx := 3 })]
noncomputable def L_wide_Gcd_0 : Code := loopIn (bodyOf Try.f131) 0
noncomputable def P_wide_Gcd_0 : Lp := lpOf S_wide_Gcd_0 E_wide_Gcd_0 21 R_wide_Gcd_0
noncomputable def c_wide_Gcd : Con := conV true [(.arr 4 (.int .u64)), (.arr 4 (.int .u64))] [(.arr 4 (.int .u64))] fun x => wide_Gcd x.1 x.2.1
noncomputable def x_wide_Gcd : Cx := { ti := ti, con := [(129, c_wide_Div)], fns := [], un := 6 }
theorem xok_wide_Gcd : CxOk Try.prog x_wide_Gcd := CxOk.of mixed ti_ok (List.forall_mem_cons.2 ⟨con_wide_Div, List.forall_mem_nil _⟩) (List.forall_mem_nil _)
theorem r_wide_Gcd_0 (x : S_wide_Gcd_0.X) : denC x_wide_Gcd [] (denF x_wide_Gcd 8) L_wide_Gcd_0 (S_wide_Gcd_0.mkS 21 x) (kRound 0 S_wide_Gcd_0 E_wide_Gcd_0) = R_wide_Gcd_0 x := by kernel_rfl
theorem l_wide_Gcd_0 : LpOk Try.prog 0 (.loop L_wide_Gcd_0) P_wide_Gcd_0 := lpOf_ok xok_wide_Gcd 8 (lps_nil) S_wide_Gcd_0 E_wide_Gcd_0 21 R_wide_Gcd_0 (by decide) r_wide_Gcd_0
theorem fn_wide_Gcd : FnOk Try.prog 131 Try.f131 [(0, P_wide_Gcd_0)] := ⟨Try.func131, Try.call131, lps_of (by kernel_rfl) (lps_one l_wide_Gcd_0 (by kernel_rfl) (List.forall_mem_nil _))⟩
theorem e_wide_Gcd (a : (Nat → Int)) (b : (Nat → Int)) : bodyK x_wide_Gcd [(0, P_wide_Gcd_0)] (denF x_wide_Gcd 8) Try.f131 (domV [(.arr 4 (.int .u64)), (.arr 4 (.int .u64))] (a, b, ())) [] 0 (kOut [(.arr 4 (.int .u64))]) = wide_Gcd' a b := by kernel_rfl
theorem con_wide_Gcd : ConOk Try.prog 131 c_wide_Gcd := con_ok xok_wide_Gcd 8 fn_wide_Gcd true [(.arr 4 (.int .u64)), (.arr 4 (.int .u64))] [(.arr 4 (.int .u64))] _ (by decide) (fun x => by rw [wide_Gcd_eq]; exact e_wide_Gcd x.1 x.2.1)
noncomputable def c_wide_AddMod : Con := conV true [(.arr 4 (.int .u64)), (.arr 4 (.int .u64)), (.arr 4 (.int .u64))] [(.arr 4 (.int .u64)), (.int .i64)] fun x => wide_AddMod x.1 x.2.1 x.2.2.1
noncomputable def x_wide_AddMod : Cx := { ti := ti, con := [(142, c_nat_Add), (66, c_nat_Of), (104, c_wide_Rem)], fns := [], un := 6 }
theorem xok_wide_AddMod : CxOk Try.prog x_wide_AddMod := CxOk.of mixed ti_ok (List.forall_mem_cons.2 ⟨con_nat_Add, List.forall_mem_cons.2 ⟨con_nat_Of, List.forall_mem_cons.2 ⟨con_wide_Rem, List.forall_mem_nil _⟩⟩⟩) (List.forall_mem_nil _)
theorem fn_wide_AddMod : FnOk Try.prog 122 Try.f122 [] := ⟨Try.func122, Try.call122, lps_nil⟩
theorem e_wide_AddMod (a : (Nat → Int)) (b : (Nat → Int)) (m : (Nat → Int)) : bodyK x_wide_AddMod [] (denF x_wide_AddMod 8) Try.f122 (domV [(.arr 4 (.int .u64)), (.arr 4 (.int .u64)), (.arr 4 (.int .u64))] (a, b, m, ())) [] 0 (kOut [(.arr 4 (.int .u64)), (.int .i64)]) = wide_AddMod' a b m := by kernel_rfl
theorem con_wide_AddMod : ConOk Try.prog 122 c_wide_AddMod := con_ok xok_wide_AddMod 8 fn_wide_AddMod true [(.arr 4 (.int .u64)), (.arr 4 (.int .u64)), (.arr 4 (.int .u64))] [(.arr 4 (.int .u64)), (.int .i64)] _ (by decide) (fun x => by rw [wide_AddMod_eq]; exact e_wide_AddMod x.1 x.2.1 x.2.2.1)
abbrev S_wide_InvMod_0 : Shape := { sl := [(3, (.c ⟨(.ptr (.arr 4 (.int .u64))), (.rf 1 [])⟩)), (4, (.c ⟨(.ptr (.arr 4 (.int .u64))), (.rf 2 [])⟩)), (6, (.c ⟨(.ptr (.arr 4 (.int .u64))), (.rf 3 [])⟩)), (8, (.c ⟨(.ptr (.arr 4 (.int .u64))), (.rf 4 [])⟩)), (9, (.c ⟨(.ptr (.arr 4 (.int .u64))), (.rf 5 [])⟩)), (10, (.c ⟨(.ptr (.arr 4 (.int .u64))), (.rf 6 [])⟩))], ob := [(1, (.v (.arr 4 (.int .u64)))), (2, (.v (.arr 4 (.int .u64)))), (3, (.v (.arr 4 (.int .u64)))), (4, (.v (.arr 4 (.int .u64)))), (5, (.v (.arr 4 (.int .u64)))), (6, (.v (.arr 4 (.int .u64))))], lo := 7, nx := 7 }
abbrev E_wide_InvMod_0 : List Ex := [(.normal, { sl := [(4, (.c ⟨(.ptr (.arr 4 (.int .u64))), (.rf 2 [])⟩)), (8, (.c ⟨(.ptr (.arr 4 (.int .u64))), (.rf 4 [])⟩)), (9, (.c ⟨(.ptr (.arr 4 (.int .u64))), (.rf 5 [])⟩))], ob := [(2, (.v (.arr 4 (.int .u64)))), (4, (.v (.arr 4 (.int .u64)))), (5, (.v (.arr 4 (.int .u64))))], lo := 7, nx := 7 })]
noncomputable def L_wide_InvMod_0 : Code := loopIn (bodyOf Try.f125) 0
noncomputable def P_wide_InvMod_0 : Lp := lpOf S_wide_InvMod_0 E_wide_InvMod_0 66 R_wide_InvMod_0
noncomputable def c_wide_InvMod : Con := conV true [(.arr 4 (.int .u64)), (.arr 4 (.int .u64))] [(.arr 4 (.int .u64)), (.int .i64)] fun x => wide_InvMod x.1 x.2.1
noncomputable def x_wide_InvMod : Cx := { ti := ti, con := [(66, c_nat_Of), (108, c_nat_Cmp), (104, c_wide_Rem), (129, c_wide_Div), (105, c_wide_MulMod), (127, c_wide_SubMod)], fns := [], un := 6 }
theorem xok_wide_InvMod : CxOk Try.prog x_wide_InvMod := CxOk.of mixed ti_ok (List.forall_mem_cons.2 ⟨con_nat_Of, List.forall_mem_cons.2 ⟨con_nat_Cmp, List.forall_mem_cons.2 ⟨con_wide_Rem, List.forall_mem_cons.2 ⟨con_wide_Div, List.forall_mem_cons.2 ⟨con_wide_MulMod, List.forall_mem_cons.2 ⟨con_wide_SubMod, List.forall_mem_nil _⟩⟩⟩⟩⟩⟩) (List.forall_mem_nil _)
theorem r_wide_InvMod_0 (x : S_wide_InvMod_0.X) : denC x_wide_InvMod [] (denF x_wide_InvMod 8) L_wide_InvMod_0 (S_wide_InvMod_0.mkS 66 x) (kRound 0 S_wide_InvMod_0 E_wide_InvMod_0) = R_wide_InvMod_0 x := by kernel_rfl
theorem l_wide_InvMod_0 : LpOk Try.prog 0 (.loop L_wide_InvMod_0) P_wide_InvMod_0 := lpOf_ok xok_wide_InvMod 8 (lps_nil) S_wide_InvMod_0 E_wide_InvMod_0 66 R_wide_InvMod_0 (by decide) r_wide_InvMod_0
theorem fn_wide_InvMod : FnOk Try.prog 125 Try.f125 [(0, P_wide_InvMod_0)] := ⟨Try.func125, Try.call125, lps_of (by kernel_rfl) (lps_one l_wide_InvMod_0 (by kernel_rfl) (List.forall_mem_nil _))⟩
theorem e_wide_InvMod (a : (Nat → Int)) (m : (Nat → Int)) : bodyK x_wide_InvMod [(0, P_wide_InvMod_0)] (denF x_wide_InvMod 8) Try.f125 (domV [(.arr 4 (.int .u64)), (.arr 4 (.int .u64))] (a, m, ())) [] 0 (kOut [(.arr 4 (.int .u64)), (.int .i64)]) = wide_InvMod' a m := by kernel_rfl
theorem con_wide_InvMod : ConOk Try.prog 125 c_wide_InvMod := con_ok xok_wide_InvMod 8 fn_wide_InvMod true [(.arr 4 (.int .u64)), (.arr 4 (.int .u64))] [(.arr 4 (.int .u64)), (.int .i64)] _ (by decide) (fun x => by rw [wide_InvMod_eq]; exact e_wide_InvMod x.1 x.2.1)
end Go.Proofs.Ytennopklknlecaa

set_option linter.unusedVariables false
set_option linter.unusedSimpArgs false
set_option maxRecDepth 100000
set_option maxHeartbeats 0
namespace Go.Pl
end Go.Pl
open Go Go.Den Go.Pl
namespace Go.Proofs.Ytennopklknlecaa
noncomputable def c_mont_New : Con := conV false [(.arr 4 (.int .u64))] [(.ptr (.pair (.arr 4 (.int .u64)) (.pair (.int .u64) (.pair (.arr 4 (.int .u64)) (.arr 4 (.int .u64)))))), (.int .i64)] fun x => mont_New x.1
noncomputable def x_mont_New : Cx := { ti := ti, con := [(66, c_nat_Of), (104, c_wide_Rem), (105, c_wide_MulMod)], fns := [], un := 6 }
theorem xok_mont_New : CxOk Try.prog x_mont_New := CxOk.of mixed ti_ok (List.forall_mem_cons.2 ⟨con_nat_Of, List.forall_mem_cons.2 ⟨con_wide_Rem, List.forall_mem_cons.2 ⟨con_wide_MulMod, List.forall_mem_nil _⟩⟩⟩) (List.forall_mem_nil _)
theorem fn_mont_New : FnOk Try.prog 64 Try.f64 [] := ⟨Try.func64, Try.call64, lps_nil⟩
theorem e_mont_New (m : (Nat → Int)) : bodyK x_mont_New [] (denF x_mont_New 8) Try.f64 (domV [(.arr 4 (.int .u64))] (m, ())) [] 0 (kOut [(.ptr (.pair (.arr 4 (.int .u64)) (.pair (.int .u64) (.pair (.arr 4 (.int .u64)) (.arr 4 (.int .u64)))))), (.int .i64)]) = mont_New' m := by kernel_rfl
theorem con_mont_New : ConOk Try.prog 64 c_mont_New := con_ok xok_mont_New 8 fn_mont_New false [(.arr 4 (.int .u64))] [(.ptr (.pair (.arr 4 (.int .u64)) (.pair (.int .u64) (.pair (.arr 4 (.int .u64)) (.arr 4 (.int .u64)))))), (.int .i64)] _ (by decide) (fun x => by rw [mont_New_eq]; exact e_mont_New x.1)
noncomputable def c_mont_Ring_given : Con := conV true [(.ptr (.pair (.arr 4 (.int .u64)) (.pair (.int .u64) (.pair (.arr 4 (.int .u64)) (.arr 4 (.int .u64))))))] [.bool] fun x => mont_Ring_given x.1
noncomputable def x_mont_Ring_given : Cx := { ti := ti, con := [], fns := [], un := 6 }
theorem xok_mont_Ring_given : CxOk Try.prog x_mont_Ring_given := CxOk.of mixed ti_ok (List.forall_mem_nil _) (List.forall_mem_nil _)
theorem fn_mont_Ring_given : FnOk Try.prog 107 Try.f107 [] := ⟨Try.func107, Try.call107, lps_nil⟩
theorem e_mont_Ring_given (r : (Option ((Nat → Int) × (Int × ((Nat → Int) × (Nat → Int)))))) : bodyK x_mont_Ring_given [] (denF x_mont_Ring_given 8) Try.f107 (domV [(.ptr (.pair (.arr 4 (.int .u64)) (.pair (.int .u64) (.pair (.arr 4 (.int .u64)) (.arr 4 (.int .u64))))))] (r, ())) [] 0 (kOut [.bool]) = mont_Ring_given' r := by cases r <;> kernel_rfl
theorem con_mont_Ring_given : ConOk Try.prog 107 c_mont_Ring_given := con_ok xok_mont_Ring_given 8 fn_mont_Ring_given true [(.ptr (.pair (.arr 4 (.int .u64)) (.pair (.int .u64) (.pair (.arr 4 (.int .u64)) (.arr 4 (.int .u64))))))] [.bool] _ (by decide) (fun x => by rw [mont_Ring_given_eq]; exact e_mont_Ring_given x.1)
noncomputable def c_mont_Ring_low : Con := conV true [(.ptr (.pair (.arr 4 (.int .u64)) (.pair (.int .u64) (.pair (.arr 4 (.int .u64)) (.arr 4 (.int .u64)))))), (.arr 4 (.int .u64))] [(.arr 4 (.int .u64))] fun x => mont_Ring_low x.1 x.2.1
noncomputable def x_mont_Ring_low : Cx := { ti := ti, con := [(108, c_nat_Cmp), (104, c_wide_Rem)], fns := [], un := 6 }
theorem xok_mont_Ring_low : CxOk Try.prog x_mont_Ring_low := CxOk.of mixed ti_ok (List.forall_mem_cons.2 ⟨con_nat_Cmp, List.forall_mem_cons.2 ⟨con_wide_Rem, List.forall_mem_nil _⟩⟩) (List.forall_mem_nil _)
theorem fn_mont_Ring_low : FnOk Try.prog 118 Try.f118 [] := ⟨Try.func118, Try.call118, lps_nil⟩
theorem e_mont_Ring_low (r : (Option ((Nat → Int) × (Int × ((Nat → Int) × (Nat → Int)))))) (a : (Nat → Int)) : bodyK x_mont_Ring_low [] (denF x_mont_Ring_low 8) Try.f118 (domV [(.ptr (.pair (.arr 4 (.int .u64)) (.pair (.int .u64) (.pair (.arr 4 (.int .u64)) (.arr 4 (.int .u64)))))), (.arr 4 (.int .u64))] (r, a, ())) [] 0 (kOut [(.arr 4 (.int .u64))]) = mont_Ring_low' r a := by cases r <;> kernel_rfl
theorem con_mont_Ring_low : ConOk Try.prog 118 c_mont_Ring_low := con_ok xok_mont_Ring_low 8 fn_mont_Ring_low true [(.ptr (.pair (.arr 4 (.int .u64)) (.pair (.int .u64) (.pair (.arr 4 (.int .u64)) (.arr 4 (.int .u64)))))), (.arr 4 (.int .u64))] [(.arr 4 (.int .u64))] _ (by decide) (fun x => by rw [mont_Ring_low_eq]; exact e_mont_Ring_low x.1 x.2.1)
noncomputable def c_mont_adds : Con := conV true [(.arr 6 (.int .u64)), (.int .u64), (.arr 4 (.int .u64))] [(.arr 6 (.int .u64))] fun x => mont_adds x.1 x.2.1 x.2.2.1
noncomputable def x_mont_adds : Cx := { ti := ti, con := [(143, c_bits_Mul64), (147, c_add64)], fns := [], un := 6 }
theorem xok_mont_adds : CxOk Try.prog x_mont_adds := CxOk.of mixed ti_ok (List.forall_mem_cons.2 ⟨con_bits_Mul64, List.forall_mem_cons.2 ⟨con_add64, List.forall_mem_nil _⟩⟩) (List.forall_mem_nil _)
theorem fn_mont_adds : FnOk Try.prog 140 Try.f140 [] := ⟨Try.func140, Try.call140, lps_nil⟩
theorem e_mont_adds (t : (Nat → Int)) (x : Int) (b : (Nat → Int)) : bodyK x_mont_adds [] (denF x_mont_adds 8) Try.f140 (domV [(.arr 6 (.int .u64)), (.int .u64), (.arr 4 (.int .u64))] (t, x, b, ())) [] 0 (kOut [(.arr 6 (.int .u64))]) = mont_adds' t x b := by kernel_rfl
theorem con_mont_adds : ConOk Try.prog 140 c_mont_adds := con_ok xok_mont_adds 8 fn_mont_adds true [(.arr 6 (.int .u64)), (.int .u64), (.arr 4 (.int .u64))] [(.arr 6 (.int .u64))] _ (by decide) (fun x => by rw [mont_adds_eq]; exact e_mont_adds x.1 x.2.1 x.2.2.1)
noncomputable def c_mont_Ring_redc : Con := conV true [(.ptr (.pair (.arr 4 (.int .u64)) (.pair (.int .u64) (.pair (.arr 4 (.int .u64)) (.arr 4 (.int .u64)))))), (.arr 4 (.int .u64)), (.arr 4 (.int .u64))] [(.arr 4 (.int .u64))] fun x => mont_Ring_redc x.1 x.2.1 x.2.2.1
noncomputable def x_mont_Ring_redc : Cx := { ti := ti, con := [(140, c_mont_adds), (128, c_nat_Sub), (108, c_nat_Cmp)], fns := [], un := 6 }
theorem xok_mont_Ring_redc : CxOk Try.prog x_mont_Ring_redc := CxOk.of mixed ti_ok (List.forall_mem_cons.2 ⟨con_mont_adds, List.forall_mem_cons.2 ⟨con_nat_Sub, List.forall_mem_cons.2 ⟨con_nat_Cmp, List.forall_mem_nil _⟩⟩⟩) (List.forall_mem_nil _)
theorem fn_mont_Ring_redc : FnOk Try.prog 116 Try.f116 [] := ⟨Try.func116, Try.call116, lps_nil⟩
theorem e_mont_Ring_redc (r : (Option ((Nat → Int) × (Int × ((Nat → Int) × (Nat → Int)))))) (a : (Nat → Int)) (b : (Nat → Int)) : bodyK x_mont_Ring_redc [] (denF x_mont_Ring_redc 8) Try.f116 (domV [(.ptr (.pair (.arr 4 (.int .u64)) (.pair (.int .u64) (.pair (.arr 4 (.int .u64)) (.arr 4 (.int .u64)))))), (.arr 4 (.int .u64)), (.arr 4 (.int .u64))] (r, a, b, ())) [] 0 (kOut [(.arr 4 (.int .u64))]) = mont_Ring_redc' r a b := by cases r <;> kernel_rfl
theorem con_mont_Ring_redc : ConOk Try.prog 116 c_mont_Ring_redc := con_ok xok_mont_Ring_redc 8 fn_mont_Ring_redc true [(.ptr (.pair (.arr 4 (.int .u64)) (.pair (.int .u64) (.pair (.arr 4 (.int .u64)) (.arr 4 (.int .u64)))))), (.arr 4 (.int .u64)), (.arr 4 (.int .u64))] [(.arr 4 (.int .u64))] _ (by decide) (fun x => by rw [mont_Ring_redc_eq]; exact e_mont_Ring_redc x.1 x.2.1 x.2.2.1)
noncomputable def c_mont_Ring_Form : Con := conV true [(.ptr (.pair (.arr 4 (.int .u64)) (.pair (.int .u64) (.pair (.arr 4 (.int .u64)) (.arr 4 (.int .u64)))))), (.arr 4 (.int .u64))] [(.arr 4 (.int .u64))] fun x => mont_Ring_Form x.1 x.2.1
noncomputable def x_mont_Ring_Form : Cx := { ti := ti, con := [(107, c_mont_Ring_given), (118, c_mont_Ring_low), (116, c_mont_Ring_redc)], fns := [], un := 6 }
theorem xok_mont_Ring_Form : CxOk Try.prog x_mont_Ring_Form := CxOk.of mixed ti_ok (List.forall_mem_cons.2 ⟨con_mont_Ring_given, List.forall_mem_cons.2 ⟨con_mont_Ring_low, List.forall_mem_cons.2 ⟨con_mont_Ring_redc, List.forall_mem_nil _⟩⟩⟩) (List.forall_mem_nil _)
theorem fn_mont_Ring_Form : FnOk Try.prog 117 Try.f117 [] := ⟨Try.func117, Try.call117, lps_nil⟩
theorem e_mont_Ring_Form (r : (Option ((Nat → Int) × (Int × ((Nat → Int) × (Nat → Int)))))) (a : (Nat → Int)) : bodyK x_mont_Ring_Form [] (denF x_mont_Ring_Form 8) Try.f117 (domV [(.ptr (.pair (.arr 4 (.int .u64)) (.pair (.int .u64) (.pair (.arr 4 (.int .u64)) (.arr 4 (.int .u64)))))), (.arr 4 (.int .u64))] (r, a, ())) [] 0 (kOut [(.arr 4 (.int .u64))]) = mont_Ring_Form' r a := by cases r <;> kernel_rfl
theorem con_mont_Ring_Form : ConOk Try.prog 117 c_mont_Ring_Form := con_ok xok_mont_Ring_Form 8 fn_mont_Ring_Form true [(.ptr (.pair (.arr 4 (.int .u64)) (.pair (.int .u64) (.pair (.arr 4 (.int .u64)) (.arr 4 (.int .u64)))))), (.arr 4 (.int .u64))] [(.arr 4 (.int .u64))] _ (by decide) (fun x => by rw [mont_Ring_Form_eq]; exact e_mont_Ring_Form x.1 x.2.1)
abbrev S_mont_Ring_powers_0 : Shape := { sl := [(0, (.pz (.pair (.arr 4 (.int .u64)) (.pair (.int .u64) (.pair (.arr 4 (.int .u64)) (.arr 4 (.int .u64))))))), (4, (.c ⟨(.ptr (.arr 16 (.arr 4 (.int .u64)))), (.rf 1 [])⟩)), (5, (.c ⟨(.ptr (.arr 16 (.arr 4 (.int .u64)))), (.rf 2 [])⟩)), (6, (.c ⟨(.ptr (.arr 4 (.int .u64))), (.rf 3 [])⟩)), (7, (.v (.int .i64)))], ob := [(1, (.v (.arr 16 (.arr 4 (.int .u64))))), (2, (.v (.arr 16 (.arr 4 (.int .u64))))), (3, (.v (.arr 4 (.int .u64))))], lo := 4, nx := 4 }
abbrev E_mont_Ring_powers_0 : List Ex := [(.normal, { sl := [(4, (.c ⟨(.ptr (.arr 16 (.arr 4 (.int .u64)))), (.rf 1 [])⟩)), (5, (.c ⟨(.ptr (.arr 16 (.arr 4 (.int .u64)))), (.rf 2 [])⟩))], ob := [(1, (.v (.arr 16 (.arr 4 (.int .u64))))), (2, (.v (.arr 16 (.arr 4 (.int .u64)))))], lo := 4, nx := 4 })]
noncomputable def L_mont_Ring_powers_0 : Code := loopIn (bodyOf Try.f133) 0
noncomputable def P_mont_Ring_powers_0 : Lp := lpOf S_mont_Ring_powers_0 E_mont_Ring_powers_0 30 R_mont_Ring_powers_0
noncomputable def c_mont_Ring_powers : Con := conV true [(.ptr (.pair (.arr 4 (.int .u64)) (.pair (.int .u64) (.pair (.arr 4 (.int .u64)) (.arr 4 (.int .u64)))))), (.arr 4 (.int .u64))] [(.arr 16 (.arr 4 (.int .u64)))] fun x => mont_Ring_powers x.1 x.2.1
noncomputable def x_mont_Ring_powers : Cx := { ti := ti, con := [(117, c_mont_Ring_Form), (116, c_mont_Ring_redc)], fns := [], un := 6 }
theorem xok_mont_Ring_powers : CxOk Try.prog x_mont_Ring_powers := CxOk.of mixed ti_ok (List.forall_mem_cons.2 ⟨con_mont_Ring_Form, List.forall_mem_cons.2 ⟨con_mont_Ring_redc, List.forall_mem_nil _⟩⟩) (List.forall_mem_nil _)
theorem r_mont_Ring_powers_0 (x : S_mont_Ring_powers_0.X) : denC x_mont_Ring_powers [] (denF x_mont_Ring_powers 8) L_mont_Ring_powers_0 (S_mont_Ring_powers_0.mkS 30 x) (kRound 0 S_mont_Ring_powers_0 E_mont_Ring_powers_0) = R_mont_Ring_powers_0 x := by kernel_rfl
theorem l_mont_Ring_powers_0 : LpOk Try.prog 0 (.loop L_mont_Ring_powers_0) P_mont_Ring_powers_0 := lpOf_ok xok_mont_Ring_powers 8 (lps_nil) S_mont_Ring_powers_0 E_mont_Ring_powers_0 30 R_mont_Ring_powers_0 (by decide) r_mont_Ring_powers_0
theorem fn_mont_Ring_powers : FnOk Try.prog 133 Try.f133 [(0, P_mont_Ring_powers_0)] := ⟨Try.func133, Try.call133, lps_of (by kernel_rfl) (lps_one l_mont_Ring_powers_0 (by kernel_rfl) (List.forall_mem_nil _))⟩
theorem e_mont_Ring_powers (r : (Option ((Nat → Int) × (Int × ((Nat → Int) × (Nat → Int)))))) (a : (Nat → Int)) : bodyK x_mont_Ring_powers [(0, P_mont_Ring_powers_0)] (denF x_mont_Ring_powers 8) Try.f133 (domV [(.ptr (.pair (.arr 4 (.int .u64)) (.pair (.int .u64) (.pair (.arr 4 (.int .u64)) (.arr 4 (.int .u64)))))), (.arr 4 (.int .u64))] (r, a, ())) [] 0 (kOut [(.arr 16 (.arr 4 (.int .u64)))]) = mont_Ring_powers' r a := by cases r <;> kernel_rfl
theorem con_mont_Ring_powers : ConOk Try.prog 133 c_mont_Ring_powers := con_ok xok_mont_Ring_powers 8 fn_mont_Ring_powers true [(.ptr (.pair (.arr 4 (.int .u64)) (.pair (.int .u64) (.pair (.arr 4 (.int .u64)) (.arr 4 (.int .u64)))))), (.arr 4 (.int .u64))] [(.arr 16 (.arr 4 (.int .u64)))] _ (by decide) (fun x => by rw [mont_Ring_powers_eq]; exact e_mont_Ring_powers x.1 x.2.1)
noncomputable def c_mont_Ring_Prod_1 : Con := conV true [(.arr 4 (.int .u64)), (.int .i64)] [(.int .i64)] fun x => mont_Ring_Prod_1 x.1 x.2.1
noncomputable def x_mont_Ring_Prod_1 : Cx := { ti := ti, con := [(135, c_nat_Down), (136, c_nat_Up), (101, c_nat_Int)], fns := [], un := 6 }
theorem xok_mont_Ring_Prod_1 : CxOk Try.prog x_mont_Ring_Prod_1 := CxOk.of mixed ti_ok (List.forall_mem_cons.2 ⟨con_nat_Down, List.forall_mem_cons.2 ⟨con_nat_Up, List.forall_mem_cons.2 ⟨con_nat_Int, List.forall_mem_nil _⟩⟩⟩) (List.forall_mem_nil _)
theorem fn_mont_Ring_Prod_1 : FnOk Try.prog 134 Try.f134 [] := ⟨Try.func134, Try.call134, lps_nil⟩
theorem e_mont_Ring_Prod_1 (e : (Nat → Int)) (at_ : Int) : bodyK x_mont_Ring_Prod_1 [] (denF x_mont_Ring_Prod_1 8) Try.f134 (domV [(.arr 4 (.int .u64)), (.int .i64)] (e, at_, ())) [] 0 (kOut [(.int .i64)]) = mont_Ring_Prod_1' e at_ := by kernel_rfl
theorem con_mont_Ring_Prod_1 : ConOk Try.prog 134 c_mont_Ring_Prod_1 := con_ok xok_mont_Ring_Prod_1 8 fn_mont_Ring_Prod_1 true [(.arr 4 (.int .u64)), (.int .i64)] [(.int .i64)] _ (by decide) (fun x => by rw [mont_Ring_Prod_1_eq]; exact e_mont_Ring_Prod_1 x.1 x.2.1)
abbrev S_mont_Ring_Prod_0 : Shape := { sl := [(0, (.pz (.pair (.arr 4 (.int .u64)) (.pair (.int .u64) (.pair (.arr 4 (.int .u64)) (.arr 4 (.int .u64))))))), (2, (.sz (.arr 4 (.int .u64)))), (6, (.c ⟨(.ptr (.arr 4 (.int .u64))), (.rf 0 [])⟩)), (8, (.w 129 (.arr 16 (.arr 4 (.int .u64))) 1)), (9, (.v (.int .i64))), (33, (.sz (.arr 4 (.int .u64)))), (34, (.v (.int .i64))), (35, (.v (.int .i64)))], ob := [(0, (.v (.arr 4 (.int .u64))))], lo := 1, nx := 2 }
abbrev E_mont_Ring_Prod_0 : List Ex := [(.normal, { sl := [(0, (.pz (.pair (.arr 4 (.int .u64)) (.pair (.int .u64) (.pair (.arr 4 (.int .u64)) (.arr 4 (.int .u64))))))), (2, (.sz (.arr 4 (.int .u64)))), (6, (.c ⟨(.ptr (.arr 4 (.int .u64))), (.rf 0 [])⟩)), (8, (.w 129 (.arr 16 (.arr 4 (.int .u64))) 2)), (9, (.v (.int .i64)))], ob := [(0, (.v (.arr 4 (.int .u64))))], lo := 2, nx := 3 })]
noncomputable def L_mont_Ring_Prod_0 : Code := loopIn (bodyOf Try.f109) 0
noncomputable def P_mont_Ring_Prod_0 : Lp := lpOf S_mont_Ring_Prod_0 E_mont_Ring_Prod_0 98 R_mont_Ring_Prod_0
abbrev S_mont_Ring_Prod_6 : Shape := { sl := [(0, (.pz (.pair (.arr 4 (.int .u64)) (.pair (.int .u64) (.pair (.arr 4 (.int .u64)) (.arr 4 (.int .u64))))))), (2, (.sz (.arr 4 (.int .u64)))), (6, (.c ⟨(.ptr (.arr 4 (.int .u64))), (.rf 0 [])⟩)), (8, (.w 129 (.arr 16 (.arr 4 (.int .u64))) 5)), (12, (.c ⟨.fn, (.mk 134 [])⟩)), (13, (.c ⟨(.ptr (.arr 4 (.int .u64))), (.rf 3 [])⟩)), (14, (.v (.int .i64))), (74, (.sz (.arr 4 (.int .u64)))), (75, (.v (.int .i64))), (76, (.v (.int .i64)))], ob := [(0, (.v (.arr 4 (.int .u64)))), (3, (.v (.arr 4 (.int .u64))))], lo := 5, nx := 6 }
abbrev E_mont_Ring_Prod_6 : List Ex := [(.normal, { sl := [(0, (.pz (.pair (.arr 4 (.int .u64)) (.pair (.int .u64) (.pair (.arr 4 (.int .u64)) (.arr 4 (.int .u64))))))), (2, (.sz (.arr 4 (.int .u64)))), (6, (.c ⟨(.ptr (.arr 4 (.int .u64))), (.rf 0 [])⟩)), (8, (.w 129 (.arr 16 (.arr 4 (.int .u64))) 6)), (12, (.c ⟨.fn, (.mk 134 [])⟩)), (13, (.c ⟨(.ptr (.arr 4 (.int .u64))), (.rf 3 [])⟩)), (14, (.v (.int .i64)))], ob := [(0, (.v (.arr 4 (.int .u64)))), (3, (.v (.arr 4 (.int .u64))))], lo := 6, nx := 7 })]
noncomputable def L_mont_Ring_Prod_6 : Code := loopIn (bodyOf Try.f109) 6
noncomputable def P_mont_Ring_Prod_6 : Lp := lpOf S_mont_Ring_Prod_6 E_mont_Ring_Prod_6 98 R_mont_Ring_Prod_6
abbrev S_mont_Ring_Prod_2 : Shape := { sl := [(0, (.pz (.pair (.arr 4 (.int .u64)) (.pair (.int .u64) (.pair (.arr 4 (.int .u64)) (.arr 4 (.int .u64))))))), (2, (.sz (.arr 4 (.int .u64)))), (6, (.c ⟨(.ptr (.arr 4 (.int .u64))), (.rf 0 [])⟩)), (8, (.w 129 (.arr 16 (.arr 4 (.int .u64))) 4)), (12, (.c ⟨.fn, (.mk 134 [])⟩)), (13, (.c ⟨(.ptr (.arr 4 (.int .u64))), (.rf 3 [])⟩)), (14, (.v (.int .i64)))], ob := [(0, (.v (.arr 4 (.int .u64)))), (3, (.v (.arr 4 (.int .u64))))], lo := 4, nx := 5 }
abbrev E_mont_Ring_Prod_2 : List Ex := [(.normal, { sl := [(0, (.pz (.pair (.arr 4 (.int .u64)) (.pair (.int .u64) (.pair (.arr 4 (.int .u64)) (.arr 4 (.int .u64))))))), (6, (.c ⟨(.ptr (.arr 4 (.int .u64))), (.rf 0 [])⟩)), (13, (.c ⟨(.ptr (.arr 4 (.int .u64))), (.rf 3 [])⟩))], ob := [(0, (.v (.arr 4 (.int .u64)))), (3, (.v (.arr 4 (.int .u64))))], lo := 5, nx := 5 })]
noncomputable def L_mont_Ring_Prod_2 : Code := loopIn (bodyOf Try.f109) 2
noncomputable def P_mont_Ring_Prod_2 : Lp := lpOf S_mont_Ring_Prod_2 E_mont_Ring_Prod_2 98 R_mont_Ring_Prod_2
noncomputable def c_mont_Ring_Prod : Con := conV true [(.ptr (.pair (.arr 4 (.int .u64)) (.pair (.int .u64) (.pair (.arr 4 (.int .u64)) (.arr 4 (.int .u64)))))), (.sl (.arr 4 (.int .u64))), (.sl (.arr 4 (.int .u64)))] [(.arr 4 (.int .u64)), (.int .i64)] fun x => mont_Ring_Prod x.1 x.2.1.1 x.2.1.2 x.2.2.1.1 x.2.2.1.2
noncomputable def x_mont_Ring_Prod : Cx := { ti := ti, con := [(107, c_mont_Ring_given), (133, c_mont_Ring_powers), (65, c_nat_Len), (116, c_mont_Ring_redc), (134, c_mont_Ring_Prod_1), (66, c_nat_Of)], fns := [], un := 6 }
theorem xok_mont_Ring_Prod : CxOk Try.prog x_mont_Ring_Prod := CxOk.of mixed ti_ok (List.forall_mem_cons.2 ⟨con_mont_Ring_given, List.forall_mem_cons.2 ⟨con_mont_Ring_powers, List.forall_mem_cons.2 ⟨con_nat_Len, List.forall_mem_cons.2 ⟨con_mont_Ring_redc, List.forall_mem_cons.2 ⟨con_mont_Ring_Prod_1, List.forall_mem_cons.2 ⟨con_nat_Of, List.forall_mem_nil _⟩⟩⟩⟩⟩⟩) (List.forall_mem_nil _)
theorem r_mont_Ring_Prod_0 (x : S_mont_Ring_Prod_0.X) : denC x_mont_Ring_Prod [] (denF x_mont_Ring_Prod 8) L_mont_Ring_Prod_0 (S_mont_Ring_Prod_0.mkS 98 x) (kRound 0 S_mont_Ring_Prod_0 E_mont_Ring_Prod_0) = R_mont_Ring_Prod_0 x := by kernel_rfl
theorem l_mont_Ring_Prod_0 : LpOk Try.prog 0 (.loop L_mont_Ring_Prod_0) P_mont_Ring_Prod_0 := lpOf_ok xok_mont_Ring_Prod 8 (lps_nil) S_mont_Ring_Prod_0 E_mont_Ring_Prod_0 98 R_mont_Ring_Prod_0 (by decide) r_mont_Ring_Prod_0
theorem r_mont_Ring_Prod_6 (x : S_mont_Ring_Prod_6.X) : denC x_mont_Ring_Prod [] (denF x_mont_Ring_Prod 8) L_mont_Ring_Prod_6 (S_mont_Ring_Prod_6.mkS 98 x) (kRound 6 S_mont_Ring_Prod_6 E_mont_Ring_Prod_6) = R_mont_Ring_Prod_6 x := by kernel_rfl
theorem l_mont_Ring_Prod_6 : LpOk Try.prog 6 (.loop L_mont_Ring_Prod_6) P_mont_Ring_Prod_6 := lpOf_ok xok_mont_Ring_Prod 8 (lps_nil) S_mont_Ring_Prod_6 E_mont_Ring_Prod_6 98 R_mont_Ring_Prod_6 (by decide) r_mont_Ring_Prod_6
theorem r_mont_Ring_Prod_2 (x : S_mont_Ring_Prod_2.X) : denC x_mont_Ring_Prod [(6, P_mont_Ring_Prod_6)] (denF x_mont_Ring_Prod 8) L_mont_Ring_Prod_2 (S_mont_Ring_Prod_2.mkS 98 x) (kRound 2 S_mont_Ring_Prod_2 E_mont_Ring_Prod_2) = R_mont_Ring_Prod_2 x := by kernel_rfl
theorem l_mont_Ring_Prod_2 : LpOk Try.prog 2 (.loop L_mont_Ring_Prod_2) P_mont_Ring_Prod_2 := lpOf_ok xok_mont_Ring_Prod 8 (lps_of (by kernel_rfl) (lps_one l_mont_Ring_Prod_6 (by kernel_rfl) (List.forall_mem_nil _))) S_mont_Ring_Prod_2 E_mont_Ring_Prod_2 98 R_mont_Ring_Prod_2 (by decide) r_mont_Ring_Prod_2
theorem fn_mont_Ring_Prod : FnOk Try.prog 109 Try.f109 [(0, P_mont_Ring_Prod_0), (6, P_mont_Ring_Prod_6), (2, P_mont_Ring_Prod_2)] := ⟨Try.func109, Try.call109, lps_of (by kernel_rfl) (lps_one l_mont_Ring_Prod_0 (by kernel_rfl) (lps_one l_mont_Ring_Prod_6 (by kernel_rfl) (lps_one l_mont_Ring_Prod_2 (by kernel_rfl) (List.forall_mem_nil _))))⟩
theorem e_mont_Ring_Prod (r : (Option ((Nat → Int) × (Int × ((Nat → Int) × (Nat → Int)))))) (nbases : Nat) (bases : Nat → (Nat → Int)) (nexps : Nat) (exps : Nat → (Nat → Int)) : bodyK x_mont_Ring_Prod [(0, P_mont_Ring_Prod_0), (6, P_mont_Ring_Prod_6), (2, P_mont_Ring_Prod_2)] (denF x_mont_Ring_Prod 8) Try.f109 (domV [(.ptr (.pair (.arr 4 (.int .u64)) (.pair (.int .u64) (.pair (.arr 4 (.int .u64)) (.arr 4 (.int .u64)))))), (.sl (.arr 4 (.int .u64))), (.sl (.arr 4 (.int .u64)))] (r, (nbases, bases), (nexps, exps), ())) [] 0 (kOut [(.arr 4 (.int .u64)), (.int .i64)]) = mont_Ring_Prod' r nbases bases nexps exps := by cases r <;> kernel_rfl
theorem con_mont_Ring_Prod : ConOk Try.prog 109 c_mont_Ring_Prod := con_ok xok_mont_Ring_Prod 8 fn_mont_Ring_Prod true [(.ptr (.pair (.arr 4 (.int .u64)) (.pair (.int .u64) (.pair (.arr 4 (.int .u64)) (.arr 4 (.int .u64)))))), (.sl (.arr 4 (.int .u64))), (.sl (.arr 4 (.int .u64)))] [(.arr 4 (.int .u64)), (.int .i64)] _ (by decide) (fun x => by rw [mont_Ring_Prod_eq]; exact e_mont_Ring_Prod x.1 x.2.1.1 x.2.1.2 x.2.2.1.1 x.2.2.1.2)
noncomputable def c_mont_Ring_Exp : Con := conV true [(.ptr (.pair (.arr 4 (.int .u64)) (.pair (.int .u64) (.pair (.arr 4 (.int .u64)) (.arr 4 (.int .u64)))))), (.arr 4 (.int .u64)), (.arr 4 (.int .u64))] [(.arr 4 (.int .u64))] fun x => mont_Ring_Exp x.1 x.2.1 x.2.2.1
noncomputable def x_mont_Ring_Exp : Cx := { ti := ti, con := [(109, c_mont_Ring_Prod)], fns := [], un := 6 }
theorem xok_mont_Ring_Exp : CxOk Try.prog x_mont_Ring_Exp := CxOk.of mixed ti_ok (List.forall_mem_cons.2 ⟨con_mont_Ring_Prod, List.forall_mem_nil _⟩) (List.forall_mem_nil _)
theorem fn_mont_Ring_Exp : FnOk Try.prog 68 Try.f68 [] := ⟨Try.func68, Try.call68, lps_nil⟩
theorem e_mont_Ring_Exp (r : (Option ((Nat → Int) × (Int × ((Nat → Int) × (Nat → Int)))))) (a : (Nat → Int)) (e : (Nat → Int)) : bodyK x_mont_Ring_Exp [] (denF x_mont_Ring_Exp 8) Try.f68 (domV [(.ptr (.pair (.arr 4 (.int .u64)) (.pair (.int .u64) (.pair (.arr 4 (.int .u64)) (.arr 4 (.int .u64)))))), (.arr 4 (.int .u64)), (.arr 4 (.int .u64))] (r, a, e, ())) [] 0 (kOut [(.arr 4 (.int .u64))]) = mont_Ring_Exp' r a e := by cases r <;> kernel_rfl
theorem con_mont_Ring_Exp : ConOk Try.prog 68 c_mont_Ring_Exp := con_ok xok_mont_Ring_Exp 8 fn_mont_Ring_Exp true [(.ptr (.pair (.arr 4 (.int .u64)) (.pair (.int .u64) (.pair (.arr 4 (.int .u64)) (.arr 4 (.int .u64)))))), (.arr 4 (.int .u64)), (.arr 4 (.int .u64))] [(.arr 4 (.int .u64))] _ (by decide) (fun x => by rw [mont_Ring_Exp_eq]; exact e_mont_Ring_Exp x.1 x.2.1 x.2.2.1)
noncomputable def c_mont_Ring_In : Con := conV true [(.ptr (.pair (.arr 4 (.int .u64)) (.pair (.int .u64) (.pair (.arr 4 (.int .u64)) (.arr 4 (.int .u64)))))), (.arr 4 (.int .u64))] [.bool] fun x => mont_Ring_In x.1 x.2.1
noncomputable def x_mont_Ring_In : Cx := { ti := ti, con := [(107, c_mont_Ring_given), (108, c_nat_Cmp)], fns := [], un := 6 }
theorem xok_mont_Ring_In : CxOk Try.prog x_mont_Ring_In := CxOk.of mixed ti_ok (List.forall_mem_cons.2 ⟨con_mont_Ring_given, List.forall_mem_cons.2 ⟨con_nat_Cmp, List.forall_mem_nil _⟩⟩) (List.forall_mem_nil _)
theorem fn_mont_Ring_In : FnOk Try.prog 67 Try.f67 [] := ⟨Try.func67, Try.call67, lps_nil⟩
theorem e_mont_Ring_In (r : (Option ((Nat → Int) × (Int × ((Nat → Int) × (Nat → Int)))))) (a : (Nat → Int)) : bodyK x_mont_Ring_In [] (denF x_mont_Ring_In 8) Try.f67 (domV [(.ptr (.pair (.arr 4 (.int .u64)) (.pair (.int .u64) (.pair (.arr 4 (.int .u64)) (.arr 4 (.int .u64)))))), (.arr 4 (.int .u64))] (r, a, ())) [] 0 (kOut [.bool]) = mont_Ring_In' r a := by cases r <;> kernel_rfl
theorem con_mont_Ring_In : ConOk Try.prog 67 c_mont_Ring_In := con_ok xok_mont_Ring_In 8 fn_mont_Ring_In true [(.ptr (.pair (.arr 4 (.int .u64)) (.pair (.int .u64) (.pair (.arr 4 (.int .u64)) (.arr 4 (.int .u64)))))), (.arr 4 (.int .u64))] [.bool] _ (by decide) (fun x => by rw [mont_Ring_In_eq]; exact e_mont_Ring_In x.1 x.2.1)
noncomputable def c_mont_Ring_M : Con := conV true [(.ptr (.pair (.arr 4 (.int .u64)) (.pair (.int .u64) (.pair (.arr 4 (.int .u64)) (.arr 4 (.int .u64))))))] [(.arr 4 (.int .u64))] fun x => mont_Ring_M x.1
noncomputable def x_mont_Ring_M : Cx := { ti := ti, con := [(107, c_mont_Ring_given)], fns := [], un := 6 }
theorem xok_mont_Ring_M : CxOk Try.prog x_mont_Ring_M := CxOk.of mixed ti_ok (List.forall_mem_cons.2 ⟨con_mont_Ring_given, List.forall_mem_nil _⟩) (List.forall_mem_nil _)
theorem fn_mont_Ring_M : FnOk Try.prog 83 Try.f83 [] := ⟨Try.func83, Try.call83, lps_nil⟩
theorem e_mont_Ring_M (r : (Option ((Nat → Int) × (Int × ((Nat → Int) × (Nat → Int)))))) : bodyK x_mont_Ring_M [] (denF x_mont_Ring_M 8) Try.f83 (domV [(.ptr (.pair (.arr 4 (.int .u64)) (.pair (.int .u64) (.pair (.arr 4 (.int .u64)) (.arr 4 (.int .u64))))))] (r, ())) [] 0 (kOut [(.arr 4 (.int .u64))]) = mont_Ring_M' r := by cases r <;> kernel_rfl
theorem con_mont_Ring_M : ConOk Try.prog 83 c_mont_Ring_M := con_ok xok_mont_Ring_M 8 fn_mont_Ring_M true [(.ptr (.pair (.arr 4 (.int .u64)) (.pair (.int .u64) (.pair (.arr 4 (.int .u64)) (.arr 4 (.int .u64))))))] [(.arr 4 (.int .u64))] _ (by decide) (fun x => by rw [mont_Ring_M_eq]; exact e_mont_Ring_M x.1)
noncomputable def c_mont_Ring_Mul : Con := conV true [(.ptr (.pair (.arr 4 (.int .u64)) (.pair (.int .u64) (.pair (.arr 4 (.int .u64)) (.arr 4 (.int .u64)))))), (.arr 4 (.int .u64)), (.arr 4 (.int .u64))] [(.arr 4 (.int .u64))] fun x => mont_Ring_Mul x.1 x.2.1 x.2.2.1
noncomputable def x_mont_Ring_Mul : Cx := { ti := ti, con := [(107, c_mont_Ring_given), (117, c_mont_Ring_Form), (118, c_mont_Ring_low), (116, c_mont_Ring_redc)], fns := [], un := 6 }
theorem xok_mont_Ring_Mul : CxOk Try.prog x_mont_Ring_Mul := CxOk.of mixed ti_ok (List.forall_mem_cons.2 ⟨con_mont_Ring_given, List.forall_mem_cons.2 ⟨con_mont_Ring_Form, List.forall_mem_cons.2 ⟨con_mont_Ring_low, List.forall_mem_cons.2 ⟨con_mont_Ring_redc, List.forall_mem_nil _⟩⟩⟩⟩) (List.forall_mem_nil _)
theorem fn_mont_Ring_Mul : FnOk Try.prog 79 Try.f79 [] := ⟨Try.func79, Try.call79, lps_nil⟩
theorem e_mont_Ring_Mul (r : (Option ((Nat → Int) × (Int × ((Nat → Int) × (Nat → Int)))))) (a : (Nat → Int)) (b : (Nat → Int)) : bodyK x_mont_Ring_Mul [] (denF x_mont_Ring_Mul 8) Try.f79 (domV [(.ptr (.pair (.arr 4 (.int .u64)) (.pair (.int .u64) (.pair (.arr 4 (.int .u64)) (.arr 4 (.int .u64)))))), (.arr 4 (.int .u64)), (.arr 4 (.int .u64))] (r, a, b, ())) [] 0 (kOut [(.arr 4 (.int .u64))]) = mont_Ring_Mul' r a b := by cases r <;> kernel_rfl
theorem con_mont_Ring_Mul : ConOk Try.prog 79 c_mont_Ring_Mul := con_ok xok_mont_Ring_Mul 8 fn_mont_Ring_Mul true [(.ptr (.pair (.arr 4 (.int .u64)) (.pair (.int .u64) (.pair (.arr 4 (.int .u64)) (.arr 4 (.int .u64)))))), (.arr 4 (.int .u64)), (.arr 4 (.int .u64))] [(.arr 4 (.int .u64))] _ (by decide) (fun x => by rw [mont_Ring_Mul_eq]; exact e_mont_Ring_Mul x.1 x.2.1 x.2.2.1)
end Go.Proofs.Ytennopklknlecaa

set_option linter.unusedVariables false
set_option linter.unusedSimpArgs false
set_option maxRecDepth 100000
set_option maxHeartbeats 0
namespace Go.Pl
end Go.Pl
open Go Go.Den Go.Pl
namespace Go.Proofs.Ytennopklknlecaa
abbrev S_prime_Small_0 : Shape := { sl := [(0, (.v (.int .i64))), (3, (.v .bool)), (11, (.v (.int .i64))), (12, (.v (.int .i64)))], ob := [], lo := 0, nx := 0 }
abbrev E_prime_Small_0 : List Ex := [(.normal, { sl := [(3, (.v .bool))], ob := [], lo := 0, nx := 0 })]
noncomputable def L_prime_Small_0 : Code := loopIn (bodyOf Try.f102) 0
noncomputable def P_prime_Small_0 : Lp := lpOf S_prime_Small_0 E_prime_Small_0 31 R_prime_Small_0
noncomputable def c_prime_Small : Con := conV true [(.int .i64)] [.bool] fun x => prime_Small x.1
noncomputable def x_prime_Small : Cx := { ti := ti, con := [], fns := [], un := 6 }
theorem xok_prime_Small : CxOk Try.prog x_prime_Small := CxOk.of mixed ti_ok (List.forall_mem_nil _) (List.forall_mem_nil _)
theorem r_prime_Small_0 (x : S_prime_Small_0.X) : denC x_prime_Small [] (denF x_prime_Small 8) L_prime_Small_0 (S_prime_Small_0.mkS 31 x) (kRound 0 S_prime_Small_0 E_prime_Small_0) = R_prime_Small_0 x := by kernel_rfl
theorem l_prime_Small_0 : LpOk Try.prog 0 (.loop L_prime_Small_0) P_prime_Small_0 := lpOf_ok xok_prime_Small 8 (lps_nil) S_prime_Small_0 E_prime_Small_0 31 R_prime_Small_0 (by decide) r_prime_Small_0
theorem fn_prime_Small : FnOk Try.prog 102 Try.f102 [(0, P_prime_Small_0)] := ⟨Try.func102, Try.call102, lps_of (by kernel_rfl) (lps_one l_prime_Small_0 (by kernel_rfl) (List.forall_mem_nil _))⟩
theorem e_prime_Small (n : Int) : bodyK x_prime_Small [(0, P_prime_Small_0)] (denF x_prime_Small 8) Try.f102 (domV [(.int .i64)] (n, ())) [] 0 (kOut [.bool]) = prime_Small' n := by kernel_rfl
theorem con_prime_Small : ConOk Try.prog 102 c_prime_Small := con_ok xok_prime_Small 8 fn_prime_Small true [(.int .i64)] [.bool] _ (by decide) (fun x => by rw [prime_Small_eq]; exact e_prime_Small x.1)
noncomputable def c_prime_Step : Con := conV true [(.arr 4 (.int .u64)), (.arr 4 (.int .u64)), (.int .i64)] [.bool] fun x => prime_Step x.1 x.2.1 x.2.2.1
noncomputable def x_prime_Step : Cx := { ti := ti, con := [(64, c_mont_New), (66, c_nat_Of), (128, c_nat_Sub), (129, c_wide_Div), (130, c_wide_Mul), (108, c_nat_Cmp), (68, c_mont_Ring_Exp), (127, c_wide_SubMod), (131, c_wide_Gcd)], fns := [], un := 6 }
theorem xok_prime_Step : CxOk Try.prog x_prime_Step := CxOk.of mixed ti_ok (List.forall_mem_cons.2 ⟨con_mont_New, List.forall_mem_cons.2 ⟨con_nat_Of, List.forall_mem_cons.2 ⟨con_nat_Sub, List.forall_mem_cons.2 ⟨con_wide_Div, List.forall_mem_cons.2 ⟨con_wide_Mul, List.forall_mem_cons.2 ⟨con_nat_Cmp, List.forall_mem_cons.2 ⟨con_mont_Ring_Exp, List.forall_mem_cons.2 ⟨con_wide_SubMod, List.forall_mem_cons.2 ⟨con_wide_Gcd, List.forall_mem_nil _⟩⟩⟩⟩⟩⟩⟩⟩⟩) (List.forall_mem_nil _)
theorem fn_prime_Step : FnOk Try.prog 103 Try.f103 [] := ⟨Try.func103, Try.call103, lps_nil⟩
theorem e_prime_Step (n : (Nat → Int)) (factor : (Nat → Int)) (witness : Int) : bodyK x_prime_Step [] (denF x_prime_Step 8) Try.f103 (domV [(.arr 4 (.int .u64)), (.arr 4 (.int .u64)), (.int .i64)] (n, factor, witness, ())) [] 0 (kOut [.bool]) = prime_Step' n factor witness := by kernel_rfl
theorem con_prime_Step : ConOk Try.prog 103 c_prime_Step := con_ok xok_prime_Step 8 fn_prime_Step true [(.arr 4 (.int .u64)), (.arr 4 (.int .u64)), (.int .i64)] [.bool] _ (by decide) (fun x => by rw [prime_Step_eq]; exact e_prime_Step x.1 x.2.1 x.2.2.1)
abbrev S_prime_Check_0 : Shape := { sl := [(0, (.sz (.pair (.arr 4 (.int .u64)) (.int .i64)))), (5, (.v (.int .i64)))], ob := [], lo := 0, nx := 0 }
abbrev E_prime_Check_0 : List Ex := [(.ret, { sl := [(2, (.v (.int .i64)))], ob := [], lo := 0, nx := 0 }), (.normal, { sl := [], ob := [], lo := 0, nx := 0 })]
noncomputable def L_prime_Check_0 : Code := loopIn (bodyOf Try.f63) 0
noncomputable def P_prime_Check_0 : Lp := lpOf S_prime_Check_0 E_prime_Check_0 60 R_prime_Check_0
noncomputable def c_prime_Check : Con := conV true [(.sl (.pair (.arr 4 (.int .u64)) (.int .i64)))] [(.int .i64)] fun x => prime_Check x.1.1 x.1.2
noncomputable def x_prime_Check : Cx := { ti := ti, con := [(101, c_nat_Int), (102, c_prime_Small), (103, c_prime_Step)], fns := [], un := 6 }
theorem xok_prime_Check : CxOk Try.prog x_prime_Check := CxOk.of mixed ti_ok (List.forall_mem_cons.2 ⟨con_nat_Int, List.forall_mem_cons.2 ⟨con_prime_Small, List.forall_mem_cons.2 ⟨con_prime_Step, List.forall_mem_nil _⟩⟩⟩) (List.forall_mem_nil _)
theorem r_prime_Check_0 (x : S_prime_Check_0.X) : denC x_prime_Check [] (denF x_prime_Check 8) L_prime_Check_0 (S_prime_Check_0.mkS 60 x) (kRound 0 S_prime_Check_0 E_prime_Check_0) = R_prime_Check_0 x := by kernel_rfl
theorem l_prime_Check_0 : LpOk Try.prog 0 (.loop L_prime_Check_0) P_prime_Check_0 := lpOf_ok xok_prime_Check 8 (lps_nil) S_prime_Check_0 E_prime_Check_0 60 R_prime_Check_0 (by decide) r_prime_Check_0
theorem fn_prime_Check : FnOk Try.prog 63 Try.f63 [(0, P_prime_Check_0)] := ⟨Try.func63, Try.call63, lps_of (by kernel_rfl) (lps_one l_prime_Check_0 (by kernel_rfl) (List.forall_mem_nil _))⟩
theorem e_prime_Check (nl : Nat) (l : Nat → ((Nat → Int) × Int)) : bodyK x_prime_Check [(0, P_prime_Check_0)] (denF x_prime_Check 8) Try.f63 (domV [(.sl (.pair (.arr 4 (.int .u64)) (.int .i64)))] ((nl, l), ())) [] 0 (kOut [(.int .i64)]) = prime_Check' nl l := by kernel_rfl
theorem con_prime_Check : ConOk Try.prog 63 c_prime_Check := con_ok xok_prime_Check 8 fn_prime_Check true [(.sl (.pair (.arr 4 (.int .u64)) (.int .i64)))] [(.int .i64)] _ (by decide) (fun x => by rw [prime_Check_eq]; exact e_prime_Check x.1.1 x.1.2)
end Go.Proofs.Ytennopklknlecaa

set_option linter.unusedVariables false
set_option linter.unusedSimpArgs false
set_option maxRecDepth 100000
set_option maxHeartbeats 0
namespace Go.Pl
end Go.Pl
open Go Go.Den Go.Pl
namespace Go.Proofs.Ytennopklknlecaa
noncomputable def c_group_New : Con := conV false [(.pair (.sl (.pair (.arr 4 (.int .u64)) (.int .i64))) (.arr 4 (.int .u64)))] [(.ptr (.pair (.pair (.ptr (.pair (.arr 4 (.int .u64)) (.pair (.int .u64) (.pair (.arr 4 (.int .u64)) (.arr 4 (.int .u64)))))) (.ptr (.pair (.arr 4 (.int .u64)) (.pair (.int .u64) (.pair (.arr 4 (.int .u64)) (.arr 4 (.int .u64))))))) (.arr 4 (.int .u64)))), (.int .i64)] fun x => group_New x.1
noncomputable def x_group_New : Cx := { ti := ti, con := [(63, c_prime_Check), (64, c_mont_New), (65, c_nat_Len), (66, c_nat_Of), (67, c_mont_Ring_In), (68, c_mont_Ring_Exp)], fns := [], un := 6 }
theorem xok_group_New : CxOk Try.prog x_group_New := CxOk.of mixed ti_ok (List.forall_mem_cons.2 ⟨con_prime_Check, List.forall_mem_cons.2 ⟨con_mont_New, List.forall_mem_cons.2 ⟨con_nat_Len, List.forall_mem_cons.2 ⟨con_nat_Of, List.forall_mem_cons.2 ⟨con_mont_Ring_In, List.forall_mem_cons.2 ⟨con_mont_Ring_Exp, List.forall_mem_nil _⟩⟩⟩⟩⟩⟩) (List.forall_mem_nil _)
theorem fn_group_New : FnOk Try.prog 22 Try.f22 [] := ⟨Try.func22, Try.call22, lps_nil⟩
theorem e_group_New (p : ((Nat × (Nat → ((Nat → Int) × Int))) × (Nat → Int))) : bodyK x_group_New [] (denF x_group_New 8) Try.f22 (domV [(.pair (.sl (.pair (.arr 4 (.int .u64)) (.int .i64))) (.arr 4 (.int .u64)))] (p, ())) [] 0 (kOut [(.ptr (.pair (.pair (.ptr (.pair (.arr 4 (.int .u64)) (.pair (.int .u64) (.pair (.arr 4 (.int .u64)) (.arr 4 (.int .u64)))))) (.ptr (.pair (.arr 4 (.int .u64)) (.pair (.int .u64) (.pair (.arr 4 (.int .u64)) (.arr 4 (.int .u64))))))) (.arr 4 (.int .u64)))), (.int .i64)]) = group_New' p := by kernel_rfl
theorem con_group_New : ConOk Try.prog 22 c_group_New := con_ok xok_group_New 8 fn_group_New false [(.pair (.sl (.pair (.arr 4 (.int .u64)) (.int .i64))) (.arr 4 (.int .u64)))] [(.ptr (.pair (.pair (.ptr (.pair (.arr 4 (.int .u64)) (.pair (.int .u64) (.pair (.arr 4 (.int .u64)) (.arr 4 (.int .u64)))))) (.ptr (.pair (.arr 4 (.int .u64)) (.pair (.int .u64) (.pair (.arr 4 (.int .u64)) (.arr 4 (.int .u64))))))) (.arr 4 (.int .u64)))), (.int .i64)] _ (by decide) (fun x => by rw [group_New_eq]; exact e_group_New x.1)
noncomputable def c_group_Group_Field : Con := conV false [(.ptr (.pair (.pair (.ptr (.pair (.arr 4 (.int .u64)) (.pair (.int .u64) (.pair (.arr 4 (.int .u64)) (.arr 4 (.int .u64)))))) (.ptr (.pair (.arr 4 (.int .u64)) (.pair (.int .u64) (.pair (.arr 4 (.int .u64)) (.arr 4 (.int .u64))))))) (.arr 4 (.int .u64))))] [(.ptr (.pair (.arr 4 (.int .u64)) (.pair (.int .u64) (.pair (.arr 4 (.int .u64)) (.arr 4 (.int .u64))))))] fun x => group_Group_Field x.1
noncomputable def x_group_Group_Field : Cx := { ti := ti, con := [], fns := [], un := 6 }
theorem xok_group_Group_Field : CxOk Try.prog x_group_Group_Field := CxOk.of mixed ti_ok (List.forall_mem_nil _) (List.forall_mem_nil _)
theorem fn_group_Group_Field : FnOk Try.prog 70 Try.f70 [] := ⟨Try.func70, Try.call70, lps_nil⟩
theorem e_group_Group_Field (g : (Option (((PtrV ((Nat → Int) × (Int × ((Nat → Int) × (Nat → Int))))) × (PtrV ((Nat → Int) × (Int × ((Nat → Int) × (Nat → Int)))))) × (Nat → Int)))) : bodyK x_group_Group_Field [] (denF x_group_Group_Field 8) Try.f70 (domV [(.ptr (.pair (.pair (.ptr (.pair (.arr 4 (.int .u64)) (.pair (.int .u64) (.pair (.arr 4 (.int .u64)) (.arr 4 (.int .u64)))))) (.ptr (.pair (.arr 4 (.int .u64)) (.pair (.int .u64) (.pair (.arr 4 (.int .u64)) (.arr 4 (.int .u64))))))) (.arr 4 (.int .u64))))] (g, ())) [] 0 (kOut [(.ptr (.pair (.arr 4 (.int .u64)) (.pair (.int .u64) (.pair (.arr 4 (.int .u64)) (.arr 4 (.int .u64))))))]) = group_Group_Field' g := by cases g <;> kernel_rfl
theorem con_group_Group_Field : ConOk Try.prog 70 c_group_Group_Field := con_ok xok_group_Group_Field 8 fn_group_Group_Field false [(.ptr (.pair (.pair (.ptr (.pair (.arr 4 (.int .u64)) (.pair (.int .u64) (.pair (.arr 4 (.int .u64)) (.arr 4 (.int .u64)))))) (.ptr (.pair (.arr 4 (.int .u64)) (.pair (.int .u64) (.pair (.arr 4 (.int .u64)) (.arr 4 (.int .u64))))))) (.arr 4 (.int .u64))))] [(.ptr (.pair (.arr 4 (.int .u64)) (.pair (.int .u64) (.pair (.arr 4 (.int .u64)) (.arr 4 (.int .u64))))))] _ (by decide) (fun x => by rw [group_Group_Field_eq]; exact e_group_Group_Field x.1)
noncomputable def c_group_Group_Q : Con := conV true [(.ptr (.pair (.pair (.ptr (.pair (.arr 4 (.int .u64)) (.pair (.int .u64) (.pair (.arr 4 (.int .u64)) (.arr 4 (.int .u64)))))) (.ptr (.pair (.arr 4 (.int .u64)) (.pair (.int .u64) (.pair (.arr 4 (.int .u64)) (.arr 4 (.int .u64))))))) (.arr 4 (.int .u64))))] [(.arr 4 (.int .u64))] fun x => group_Group_Q x.1
noncomputable def x_group_Group_Q : Cx := { ti := ti, con := [(70, c_group_Group_Field), (83, c_mont_Ring_M)], fns := [], un := 6 }
theorem xok_group_Group_Q : CxOk Try.prog x_group_Group_Q := CxOk.of mixed ti_ok (List.forall_mem_cons.2 ⟨con_group_Group_Field, List.forall_mem_cons.2 ⟨con_mont_Ring_M, List.forall_mem_nil _⟩⟩) (List.forall_mem_nil _)
theorem fn_group_Group_Q : FnOk Try.prog 72 Try.f72 [] := ⟨Try.func72, Try.call72, lps_nil⟩
theorem e_group_Group_Q (g : (Option (((PtrV ((Nat → Int) × (Int × ((Nat → Int) × (Nat → Int))))) × (PtrV ((Nat → Int) × (Int × ((Nat → Int) × (Nat → Int)))))) × (Nat → Int)))) : bodyK x_group_Group_Q [] (denF x_group_Group_Q 8) Try.f72 (domV [(.ptr (.pair (.pair (.ptr (.pair (.arr 4 (.int .u64)) (.pair (.int .u64) (.pair (.arr 4 (.int .u64)) (.arr 4 (.int .u64)))))) (.ptr (.pair (.arr 4 (.int .u64)) (.pair (.int .u64) (.pair (.arr 4 (.int .u64)) (.arr 4 (.int .u64))))))) (.arr 4 (.int .u64))))] (g, ())) [] 0 (kOut [(.arr 4 (.int .u64))]) = group_Group_Q' g := by cases g <;> kernel_rfl
theorem con_group_Group_Q : ConOk Try.prog 72 c_group_Group_Q := con_ok xok_group_Group_Q 8 fn_group_Group_Q true [(.ptr (.pair (.pair (.ptr (.pair (.arr 4 (.int .u64)) (.pair (.int .u64) (.pair (.arr 4 (.int .u64)) (.arr 4 (.int .u64)))))) (.ptr (.pair (.arr 4 (.int .u64)) (.pair (.int .u64) (.pair (.arr 4 (.int .u64)) (.arr 4 (.int .u64))))))) (.arr 4 (.int .u64))))] [(.arr 4 (.int .u64))] _ (by decide) (fun x => by rw [group_Group_Q_eq]; exact e_group_Group_Q x.1)
end Go.Proofs.Ytennopklknlecaa

set_option linter.unusedVariables false
set_option linter.unusedSimpArgs false
set_option maxRecDepth 100000
set_option maxHeartbeats 0
namespace Go.Pl
end Go.Pl
open Go Go.Den Go.Pl
namespace Go.Proofs.Ytennopklknlecaa
abbrev S_r01_Nat_0 : Shape := { sl := [(1, (.c ⟨(.ptr (.arr 256 .bool)), (.rf 0 [])⟩)), (2, (.c ⟨(.ptr (.arr 4 (.int .u64))), (.rf 1 [])⟩)), (3, (.c ⟨(.ptr (.arr 4 (.int .u64))), (.rf 2 [])⟩)), (4, (.v (.int .i64)))], ob := [(0, (.v (.arr 256 .bool))), (1, (.v (.arr 4 (.int .u64)))), (2, (.v (.arr 4 (.int .u64))))], lo := 3, nx := 3 }
abbrev E_r01_Nat_0 : List Ex := [(.normal, { sl := [(2, (.c ⟨(.ptr (.arr 4 (.int .u64))), (.rf 1 [])⟩)), (3, (.c ⟨(.ptr (.arr 4 (.int .u64))), (.rf 2 [])⟩))], ob := [(1, (.v (.arr 4 (.int .u64)))), (2, (.v (.arr 4 (.int .u64))))], lo := 3, nx := 3 })]
noncomputable def L_r01_Nat_0 : Code := loopIn (bodyOf Try.f76) 0
noncomputable def P_r01_Nat_0 : Lp := lpOf S_r01_Nat_0 E_r01_Nat_0 25 R_r01_Nat_0
noncomputable def c_r01_Nat : Con := conV true [(.arr 256 .bool)] [(.arr 4 (.int .u64))] fun x => r01_Nat x.1
noncomputable def x_r01_Nat : Cx := { ti := ti, con := [], fns := [], un := 6 }
theorem xok_r01_Nat : CxOk Try.prog x_r01_Nat := CxOk.of mixed ti_ok (List.forall_mem_nil _) (List.forall_mem_nil _)
theorem r_r01_Nat_0 (x : S_r01_Nat_0.X) : denC x_r01_Nat [] (denF x_r01_Nat 8) L_r01_Nat_0 (S_r01_Nat_0.mkS 25 x) (kRound 0 S_r01_Nat_0 E_r01_Nat_0) = R_r01_Nat_0 x := by kernel_rfl
theorem l_r01_Nat_0 : LpOk Try.prog 0 (.loop L_r01_Nat_0) P_r01_Nat_0 := lpOf_ok xok_r01_Nat 8 (lps_nil) S_r01_Nat_0 E_r01_Nat_0 25 R_r01_Nat_0 (by decide) r_r01_Nat_0
theorem fn_r01_Nat : FnOk Try.prog 76 Try.f76 [(0, P_r01_Nat_0)] := ⟨Try.func76, Try.call76, lps_of (by kernel_rfl) (lps_one l_r01_Nat_0 (by kernel_rfl) (List.forall_mem_nil _))⟩
theorem e_r01_Nat (b : (Nat → Bool)) : bodyK x_r01_Nat [(0, P_r01_Nat_0)] (denF x_r01_Nat 8) Try.f76 (domV [(.arr 256 .bool)] (b, ())) [] 0 (kOut [(.arr 4 (.int .u64))]) = r01_Nat' b := by kernel_rfl
theorem con_r01_Nat : ConOk Try.prog 76 c_r01_Nat := con_ok xok_r01_Nat 8 fn_r01_Nat true [(.arr 256 .bool)] [(.arr 4 (.int .u64))] _ (by decide) (fun x => by rw [r01_Nat_eq]; exact e_r01_Nat x.1)
abbrev S_r01_Int_0 : Shape := { sl := [(0, (.v (.int .i64))), (2, (.c ⟨(.ptr (.arr 4 (.int .u64))), (.rf 0 [])⟩)), (3, (.c ⟨(.ptr (.arr 256 .bool)), (.rf 1 [])⟩)), (4, (.v (.int .i64)))], ob := [(0, (.v (.arr 4 (.int .u64)))), (1, (.v (.arr 256 .bool)))], lo := 2, nx := 2 }
abbrev E_r01_Int_0 : List Ex := [(.normal, { sl := [(2, (.c ⟨(.ptr (.arr 4 (.int .u64))), (.rf 0 [])⟩)), (3, (.c ⟨(.ptr (.arr 256 .bool)), (.rf 1 [])⟩))], ob := [(0, (.v (.arr 4 (.int .u64)))), (1, (.v (.arr 256 .bool)))], lo := 2, nx := 2 })]
noncomputable def L_r01_Int_0 : Code := loopIn (bodyOf Try.f31) 0
noncomputable def P_r01_Int_0 : Lp := lpOf S_r01_Int_0 E_r01_Int_0 23 R_r01_Int_0
noncomputable def c_r01_Int : Con := conV true [(.int .i64)] [(.arr 4 (.int .u64))] fun x => r01_Int x.1
noncomputable def x_r01_Int : Cx := { ti := ti, con := [(76, c_r01_Nat)], fns := [], un := 6 }
theorem xok_r01_Int : CxOk Try.prog x_r01_Int := CxOk.of mixed ti_ok (List.forall_mem_cons.2 ⟨con_r01_Nat, List.forall_mem_nil _⟩) (List.forall_mem_nil _)
theorem r_r01_Int_0 (x : S_r01_Int_0.X) : denC x_r01_Int [] (denF x_r01_Int 8) L_r01_Int_0 (S_r01_Int_0.mkS 23 x) (kRound 0 S_r01_Int_0 E_r01_Int_0) = R_r01_Int_0 x := by kernel_rfl
theorem l_r01_Int_0 : LpOk Try.prog 0 (.loop L_r01_Int_0) P_r01_Int_0 := lpOf_ok xok_r01_Int 8 (lps_nil) S_r01_Int_0 E_r01_Int_0 23 R_r01_Int_0 (by decide) r_r01_Int_0
theorem fn_r01_Int : FnOk Try.prog 31 Try.f31 [(0, P_r01_Int_0)] := ⟨Try.func31, Try.call31, lps_of (by kernel_rfl) (lps_one l_r01_Int_0 (by kernel_rfl) (List.forall_mem_nil _))⟩
theorem e_r01_Int (n : Int) : bodyK x_r01_Int [(0, P_r01_Int_0)] (denF x_r01_Int 8) Try.f31 (domV [(.int .i64)] (n, ())) [] 0 (kOut [(.arr 4 (.int .u64))]) = r01_Int' n := by kernel_rfl
theorem con_r01_Int : ConOk Try.prog 31 c_r01_Int := con_ok xok_r01_Int 8 fn_r01_Int true [(.int .i64)] [(.arr 4 (.int .u64))] _ (by decide) (fun x => by rw [r01_Int_eq]; exact e_r01_Int x.1)
abbrev S_r01_Of_0 : Shape := { sl := [(1, (.c ⟨(.ptr (.arr 4 (.int .u64))), (.rf 0 [])⟩)), (2, (.c ⟨(.ptr (.arr 256 .bool)), (.rf 1 [])⟩)), (3, (.c ⟨(.ptr (.arr 256 .bool)), (.rf 2 [])⟩)), (4, (.v (.int .i64)))], ob := [(0, (.v (.arr 4 (.int .u64)))), (1, (.v (.arr 256 .bool))), (2, (.v (.arr 256 .bool)))], lo := 3, nx := 3 }
abbrev E_r01_Of_0 : List Ex := [(.normal, { sl := [(2, (.c ⟨(.ptr (.arr 256 .bool)), (.rf 1 [])⟩)), (3, (.c ⟨(.ptr (.arr 256 .bool)), (.rf 2 [])⟩))], ob := [(1, (.v (.arr 256 .bool))), (2, (.v (.arr 256 .bool)))], lo := 3, nx := 3 })]
noncomputable def L_r01_Of_0 : Code := loopIn (bodyOf Try.f74) 0
noncomputable def P_r01_Of_0 : Lp := lpOf S_r01_Of_0 E_r01_Of_0 22 R_r01_Of_0
noncomputable def c_r01_Of : Con := conV true [(.arr 4 (.int .u64))] [(.arr 256 .bool)] fun x => r01_Of x.1
noncomputable def x_r01_Of : Cx := { ti := ti, con := [], fns := [], un := 6 }
theorem xok_r01_Of : CxOk Try.prog x_r01_Of := CxOk.of mixed ti_ok (List.forall_mem_nil _) (List.forall_mem_nil _)
theorem r_r01_Of_0 (x : S_r01_Of_0.X) : denC x_r01_Of [] (denF x_r01_Of 8) L_r01_Of_0 (S_r01_Of_0.mkS 22 x) (kRound 0 S_r01_Of_0 E_r01_Of_0) = R_r01_Of_0 x := by kernel_rfl
theorem l_r01_Of_0 : LpOk Try.prog 0 (.loop L_r01_Of_0) P_r01_Of_0 := lpOf_ok xok_r01_Of 8 (lps_nil) S_r01_Of_0 E_r01_Of_0 22 R_r01_Of_0 (by decide) r_r01_Of_0
theorem fn_r01_Of : FnOk Try.prog 74 Try.f74 [(0, P_r01_Of_0)] := ⟨Try.func74, Try.call74, lps_of (by kernel_rfl) (lps_one l_r01_Of_0 (by kernel_rfl) (List.forall_mem_nil _))⟩
theorem e_r01_Of (a : (Nat → Int)) : bodyK x_r01_Of [(0, P_r01_Of_0)] (denF x_r01_Of 8) Try.f74 (domV [(.arr 4 (.int .u64))] (a, ())) [] 0 (kOut [(.arr 256 .bool)]) = r01_Of' a := by kernel_rfl
theorem con_r01_Of : ConOk Try.prog 74 c_r01_Of := con_ok xok_r01_Of 8 fn_r01_Of true [(.arr 4 (.int .u64))] [(.arr 256 .bool)] _ (by decide) (fun x => by rw [r01_Of_eq]; exact e_r01_Of x.1)
abbrev S_r01_Len_0 : Shape := { sl := [(3, (.c ⟨(.ptr (.arr 256 .bool)), (.rf 1 [])⟩)), (4, (.v (.int .i64)))], ob := [(1, (.v (.arr 256 .bool)))], lo := 2, nx := 2 }
abbrev E_r01_Len_0 : List Ex := [(.ret, { sl := [(2, (.v (.int .i64)))], ob := [], lo := 2, nx := 2 }), (.normal, { sl := [], ob := [], lo := 2, nx := 2 })]
noncomputable def L_r01_Len_0 : Code := loopIn (bodyOf Try.f73) 0
noncomputable def P_r01_Len_0 : Lp := lpOf S_r01_Len_0 E_r01_Len_0 16 R_r01_Len_0
noncomputable def c_r01_Len : Con := conV true [(.arr 4 (.int .u64))] [(.int .i64)] fun x => r01_Len x.1
noncomputable def x_r01_Len : Cx := { ti := ti, con := [(74, c_r01_Of)], fns := [], un := 6 }
theorem xok_r01_Len : CxOk Try.prog x_r01_Len := CxOk.of mixed ti_ok (List.forall_mem_cons.2 ⟨con_r01_Of, List.forall_mem_nil _⟩) (List.forall_mem_nil _)
theorem r_r01_Len_0 (x : S_r01_Len_0.X) : denC x_r01_Len [] (denF x_r01_Len 8) L_r01_Len_0 (S_r01_Len_0.mkS 16 x) (kRound 0 S_r01_Len_0 E_r01_Len_0) = R_r01_Len_0 x := by kernel_rfl
theorem l_r01_Len_0 : LpOk Try.prog 0 (.loop L_r01_Len_0) P_r01_Len_0 := lpOf_ok xok_r01_Len 8 (lps_nil) S_r01_Len_0 E_r01_Len_0 16 R_r01_Len_0 (by decide) r_r01_Len_0
theorem fn_r01_Len : FnOk Try.prog 73 Try.f73 [(0, P_r01_Len_0)] := ⟨Try.func73, Try.call73, lps_of (by kernel_rfl) (lps_one l_r01_Len_0 (by kernel_rfl) (List.forall_mem_nil _))⟩
theorem e_r01_Len (a : (Nat → Int)) : bodyK x_r01_Len [(0, P_r01_Len_0)] (denF x_r01_Len 8) Try.f73 (domV [(.arr 4 (.int .u64))] (a, ())) [] 0 (kOut [(.int .i64)]) = r01_Len' a := by kernel_rfl
theorem con_r01_Len : ConOk Try.prog 73 c_r01_Len := con_ok xok_r01_Len 8 fn_r01_Len true [(.arr 4 (.int .u64))] [(.int .i64)] _ (by decide) (fun x => by rw [r01_Len_eq]; exact e_r01_Len x.1)
abbrev S_r01_Low_0 : Shape := { sl := [(4, (.v (.int .i64))), (5, (.c ⟨(.ptr (.arr 256 .bool)), (.rf 1 [])⟩)), (6, (.v (.int .i64)))], ob := [(1, (.v (.arr 256 .bool)))], lo := 2, nx := 2 }
abbrev E_r01_Low_0 : List Ex := [(.normal, { sl := [(4, (.v (.int .i64)))], ob := [], lo := 2, nx := 2 })]
noncomputable def L_r01_Low_0 : Code := loopIn (bodyOf Try.f29) 0
noncomputable def P_r01_Low_0 : Lp := lpOf S_r01_Low_0 E_r01_Low_0 24 R_r01_Low_0
noncomputable def c_r01_Low : Con := conV true [(.arr 4 (.int .u64))] [(.int .i64), .bool] fun x => r01_Low x.1
noncomputable def x_r01_Low : Cx := { ti := ti, con := [(73, c_r01_Len), (74, c_r01_Of)], fns := [], un := 6 }
theorem xok_r01_Low : CxOk Try.prog x_r01_Low := CxOk.of mixed ti_ok (List.forall_mem_cons.2 ⟨con_r01_Len, List.forall_mem_cons.2 ⟨con_r01_Of, List.forall_mem_nil _⟩⟩) (List.forall_mem_nil _)
theorem r_r01_Low_0 (x : S_r01_Low_0.X) : denC x_r01_Low [] (denF x_r01_Low 8) L_r01_Low_0 (S_r01_Low_0.mkS 24 x) (kRound 0 S_r01_Low_0 E_r01_Low_0) = R_r01_Low_0 x := by kernel_rfl
theorem l_r01_Low_0 : LpOk Try.prog 0 (.loop L_r01_Low_0) P_r01_Low_0 := lpOf_ok xok_r01_Low 8 (lps_nil) S_r01_Low_0 E_r01_Low_0 24 R_r01_Low_0 (by decide) r_r01_Low_0
theorem fn_r01_Low : FnOk Try.prog 29 Try.f29 [(0, P_r01_Low_0)] := ⟨Try.func29, Try.call29, lps_of (by kernel_rfl) (lps_one l_r01_Low_0 (by kernel_rfl) (List.forall_mem_nil _))⟩
theorem e_r01_Low (a : (Nat → Int)) : bodyK x_r01_Low [(0, P_r01_Low_0)] (denF x_r01_Low 8) Try.f29 (domV [(.arr 4 (.int .u64))] (a, ())) [] 0 (kOut [(.int .i64), .bool]) = r01_Low' a := by kernel_rfl
theorem con_r01_Low : ConOk Try.prog 29 c_r01_Low := con_ok xok_r01_Low 8 fn_r01_Low true [(.arr 4 (.int .u64))] [(.int .i64), .bool] _ (by decide) (fun x => by rw [r01_Low_eq]; exact e_r01_Low x.1)
end Go.Proofs.Ytennopklknlecaa

set_option linter.unusedVariables false
set_option linter.unusedSimpArgs false
set_option maxRecDepth 100000
set_option maxHeartbeats 0
namespace Go.Pl
end Go.Pl
open Go Go.Den Go.Pl
namespace Go.Proofs.Ytennopklknlecaa
abbrev S_r02_Of_0 : Shape := { sl := [(2, (.c ⟨(.ptr (.arr 4 (.int .u64))), (.rf 0 [])⟩)), (3, (.c ⟨(.ptr (.arr 4 (.int .u64))), (.rf 1 [])⟩)), (4, (.c ⟨(.ptr (.arr 32 (.int .i64))), (.rf 2 [])⟩)), (5, (.c ⟨(.ptr (.arr 32 (.int .i64))), (.rf 3 [])⟩)), (6, (.v (.int .i64)))], ob := [(0, (.v (.arr 4 (.int .u64)))), (1, (.v (.arr 4 (.int .u64)))), (2, (.v (.arr 32 (.int .i64)))), (3, (.v (.arr 32 (.int .i64))))], lo := 4, nx := 4 }
abbrev E_r02_Of_0 : List Ex := [(.normal, { sl := [(4, (.c ⟨(.ptr (.arr 32 (.int .i64))), (.rf 2 [])⟩)), (5, (.c ⟨(.ptr (.arr 32 (.int .i64))), (.rf 3 [])⟩))], ob := [(2, (.v (.arr 32 (.int .i64)))), (3, (.v (.arr 32 (.int .i64))))], lo := 4, nx := 4 })]
noncomputable def L_r02_Of_0 : Code := loopIn (bodyOf Try.f113) 0
noncomputable def P_r02_Of_0 : Lp := lpOf S_r02_Of_0 E_r02_Of_0 38 R_r02_Of_0
noncomputable def c_r02_Of : Con := conV true [(.arr 4 (.int .u64)), (.arr 4 (.int .u64))] [(.arr 32 (.int .i64))] fun x => r02_Of x.1 x.2.1
noncomputable def x_r02_Of : Cx := { ti := ti, con := [], fns := [], un := 6 }
theorem xok_r02_Of : CxOk Try.prog x_r02_Of := CxOk.of mixed ti_ok (List.forall_mem_nil _) (List.forall_mem_nil _)
theorem r_r02_Of_0 (x : S_r02_Of_0.X) : denC x_r02_Of [] (denF x_r02_Of 8) L_r02_Of_0 (S_r02_Of_0.mkS 38 x) (kRound 0 S_r02_Of_0 E_r02_Of_0) = R_r02_Of_0 x := by kernel_rfl
theorem l_r02_Of_0 : LpOk Try.prog 0 (.loop L_r02_Of_0) P_r02_Of_0 := lpOf_ok xok_r02_Of 8 (lps_nil) S_r02_Of_0 E_r02_Of_0 38 R_r02_Of_0 (by decide) r_r02_Of_0
theorem fn_r02_Of : FnOk Try.prog 113 Try.f113 [(0, P_r02_Of_0)] := ⟨Try.func113, Try.call113, lps_of (by kernel_rfl) (lps_one l_r02_Of_0 (by kernel_rfl) (List.forall_mem_nil _))⟩
theorem e_r02_Of (low : (Nat → Int)) (high : (Nat → Int)) : bodyK x_r02_Of [(0, P_r02_Of_0)] (denF x_r02_Of 8) Try.f113 (domV [(.arr 4 (.int .u64)), (.arr 4 (.int .u64))] (low, high, ())) [] 0 (kOut [(.arr 32 (.int .i64))]) = r02_Of' low high := by kernel_rfl
theorem con_r02_Of : ConOk Try.prog 113 c_r02_Of := con_ok xok_r02_Of 8 fn_r02_Of true [(.arr 4 (.int .u64)), (.arr 4 (.int .u64))] [(.arr 32 (.int .i64))] _ (by decide) (fun x => by rw [r02_Of_eq]; exact e_r02_Of x.1 x.2.1)
abbrev S_r02_twice_0 : Shape := { sl := [(2, (.c ⟨(.ptr (.arr 32 (.int .i64))), (.rf 0 [])⟩)), (4, (.c ⟨(.ptr (.arr 32 (.int .i64))), (.rf 1 [])⟩)), (5, (.c ⟨(.ptr (.arr 32 (.int .i64))), (.rf 2 [])⟩)), (6, (.v (.int .i64))), (7, (.v (.int .i64)))], ob := [(0, (.v (.arr 32 (.int .i64)))), (1, (.v (.arr 32 (.int .i64)))), (2, (.v (.arr 32 (.int .i64))))], lo := 3, nx := 3 }
abbrev E_r02_twice_0 : List Ex := [(.normal, { sl := [(4, (.c ⟨(.ptr (.arr 32 (.int .i64))), (.rf 1 [])⟩)), (5, (.c ⟨(.ptr (.arr 32 (.int .i64))), (.rf 2 [])⟩))], ob := [(1, (.v (.arr 32 (.int .i64)))), (2, (.v (.arr 32 (.int .i64))))], lo := 3, nx := 3 })]
noncomputable def L_r02_twice_0 : Code := loopIn (bodyOf Try.f137) 0
noncomputable def P_r02_twice_0 : Lp := lpOf S_r02_twice_0 E_r02_twice_0 28 R_r02_twice_0
noncomputable def c_r02_twice : Con := conV true [(.arr 32 (.int .i64)), (.int .i64)] [(.arr 32 (.int .i64))] fun x => r02_twice x.1 x.2.1
noncomputable def x_r02_twice : Cx := { ti := ti, con := [], fns := [], un := 6 }
theorem xok_r02_twice : CxOk Try.prog x_r02_twice := CxOk.of mixed ti_ok (List.forall_mem_nil _) (List.forall_mem_nil _)
theorem r_r02_twice_0 (x : S_r02_twice_0.X) : denC x_r02_twice [] (denF x_r02_twice 8) L_r02_twice_0 (S_r02_twice_0.mkS 28 x) (kRound 0 S_r02_twice_0 E_r02_twice_0) = R_r02_twice_0 x := by kernel_rfl
theorem l_r02_twice_0 : LpOk Try.prog 0 (.loop L_r02_twice_0) P_r02_twice_0 := lpOf_ok xok_r02_twice 8 (lps_nil) S_r02_twice_0 E_r02_twice_0 28 R_r02_twice_0 (by decide) r_r02_twice_0
theorem fn_r02_twice : FnOk Try.prog 137 Try.f137 [(0, P_r02_twice_0)] := ⟨Try.func137, Try.call137, lps_of (by kernel_rfl) (lps_one l_r02_twice_0 (by kernel_rfl) (List.forall_mem_nil _))⟩
theorem e_r02_twice (a : (Nat → Int)) (one : Int) : bodyK x_r02_twice [(0, P_r02_twice_0)] (denF x_r02_twice 8) Try.f137 (domV [(.arr 32 (.int .i64)), (.int .i64)] (a, one, ())) [] 0 (kOut [(.arr 32 (.int .i64))]) = r02_twice' a one := by kernel_rfl
theorem con_r02_twice : ConOk Try.prog 137 c_r02_twice := con_ok xok_r02_twice 8 fn_r02_twice true [(.arr 32 (.int .i64)), (.int .i64)] [(.arr 32 (.int .i64))] _ (by decide) (fun x => by rw [r02_twice_eq]; exact e_r02_twice x.1 x.2.1)
abbrev S_r02_below_0 : Shape := { sl := [(2, (.c ⟨(.ptr (.arr 32 (.int .i64))), (.rf 0 [])⟩)), (3, (.c ⟨(.ptr (.arr 32 (.int .i64))), (.rf 1 [])⟩)), (5, (.v (.int .i64)))], ob := [(0, (.v (.arr 32 (.int .i64)))), (1, (.v (.arr 32 (.int .i64))))], lo := 2, nx := 2 }
abbrev E_r02_below_0 : List Ex := [(.ret, { sl := [(4, (.v .bool))], ob := [], lo := 2, nx := 2 }), (.normal, { sl := [], ob := [], lo := 2, nx := 2 })]
noncomputable def L_r02_below_0 : Code := loopIn (bodyOf Try.f138) 0
noncomputable def P_r02_below_0 : Lp := lpOf S_r02_below_0 E_r02_below_0 24 R_r02_below_0
noncomputable def c_r02_below : Con := conV true [(.arr 32 (.int .i64)), (.arr 32 (.int .i64))] [.bool] fun x => r02_below x.1 x.2.1
noncomputable def x_r02_below : Cx := { ti := ti, con := [], fns := [], un := 6 }
theorem xok_r02_below : CxOk Try.prog x_r02_below := CxOk.of mixed ti_ok (List.forall_mem_nil _) (List.forall_mem_nil _)
theorem r_r02_below_0 (x : S_r02_below_0.X) : denC x_r02_below [] (denF x_r02_below 8) L_r02_below_0 (S_r02_below_0.mkS 24 x) (kRound 0 S_r02_below_0 E_r02_below_0) = R_r02_below_0 x := by kernel_rfl
theorem l_r02_below_0 : LpOk Try.prog 0 (.loop L_r02_below_0) P_r02_below_0 := lpOf_ok xok_r02_below 8 (lps_nil) S_r02_below_0 E_r02_below_0 24 R_r02_below_0 (by decide) r_r02_below_0
theorem fn_r02_below : FnOk Try.prog 138 Try.f138 [(0, P_r02_below_0)] := ⟨Try.func138, Try.call138, lps_of (by kernel_rfl) (lps_one l_r02_below_0 (by kernel_rfl) (List.forall_mem_nil _))⟩
theorem e_r02_below (a : (Nat → Int)) (b : (Nat → Int)) : bodyK x_r02_below [(0, P_r02_below_0)] (denF x_r02_below 8) Try.f138 (domV [(.arr 32 (.int .i64)), (.arr 32 (.int .i64))] (a, b, ())) [] 0 (kOut [.bool]) = r02_below' a b := by kernel_rfl
theorem con_r02_below : ConOk Try.prog 138 c_r02_below := con_ok xok_r02_below 8 fn_r02_below true [(.arr 32 (.int .i64)), (.arr 32 (.int .i64))] [.bool] _ (by decide) (fun x => by rw [r02_below_eq]; exact e_r02_below x.1 x.2.1)
abbrev S_r02_less_0 : Shape := { sl := [(2, (.c ⟨(.ptr (.arr 32 (.int .i64))), (.rf 0 [])⟩)), (3, (.c ⟨(.ptr (.arr 32 (.int .i64))), (.rf 1 [])⟩)), (4, (.c ⟨(.ptr (.arr 32 (.int .i64))), (.rf 2 [])⟩)), (5, (.v (.int .i64))), (6, (.c ⟨(.ptr (.arr 32 (.int .i64))), (.rf 3 [])⟩)), (7, (.v (.int .i64)))], ob := [(0, (.v (.arr 32 (.int .i64)))), (1, (.v (.arr 32 (.int .i64)))), (2, (.v (.arr 32 (.int .i64)))), (3, (.v (.arr 32 (.int .i64))))], lo := 4, nx := 4 }
abbrev E_r02_less_0 : List Ex := [(.normal, { sl := [(4, (.c ⟨(.ptr (.arr 32 (.int .i64))), (.rf 2 [])⟩)), (6, (.c ⟨(.ptr (.arr 32 (.int .i64))), (.rf 3 [])⟩))], ob := [(2, (.v (.arr 32 (.int .i64)))), (3, (.v (.arr 32 (.int .i64))))], lo := 4, nx := 4 })]
noncomputable def L_r02_less_0 : Code := loopIn (bodyOf Try.f139) 0
noncomputable def P_r02_less_0 : Lp := lpOf S_r02_less_0 E_r02_less_0 31 R_r02_less_0
noncomputable def c_r02_less : Con := conV true [(.arr 32 (.int .i64)), (.arr 32 (.int .i64))] [(.arr 32 (.int .i64))] fun x => r02_less x.1 x.2.1
noncomputable def x_r02_less : Cx := { ti := ti, con := [], fns := [], un := 6 }
theorem xok_r02_less : CxOk Try.prog x_r02_less := CxOk.of mixed ti_ok (List.forall_mem_nil _) (List.forall_mem_nil _)
theorem r_r02_less_0 (x : S_r02_less_0.X) : denC x_r02_less [] (denF x_r02_less 8) L_r02_less_0 (S_r02_less_0.mkS 31 x) (kRound 0 S_r02_less_0 E_r02_less_0) = R_r02_less_0 x := by kernel_rfl
theorem l_r02_less_0 : LpOk Try.prog 0 (.loop L_r02_less_0) P_r02_less_0 := lpOf_ok xok_r02_less 8 (lps_nil) S_r02_less_0 E_r02_less_0 31 R_r02_less_0 (by decide) r_r02_less_0
theorem fn_r02_less : FnOk Try.prog 139 Try.f139 [(0, P_r02_less_0)] := ⟨Try.func139, Try.call139, lps_of (by kernel_rfl) (lps_one l_r02_less_0 (by kernel_rfl) (List.forall_mem_nil _))⟩
theorem e_r02_less (a : (Nat → Int)) (b : (Nat → Int)) : bodyK x_r02_less [(0, P_r02_less_0)] (denF x_r02_less 8) Try.f139 (domV [(.arr 32 (.int .i64)), (.arr 32 (.int .i64))] (a, b, ())) [] 0 (kOut [(.arr 32 (.int .i64))]) = r02_less' a b := by kernel_rfl
theorem con_r02_less : ConOk Try.prog 139 c_r02_less := con_ok xok_r02_less 8 fn_r02_less true [(.arr 32 (.int .i64)), (.arr 32 (.int .i64))] [(.arr 32 (.int .i64))] _ (by decide) (fun x => by rw [r02_less_eq]; exact e_r02_less x.1 x.2.1)
abbrev S_r02_parted_0 : Shape := { sl := [(2, (.c ⟨(.ptr (.arr 32 (.int .i64))), (.rf 0 [])⟩)), (3, (.c ⟨(.ptr (.arr 32 (.int .i64))), (.rf 1 [])⟩)), (4, (.c ⟨(.ptr (.arr 32 (.int .i64))), (.rf 2 [])⟩)), (5, (.c ⟨(.ptr (.arr 32 (.int .i64))), (.rf 3 [])⟩)), (6, (.c ⟨(.ptr (.arr 32 (.int .i64))), (.rf 4 [])⟩)), (7, (.c ⟨(.ptr (.arr 32 (.int .i64))), (.rf 5 [])⟩)), (8, (.v (.int .i64)))], ob := [(0, (.v (.arr 32 (.int .i64)))), (1, (.v (.arr 32 (.int .i64)))), (2, (.v (.arr 32 (.int .i64)))), (3, (.v (.arr 32 (.int .i64)))), (4, (.v (.arr 32 (.int .i64)))), (5, (.v (.arr 32 (.int .i64))))], lo := 6, nx := 6 }
abbrev E_r02_parted_0 : List Ex := [(.normal, { sl := [(4, (.c ⟨(.ptr (.arr 32 (.int .i64))), (.rf 2 [])⟩)), (5, (.c ⟨(.ptr (.arr 32 (.int .i64))), (.rf 3 [])⟩)), (6, (.c ⟨(.ptr (.arr 32 (.int .i64))), (.rf 4 [])⟩)), (7, (.c ⟨(.ptr (.arr 32 (.int .i64))), (.rf 5 [])⟩))], ob := [(2, (.v (.arr 32 (.int .i64)))), (3, (.v (.arr 32 (.int .i64)))), (4, (.v (.arr 32 (.int .i64)))), (5, (.v (.arr 32 (.int .i64))))], lo := 6, nx := 6 })]
noncomputable def L_r02_parted_0 : Code := loopIn (bodyOf Try.f112) 0
noncomputable def P_r02_parted_0 : Lp := lpOf S_r02_parted_0 E_r02_parted_0 45 R_r02_parted_0
noncomputable def c_r02_parted : Con := conV true [(.arr 32 (.int .i64)), (.arr 32 (.int .i64))] [(.arr 32 (.int .i64)), (.arr 32 (.int .i64))] fun x => r02_parted x.1 x.2.1
noncomputable def x_r02_parted : Cx := { ti := ti, con := [(137, c_r02_twice), (138, c_r02_below), (139, c_r02_less)], fns := [], un := 6 }
theorem xok_r02_parted : CxOk Try.prog x_r02_parted := CxOk.of mixed ti_ok (List.forall_mem_cons.2 ⟨con_r02_twice, List.forall_mem_cons.2 ⟨con_r02_below, List.forall_mem_cons.2 ⟨con_r02_less, List.forall_mem_nil _⟩⟩⟩) (List.forall_mem_nil _)
theorem r_r02_parted_0 (x : S_r02_parted_0.X) : denC x_r02_parted [] (denF x_r02_parted 8) L_r02_parted_0 (S_r02_parted_0.mkS 45 x) (kRound 0 S_r02_parted_0 E_r02_parted_0) = R_r02_parted_0 x := by kernel_rfl
theorem l_r02_parted_0 : LpOk Try.prog 0 (.loop L_r02_parted_0) P_r02_parted_0 := lpOf_ok xok_r02_parted 8 (lps_nil) S_r02_parted_0 E_r02_parted_0 45 R_r02_parted_0 (by decide) r_r02_parted_0
theorem fn_r02_parted : FnOk Try.prog 112 Try.f112 [(0, P_r02_parted_0)] := ⟨Try.func112, Try.call112, lps_of (by kernel_rfl) (lps_one l_r02_parted_0 (by kernel_rfl) (List.forall_mem_nil _))⟩
theorem e_r02_parted (a : (Nat → Int)) (m : (Nat → Int)) : bodyK x_r02_parted [(0, P_r02_parted_0)] (denF x_r02_parted 8) Try.f112 (domV [(.arr 32 (.int .i64)), (.arr 32 (.int .i64))] (a, m, ())) [] 0 (kOut [(.arr 32 (.int .i64)), (.arr 32 (.int .i64))]) = r02_parted' a m := by kernel_rfl
theorem con_r02_parted : ConOk Try.prog 112 c_r02_parted := con_ok xok_r02_parted 8 fn_r02_parted true [(.arr 32 (.int .i64)), (.arr 32 (.int .i64))] [(.arr 32 (.int .i64)), (.arr 32 (.int .i64))] _ (by decide) (fun x => by rw [r02_parted_eq]; exact e_r02_parted x.1 x.2.1)
abbrev S_r02_Nats_0 : Shape := { sl := [(1, (.c ⟨(.ptr (.arr 32 (.int .i64))), (.rf 0 [])⟩)), (2, (.c ⟨(.ptr (.arr 4 (.int .u64))), (.rf 1 [])⟩)), (3, (.c ⟨(.ptr (.arr 4 (.int .u64))), (.rf 2 [])⟩)), (4, (.c ⟨(.ptr (.arr 4 (.int .u64))), (.rf 3 [])⟩)), (5, (.c ⟨(.ptr (.arr 4 (.int .u64))), (.rf 4 [])⟩)), (6, (.v (.int .i64)))], ob := [(0, (.v (.arr 32 (.int .i64)))), (1, (.v (.arr 4 (.int .u64)))), (2, (.v (.arr 4 (.int .u64)))), (3, (.v (.arr 4 (.int .u64)))), (4, (.v (.arr 4 (.int .u64))))], lo := 5, nx := 5 }
abbrev E_r02_Nats_0 : List Ex := [(.normal, { sl := [(2, (.c ⟨(.ptr (.arr 4 (.int .u64))), (.rf 1 [])⟩)), (3, (.c ⟨(.ptr (.arr 4 (.int .u64))), (.rf 2 [])⟩)), (4, (.c ⟨(.ptr (.arr 4 (.int .u64))), (.rf 3 [])⟩)), (5, (.c ⟨(.ptr (.arr 4 (.int .u64))), (.rf 4 [])⟩))], ob := [(1, (.v (.arr 4 (.int .u64)))), (2, (.v (.arr 4 (.int .u64)))), (3, (.v (.arr 4 (.int .u64)))), (4, (.v (.arr 4 (.int .u64))))], lo := 5, nx := 5 })]
noncomputable def L_r02_Nats_0 : Code := loopIn (bodyOf Try.f114) 0
noncomputable def P_r02_Nats_0 : Lp := lpOf S_r02_Nats_0 E_r02_Nats_0 48 R_r02_Nats_0
noncomputable def c_r02_Nats : Con := conV true [(.arr 32 (.int .i64))] [(.arr 4 (.int .u64)), (.arr 4 (.int .u64))] fun x => r02_Nats x.1
noncomputable def x_r02_Nats : Cx := { ti := ti, con := [], fns := [], un := 6 }
theorem xok_r02_Nats : CxOk Try.prog x_r02_Nats := CxOk.of mixed ti_ok (List.forall_mem_nil _) (List.forall_mem_nil _)
theorem r_r02_Nats_0 (x : S_r02_Nats_0.X) : denC x_r02_Nats [] (denF x_r02_Nats 8) L_r02_Nats_0 (S_r02_Nats_0.mkS 48 x) (kRound 0 S_r02_Nats_0 E_r02_Nats_0) = R_r02_Nats_0 x := by kernel_rfl
theorem l_r02_Nats_0 : LpOk Try.prog 0 (.loop L_r02_Nats_0) P_r02_Nats_0 := lpOf_ok xok_r02_Nats 8 (lps_nil) S_r02_Nats_0 E_r02_Nats_0 48 R_r02_Nats_0 (by decide) r_r02_Nats_0
theorem fn_r02_Nats : FnOk Try.prog 114 Try.f114 [(0, P_r02_Nats_0)] := ⟨Try.func114, Try.call114, lps_of (by kernel_rfl) (lps_one l_r02_Nats_0 (by kernel_rfl) (List.forall_mem_nil _))⟩
theorem e_r02_Nats (d : (Nat → Int)) : bodyK x_r02_Nats [(0, P_r02_Nats_0)] (denF x_r02_Nats 8) Try.f114 (domV [(.arr 32 (.int .i64))] (d, ())) [] 0 (kOut [(.arr 4 (.int .u64)), (.arr 4 (.int .u64))]) = r02_Nats' d := by kernel_rfl
theorem con_r02_Nats : ConOk Try.prog 114 c_r02_Nats := con_ok xok_r02_Nats 8 fn_r02_Nats true [(.arr 32 (.int .i64))] [(.arr 4 (.int .u64)), (.arr 4 (.int .u64))] _ (by decide) (fun x => by rw [r02_Nats_eq]; exact e_r02_Nats x.1)
noncomputable def c_r02_Rem : Con := conV true [(.arr 4 (.int .u64)), (.arr 4 (.int .u64)), (.arr 4 (.int .u64))] [(.arr 4 (.int .u64)), (.int .i64)] fun x => r02_Rem x.1 x.2.1 x.2.2.1
noncomputable def x_r02_Rem : Cx := { ti := ti, con := [(113, c_r02_Of), (112, c_r02_parted), (114, c_r02_Nats)], fns := [], un := 6 }
theorem xok_r02_Rem : CxOk Try.prog x_r02_Rem := CxOk.of mixed ti_ok (List.forall_mem_cons.2 ⟨con_r02_Of, List.forall_mem_cons.2 ⟨con_r02_parted, List.forall_mem_cons.2 ⟨con_r02_Nats, List.forall_mem_nil _⟩⟩⟩) (List.forall_mem_nil _)
theorem fn_r02_Rem : FnOk Try.prog 75 Try.f75 [] := ⟨Try.func75, Try.call75, lps_nil⟩
theorem e_r02_Rem (low : (Nat → Int)) (high : (Nat → Int)) (m : (Nat → Int)) : bodyK x_r02_Rem [] (denF x_r02_Rem 8) Try.f75 (domV [(.arr 4 (.int .u64)), (.arr 4 (.int .u64)), (.arr 4 (.int .u64))] (low, high, m, ())) [] 0 (kOut [(.arr 4 (.int .u64)), (.int .i64)]) = r02_Rem' low high m := by kernel_rfl
theorem con_r02_Rem : ConOk Try.prog 75 c_r02_Rem := con_ok xok_r02_Rem 8 fn_r02_Rem true [(.arr 4 (.int .u64)), (.arr 4 (.int .u64)), (.arr 4 (.int .u64))] [(.arr 4 (.int .u64)), (.int .i64)] _ (by decide) (fun x => by rw [r02_Rem_eq]; exact e_r02_Rem x.1 x.2.1 x.2.2.1)
end Go.Proofs.Ytennopklknlecaa

set_option linter.unusedVariables false
set_option linter.unusedSimpArgs false
set_option maxRecDepth 100000
set_option maxHeartbeats 0
namespace Go.Pl
end Go.Pl
open Go Go.Den Go.Pl
namespace Go.Proofs.Ytennopklknlecaa
noncomputable def c_r03_Times : Con := conV true [(.int .i64), (.int .i64), (.int .i64)] [(.int .i64)] fun x => r03_Times x.1 x.2.1 x.2.2.1
noncomputable def x_r03_Times : Cx := { ti := ti, con := [(143, c_bits_Mul64), (144, c_bits_Div64)], fns := [], un := 6 }
theorem xok_r03_Times : CxOk Try.prog x_r03_Times := CxOk.of mixed ti_ok (List.forall_mem_cons.2 ⟨con_bits_Mul64, List.forall_mem_cons.2 ⟨con_bits_Div64, List.forall_mem_nil _⟩⟩) (List.forall_mem_nil _)
theorem fn_r03_Times : FnOk Try.prog 124 Try.f124 [] := ⟨Try.func124, Try.call124, lps_nil⟩
theorem e_r03_Times (a : Int) (b : Int) (m : Int) : bodyK x_r03_Times [] (denF x_r03_Times 8) Try.f124 (domV [(.int .i64), (.int .i64), (.int .i64)] (a, b, m, ())) [] 0 (kOut [(.int .i64)]) = r03_Times' a b m := by kernel_rfl
theorem con_r03_Times : ConOk Try.prog 124 c_r03_Times := con_ok xok_r03_Times 8 fn_r03_Times true [(.int .i64), (.int .i64), (.int .i64)] [(.int .i64)] _ (by decide) (fun x => by rw [r03_Times_eq]; exact e_r03_Times x.1 x.2.1 x.2.2.1)
end Go.Proofs.Ytennopklknlecaa

set_option linter.unusedVariables false
set_option linter.unusedSimpArgs false
set_option maxRecDepth 100000
set_option maxHeartbeats 0
namespace Go.Pl
end Go.Pl
open Go Go.Den Go.Pl
namespace Go.Proofs.Ytennopklknlecaa
noncomputable def c_r07_Least : Con := conV false [] [(.pair (.sl (.pair (.arr 4 (.int .u64)) (.int .i64))) (.arr 4 (.int .u64)))] fun x => r07_Least 
noncomputable def x_r07_Least : Cx := { ti := ti, con := [], fns := [], un := 6 }
theorem xok_r07_Least : CxOk Try.prog x_r07_Least := CxOk.of mixed ti_ok (List.forall_mem_nil _) (List.forall_mem_nil _)
theorem fn_r07_Least : FnOk Try.prog 19 Try.f19 [] := ⟨Try.func19, Try.call19, lps_nil⟩
theorem e_r07_Least  : bodyK x_r07_Least [] (denF x_r07_Least 8) Try.f19 (domV [] (())) [] 0 (kOut [(.pair (.sl (.pair (.arr 4 (.int .u64)) (.int .i64))) (.arr 4 (.int .u64)))]) = r07_Least'  := by kernel_rfl
theorem con_r07_Least : ConOk Try.prog 19 c_r07_Least := con_ok xok_r07_Least 8 fn_r07_Least false [] [(.pair (.sl (.pair (.arr 4 (.int .u64)) (.int .i64))) (.arr 4 (.int .u64)))] _ (by decide) (fun x => by rw [r07_Least_eq]; exact e_r07_Least )
noncomputable def c_r07_Other : Con := conV false [] [(.pair (.sl (.pair (.arr 4 (.int .u64)) (.int .i64))) (.arr 4 (.int .u64)))] fun x => r07_Other 
noncomputable def x_r07_Other : Cx := { ti := ti, con := [], fns := [], un := 6 }
theorem xok_r07_Other : CxOk Try.prog x_r07_Other := CxOk.of mixed ti_ok (List.forall_mem_nil _) (List.forall_mem_nil _)
theorem fn_r07_Other : FnOk Try.prog 20 Try.f20 [] := ⟨Try.func20, Try.call20, lps_nil⟩
theorem e_r07_Other  : bodyK x_r07_Other [] (denF x_r07_Other 8) Try.f20 (domV [] (())) [] 0 (kOut [(.pair (.sl (.pair (.arr 4 (.int .u64)) (.int .i64))) (.arr 4 (.int .u64)))]) = r07_Other'  := by kernel_rfl
theorem con_r07_Other : ConOk Try.prog 20 c_r07_Other := con_ok xok_r07_Other 8 fn_r07_Other false [] [(.pair (.sl (.pair (.arr 4 (.int .u64)) (.int .i64))) (.arr 4 (.int .u64)))] _ (by decide) (fun x => by rw [r07_Other_eq]; exact e_r07_Other )
noncomputable def c_r07_Great : Con := conV false [] [(.pair (.sl (.pair (.arr 4 (.int .u64)) (.int .i64))) (.arr 4 (.int .u64)))] fun x => r07_Great 
noncomputable def x_r07_Great : Cx := { ti := ti, con := [], fns := [], un := 6 }
theorem xok_r07_Great : CxOk Try.prog x_r07_Great := CxOk.of mixed ti_ok (List.forall_mem_nil _) (List.forall_mem_nil _)
theorem fn_r07_Great : FnOk Try.prog 21 Try.f21 [] := ⟨Try.func21, Try.call21, lps_nil⟩
theorem e_r07_Great  : bodyK x_r07_Great [] (denF x_r07_Great 8) Try.f21 (domV [] (())) [] 0 (kOut [(.pair (.sl (.pair (.arr 4 (.int .u64)) (.int .i64))) (.arr 4 (.int .u64)))]) = r07_Great'  := by kernel_rfl
theorem con_r07_Great : ConOk Try.prog 21 c_r07_Great := con_ok xok_r07_Great 8 fn_r07_Great false [] [(.pair (.sl (.pair (.arr 4 (.int .u64)) (.int .i64))) (.arr 4 (.int .u64)))] _ (by decide) (fun x => by rw [r07_Great_eq]; exact e_r07_Great )
noncomputable def c_r07_Q : Con := conV true [(.pair (.sl (.pair (.arr 4 (.int .u64)) (.int .i64))) (.arr 4 (.int .u64)))] [(.arr 4 (.int .u64))] fun x => r07_Q x.1
noncomputable def x_r07_Q : Cx := { ti := ti, con := [], fns := [], un := 6 }
theorem xok_r07_Q : CxOk Try.prog x_r07_Q := CxOk.of mixed ti_ok (List.forall_mem_nil _) (List.forall_mem_nil _)
theorem fn_r07_Q : FnOk Try.prog 24 Try.f24 [] := ⟨Try.func24, Try.call24, lps_nil⟩
theorem e_r07_Q (p : ((Nat × (Nat → ((Nat → Int) × Int))) × (Nat → Int))) : bodyK x_r07_Q [] (denF x_r07_Q 8) Try.f24 (domV [(.pair (.sl (.pair (.arr 4 (.int .u64)) (.int .i64))) (.arr 4 (.int .u64)))] (p, ())) [] 0 (kOut [(.arr 4 (.int .u64))]) = r07_Q' p := by kernel_rfl
theorem con_r07_Q : ConOk Try.prog 24 c_r07_Q := con_ok xok_r07_Q 8 fn_r07_Q true [(.pair (.sl (.pair (.arr 4 (.int .u64)) (.int .i64))) (.arr 4 (.int .u64)))] [(.arr 4 (.int .u64))] _ (by decide) (fun x => by rw [r07_Q_eq]; exact e_r07_Q x.1)
noncomputable def c_r07_Pick : Con := conV false [(.int .i64)] [(.pair (.sl (.pair (.arr 4 (.int .u64)) (.int .i64))) (.arr 4 (.int .u64)))] fun x => r07_Pick x.1
noncomputable def x_r07_Pick : Cx := { ti := ti, con := [(20, c_r07_Other), (19, c_r07_Least)], fns := [], un := 6 }
theorem xok_r07_Pick : CxOk Try.prog x_r07_Pick := CxOk.of mixed ti_ok (List.forall_mem_cons.2 ⟨con_r07_Other, List.forall_mem_cons.2 ⟨con_r07_Least, List.forall_mem_nil _⟩⟩) (List.forall_mem_nil _)
theorem fn_r07_Pick : FnOk Try.prog 28 Try.f28 [] := ⟨Try.func28, Try.call28, lps_nil⟩
theorem e_r07_Pick (which : Int) : bodyK x_r07_Pick [] (denF x_r07_Pick 8) Try.f28 (domV [(.int .i64)] (which, ())) [] 0 (kOut [(.pair (.sl (.pair (.arr 4 (.int .u64)) (.int .i64))) (.arr 4 (.int .u64)))]) = r07_Pick' which := by kernel_rfl
theorem con_r07_Pick : ConOk Try.prog 28 c_r07_Pick := con_ok xok_r07_Pick 8 fn_r07_Pick false [(.int .i64)] [(.pair (.sl (.pair (.arr 4 (.int .u64)) (.int .i64))) (.arr 4 (.int .u64)))] _ (by decide) (fun x => by rw [r07_Pick_eq]; exact e_r07_Pick x.1)
end Go.Proofs.Ytennopklknlecaa

set_option linter.unusedVariables false
set_option linter.unusedSimpArgs false
set_option maxRecDepth 100000
set_option maxHeartbeats 0
namespace Go.Pl
end Go.Pl
open Go Go.Den Go.Pl
namespace Go.Proofs.Ytennopklknlecaa
abbrev S_r08_Same_0 : Shape := { sl := [(0, (.sz (.arr 4 (.int .u64)))), (1, (.sz (.arr 4 (.int .u64)))), (5, (.v (.int .i64)))], ob := [], lo := 0, nx := 0 }
abbrev E_r08_Same_0 : List Ex := [(.ret, { sl := [(4, (.v .bool))], ob := [], lo := 0, nx := 0 }), (.normal, { sl := [], ob := [], lo := 0, nx := 0 })]
noncomputable def L_r08_Same_0 : Code := loopIn (bodyOf Try.f27) 0
noncomputable def P_r08_Same_0 : Lp := lpOf S_r08_Same_0 E_r08_Same_0 26 R_r08_Same_0
noncomputable def c_r08_Same : Con := conV true [(.sl (.arr 4 (.int .u64))), (.sl (.arr 4 (.int .u64)))] [.bool] fun x => r08_Same x.1.1 x.1.2 x.2.1.1 x.2.1.2
noncomputable def x_r08_Same : Cx := { ti := ti, con := [], fns := [], un := 6 }
theorem xok_r08_Same : CxOk Try.prog x_r08_Same := CxOk.of mixed ti_ok (List.forall_mem_nil _) (List.forall_mem_nil _)
theorem r_r08_Same_0 (x : S_r08_Same_0.X) : denC x_r08_Same [] (denF x_r08_Same 8) L_r08_Same_0 (S_r08_Same_0.mkS 26 x) (kRound 0 S_r08_Same_0 E_r08_Same_0) = R_r08_Same_0 x := by kernel_rfl
theorem l_r08_Same_0 : LpOk Try.prog 0 (.loop L_r08_Same_0) P_r08_Same_0 := lpOf_ok xok_r08_Same 8 (lps_nil) S_r08_Same_0 E_r08_Same_0 26 R_r08_Same_0 (by decide) r_r08_Same_0
theorem fn_r08_Same : FnOk Try.prog 27 Try.f27 [(0, P_r08_Same_0)] := ⟨Try.func27, Try.call27, lps_of (by kernel_rfl) (lps_one l_r08_Same_0 (by kernel_rfl) (List.forall_mem_nil _))⟩
theorem e_r08_Same (na : Nat) (a : Nat → (Nat → Int)) (nb : Nat) (b : Nat → (Nat → Int)) : bodyK x_r08_Same [(0, P_r08_Same_0)] (denF x_r08_Same 8) Try.f27 (domV [(.sl (.arr 4 (.int .u64))), (.sl (.arr 4 (.int .u64)))] ((na, a), (nb, b), ())) [] 0 (kOut [.bool]) = r08_Same' na a nb b := by kernel_rfl
theorem con_r08_Same : ConOk Try.prog 27 c_r08_Same := con_ok xok_r08_Same 8 fn_r08_Same true [(.sl (.arr 4 (.int .u64))), (.sl (.arr 4 (.int .u64)))] [.bool] _ (by decide) (fun x => by rw [r08_Same_eq]; exact e_r08_Same x.1.1 x.1.2 x.2.1.1 x.2.1.2)
noncomputable def c_r08_By : Con := conV true [(.arr 4 (.int .u64)), (.int .i64)] [(.int .i64)] fun x => r08_By x.1 x.2.1
noncomputable def x_r08_By : Cx := { ti := ti, con := [(31, c_r01_Int), (75, c_r02_Rem), (29, c_r01_Low)], fns := [], un := 6 }
theorem xok_r08_By : CxOk Try.prog x_r08_By := CxOk.of mixed ti_ok (List.forall_mem_cons.2 ⟨con_r01_Int, List.forall_mem_cons.2 ⟨con_r02_Rem, List.forall_mem_cons.2 ⟨con_r01_Low, List.forall_mem_nil _⟩⟩⟩) (List.forall_mem_nil _)
theorem fn_r08_By : FnOk Try.prog 30 Try.f30 [] := ⟨Try.func30, Try.call30, lps_nil⟩
theorem e_r08_By (a : (Nat → Int)) (q : Int) : bodyK x_r08_By [] (denF x_r08_By 8) Try.f30 (domV [(.arr 4 (.int .u64)), (.int .i64)] (a, q, ())) [] 0 (kOut [(.int .i64)]) = r08_By' a q := by kernel_rfl
theorem con_r08_By : ConOk Try.prog 30 c_r08_By := con_ok xok_r08_By 8 fn_r08_By true [(.arr 4 (.int .u64)), (.int .i64)] [(.int .i64)] _ (by decide) (fun x => by rw [r08_By_eq]; exact e_r08_By x.1 x.2.1)
abbrev S_r08_All_0 : Shape := { sl := [(0, (.sz (.arr 4 (.int .u64)))), (1, (.v (.int .i64))), (5, (.w 3 (.int .i64) 0)), (6, (.v (.int .i64)))], ob := [], lo := 0, nx := 1 }
abbrev E_r08_All_0 : List Ex := [(.normal, { sl := [(5, (.w 3 (.int .i64) 1))], ob := [], lo := 1, nx := 2 })]
noncomputable def L_r08_All_0 : Code := loopIn (bodyOf Try.f49) 0
noncomputable def P_r08_All_0 : Lp := lpOf S_r08_All_0 E_r08_All_0 23 R_r08_All_0
noncomputable def c_r08_All : Con := conV false [(.sl (.arr 4 (.int .u64))), (.int .i64)] [(.sl (.int .i64))] fun x => r08_All x.1.1 x.1.2 x.2.1
noncomputable def x_r08_All : Cx := { ti := ti, con := [(30, c_r08_By)], fns := [], un := 6 }
theorem xok_r08_All : CxOk Try.prog x_r08_All := CxOk.of mixed ti_ok (List.forall_mem_cons.2 ⟨con_r08_By, List.forall_mem_nil _⟩) (List.forall_mem_nil _)
theorem r_r08_All_0 (x : S_r08_All_0.X) : denC x_r08_All [] (denF x_r08_All 8) L_r08_All_0 (S_r08_All_0.mkS 23 x) (kRound 0 S_r08_All_0 E_r08_All_0) = R_r08_All_0 x := by kernel_rfl
theorem l_r08_All_0 : LpOk Try.prog 0 (.loop L_r08_All_0) P_r08_All_0 := lpOf_ok xok_r08_All 8 (lps_nil) S_r08_All_0 E_r08_All_0 23 R_r08_All_0 (by decide) r_r08_All_0
theorem fn_r08_All : FnOk Try.prog 49 Try.f49 [(0, P_r08_All_0)] := ⟨Try.func49, Try.call49, lps_of (by kernel_rfl) (lps_one l_r08_All_0 (by kernel_rfl) (List.forall_mem_nil _))⟩
theorem e_r08_All (nl : Nat) (l : Nat → (Nat → Int)) (q : Int) : bodyK x_r08_All [(0, P_r08_All_0)] (denF x_r08_All 8) Try.f49 (domV [(.sl (.arr 4 (.int .u64))), (.int .i64)] ((nl, l), q, ())) [] 0 (kOut [(.sl (.int .i64))]) = r08_All' nl l q := by kernel_rfl
theorem con_r08_All : ConOk Try.prog 49 c_r08_All := con_ok xok_r08_All 8 fn_r08_All false [(.sl (.arr 4 (.int .u64))), (.int .i64)] [(.sl (.int .i64))] _ (by decide) (fun x => by rw [r08_All_eq]; exact e_r08_All x.1.1 x.1.2 x.2.1)
abbrev S_r08_Nats_0 : Shape := { sl := [(0, (.sz (.int .i64))), (3, (.w 35 (.arr 4 (.int .u64)) 0)), (4, (.v (.int .i64)))], ob := [], lo := 0, nx := 1 }
abbrev E_r08_Nats_0 : List Ex := [(.normal, { sl := [(3, (.w 35 (.arr 4 (.int .u64)) 1))], ob := [], lo := 1, nx := 2 })]
noncomputable def L_r08_Nats_0 : Code := loopIn (bodyOf Try.f86) 0
noncomputable def P_r08_Nats_0 : Lp := lpOf S_r08_Nats_0 E_r08_Nats_0 20 R_r08_Nats_0
noncomputable def c_r08_Nats : Con := conV false [(.sl (.int .i64))] [(.sl (.arr 4 (.int .u64)))] fun x => r08_Nats x.1.1 x.1.2
noncomputable def x_r08_Nats : Cx := { ti := ti, con := [(31, c_r01_Int)], fns := [], un := 6 }
theorem xok_r08_Nats : CxOk Try.prog x_r08_Nats := CxOk.of mixed ti_ok (List.forall_mem_cons.2 ⟨con_r01_Int, List.forall_mem_nil _⟩) (List.forall_mem_nil _)
theorem r_r08_Nats_0 (x : S_r08_Nats_0.X) : denC x_r08_Nats [] (denF x_r08_Nats 8) L_r08_Nats_0 (S_r08_Nats_0.mkS 20 x) (kRound 0 S_r08_Nats_0 E_r08_Nats_0) = R_r08_Nats_0 x := by kernel_rfl
theorem l_r08_Nats_0 : LpOk Try.prog 0 (.loop L_r08_Nats_0) P_r08_Nats_0 := lpOf_ok xok_r08_Nats 8 (lps_nil) S_r08_Nats_0 E_r08_Nats_0 20 R_r08_Nats_0 (by decide) r_r08_Nats_0
theorem fn_r08_Nats : FnOk Try.prog 86 Try.f86 [(0, P_r08_Nats_0)] := ⟨Try.func86, Try.call86, lps_of (by kernel_rfl) (lps_one l_r08_Nats_0 (by kernel_rfl) (List.forall_mem_nil _))⟩
theorem e_r08_Nats (nl : Nat) (l : Nat → Int) : bodyK x_r08_Nats [(0, P_r08_Nats_0)] (denF x_r08_Nats 8) Try.f86 (domV [(.sl (.int .i64))] ((nl, l), ())) [] 0 (kOut [(.sl (.arr 4 (.int .u64)))]) = r08_Nats' nl l := by kernel_rfl
theorem con_r08_Nats : ConOk Try.prog 86 c_r08_Nats := con_ok xok_r08_Nats 8 fn_r08_Nats false [(.sl (.int .i64))] [(.sl (.arr 4 (.int .u64)))] _ (by decide) (fun x => by rw [r08_Nats_eq]; exact e_r08_Nats x.1.1 x.1.2)
noncomputable def c_r08_Mul : Con := conV true [(.int .i64), (.int .i64), (.int .i64)] [(.int .i64)] fun x => r08_Mul x.1 x.2.1 x.2.2.1
noncomputable def x_r08_Mul : Cx := { ti := ti, con := [(124, c_r03_Times)], fns := [], un := 6 }
theorem xok_r08_Mul : CxOk Try.prog x_r08_Mul := CxOk.of mixed ti_ok (List.forall_mem_cons.2 ⟨con_r03_Times, List.forall_mem_nil _⟩) (List.forall_mem_nil _)
theorem fn_r08_Mul : FnOk Try.prog 92 Try.f92 [] := ⟨Try.func92, Try.call92, lps_nil⟩
theorem e_r08_Mul (a : Int) (b : Int) (q : Int) : bodyK x_r08_Mul [] (denF x_r08_Mul 8) Try.f92 (domV [(.int .i64), (.int .i64), (.int .i64)] (a, b, q, ())) [] 0 (kOut [(.int .i64)]) = r08_Mul' a b q := by kernel_rfl
theorem con_r08_Mul : ConOk Try.prog 92 c_r08_Mul := con_ok xok_r08_Mul 8 fn_r08_Mul true [(.int .i64), (.int .i64), (.int .i64)] [(.int .i64)] _ (by decide) (fun x => by rw [r08_Mul_eq]; exact e_r08_Mul x.1 x.2.1 x.2.2.1)
noncomputable def c_r08_Add : Con := conV true [(.int .i64), (.int .i64), (.int .i64)] [(.int .i64)] fun x => r08_Add x.1 x.2.1 x.2.2.1
noncomputable def x_r08_Add : Cx := { ti := ti, con := [], fns := [], un := 6 }
theorem xok_r08_Add : CxOk Try.prog x_r08_Add := CxOk.of mixed ti_ok (List.forall_mem_nil _) (List.forall_mem_nil _)
theorem fn_r08_Add : FnOk Try.prog 91 Try.f91 [] := ⟨Try.func91, Try.call91, lps_nil⟩
theorem e_r08_Add (a : Int) (b : Int) (q : Int) : bodyK x_r08_Add [] (denF x_r08_Add 8) Try.f91 (domV [(.int .i64), (.int .i64), (.int .i64)] (a, b, q, ())) [] 0 (kOut [(.int .i64)]) = r08_Add' a b q := by kernel_rfl
theorem con_r08_Add : ConOk Try.prog 91 c_r08_Add := con_ok xok_r08_Add 8 fn_r08_Add true [(.int .i64), (.int .i64), (.int .i64)] [(.int .i64)] _ (by decide) (fun x => by rw [r08_Add_eq]; exact e_r08_Add x.1 x.2.1 x.2.2.1)
abbrev S_r08_All_o_0 : Shape := { sl := [(0, (.sz (.arr 4 (.int .u64)))), (1, (.v (.int .i64))), (5, (.w 3 (.int .i64) 0)), (6, (.v (.int .i64)))], ob := [], lo := 0, nx := 1 }
abbrev E_r08_All_o_0 : List Ex := [(.normal, { sl := [(5, (.w 3 (.int .i64) 1))], ob := [], lo := 1, nx := 2 })]
noncomputable def L_r08_All_o_0 : Code := loopIn (bodyOf Try.f49) 0
noncomputable def P_r08_All_o_0 : Lp := lpOf S_r08_All_o_0 E_r08_All_o_0 23 R_r08_All_o_0
abbrev O_r08_All_o : List Shape := [{ sl := [(0, (.w 3 (.int .i64) 2))], ob := [], lo := 2, nx := 3 }]
noncomputable def c_r08_All_o : Con := conO [(.sl (.arr 4 (.int .u64))), (.int .i64)] O_r08_All_o fun x => r08_All_o x.1.1 x.1.2 x.2.1
noncomputable def x_r08_All_o : Cx := { ti := ti, con := [(30, c_r08_By)], fns := [], un := 6 }
theorem xok_r08_All_o : CxOk Try.prog x_r08_All_o := CxOk.of mixed ti_ok (List.forall_mem_cons.2 ⟨con_r08_By, List.forall_mem_nil _⟩) (List.forall_mem_nil _)
theorem r_r08_All_o_0 (x : S_r08_All_o_0.X) : denC x_r08_All_o [] (denF x_r08_All_o 8) L_r08_All_o_0 (S_r08_All_o_0.mkS 23 x) (kRound 0 S_r08_All_o_0 E_r08_All_o_0) = R_r08_All_o_0 x := by kernel_rfl
theorem l_r08_All_o_0 : LpOk Try.prog 0 (.loop L_r08_All_o_0) P_r08_All_o_0 := lpOf_ok xok_r08_All_o 8 (lps_nil) S_r08_All_o_0 E_r08_All_o_0 23 R_r08_All_o_0 (by decide) r_r08_All_o_0
theorem fn_r08_All_o : FnOk Try.prog 49 Try.f49 [(0, P_r08_All_o_0)] := ⟨Try.func49, Try.call49, lps_of (by kernel_rfl) (lps_one l_r08_All_o_0 (by kernel_rfl) (List.forall_mem_nil _))⟩
theorem e_r08_All_o (nl : Nat) (l : Nat → (Nat → Int)) (q : Int) : bodyK x_r08_All_o [(0, P_r08_All_o_0)] (denF x_r08_All_o 8) Try.f49 (domV [(.sl (.arr 4 (.int .u64))), (.int .i64)] ((nl, l), q, ())) [] 0 (kOutS 1 O_r08_All_o) = r08_All_o' nl l q := by kernel_rfl
theorem con_r08_All_o : ConOk Try.prog 49 c_r08_All_o := conO_ok xok_r08_All_o 8 fn_r08_All_o 1 [(.sl (.arr 4 (.int .u64))), (.int .i64)] O_r08_All_o _ (by decide) (fun x => by rw [r08_All_o_eq]; exact e_r08_All_o x.1.1 x.1.2 x.2.1)
end Go.Proofs.Ytennopklknlecaa

set_option linter.unusedVariables false
set_option linter.unusedSimpArgs false
set_option maxRecDepth 100000
set_option maxHeartbeats 0
namespace Go.Pl
end Go.Pl
open Go Go.Den Go.Pl
namespace Go.Proofs.Ytennopklknlecaa
noncomputable def c_field_Mul : Con := conV true [(.ptr (.pair (.pair (.ptr (.pair (.arr 4 (.int .u64)) (.pair (.int .u64) (.pair (.arr 4 (.int .u64)) (.arr 4 (.int .u64)))))) (.ptr (.pair (.arr 4 (.int .u64)) (.pair (.int .u64) (.pair (.arr 4 (.int .u64)) (.arr 4 (.int .u64))))))) (.arr 4 (.int .u64)))), (.arr 4 (.int .u64)), (.arr 4 (.int .u64))] [(.arr 4 (.int .u64))] fun x => field_Mul x.1 x.2.1 x.2.2.1
noncomputable def x_field_Mul : Cx := { ti := ti, con := [(70, c_group_Group_Field), (79, c_mont_Ring_Mul)], fns := [], un := 6 }
theorem xok_field_Mul : CxOk Try.prog x_field_Mul := CxOk.of mixed ti_ok (List.forall_mem_cons.2 ⟨con_group_Group_Field, List.forall_mem_cons.2 ⟨con_mont_Ring_Mul, List.forall_mem_nil _⟩⟩) (List.forall_mem_nil _)
theorem fn_field_Mul : FnOk Try.prog 90 Try.f90 [] := ⟨Try.func90, Try.call90, lps_nil⟩
theorem e_field_Mul (g : (Option (((PtrV ((Nat → Int) × (Int × ((Nat → Int) × (Nat → Int))))) × (PtrV ((Nat → Int) × (Int × ((Nat → Int) × (Nat → Int)))))) × (Nat → Int)))) (a : (Nat → Int)) (b : (Nat → Int)) : bodyK x_field_Mul [] (denF x_field_Mul 8) Try.f90 (domV [(.ptr (.pair (.pair (.ptr (.pair (.arr 4 (.int .u64)) (.pair (.int .u64) (.pair (.arr 4 (.int .u64)) (.arr 4 (.int .u64)))))) (.ptr (.pair (.arr 4 (.int .u64)) (.pair (.int .u64) (.pair (.arr 4 (.int .u64)) (.arr 4 (.int .u64))))))) (.arr 4 (.int .u64)))), (.arr 4 (.int .u64)), (.arr 4 (.int .u64))] (g, a, b, ())) [] 0 (kOut [(.arr 4 (.int .u64))]) = field_Mul' g a b := by cases g <;> kernel_rfl
theorem con_field_Mul : ConOk Try.prog 90 c_field_Mul := con_ok xok_field_Mul 8 fn_field_Mul true [(.ptr (.pair (.pair (.ptr (.pair (.arr 4 (.int .u64)) (.pair (.int .u64) (.pair (.arr 4 (.int .u64)) (.arr 4 (.int .u64)))))) (.ptr (.pair (.arr 4 (.int .u64)) (.pair (.int .u64) (.pair (.arr 4 (.int .u64)) (.arr 4 (.int .u64))))))) (.arr 4 (.int .u64)))), (.arr 4 (.int .u64)), (.arr 4 (.int .u64))] [(.arr 4 (.int .u64))] _ (by decide) (fun x => by rw [field_Mul_eq]; exact e_field_Mul x.1 x.2.1 x.2.2.1)
noncomputable def c_field_Add : Con := conV true [(.ptr (.pair (.pair (.ptr (.pair (.arr 4 (.int .u64)) (.pair (.int .u64) (.pair (.arr 4 (.int .u64)) (.arr 4 (.int .u64)))))) (.ptr (.pair (.arr 4 (.int .u64)) (.pair (.int .u64) (.pair (.arr 4 (.int .u64)) (.arr 4 (.int .u64))))))) (.arr 4 (.int .u64)))), (.arr 4 (.int .u64)), (.arr 4 (.int .u64))] [(.arr 4 (.int .u64))] fun x => field_Add x.1 x.2.1 x.2.2.1
noncomputable def x_field_Add : Cx := { ti := ti, con := [(72, c_group_Group_Q), (122, c_wide_AddMod)], fns := [], un := 6 }
theorem xok_field_Add : CxOk Try.prog x_field_Add := CxOk.of mixed ti_ok (List.forall_mem_cons.2 ⟨con_group_Group_Q, List.forall_mem_cons.2 ⟨con_wide_AddMod, List.forall_mem_nil _⟩⟩) (List.forall_mem_nil _)
theorem fn_field_Add : FnOk Try.prog 87 Try.f87 [] := ⟨Try.func87, Try.call87, lps_nil⟩
theorem e_field_Add (g : (Option (((PtrV ((Nat → Int) × (Int × ((Nat → Int) × (Nat → Int))))) × (PtrV ((Nat → Int) × (Int × ((Nat → Int) × (Nat → Int)))))) × (Nat → Int)))) (a : (Nat → Int)) (b : (Nat → Int)) : bodyK x_field_Add [] (denF x_field_Add 8) Try.f87 (domV [(.ptr (.pair (.pair (.ptr (.pair (.arr 4 (.int .u64)) (.pair (.int .u64) (.pair (.arr 4 (.int .u64)) (.arr 4 (.int .u64)))))) (.ptr (.pair (.arr 4 (.int .u64)) (.pair (.int .u64) (.pair (.arr 4 (.int .u64)) (.arr 4 (.int .u64))))))) (.arr 4 (.int .u64)))), (.arr 4 (.int .u64)), (.arr 4 (.int .u64))] (g, a, b, ())) [] 0 (kOut [(.arr 4 (.int .u64))]) = field_Add' g a b := by cases g <;> kernel_rfl
theorem con_field_Add : ConOk Try.prog 87 c_field_Add := con_ok xok_field_Add 8 fn_field_Add true [(.ptr (.pair (.pair (.ptr (.pair (.arr 4 (.int .u64)) (.pair (.int .u64) (.pair (.arr 4 (.int .u64)) (.arr 4 (.int .u64)))))) (.ptr (.pair (.arr 4 (.int .u64)) (.pair (.int .u64) (.pair (.arr 4 (.int .u64)) (.arr 4 (.int .u64))))))) (.arr 4 (.int .u64)))), (.arr 4 (.int .u64)), (.arr 4 (.int .u64))] [(.arr 4 (.int .u64))] _ (by decide) (fun x => by rw [field_Add_eq]; exact e_field_Add x.1 x.2.1 x.2.2.1)
noncomputable def c_field_Sub : Con := conV true [(.ptr (.pair (.pair (.ptr (.pair (.arr 4 (.int .u64)) (.pair (.int .u64) (.pair (.arr 4 (.int .u64)) (.arr 4 (.int .u64)))))) (.ptr (.pair (.arr 4 (.int .u64)) (.pair (.int .u64) (.pair (.arr 4 (.int .u64)) (.arr 4 (.int .u64))))))) (.arr 4 (.int .u64)))), (.arr 4 (.int .u64)), (.arr 4 (.int .u64))] [(.arr 4 (.int .u64))] fun x => field_Sub x.1 x.2.1 x.2.2.1
noncomputable def x_field_Sub : Cx := { ti := ti, con := [(72, c_group_Group_Q), (127, c_wide_SubMod)], fns := [], un := 6 }
theorem xok_field_Sub : CxOk Try.prog x_field_Sub := CxOk.of mixed ti_ok (List.forall_mem_cons.2 ⟨con_group_Group_Q, List.forall_mem_cons.2 ⟨con_wide_SubMod, List.forall_mem_nil _⟩⟩) (List.forall_mem_nil _)
theorem fn_field_Sub : FnOk Try.prog 100 Try.f100 [] := ⟨Try.func100, Try.call100, lps_nil⟩
theorem e_field_Sub (g : (Option (((PtrV ((Nat → Int) × (Int × ((Nat → Int) × (Nat → Int))))) × (PtrV ((Nat → Int) × (Int × ((Nat → Int) × (Nat → Int)))))) × (Nat → Int)))) (a : (Nat → Int)) (b : (Nat → Int)) : bodyK x_field_Sub [] (denF x_field_Sub 8) Try.f100 (domV [(.ptr (.pair (.pair (.ptr (.pair (.arr 4 (.int .u64)) (.pair (.int .u64) (.pair (.arr 4 (.int .u64)) (.arr 4 (.int .u64)))))) (.ptr (.pair (.arr 4 (.int .u64)) (.pair (.int .u64) (.pair (.arr 4 (.int .u64)) (.arr 4 (.int .u64))))))) (.arr 4 (.int .u64)))), (.arr 4 (.int .u64)), (.arr 4 (.int .u64))] (g, a, b, ())) [] 0 (kOut [(.arr 4 (.int .u64))]) = field_Sub' g a b := by cases g <;> kernel_rfl
theorem con_field_Sub : ConOk Try.prog 100 c_field_Sub := con_ok xok_field_Sub 8 fn_field_Sub true [(.ptr (.pair (.pair (.ptr (.pair (.arr 4 (.int .u64)) (.pair (.int .u64) (.pair (.arr 4 (.int .u64)) (.arr 4 (.int .u64)))))) (.ptr (.pair (.arr 4 (.int .u64)) (.pair (.int .u64) (.pair (.arr 4 (.int .u64)) (.arr 4 (.int .u64))))))) (.arr 4 (.int .u64)))), (.arr 4 (.int .u64)), (.arr 4 (.int .u64))] [(.arr 4 (.int .u64))] _ (by decide) (fun x => by rw [field_Sub_eq]; exact e_field_Sub x.1 x.2.1 x.2.2.1)
noncomputable def c_field_Inv : Con := conV true [(.ptr (.pair (.pair (.ptr (.pair (.arr 4 (.int .u64)) (.pair (.int .u64) (.pair (.arr 4 (.int .u64)) (.arr 4 (.int .u64)))))) (.ptr (.pair (.arr 4 (.int .u64)) (.pair (.int .u64) (.pair (.arr 4 (.int .u64)) (.arr 4 (.int .u64))))))) (.arr 4 (.int .u64)))), (.arr 4 (.int .u64))] [(.arr 4 (.int .u64))] fun x => field_Inv x.1 x.2.1
noncomputable def x_field_Inv : Cx := { ti := ti, con := [(72, c_group_Group_Q), (125, c_wide_InvMod)], fns := [], un := 6 }
theorem xok_field_Inv : CxOk Try.prog x_field_Inv := CxOk.of mixed ti_ok (List.forall_mem_cons.2 ⟨con_group_Group_Q, List.forall_mem_cons.2 ⟨con_wide_InvMod, List.forall_mem_nil _⟩⟩) (List.forall_mem_nil _)
theorem fn_field_Inv : FnOk Try.prog 98 Try.f98 [] := ⟨Try.func98, Try.call98, lps_nil⟩
theorem e_field_Inv (g : (Option (((PtrV ((Nat → Int) × (Int × ((Nat → Int) × (Nat → Int))))) × (PtrV ((Nat → Int) × (Int × ((Nat → Int) × (Nat → Int)))))) × (Nat → Int)))) (a : (Nat → Int)) : bodyK x_field_Inv [] (denF x_field_Inv 8) Try.f98 (domV [(.ptr (.pair (.pair (.ptr (.pair (.arr 4 (.int .u64)) (.pair (.int .u64) (.pair (.arr 4 (.int .u64)) (.arr 4 (.int .u64)))))) (.ptr (.pair (.arr 4 (.int .u64)) (.pair (.int .u64) (.pair (.arr 4 (.int .u64)) (.arr 4 (.int .u64))))))) (.arr 4 (.int .u64)))), (.arr 4 (.int .u64))] (g, a, ())) [] 0 (kOut [(.arr 4 (.int .u64))]) = field_Inv' g a := by cases g <;> kernel_rfl
theorem con_field_Inv : ConOk Try.prog 98 c_field_Inv := con_ok xok_field_Inv 8 fn_field_Inv true [(.ptr (.pair (.pair (.ptr (.pair (.arr 4 (.int .u64)) (.pair (.int .u64) (.pair (.arr 4 (.int .u64)) (.arr 4 (.int .u64)))))) (.ptr (.pair (.arr 4 (.int .u64)) (.pair (.int .u64) (.pair (.arr 4 (.int .u64)) (.arr 4 (.int .u64))))))) (.arr 4 (.int .u64)))), (.arr 4 (.int .u64))] [(.arr 4 (.int .u64))] _ (by decide) (fun x => by rw [field_Inv_eq]; exact e_field_Inv x.1 x.2.1)
end Go.Proofs.Ytennopklknlecaa
