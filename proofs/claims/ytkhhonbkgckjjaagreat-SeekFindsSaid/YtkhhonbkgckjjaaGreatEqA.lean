/-
  The functions of the program are the plain ones.
-/
import Derived.Test.YtkhhonbkgckjjaaGreatProg
import Derived.Test.YtkhhonbkgckjjaaGreatDenD
import Derived.KernelRfl
import Derived.Test.YtkhhonbkgckjjaaGreatPlA
set_option linter.unusedVariables false
set_option linter.unusedSimpArgs false
set_option maxRecDepth 100000
set_option maxHeartbeats 0
namespace Go.Pl
end Go.Pl
open Go Go.Den Go.Pl
namespace Go.Proofs.YtkhhonbkgckjjaaGreat
abbrev tN : Ty := .arr 4 (.int .u64)
abbrev tU : Ty := .int .u64
abbrev tI : Ty := .int .i64
abbrev pc (i : Nat) (t : Ty) (r : Nat) : Nat × Pat := (i, .c ⟨.ptr t, .rf r []⟩)
abbrev pv (i : Nat) (t : Ty) : Nat × Pat := (i, .v t)
theorem fc {α : Type _} {p : α → Prop} {a : α} {l : List α} (h : p a ∧ ∀ x ∈ l, p x) : ∀ x ∈ a :: l, p x := List.forall_mem_cons.2 h
theorem fz {α : Type _} {p : α → Prop} : ∀ x ∈ ([] : List α), p x := List.forall_mem_nil _
noncomputable def ti : List (Nat × TI) := [
  (3, ⟨(TypeDesc.int IntKind.i64), (.int .i64), 8⟩),
  (4, ⟨TypeDesc.bool, .bool, 1⟩),
  (5, ⟨(TypeDesc.int IntKind.u8), (.int .u8), 1⟩),
  (9, ⟨TypeDesc.string, .str, 16⟩),
  (22, ⟨(TypeDesc.slice 3), (.sl (.int .i64)), 24⟩),
  (24, ⟨(TypeDesc.slice 34), (.sl (.pair (.arr 4 (.int .u64)) (.int .i64))), 24⟩),
  (25, ⟨(TypeDesc.int IntKind.u64), (.int .u64), 8⟩),
  (27, ⟨(TypeDesc.array 4 25), (.arr 4 (.int .u64)), 32⟩),
  (29, ⟨(TypeDesc.struct #[{ name := "Chain", type := 24, offset := 0, embedded := false, tag := "", pkgPath := "", byteOffset := 0 }, { name := "G", type := 27, offset := 1, embedded := false, tag := "", pkgPath := "", byteOffset := 24 }]), (.pair (.sl (.pair (.arr 4 (.int .u64)) (.int .i64))) (.arr 4 (.int .u64))), 56⟩),
  (30, ⟨(TypeDesc.int IntKind.i64), (.int .i64), 8⟩),
  (34, ⟨(TypeDesc.struct #[{ name := "N", type := 27, offset := 0, embedded := false, tag := "", pkgPath := "", byteOffset := 0 }, { name := "A", type := 3, offset := 4, embedded := false, tag := "", pkgPath := "", byteOffset := 32 }]), (.pair (.arr 4 (.int .u64)) (.int .i64)), 40⟩),
  (44, ⟨(TypeDesc.pointer 80), (.ptr (.pair .str (.pair .str (.int .i64)))), 8⟩),
  (51, ⟨(TypeDesc.struct #[{ name := "K", type := 9, offset := 0, embedded := false, tag := "", pkgPath := "", byteOffset := 0 }, { name := "V", type := 9, offset := 1, embedded := false, tag := "", pkgPath := "", byteOffset := 16 }, { name := "Told", type := 3, offset := 2, embedded := false, tag := "", pkgPath := "", byteOffset := 32 }]), (.pair .str (.pair .str (.int .i64))), 40⟩),
  (68, ⟨(TypeDesc.pointer 103), (.ptr (.pair (.arr 4 (.int .u64)) (.pair (.int .u64) (.pair (.arr 4 (.int .u64)) (.arr 4 (.int .u64)))))), 8⟩),
  (80, ⟨(TypeDesc.struct #[{ name := "k", type := 9, offset := 0, embedded := false, tag := "", pkgPath := "sacristy/drbg", byteOffset := 0 }, { name := "v", type := 9, offset := 1, embedded := false, tag := "", pkgPath := "sacristy/drbg", byteOffset := 16 }, { name := "told", type := 3, offset := 2, embedded := false, tag := "", pkgPath := "sacristy/drbg", byteOffset := 32 }]), (.pair .str (.pair .str (.int .i64))), 40⟩),
  (84, ⟨(TypeDesc.pointer 134), (.ptr (.pair (.pair (.ptr (.pair (.arr 4 (.int .u64)) (.pair (.int .u64) (.pair (.arr 4 (.int .u64)) (.arr 4 (.int .u64)))))) (.ptr (.pair (.arr 4 (.int .u64)) (.pair (.int .u64) (.pair (.arr 4 (.int .u64)) (.arr 4 (.int .u64))))))) (.arr 4 (.int .u64)))), 8⟩),
  (91, ⟨(TypeDesc.array 256 4), (.arr 256 .bool), 256⟩),
  (103, ⟨(TypeDesc.struct #[{ name := "m", type := 27, offset := 0, embedded := false, tag := "", pkgPath := "sacristy/mont", byteOffset := 0 }, { name := "inv", type := 25, offset := 4, embedded := false, tag := "", pkgPath := "sacristy/mont", byteOffset := 32 }, { name := "one", type := 27, offset := 5, embedded := false, tag := "", pkgPath := "sacristy/mont", byteOffset := 40 }, { name := "square", type := 27, offset := 9, embedded := false, tag := "", pkgPath := "sacristy/mont", byteOffset := 72 }]), (.pair (.arr 4 (.int .u64)) (.pair (.int .u64) (.pair (.arr 4 (.int .u64)) (.arr 4 (.int .u64))))), 104⟩),
  (106, ⟨(TypeDesc.slice 27), (.sl (.arr 4 (.int .u64))), 24⟩),
  (108, ⟨(TypeDesc.array 8 25), (.arr 8 (.int .u64)), 64⟩),
  (111, ⟨(TypeDesc.slice 25), (.sl (.int .u64)), 24⟩),
  (112, ⟨(TypeDesc.int IntKind.u64), (.int .u64), 8⟩),
  (116, ⟨(TypeDesc.pointer 119), (.sp 119), 8⟩),
  (117, ⟨(TypeDesc.slice 5), (.sl (.int .u8)), 24⟩),
  (119, ⟨(TypeDesc.struct #[{ name := "addr", type := 116, offset := 0, embedded := false, tag := "", pkgPath := "strings", byteOffset := 0 }, { name := "buf", type := 117, offset := 1, embedded := false, tag := "", pkgPath := "strings", byteOffset := 8 }]), (.pair (.sp 119) (.sl (.int .u8))), 32⟩),
  (132, ⟨(TypeDesc.struct #[{ name := "ring", type := 68, offset := 0, embedded := false, tag := "", pkgPath := "sacristy/group", byteOffset := 0 }, { name := "field", type := 68, offset := 1, embedded := false, tag := "", pkgPath := "sacristy/group", byteOffset := 8 }]), (.pair (.ptr (.pair (.arr 4 (.int .u64)) (.pair (.int .u64) (.pair (.arr 4 (.int .u64)) (.arr 4 (.int .u64)))))) (.ptr (.pair (.arr 4 (.int .u64)) (.pair (.int .u64) (.pair (.arr 4 (.int .u64)) (.arr 4 (.int .u64))))))), 16⟩),
  (134, ⟨(TypeDesc.struct #[{ name := "rings", type := 132, offset := 0, embedded := true, tag := "", pkgPath := "sacristy/group", byteOffset := 0 }, { name := "g", type := 27, offset := 2, embedded := false, tag := "", pkgPath := "sacristy/group", byteOffset := 16 }]), (.pair (.pair (.ptr (.pair (.arr 4 (.int .u64)) (.pair (.int .u64) (.pair (.arr 4 (.int .u64)) (.arr 4 (.int .u64)))))) (.ptr (.pair (.arr 4 (.int .u64)) (.pair (.int .u64) (.pair (.arr 4 (.int .u64)) (.arr 4 (.int .u64))))))) (.arr 4 (.int .u64))), 48⟩),
  (138, ⟨(TypeDesc.array 32 3), (.arr 32 (.int .i64)), 256⟩),
  (145, ⟨(TypeDesc.slice 146), (.sl (.arr 16 (.arr 4 (.int .u64)))), 24⟩),
  (146, ⟨(TypeDesc.array 16 27), (.arr 16 (.arr 4 (.int .u64))), 512⟩),
  (148, ⟨(TypeDesc.int IntKind.u32), (.int .u32), 4⟩),
  (151, ⟨(TypeDesc.pointer 5), (.ptr (.int .u8)), 8⟩),
  (152, ⟨(TypeDesc.slice 9), (.sl .str), 24⟩),
  (155, ⟨(TypeDesc.array 8 3), (.arr 8 (.int .i64)), 64⟩),
  (163, ⟨(TypeDesc.array 6 25), (.arr 6 (.int .u64)), 48⟩),
  (168, ⟨(TypeDesc.pointer 178), (.ptr (.pair .bool (.pair (.arr 8 (.int .u32)) (.pair (.arr 64 (.int .u8)) (.int .i64))))), 8⟩),
  (170, ⟨(TypeDesc.array 64 3), (.arr 64 (.int .i64)), 512⟩),
  (174, ⟨(TypeDesc.array 8 148), (.arr 8 (.int .u32)), 32⟩),
  (176, ⟨(TypeDesc.array 64 5), (.arr 64 (.int .u8)), 64⟩),
  (178, ⟨(TypeDesc.struct #[{ name := "given", type := 4, offset := 0, embedded := false, tag := "", pkgPath := "sacristy/sha", byteOffset := 0 }, { name := "words", type := 174, offset := 1, embedded := false, tag := "", pkgPath := "sacristy/sha", byteOffset := 4 }, { name := "rest", type := 176, offset := 9, embedded := false, tag := "", pkgPath := "sacristy/sha", byteOffset := 36 }, { name := "n", type := 3, offset := 73, embedded := false, tag := "", pkgPath := "sacristy/sha", byteOffset := 104 }]), (.pair .bool (.pair (.arr 8 (.int .u32)) (.pair (.arr 64 (.int .u8)) (.int .i64)))), 112⟩),
  (180, ⟨(TypeDesc.array 8 5), (.arr 8 (.int .u8)), 8⟩),
  (181, ⟨(TypeDesc.array 64 148), (.arr 64 (.int .u32)), 256⟩),
  (185, ⟨(TypeDesc.slice 148), (.sl (.int .u32)), 24⟩)]
theorem ti3 : TI1 Tryz.prog ti (3, ⟨(TypeDesc.int IntKind.i64), (.int .i64), 8⟩) where
  under := Tryz.underlying3
  info := by kernel_rfl
  zero := by kernel_rfl
  shape := rfl
  head := by intro _ h; cases h
  eq := fun h => absurd h (by decide)
theorem ti4 : TI1 Tryz.prog ti (4, ⟨TypeDesc.bool, .bool, 1⟩) where
  under := Tryz.underlying4
  info := by kernel_rfl
  zero := by kernel_rfl
  shape := rfl
  head := by intro _ h; cases h
  eq := fun h => absurd h (by decide)
theorem ti5 : TI1 Tryz.prog ti (5, ⟨(TypeDesc.int IntKind.u8), (.int .u8), 1⟩) where
  under := Tryz.underlying5
  info := by kernel_rfl
  zero := by kernel_rfl
  shape := rfl
  head := by intro _ h; cases h
  eq := fun h => absurd h (by decide)
theorem ti9 : TI1 Tryz.prog ti (9, ⟨TypeDesc.string, .str, 16⟩) where
  under := Tryz.underlying9
  info := by kernel_rfl
  zero := by kernel_rfl
  shape := rfl
  head := by intro _ h; cases h
  eq := fun h => absurd h (by decide)
theorem ti22 : TI1 Tryz.prog ti (22, ⟨(TypeDesc.slice 3), (.sl (.int .i64)), 24⟩) where
  under := Tryz.underlying22
  info := by kernel_rfl
  zero := by kernel_rfl
  shape := ⟨_, rfl, rfl, by decide⟩
  head := by intro _ h; cases h
  eq := fun h => absurd h (by decide)
theorem ti24 : TI1 Tryz.prog ti (24, ⟨(TypeDesc.slice 34), (.sl (.pair (.arr 4 (.int .u64)) (.int .i64))), 24⟩) where
  under := Tryz.underlying24
  info := by kernel_rfl
  zero := by kernel_rfl
  shape := ⟨_, rfl, rfl, by decide⟩
  head := by intro _ h; cases h
  eq := fun h => absurd h (by decide)
theorem ti25 : TI1 Tryz.prog ti (25, ⟨(TypeDesc.int IntKind.u64), (.int .u64), 8⟩) where
  under := Tryz.underlying25
  info := by kernel_rfl
  zero := by kernel_rfl
  shape := rfl
  head := by intro _ h; cases h
  eq := fun h => absurd h (by decide)
theorem ti27 : TI1 Tryz.prog ti (27, ⟨(TypeDesc.array 4 25), (.arr 4 (.int .u64)), 32⟩) where
  under := Tryz.underlying27
  info := by kernel_rfl
  zero := by kernel_rfl
  shape := ⟨_, rfl, rfl, by decide, by decide⟩
  head := by intro _ h; cases h
  eq := fun _ _ => ⟨by kernel_rfl, by kernel_rfl, (by intro fs h; cases h <;> decide), by decide⟩
theorem ti29 : TI1 Tryz.prog ti (29, ⟨(TypeDesc.struct #[{ name := "Chain", type := 24, offset := 0, embedded := false, tag := "", pkgPath := "", byteOffset := 0 }, { name := "G", type := 27, offset := 1, embedded := false, tag := "", pkgPath := "", byteOffset := 24 }]), (.pair (.sl (.pair (.arr 4 (.int .u64)) (.int .i64))) (.arr 4 (.int .u64))), 56⟩) where
  under := Tryz.underlying29
  info := by kernel_rfl
  zero := by kernel_rfl
  shape := ⟨rfl, ⟨rfl, by decide, ⟨_, rfl, rfl, by decide⟩, ⟨rfl, by decide, _, rfl, rfl, by decide⟩⟩⟩
  head := by intro _ h; cases h
  eq := fun _ h => absurd h (by decide)
theorem ti30 : TI1 Tryz.prog ti (30, ⟨(TypeDesc.int IntKind.i64), (.int .i64), 8⟩) where
  under := Tryz.underlying30
  info := by kernel_rfl
  zero := by kernel_rfl
  shape := rfl
  head := by intro _ h; cases h
  eq := fun h => absurd h (by decide)
theorem ti34 : TI1 Tryz.prog ti (34, ⟨(TypeDesc.struct #[{ name := "N", type := 27, offset := 0, embedded := false, tag := "", pkgPath := "", byteOffset := 0 }, { name := "A", type := 3, offset := 4, embedded := false, tag := "", pkgPath := "", byteOffset := 32 }]), (.pair (.arr 4 (.int .u64)) (.int .i64)), 40⟩) where
  under := Tryz.underlying34
  info := by kernel_rfl
  zero := by kernel_rfl
  shape := ⟨rfl, ⟨rfl, by decide, ⟨_, rfl, rfl, by decide⟩, ⟨rfl, by decide, _, rfl, rfl, by decide⟩⟩⟩
  head := by intro _ h; cases h
  eq := fun _ _ => ⟨by kernel_rfl, by kernel_rfl, (by intro fs h; cases h <;> decide), by decide⟩
theorem ti44 : TI1 Tryz.prog ti (44, ⟨(TypeDesc.pointer 80), (.ptr (.pair .str (.pair .str (.int .i64)))), 8⟩) where
  under := Tryz.underlying44
  info := by kernel_rfl
  zero := by kernel_rfl
  shape := .inl ⟨_, rfl⟩
  head := by intro _ h; cases h
  eq := fun h => absurd h (by decide)
theorem ti51 : TI1 Tryz.prog ti (51, ⟨(TypeDesc.struct #[{ name := "K", type := 9, offset := 0, embedded := false, tag := "", pkgPath := "", byteOffset := 0 }, { name := "V", type := 9, offset := 1, embedded := false, tag := "", pkgPath := "", byteOffset := 16 }, { name := "Told", type := 3, offset := 2, embedded := false, tag := "", pkgPath := "", byteOffset := 32 }]), (.pair .str (.pair .str (.int .i64))), 40⟩) where
  under := Tryz.underlying51
  info := by kernel_rfl
  zero := by kernel_rfl
  shape := ⟨rfl, ⟨rfl, by decide, ⟨_, rfl, rfl, by decide⟩, ⟨rfl, by decide, ⟨_, rfl, rfl, by decide⟩, ⟨rfl, by decide, _, rfl, rfl, by decide⟩⟩⟩⟩
  head := by intro _ h; cases h
  eq := fun _ _ => ⟨by kernel_rfl, by kernel_rfl, (by intro fs h; cases h <;> decide), by decide⟩
theorem ti68 : TI1 Tryz.prog ti (68, ⟨(TypeDesc.pointer 103), (.ptr (.pair (.arr 4 (.int .u64)) (.pair (.int .u64) (.pair (.arr 4 (.int .u64)) (.arr 4 (.int .u64)))))), 8⟩) where
  under := Tryz.underlying68
  info := by kernel_rfl
  zero := by kernel_rfl
  shape := .inl ⟨_, rfl⟩
  head := by intro _ h; cases h
  eq := fun h => absurd h (by decide)
theorem ti80 : TI1 Tryz.prog ti (80, ⟨(TypeDesc.struct #[{ name := "k", type := 9, offset := 0, embedded := false, tag := "", pkgPath := "sacristy/drbg", byteOffset := 0 }, { name := "v", type := 9, offset := 1, embedded := false, tag := "", pkgPath := "sacristy/drbg", byteOffset := 16 }, { name := "told", type := 3, offset := 2, embedded := false, tag := "", pkgPath := "sacristy/drbg", byteOffset := 32 }]), (.pair .str (.pair .str (.int .i64))), 40⟩) where
  under := Tryz.underlying80
  info := by kernel_rfl
  zero := by kernel_rfl
  shape := ⟨rfl, ⟨rfl, by decide, ⟨_, rfl, rfl, by decide⟩, ⟨rfl, by decide, ⟨_, rfl, rfl, by decide⟩, ⟨rfl, by decide, _, rfl, rfl, by decide⟩⟩⟩⟩
  head := by intro _ h; cases h
  eq := fun _ _ => ⟨by kernel_rfl, by kernel_rfl, (by intro fs h; cases h <;> decide), by decide⟩
theorem ti84 : TI1 Tryz.prog ti (84, ⟨(TypeDesc.pointer 134), (.ptr (.pair (.pair (.ptr (.pair (.arr 4 (.int .u64)) (.pair (.int .u64) (.pair (.arr 4 (.int .u64)) (.arr 4 (.int .u64)))))) (.ptr (.pair (.arr 4 (.int .u64)) (.pair (.int .u64) (.pair (.arr 4 (.int .u64)) (.arr 4 (.int .u64))))))) (.arr 4 (.int .u64)))), 8⟩) where
  under := Tryz.underlying84
  info := by kernel_rfl
  zero := by kernel_rfl
  shape := .inl ⟨_, rfl⟩
  head := by intro _ h; cases h
  eq := fun h => absurd h (by decide)
theorem ti91 : TI1 Tryz.prog ti (91, ⟨(TypeDesc.array 256 4), (.arr 256 .bool), 256⟩) where
  under := Tryz.underlying91
  info := by kernel_rfl
  zero := by kernel_rfl
  shape := ⟨_, rfl, rfl, by decide, by decide⟩
  head := by intro _ h; cases h
  eq := fun _ _ => ⟨by kernel_rfl, by kernel_rfl, (by intro fs h; cases h <;> decide), by decide⟩
theorem ti103 : TI1 Tryz.prog ti (103, ⟨(TypeDesc.struct #[{ name := "m", type := 27, offset := 0, embedded := false, tag := "", pkgPath := "sacristy/mont", byteOffset := 0 }, { name := "inv", type := 25, offset := 4, embedded := false, tag := "", pkgPath := "sacristy/mont", byteOffset := 32 }, { name := "one", type := 27, offset := 5, embedded := false, tag := "", pkgPath := "sacristy/mont", byteOffset := 40 }, { name := "square", type := 27, offset := 9, embedded := false, tag := "", pkgPath := "sacristy/mont", byteOffset := 72 }]), (.pair (.arr 4 (.int .u64)) (.pair (.int .u64) (.pair (.arr 4 (.int .u64)) (.arr 4 (.int .u64))))), 104⟩) where
  under := Tryz.underlying103
  info := by kernel_rfl
  zero := by kernel_rfl
  shape := ⟨rfl, ⟨rfl, by decide, ⟨_, rfl, rfl, by decide⟩, ⟨rfl, by decide, ⟨_, rfl, rfl, by decide⟩, ⟨rfl, by decide, ⟨_, rfl, rfl, by decide⟩, ⟨rfl, by decide, _, rfl, rfl, by decide⟩⟩⟩⟩⟩
  head := by intro _ h; cases h
  eq := fun _ _ => ⟨by kernel_rfl, by kernel_rfl, (by intro fs h; cases h <;> decide), by decide⟩
theorem ti106 : TI1 Tryz.prog ti (106, ⟨(TypeDesc.slice 27), (.sl (.arr 4 (.int .u64))), 24⟩) where
  under := Tryz.underlying106
  info := by kernel_rfl
  zero := by kernel_rfl
  shape := ⟨_, rfl, rfl, by decide⟩
  head := by intro _ h; cases h
  eq := fun h => absurd h (by decide)
theorem ti108 : TI1 Tryz.prog ti (108, ⟨(TypeDesc.array 8 25), (.arr 8 (.int .u64)), 64⟩) where
  under := Tryz.underlying108
  info := by kernel_rfl
  zero := by kernel_rfl
  shape := ⟨_, rfl, rfl, by decide, by decide⟩
  head := by intro _ h; cases h
  eq := fun _ _ => ⟨by kernel_rfl, by kernel_rfl, (by intro fs h; cases h <;> decide), by decide⟩
theorem ti111 : TI1 Tryz.prog ti (111, ⟨(TypeDesc.slice 25), (.sl (.int .u64)), 24⟩) where
  under := Tryz.underlying111
  info := by kernel_rfl
  zero := by kernel_rfl
  shape := ⟨_, rfl, rfl, by decide⟩
  head := by intro _ h; cases h
  eq := fun h => absurd h (by decide)
theorem ti112 : TI1 Tryz.prog ti (112, ⟨(TypeDesc.int IntKind.u64), (.int .u64), 8⟩) where
  under := Tryz.underlying112
  info := by kernel_rfl
  zero := by kernel_rfl
  shape := rfl
  head := by intro _ h; cases h
  eq := fun h => absurd h (by decide)
theorem ti116 : TI1 Tryz.prog ti (116, ⟨(TypeDesc.pointer 119), (.sp 119), 8⟩) where
  under := Tryz.underlying116
  info := by kernel_rfl
  zero := by kernel_rfl
  shape := .inr ⟨_, rfl⟩
  head := by intro _ h; cases h
  eq := fun h => absurd h (by decide)
theorem ti117 : TI1 Tryz.prog ti (117, ⟨(TypeDesc.slice 5), (.sl (.int .u8)), 24⟩) where
  under := Tryz.underlying117
  info := by kernel_rfl
  zero := by kernel_rfl
  shape := ⟨_, rfl, rfl, by decide⟩
  head := by intro _ h; cases h
  eq := fun h => absurd h (by decide)
theorem ti119 : TI1 Tryz.prog ti (119, ⟨(TypeDesc.struct #[{ name := "addr", type := 116, offset := 0, embedded := false, tag := "", pkgPath := "strings", byteOffset := 0 }, { name := "buf", type := 117, offset := 1, embedded := false, tag := "", pkgPath := "strings", byteOffset := 8 }]), (.pair (.sp 119) (.sl (.int .u8))), 32⟩) where
  under := Tryz.underlying119
  info := by kernel_rfl
  zero := by kernel_rfl
  shape := ⟨rfl, ⟨rfl, by decide, ⟨_, rfl, rfl, by decide⟩, ⟨rfl, by decide, _, rfl, rfl, by decide⟩⟩⟩
  head := by intro _ h; cases h; rfl
  eq := fun _ h => absurd h (by decide)
theorem ti132 : TI1 Tryz.prog ti (132, ⟨(TypeDesc.struct #[{ name := "ring", type := 68, offset := 0, embedded := false, tag := "", pkgPath := "sacristy/group", byteOffset := 0 }, { name := "field", type := 68, offset := 1, embedded := false, tag := "", pkgPath := "sacristy/group", byteOffset := 8 }]), (.pair (.ptr (.pair (.arr 4 (.int .u64)) (.pair (.int .u64) (.pair (.arr 4 (.int .u64)) (.arr 4 (.int .u64)))))) (.ptr (.pair (.arr 4 (.int .u64)) (.pair (.int .u64) (.pair (.arr 4 (.int .u64)) (.arr 4 (.int .u64))))))), 16⟩) where
  under := Tryz.underlying132
  info := by kernel_rfl
  zero := by kernel_rfl
  shape := ⟨rfl, ⟨rfl, by decide, ⟨_, rfl, rfl, by decide⟩, ⟨rfl, by decide, _, rfl, rfl, by decide⟩⟩⟩
  head := by intro _ h; cases h
  eq := fun _ h => absurd h (by decide)
theorem ti134 : TI1 Tryz.prog ti (134, ⟨(TypeDesc.struct #[{ name := "rings", type := 132, offset := 0, embedded := true, tag := "", pkgPath := "sacristy/group", byteOffset := 0 }, { name := "g", type := 27, offset := 2, embedded := false, tag := "", pkgPath := "sacristy/group", byteOffset := 16 }]), (.pair (.pair (.ptr (.pair (.arr 4 (.int .u64)) (.pair (.int .u64) (.pair (.arr 4 (.int .u64)) (.arr 4 (.int .u64)))))) (.ptr (.pair (.arr 4 (.int .u64)) (.pair (.int .u64) (.pair (.arr 4 (.int .u64)) (.arr 4 (.int .u64))))))) (.arr 4 (.int .u64))), 48⟩) where
  under := Tryz.underlying134
  info := by kernel_rfl
  zero := by kernel_rfl
  shape := ⟨rfl, ⟨rfl, by decide, ⟨_, rfl, rfl, by decide⟩, ⟨rfl, by decide, _, rfl, rfl, by decide⟩⟩⟩
  head := by intro _ h; cases h
  eq := fun _ h => absurd h (by decide)
theorem ti138 : TI1 Tryz.prog ti (138, ⟨(TypeDesc.array 32 3), (.arr 32 (.int .i64)), 256⟩) where
  under := Tryz.underlying138
  info := by kernel_rfl
  zero := by kernel_rfl
  shape := ⟨_, rfl, rfl, by decide, by decide⟩
  head := by intro _ h; cases h
  eq := fun _ _ => ⟨by kernel_rfl, by kernel_rfl, (by intro fs h; cases h <;> decide), by decide⟩
theorem ti145 : TI1 Tryz.prog ti (145, ⟨(TypeDesc.slice 146), (.sl (.arr 16 (.arr 4 (.int .u64)))), 24⟩) where
  under := Tryz.underlying145
  info := by kernel_rfl
  zero := by kernel_rfl
  shape := ⟨_, rfl, rfl, by decide⟩
  head := by intro _ h; cases h
  eq := fun h => absurd h (by decide)
theorem ti146 : TI1 Tryz.prog ti (146, ⟨(TypeDesc.array 16 27), (.arr 16 (.arr 4 (.int .u64))), 512⟩) where
  under := Tryz.underlying146
  info := by kernel_rfl
  zero := by kernel_rfl
  shape := ⟨_, rfl, rfl, by decide, by decide⟩
  head := by intro _ h; cases h
  eq := fun _ _ => ⟨by kernel_rfl, by kernel_rfl, (by intro fs h; cases h <;> decide), by decide⟩
theorem ti148 : TI1 Tryz.prog ti (148, ⟨(TypeDesc.int IntKind.u32), (.int .u32), 4⟩) where
  under := Tryz.underlying148
  info := by kernel_rfl
  zero := by kernel_rfl
  shape := rfl
  head := by intro _ h; cases h
  eq := fun h => absurd h (by decide)
theorem ti151 : TI1 Tryz.prog ti (151, ⟨(TypeDesc.pointer 5), (.ptr (.int .u8)), 8⟩) where
  under := Tryz.underlying151
  info := by kernel_rfl
  zero := by kernel_rfl
  shape := .inl ⟨_, rfl⟩
  head := by intro _ h; cases h
  eq := fun h => absurd h (by decide)
theorem ti152 : TI1 Tryz.prog ti (152, ⟨(TypeDesc.slice 9), (.sl .str), 24⟩) where
  under := Tryz.underlying152
  info := by kernel_rfl
  zero := by kernel_rfl
  shape := ⟨_, rfl, rfl, by decide⟩
  head := by intro _ h; cases h
  eq := fun h => absurd h (by decide)
theorem ti155 : TI1 Tryz.prog ti (155, ⟨(TypeDesc.array 8 3), (.arr 8 (.int .i64)), 64⟩) where
  under := Tryz.underlying155
  info := by kernel_rfl
  zero := by kernel_rfl
  shape := ⟨_, rfl, rfl, by decide, by decide⟩
  head := by intro _ h; cases h
  eq := fun _ _ => ⟨by kernel_rfl, by kernel_rfl, (by intro fs h; cases h <;> decide), by decide⟩
theorem ti163 : TI1 Tryz.prog ti (163, ⟨(TypeDesc.array 6 25), (.arr 6 (.int .u64)), 48⟩) where
  under := Tryz.underlying163
  info := by kernel_rfl
  zero := by kernel_rfl
  shape := ⟨_, rfl, rfl, by decide, by decide⟩
  head := by intro _ h; cases h
  eq := fun _ _ => ⟨by kernel_rfl, by kernel_rfl, (by intro fs h; cases h <;> decide), by decide⟩
theorem ti168 : TI1 Tryz.prog ti (168, ⟨(TypeDesc.pointer 178), (.ptr (.pair .bool (.pair (.arr 8 (.int .u32)) (.pair (.arr 64 (.int .u8)) (.int .i64))))), 8⟩) where
  under := Tryz.underlying168
  info := by kernel_rfl
  zero := by kernel_rfl
  shape := .inl ⟨_, rfl⟩
  head := by intro _ h; cases h
  eq := fun h => absurd h (by decide)
theorem ti170 : TI1 Tryz.prog ti (170, ⟨(TypeDesc.array 64 3), (.arr 64 (.int .i64)), 512⟩) where
  under := Tryz.underlying170
  info := by kernel_rfl
  zero := by kernel_rfl
  shape := ⟨_, rfl, rfl, by decide, by decide⟩
  head := by intro _ h; cases h
  eq := fun _ _ => ⟨by kernel_rfl, by kernel_rfl, (by intro fs h; cases h <;> decide), by decide⟩
theorem ti174 : TI1 Tryz.prog ti (174, ⟨(TypeDesc.array 8 148), (.arr 8 (.int .u32)), 32⟩) where
  under := Tryz.underlying174
  info := by kernel_rfl
  zero := by kernel_rfl
  shape := ⟨_, rfl, rfl, by decide, by decide⟩
  head := by intro _ h; cases h
  eq := fun _ _ => ⟨by kernel_rfl, by kernel_rfl, (by intro fs h; cases h <;> decide), by decide⟩
theorem ti176 : TI1 Tryz.prog ti (176, ⟨(TypeDesc.array 64 5), (.arr 64 (.int .u8)), 64⟩) where
  under := Tryz.underlying176
  info := by kernel_rfl
  zero := by kernel_rfl
  shape := ⟨_, rfl, rfl, by decide, by decide⟩
  head := by intro _ h; cases h
  eq := fun _ _ => ⟨by kernel_rfl, by kernel_rfl, (by intro fs h; cases h <;> decide), by decide⟩
theorem ti178 : TI1 Tryz.prog ti (178, ⟨(TypeDesc.struct #[{ name := "given", type := 4, offset := 0, embedded := false, tag := "", pkgPath := "sacristy/sha", byteOffset := 0 }, { name := "words", type := 174, offset := 1, embedded := false, tag := "", pkgPath := "sacristy/sha", byteOffset := 4 }, { name := "rest", type := 176, offset := 9, embedded := false, tag := "", pkgPath := "sacristy/sha", byteOffset := 36 }, { name := "n", type := 3, offset := 73, embedded := false, tag := "", pkgPath := "sacristy/sha", byteOffset := 104 }]), (.pair .bool (.pair (.arr 8 (.int .u32)) (.pair (.arr 64 (.int .u8)) (.int .i64)))), 112⟩) where
  under := Tryz.underlying178
  info := by kernel_rfl
  zero := by kernel_rfl
  shape := ⟨rfl, ⟨rfl, by decide, ⟨_, rfl, rfl, by decide⟩, ⟨rfl, by decide, ⟨_, rfl, rfl, by decide⟩, ⟨rfl, by decide, ⟨_, rfl, rfl, by decide⟩, ⟨rfl, by decide, _, rfl, rfl, by decide⟩⟩⟩⟩⟩
  head := by intro _ h; cases h
  eq := fun _ _ => ⟨by kernel_rfl, by kernel_rfl, (by intro fs h; cases h <;> decide), by decide⟩
theorem ti180 : TI1 Tryz.prog ti (180, ⟨(TypeDesc.array 8 5), (.arr 8 (.int .u8)), 8⟩) where
  under := Tryz.underlying180
  info := by kernel_rfl
  zero := by kernel_rfl
  shape := ⟨_, rfl, rfl, by decide, by decide⟩
  head := by intro _ h; cases h
  eq := fun _ _ => ⟨by kernel_rfl, by kernel_rfl, (by intro fs h; cases h <;> decide), by decide⟩
theorem ti181 : TI1 Tryz.prog ti (181, ⟨(TypeDesc.array 64 148), (.arr 64 (.int .u32)), 256⟩) where
  under := Tryz.underlying181
  info := by kernel_rfl
  zero := by kernel_rfl
  shape := ⟨_, rfl, rfl, by decide, by decide⟩
  head := by intro _ h; cases h
  eq := fun _ _ => ⟨by kernel_rfl, by kernel_rfl, (by intro fs h; cases h <;> decide), by decide⟩
theorem ti185 : TI1 Tryz.prog ti (185, ⟨(TypeDesc.slice 148), (.sl (.int .u32)), 24⟩) where
  under := Tryz.underlying185
  info := by kernel_rfl
  zero := by kernel_rfl
  shape := ⟨_, rfl, rfl, by decide⟩
  head := by intro _ h; cases h
  eq := fun h => absurd h (by decide)
theorem ti_ok : TIok Tryz.prog ti := TIok.of (List.forall_mem_cons.2 ⟨ti3, List.forall_mem_cons.2 ⟨ti4, List.forall_mem_cons.2 ⟨ti5, List.forall_mem_cons.2 ⟨ti9, List.forall_mem_cons.2 ⟨ti22, List.forall_mem_cons.2 ⟨ti24, List.forall_mem_cons.2 ⟨ti25, List.forall_mem_cons.2 ⟨ti27, List.forall_mem_cons.2 ⟨ti29, List.forall_mem_cons.2 ⟨ti30, List.forall_mem_cons.2 ⟨ti34, List.forall_mem_cons.2 ⟨ti44, List.forall_mem_cons.2 ⟨ti51, List.forall_mem_cons.2 ⟨ti68, List.forall_mem_cons.2 ⟨ti80, List.forall_mem_cons.2 ⟨ti84, List.forall_mem_cons.2 ⟨ti91, List.forall_mem_cons.2 ⟨ti103, List.forall_mem_cons.2 ⟨ti106, List.forall_mem_cons.2 ⟨ti108, List.forall_mem_cons.2 ⟨ti111, List.forall_mem_cons.2 ⟨ti112, List.forall_mem_cons.2 ⟨ti116, List.forall_mem_cons.2 ⟨ti117, List.forall_mem_cons.2 ⟨ti119, List.forall_mem_cons.2 ⟨ti132, List.forall_mem_cons.2 ⟨ti134, List.forall_mem_cons.2 ⟨ti138, List.forall_mem_cons.2 ⟨ti145, List.forall_mem_cons.2 ⟨ti146, List.forall_mem_cons.2 ⟨ti148, List.forall_mem_cons.2 ⟨ti151, List.forall_mem_cons.2 ⟨ti152, List.forall_mem_cons.2 ⟨ti155, List.forall_mem_cons.2 ⟨ti163, List.forall_mem_cons.2 ⟨ti168, List.forall_mem_cons.2 ⟨ti170, List.forall_mem_cons.2 ⟨ti174, List.forall_mem_cons.2 ⟨ti176, List.forall_mem_cons.2 ⟨ti178, List.forall_mem_cons.2 ⟨ti180, List.forall_mem_cons.2 ⟨ti181, List.forall_mem_cons.2 ⟨ti185, List.forall_mem_nil _⟩⟩⟩⟩⟩⟩⟩⟩⟩⟩⟩⟩⟩⟩⟩⟩⟩⟩⟩⟩⟩⟩⟩⟩⟩⟩⟩⟩⟩⟩⟩⟩⟩⟩⟩⟩⟩⟩⟩⟩⟩⟩⟩)
theorem mixed : Tryz.prog.follows .mixedOrders = true := by kernel_rfl
noncomputable def c_add64 : Con := conV false [u64, u64, u64] [u64, u64] fun x => add64 x.1 x.2.1 x.2.2.1
theorem con_add64 : ConOk Tryz.prog 68 c_add64 := add64_ok Tryz.func68 (by kernel_rfl) (by kernel_rfl) (by kernel_rfl) (by kernel_rfl)
noncomputable def c_sub64 : Con := conV false [u64, u64, u64] [u64, u64] fun x => sub64 x.1 x.2.1 x.2.2.1
theorem con_sub64 : ConOk Tryz.prog 74 c_sub64 := sub64_ok Tryz.func74 (by kernel_rfl) (by kernel_rfl) (by kernel_rfl) (by kernel_rfl)
end Go.Proofs.YtkhhonbkgckjjaaGreat

namespace Go.Proofs.YtkhhonbkgckjjaaGreat
noncomputable def c00_ : Con := conV true [tU] [tI] fun x => bits_Len64 x.1
noncomputable def x00_ : Cx := { ti := ti, con := [], fns := [], un := 6 }
theorem xok00_ : CxOk Tryz.prog x00_ := CxOk.of mixed ti_ok fz fz
theorem fn00_ : FnOk Tryz.prog 67 Tryz.f67 [] := ⟨Tryz.func67, Tryz.call67, lps_nil⟩
theorem e00_ (x : Int) : bodyK x00_ [] (denF x00_ 8) Tryz.f67 (domV [tU] (x, ())) [] 0 (kOut [tI]) = bits_Len64' x := by kernel_rfl
theorem con00_ : ConOk Tryz.prog 67 c00_ := con_ok xok00_ 8 fn00_ true [tU] [tI] _ (by decide) (fun x => by rw [bits_Len64_eq]; exact e00_ x.1)
noncomputable def c01_ : Con := conV true [tU] [tI] fun x => bits_LeadingZeros64 x.1
noncomputable def x01_ : Cx := { ti := ti, con := [(67, c00_)], fns := [], un := 6 }
theorem xok01_ : CxOk Tryz.prog x01_ := CxOk.of mixed ti_ok (fc ⟨con00_, fz⟩) fz
theorem fn01_ : FnOk Tryz.prog 141 Tryz.f141 [] := ⟨Tryz.func141, Tryz.call141, lps_nil⟩
theorem e01_ (x : Int) : bodyK x01_ [] (denF x01_ 8) Tryz.f141 (domV [tU] (x, ())) [] 0 (kOut [tI]) = bits_LeadingZeros64' x := by kernel_rfl
theorem con01_ : ConOk Tryz.prog 141 c01_ := con_ok xok01_ 8 fn01_ true [tU] [tI] _ (by decide) (fun x => by rw [bits_LeadingZeros64_eq]; exact e01_ x.1)
abbrev S02_0 : Shape := { sl := [(pv 2 tU), (pv 8 tU), (pv 9 tU), (pv 10 tU), (pv 11 tU), (pv 13 tU), (pv 14 tU), (pv 15 tU), (pv 16 tU)], ob := [], lo := 0, nx := 0 }
abbrev E02_0 : List Ex := [(.normal, { sl := [(pv 2 tU), (pv 8 tU), (pv 9 tU), (pv 10 tU), (pv 11 tU), (pv 13 tU), (pv 14 tU), (pv 15 tU)], ob := [], lo := 0, nx := 0 })]
noncomputable def L02_0 : Code := loopIn (bodyOf Tryz.f129) 0
noncomputable def P02_0 : Lp := lpOf S02_0 E02_0 135 R_bits_Div64_0
abbrev S02_2 : Shape := { sl := [(pv 2 tU), (pv 8 tU), (pv 9 tU), (pv 10 tU), (pv 14 tU), (pv 15 tU), (pv 16 tU), (pv 17 tU), (pv 18 tU)], ob := [], lo := 0, nx := 0 }
abbrev E02_2 : List Ex := [(.normal, { sl := [(pv 2 tU), (pv 8 tU), (pv 14 tU), (pv 15 tU), (pv 17 tU), (pv 18 tU)], ob := [], lo := 0, nx := 0 })]
noncomputable def L02_2 : Code := loopIn (bodyOf Tryz.f129) 2
noncomputable def P02_2 : Lp := lpOf S02_2 E02_2 135 R_bits_Div64_2
noncomputable def c02_ : Con := conV true [tU, tU, tU] [tU, tU] fun x => bits_Div64 x.1 x.2.1 x.2.2.1
noncomputable def x02_ : Cx := { ti := ti, con := [(141, c01_)], fns := [], un := 6 }
theorem xok02_ : CxOk Tryz.prog x02_ := CxOk.of mixed ti_ok (fc ⟨con01_, fz⟩) fz
theorem r02_0 (x : S02_0.X) : denC x02_ [] (denF x02_ 8) L02_0 (S02_0.mkS 135 x) (kRound 0 S02_0 E02_0) = R_bits_Div64_0 x := by kernel_rfl
theorem l02_0 : LpOk Tryz.prog 0 (.loop L02_0) P02_0 := lpOf_ok xok02_ 8 (lps_nil) S02_0 E02_0 135 R_bits_Div64_0 (by decide) r02_0
theorem r02_2 (x : S02_2.X) : denC x02_ [] (denF x02_ 8) L02_2 (S02_2.mkS 135 x) (kRound 2 S02_2 E02_2) = R_bits_Div64_2 x := by kernel_rfl
theorem l02_2 : LpOk Tryz.prog 2 (.loop L02_2) P02_2 := lpOf_ok xok02_ 8 (lps_nil) S02_2 E02_2 135 R_bits_Div64_2 (by decide) r02_2
theorem fn02_ : FnOk Tryz.prog 129 Tryz.f129 [(0, P02_0), (2, P02_2)] := ⟨Tryz.func129, Tryz.call129, lps_of (by kernel_rfl) (lps_one l02_0 (by kernel_rfl) (lps_one l02_2 (by kernel_rfl) fz))⟩
theorem e02_ (hi : Int) (lo : Int) (y : Int) : bodyK x02_ [(0, P02_0), (2, P02_2)] (denF x02_ 8) Tryz.f129 (domV [tU, tU, tU] (hi, lo, y, ())) [] 0 (kOut [tU, tU]) = bits_Div64' hi lo y := by kernel_rfl
theorem con02_ : ConOk Tryz.prog 129 c02_ := con_ok xok02_ 8 fn02_ true [tU, tU, tU] [tU, tU] _ (by decide) (fun x => by rw [bits_Div64_eq]; exact e02_ x.1 x.2.1 x.2.2.1)
noncomputable def c03_ : Con := conV true [tU, tU] [tU, tU] fun x => bits_Mul64 x.1 x.2.1
noncomputable def x03_ : Cx := { ti := ti, con := [], fns := [], un := 6 }
theorem xok03_ : CxOk Tryz.prog x03_ := CxOk.of mixed ti_ok fz fz
theorem fn03_ : FnOk Tryz.prog 78 Tryz.f78 [] := ⟨Tryz.func78, Tryz.call78, lps_nil⟩
theorem e03_ (x : Int) (y : Int) : bodyK x03_ [] (denF x03_ 8) Tryz.f78 (domV [tU, tU] (x, y, ())) [] 0 (kOut [tU, tU]) = bits_Mul64' x y := by kernel_rfl
theorem con03_ : ConOk Tryz.prog 78 c03_ := con_ok xok03_ 8 fn03_ true [tU, tU] [tU, tU] _ (by decide) (fun x => by rw [bits_Mul64_eq]; exact e03_ x.1 x.2.1)
noncomputable def c04_ : Con := conV true [(.int .u32), tI] [(.int .u32)] fun x => bits_RotateLeft32 x.1 x.2.1
noncomputable def x04_ : Cx := { ti := ti, con := [], fns := [], un := 6 }
theorem xok04_ : CxOk Tryz.prog x04_ := CxOk.of mixed ti_ok fz fz
theorem fn04_ : FnOk Tryz.prog 148 Tryz.f148 [] := ⟨Tryz.func148, Tryz.call148, lps_nil⟩
theorem e04_ (x : Int) (k : Int) : bodyK x04_ [] (denF x04_ 8) Tryz.f148 (domV [(.int .u32), tI] (x, k, ())) [] 0 (kOut [(.int .u32)]) = bits_RotateLeft32' x k := by kernel_rfl
theorem con04_ : ConOk Tryz.prog 148 c04_ := con_ok xok04_ 8 fn04_ true [(.int .u32), tI] [(.int .u32)] _ (by decide) (fun x => by rw [bits_RotateLeft32_eq]; exact e04_ x.1 x.2.1)
end Go.Proofs.YtkhhonbkgckjjaaGreat

namespace Go.Proofs.YtkhhonbkgckjjaaGreat
noncomputable def c05_ : Con := conV true [tN] [tI] fun x => nat_Len x.1
noncomputable def x05_ : Cx := { ti := ti, con := [(67, c00_)], fns := [], un := 6 }
theorem xok05_ : CxOk Tryz.prog x05_ := CxOk.of mixed ti_ok (fc ⟨con00_, fz⟩) fz
theorem fn05_ : FnOk Tryz.prog 26 Tryz.f26 [] := ⟨Tryz.func26, Tryz.call26, lps_nil⟩
theorem e05_ (a : NI) : bodyK x05_ [] (denF x05_ 8) Tryz.f26 (domV [tN] (a, ())) [] 0 (kOut [tI]) = nat_Len' a := by kernel_rfl
theorem con05_ : ConOk Tryz.prog 26 c05_ := con_ok xok05_ 8 fn05_ true [tN] [tI] _ (by decide) (fun x => by rw [nat_Len_eq]; exact e05_ x.1)
noncomputable def c06_ : Con := conV true [tI] [tN] fun x => nat_Of x.1
noncomputable def x06_ : Cx := { ti := ti, con := [], fns := [], un := 6 }
theorem xok06_ : CxOk Tryz.prog x06_ := CxOk.of mixed ti_ok fz fz
theorem fn06_ : FnOk Tryz.prog 32 Tryz.f32 [] := ⟨Tryz.func32, Tryz.call32, lps_nil⟩
theorem e06_ (n : Int) : bodyK x06_ [] (denF x06_ 8) Tryz.f32 (domV [tI] (n, ())) [] 0 (kOut [tN]) = nat_Of' n := by kernel_rfl
theorem con06_ : ConOk Tryz.prog 32 c06_ := con_ok xok06_ 8 fn06_ true [tI] [tN] _ (by decide) (fun x => by rw [nat_Of_eq]; exact e06_ x.1)
abbrev S07_0 : Shape := { sl := [(pc 2 tN 0), (pc 4 tN 1), (pc 5 tN 2), (pv 6 tI), (pv 7 tI), (pv 8 tI)], ob := [(pv 0 tN), (pv 1 tN), (pv 2 tN)], lo := 3, nx := 3 }
abbrev E07_0 : List Ex := [(.normal, { sl := [(pc 4 tN 1), (pc 5 tN 2)], ob := [(pv 1 tN), (pv 2 tN)], lo := 3, nx := 3 })]
noncomputable def L07_0 : Code := loopIn (bodyOf Tryz.f69) 0
noncomputable def P07_0 : Lp := lpOf S07_0 E07_0 51 R_nat_Up_0
noncomputable def c07_ : Con := conV true [tN, tI] [tN] fun x => nat_Up x.1 x.2.1
noncomputable def x07_ : Cx := { ti := ti, con := [], fns := [], un := 6 }
theorem xok07_ : CxOk Tryz.prog x07_ := CxOk.of mixed ti_ok fz fz
theorem r07_0 (x : S07_0.X) : denC x07_ [] (denF x07_ 8) L07_0 (S07_0.mkS 51 x) (kRound 0 S07_0 E07_0) = R_nat_Up_0 x := by kernel_rfl
theorem l07_0 : LpOk Tryz.prog 0 (.loop L07_0) P07_0 := lpOf_ok xok07_ 8 (lps_nil) S07_0 E07_0 51 R_nat_Up_0 (by decide) r07_0
theorem fn07_ : FnOk Tryz.prog 69 Tryz.f69 [(0, P07_0)] := ⟨Tryz.func69, Tryz.call69, lps_of (by kernel_rfl) (lps_one l07_0 (by kernel_rfl) fz)⟩
theorem e07_ (a : NI) (k : Int) : bodyK x07_ [(0, P07_0)] (denF x07_ 8) Tryz.f69 (domV [tN, tI] (a, k, ())) [] 0 (kOut [tN]) = nat_Up' a k := by kernel_rfl
theorem con07_ : ConOk Tryz.prog 69 c07_ := con_ok xok07_ 8 fn07_ true [tN, tI] [tN] _ (by decide) (fun x => by rw [nat_Up_eq]; exact e07_ x.1 x.2.1)
noncomputable def c08_ : Con := conV true [tN, tI] [tI] fun x => nat_Bit x.1 x.2.1
noncomputable def x08_ : Cx := { ti := ti, con := [], fns := [], un := 6 }
theorem xok08_ : CxOk Tryz.prog x08_ := CxOk.of mixed ti_ok fz fz
theorem fn08_ : FnOk Tryz.prog 105 Tryz.f105 [] := ⟨Tryz.func105, Tryz.call105, lps_nil⟩
theorem e08_ (a : NI) (k : Int) : bodyK x08_ [] (denF x08_ 8) Tryz.f105 (domV [tN, tI] (a, k, ())) [] 0 (kOut [tI]) = nat_Bit' a k := by kernel_rfl
theorem con08_ : ConOk Tryz.prog 105 c08_ := con_ok xok08_ 8 fn08_ true [tN, tI] [tI] _ (by decide) (fun x => by rw [nat_Bit_eq]; exact e08_ x.1 x.2.1)
noncomputable def c09_ : Con := conV true [tN, tN] [tN, tI] fun x => nat_Sub x.1 x.2.1
noncomputable def x09_ : Cx := { ti := ti, con := [(74, c_sub64)], fns := [], un := 6 }
theorem xok09_ : CxOk Tryz.prog x09_ := CxOk.of mixed ti_ok (fc ⟨con_sub64, fz⟩) fz
theorem fn09_ : FnOk Tryz.prog 35 Tryz.f35 [] := ⟨Tryz.func35, Tryz.call35, lps_nil⟩
theorem e09_ (a : NI) (b : NI) : bodyK x09_ [] (denF x09_ 8) Tryz.f35 (domV [tN, tN] (a, b, ())) [] 0 (kOut [tN, tI]) = nat_Sub' a b := by kernel_rfl
theorem con09_ : ConOk Tryz.prog 35 c09_ := con_ok xok09_ 8 fn09_ true [tN, tN] [tN, tI] _ (by decide) (fun x => by rw [nat_Sub_eq]; exact e09_ x.1 x.2.1)
noncomputable def c0a_ : Con := conV true [tN, tN] [tI] fun x => nat_Cmp x.1 x.2.1
noncomputable def x0a_ : Cx := { ti := ti, con := [], fns := [], un := 6 }
theorem xok0a_ : CxOk Tryz.prog x0a_ := CxOk.of mixed ti_ok fz fz
theorem fn0a_ : FnOk Tryz.prog 34 Tryz.f34 [] := ⟨Tryz.func34, Tryz.call34, lps_nil⟩
theorem e0a_ (a : NI) (b : NI) : bodyK x0a_ [] (denF x0a_ 8) Tryz.f34 (domV [tN, tN] (a, b, ())) [] 0 (kOut [tI]) = nat_Cmp' a b := by kernel_rfl
theorem con0a_ : ConOk Tryz.prog 34 c0a_ := con_ok xok0a_ 8 fn0a_ true [tN, tN] [tI] _ (by decide) (fun x => by rw [nat_Cmp_eq]; exact e0a_ x.1 x.2.1)
abbrev S0b_0 : Shape := { sl := [(pc 2 tN 0), (pc 4 tN 1), (pc 5 tN 2), (pv 6 tI), (pv 7 tI), (pv 20 tI), (pv 21 tI)], ob := [(pv 0 tN), (pv 1 tN), (pv 2 tN)], lo := 3, nx := 3 }
abbrev E0b_0 : List Ex := [(.normal, { sl := [(pc 4 tN 1), (pc 5 tN 2)], ob := [(pv 1 tN), (pv 2 tN)], lo := 3, nx := 3 })]
noncomputable def L0b_0 : Code := loopIn (bodyOf Tryz.f70) 0
noncomputable def P0b_0 : Lp := lpOf S0b_0 E0b_0 54 R_nat_Down_0
noncomputable def c0b_ : Con := conV true [tN, tI] [tN] fun x => nat_Down x.1 x.2.1
noncomputable def x0b_ : Cx := { ti := ti, con := [], fns := [], un := 6 }
theorem xok0b_ : CxOk Tryz.prog x0b_ := CxOk.of mixed ti_ok fz fz
theorem r0b_0 (x : S0b_0.X) : denC x0b_ [] (denF x0b_ 8) L0b_0 (S0b_0.mkS 54 x) (kRound 0 S0b_0 E0b_0) = R_nat_Down_0 x := by kernel_rfl
theorem l0b_0 : LpOk Tryz.prog 0 (.loop L0b_0) P0b_0 := lpOf_ok xok0b_ 8 (lps_nil) S0b_0 E0b_0 54 R_nat_Down_0 (by decide) r0b_0
theorem fn0b_ : FnOk Tryz.prog 70 Tryz.f70 [(0, P0b_0)] := ⟨Tryz.func70, Tryz.call70, lps_of (by kernel_rfl) (lps_one l0b_0 (by kernel_rfl) fz)⟩
theorem e0b_ (a : NI) (k : Int) : bodyK x0b_ [(0, P0b_0)] (denF x0b_ 8) Tryz.f70 (domV [tN, tI] (a, k, ())) [] 0 (kOut [tN]) = nat_Down' a k := by kernel_rfl
theorem con0b_ : ConOk Tryz.prog 70 c0b_ := con_ok xok0b_ 8 fn0b_ true [tN, tI] [tN] _ (by decide) (fun x => by rw [nat_Down_eq]; exact e0b_ x.1 x.2.1)
noncomputable def c0c_ : Con := conV true [tN, tN] [tN, tI] fun x => nat_Add x.1 x.2.1
noncomputable def x0c_ : Cx := { ti := ti, con := [(68, c_add64)], fns := [], un := 6 }
theorem xok0c_ : CxOk Tryz.prog x0c_ := CxOk.of mixed ti_ok (fc ⟨con_add64, fz⟩) fz
theorem fn0c_ : FnOk Tryz.prog 27 Tryz.f27 [] := ⟨Tryz.func27, Tryz.call27, lps_nil⟩
theorem e0c_ (a : NI) (b : NI) : bodyK x0c_ [] (denF x0c_ 8) Tryz.f27 (domV [tN, tN] (a, b, ())) [] 0 (kOut [tN, tI]) = nat_Add' a b := by kernel_rfl
theorem con0c_ : ConOk Tryz.prog 27 c0c_ := con_ok xok0c_ 8 fn0c_ true [tN, tN] [tN, tI] _ (by decide) (fun x => by rw [nat_Add_eq]; exact e0c_ x.1 x.2.1)
noncomputable def c0d_ : Con := conV true [tN] [tI, .bool] fun x => nat_Int x.1
noncomputable def x0d_ : Cx := { ti := ti, con := [], fns := [], un := 6 }
theorem xok0d_ : CxOk Tryz.prog x0d_ := CxOk.of mixed ti_ok fz fz
theorem fn0d_ : FnOk Tryz.prog 87 Tryz.f87 [] := ⟨Tryz.func87, Tryz.call87, lps_nil⟩
theorem e0d_ (a : NI) : bodyK x0d_ [] (denF x0d_ 8) Tryz.f87 (domV [tN] (a, ())) [] 0 (kOut [tI, .bool]) = nat_Int' a := by kernel_rfl
theorem con0d_ : ConOk Tryz.prog 87 c0d_ := con_ok xok0d_ 8 fn0d_ true [tN] [tI, .bool] _ (by decide) (fun x => by rw [nat_Int_eq]; exact e0d_ x.1)
end Go.Proofs.YtkhhonbkgckjjaaGreat

namespace Go.Proofs.YtkhhonbkgckjjaaGreat
noncomputable def c0e_ : Con := conV true [tN, tU, tU] [tN, tN] fun x => wide_short x.1 x.2.1 x.2.2.1
noncomputable def x0e_ : Cx := { ti := ti, con := [(129, c02_)], fns := [], un := 6 }
theorem xok0e_ : CxOk Tryz.prog x0e_ := CxOk.of mixed ti_ok (fc ⟨con02_, fz⟩) fz
theorem fn0e_ : FnOk Tryz.prog 104 Tryz.f104 [] := ⟨Tryz.func104, Tryz.call104, lps_nil⟩
theorem e0e_ (a : NI) (left_ : Int) (m : Int) : bodyK x0e_ [] (denF x0e_ 8) Tryz.f104 (domV [tN, tU, tU] (a, left_, m, ())) [] 0 (kOut [tN, tN]) = wide_short' a left_ m := by kernel_rfl
theorem con0e_ : ConOk Tryz.prog 104 c0e_ := con_ok xok0e_ 8 fn0e_ true [tN, tU, tU] [tN, tN] _ (by decide) (fun x => by rw [wide_short_eq]; exact e0e_ x.1 x.2.1 x.2.2.1)
abbrev S0f_0 : Shape := { sl := [(pc 3 tN 0), (pc 4 tN 1), (pc 5 tN 2), (pc 6 tN 3), (pc 7 tN 4), (pc 8 tN 5), (pv 25 tI)], ob := [(pv 0 tN), (pv 1 tN), (pv 2 tN), (pv 3 tN), (pv 4 tN), (pv 5 tN)], lo := 6, nx := 6 }
abbrev E0f_0 : List Ex := [(.normal, { sl := [(pc 4 tN 1), (pc 6 tN 3), (pc 7 tN 4), (pc 8 tN 5)], ob := [(pv 1 tN), (pv 3 tN), (pv 4 tN), (pv 5 tN)], lo := 6, nx := 6 })]
noncomputable def L0f_0 : Code := loopIn (bodyOf Tryz.f75) 0
noncomputable def P0f_0 : Lp := lpOf S0f_0 E0f_0 68 R_wide_parted_0
noncomputable def c0f_ : Con := conV true [tN, tN, tN] [tN, tN] fun x => wide_parted x.1 x.2.1 x.2.2.1
noncomputable def x0f_ : Cx := { ti := ti, con := [(104, c0e_), (105, c08_), (69, c07_), (35, c09_), (34, c0a_)], fns := [], un := 6 }
theorem xok0f_ : CxOk Tryz.prog x0f_ := CxOk.of mixed ti_ok (fc ⟨con0e_, fc ⟨con08_, fc ⟨con07_, fc ⟨con09_, fc ⟨con0a_, fz⟩⟩⟩⟩⟩) fz
theorem r0f_0 (x : S0f_0.X) : denC x0f_ [] (denF x0f_ 8) L0f_0 (S0f_0.mkS 68 x) (kRound 0 S0f_0 E0f_0) = R_wide_parted_0 x := by kernel_rfl
theorem l0f_0 : LpOk Tryz.prog 0 (.loop L0f_0) P0f_0 := lpOf_ok xok0f_ 8 (lps_nil) S0f_0 E0f_0 68 R_wide_parted_0 (by decide) r0f_0
theorem fn0f_ : FnOk Tryz.prog 75 Tryz.f75 [(0, P0f_0)] := ⟨Tryz.func75, Tryz.call75, lps_of (by kernel_rfl) (lps_one l0f_0 (by kernel_rfl) fz)⟩
theorem e0f_ (a : NI) (left_ : NI) (m : NI) : bodyK x0f_ [(0, P0f_0)] (denF x0f_ 8) Tryz.f75 (domV [tN, tN, tN] (a, left_, m, ())) [] 0 (kOut [tN, tN]) = wide_parted' a left_ m := by kernel_rfl
theorem con0f_ : ConOk Tryz.prog 75 c0f_ := con_ok xok0f_ 8 fn0f_ true [tN, tN, tN] [tN, tN] _ (by decide) (fun x => by rw [wide_parted_eq]; exact e0f_ x.1 x.2.1 x.2.2.1)
noncomputable def c0g_ : Con := conV true [tN, tN] [tN, tN, tI] fun x => wide_Div x.1 x.2.1
noncomputable def x0g_ : Cx := { ti := ti, con := [(75, c0f_)], fns := [], un := 6 }
theorem xok0g_ : CxOk Tryz.prog x0g_ := CxOk.of mixed ti_ok (fc ⟨con0f_, fz⟩) fz
theorem fn0g_ : FnOk Tryz.prog 36 Tryz.f36 [] := ⟨Tryz.func36, Tryz.call36, lps_nil⟩
theorem e0g_ (a : NI) (b : NI) : bodyK x0g_ [] (denF x0g_ 8) Tryz.f36 (domV [tN, tN] (a, b, ())) [] 0 (kOut [tN, tN, tI]) = wide_Div' a b := by kernel_rfl
theorem con0g_ : ConOk Tryz.prog 36 c0g_ := con_ok xok0g_ 8 fn0g_ true [tN, tN] [tN, tN, tI] _ (by decide) (fun x => by rw [wide_Div_eq]; exact e0g_ x.1 x.2.1)
noncomputable def c0h_ : Con := conV true [tN, tN] [tN, tN] fun x => wide_Mul x.1 x.2.1
noncomputable def x0h_ : Cx := { ti := ti, con := [(78, c03_), (68, c_add64)], fns := [(77, Tryz.f77, [])], un := 6 }
theorem xok0h_ : CxOk Tryz.prog x0h_ := CxOk.of mixed ti_ok (fc ⟨con03_, fc ⟨con_add64, fz⟩⟩) (fc ⟨⟨Tryz.func77, Tryz.call77, lps_nil⟩, fz⟩)
theorem fn0h_ : FnOk Tryz.prog 38 Tryz.f38 [] := ⟨Tryz.func38, Tryz.call38, lps_nil⟩
theorem e0h_ (a : NI) (b : NI) : bodyK x0h_ [] (denF x0h_ 8) Tryz.f38 (domV [tN, tN] (a, b, ())) [] 0 (kOut [tN, tN]) = wide_Mul' a b := by kernel_rfl
theorem con0h_ : ConOk Tryz.prog 38 c0h_ := con_ok xok0h_ 8 fn0h_ true [tN, tN] [tN, tN] _ (by decide) (fun x => by rw [wide_Mul_eq]; exact e0h_ x.1 x.2.1)
noncomputable def c0i_ : Con := conV true [tN, tN, tN] [tN, tI] fun x => wide_Rem x.1 x.2.1 x.2.2.1
noncomputable def x0i_ : Cx := { ti := ti, con := [(75, c0f_)], fns := [], un := 6 }
theorem xok0i_ : CxOk Tryz.prog x0i_ := CxOk.of mixed ti_ok (fc ⟨con0f_, fz⟩) fz
theorem fn0i_ : FnOk Tryz.prog 72 Tryz.f72 [] := ⟨Tryz.func72, Tryz.call72, lps_nil⟩
theorem e0i_ (low : NI) (high : NI) (m : NI) : bodyK x0i_ [] (denF x0i_ 8) Tryz.f72 (domV [tN, tN, tN] (low, high, m, ())) [] 0 (kOut [tN, tI]) = wide_Rem' low high m := by kernel_rfl
theorem con0i_ : ConOk Tryz.prog 72 c0i_ := con_ok xok0i_ 8 fn0i_ true [tN, tN, tN] [tN, tI] _ (by decide) (fun x => by rw [wide_Rem_eq]; exact e0i_ x.1 x.2.1 x.2.2.1)
noncomputable def c0j_ : Con := conV true [tN, tN, tN] [tN, tI] fun x => wide_MulMod x.1 x.2.1 x.2.2.1
noncomputable def x0j_ : Cx := { ti := ti, con := [(38, c0h_), (72, c0i_)], fns := [], un := 6 }
theorem xok0j_ : CxOk Tryz.prog x0j_ := CxOk.of mixed ti_ok (fc ⟨con0h_, fc ⟨con0i_, fz⟩⟩) fz
theorem fn0j_ : FnOk Tryz.prog 73 Tryz.f73 [] := ⟨Tryz.func73, Tryz.call73, lps_nil⟩
theorem e0j_ (a : NI) (b : NI) (m : NI) : bodyK x0j_ [] (denF x0j_ 8) Tryz.f73 (domV [tN, tN, tN] (a, b, m, ())) [] 0 (kOut [tN, tI]) = wide_MulMod' a b m := by kernel_rfl
theorem con0j_ : ConOk Tryz.prog 73 c0j_ := con_ok xok0j_ 8 fn0j_ true [tN, tN, tN] [tN, tI] _ (by decide) (fun x => by rw [wide_MulMod_eq]; exact e0j_ x.1 x.2.1 x.2.2.1)
noncomputable def c0k_ : Con := conV true [tN, tN, tN] [tN, tI] fun x => wide_SubMod x.1 x.2.1 x.2.2.1
noncomputable def x0k_ : Cx := { ti := ti, con := [(72, c0i_), (35, c09_), (27, c0c_)], fns := [], un := 6 }
theorem xok0k_ : CxOk Tryz.prog x0k_ := CxOk.of mixed ti_ok (fc ⟨con0i_, fc ⟨con09_, fc ⟨con0c_, fz⟩⟩⟩) fz
theorem fn0k_ : FnOk Tryz.prog 39 Tryz.f39 [] := ⟨Tryz.func39, Tryz.call39, lps_nil⟩
theorem e0k_ (a : NI) (b : NI) (m : NI) : bodyK x0k_ [] (denF x0k_ 8) Tryz.f39 (domV [tN, tN, tN] (a, b, m, ())) [] 0 (kOut [tN, tI]) = wide_SubMod' a b m := by kernel_rfl
theorem con0k_ : ConOk Tryz.prog 39 c0k_ := con_ok xok0k_ 8 fn0k_ true [tN, tN, tN] [tN, tI] _ (by decide) (fun x => by rw [wide_SubMod_eq]; exact e0k_ x.1 x.2.1 x.2.2.1)
abbrev S0l_0 : Shape := { sl := [(pc 2 tN 0), (pc 3 tN 1), (pc 4 tN 2)], ob := [(pv 0 tN), (pv 1 tN), (pv 2 tN)], lo := 3, nx := 3 }
abbrev E0l_0 : List Ex := [(.normal, { sl := [(pc 2 tN 0), (pc 4 tN 2)], ob := [(pv 0 tN), (pv 2 tN)], lo := 3, nx := 3 })]
noncomputable def L0l_0 : Code := loopIn (bodyOf Tryz.f40) 0
noncomputable def P0l_0 : Lp := lpOf S0l_0 E0l_0 21 R_wide_Gcd_0
noncomputable def c0l_ : Con := conV true [tN, tN] [tN] fun x => wide_Gcd x.1 x.2.1
noncomputable def x0l_ : Cx := { ti := ti, con := [(36, c0g_)], fns := [], un := 6 }
theorem xok0l_ : CxOk Tryz.prog x0l_ := CxOk.of mixed ti_ok (fc ⟨con0g_, fz⟩) fz
theorem r0l_0 (x : S0l_0.X) : denC x0l_ [] (denF x0l_ 8) L0l_0 (S0l_0.mkS 21 x) (kRound 0 S0l_0 E0l_0) = R_wide_Gcd_0 x := by kernel_rfl
theorem l0l_0 : LpOk Tryz.prog 0 (.loop L0l_0) P0l_0 := lpOf_ok xok0l_ 8 (lps_nil) S0l_0 E0l_0 21 R_wide_Gcd_0 (by decide) r0l_0
theorem fn0l_ : FnOk Tryz.prog 40 Tryz.f40 [(0, P0l_0)] := ⟨Tryz.func40, Tryz.call40, lps_of (by kernel_rfl) (lps_one l0l_0 (by kernel_rfl) fz)⟩
theorem e0l_ (a : NI) (b : NI) : bodyK x0l_ [(0, P0l_0)] (denF x0l_ 8) Tryz.f40 (domV [tN, tN] (a, b, ())) [] 0 (kOut [tN]) = wide_Gcd' a b := by kernel_rfl
theorem con0l_ : ConOk Tryz.prog 40 c0l_ := con_ok xok0l_ 8 fn0l_ true [tN, tN] [tN] _ (by decide) (fun x => by rw [wide_Gcd_eq]; exact e0l_ x.1 x.2.1)
end Go.Proofs.YtkhhonbkgckjjaaGreat

namespace Go.Proofs.YtkhhonbkgckjjaaGreat
noncomputable def c0m_ : Con := conV false [tN] [(.ptr (.pair tN (.pair tU (.pair tN tN)))), tI] fun x => mont_New x.1
noncomputable def x0m_ : Cx := { ti := ti, con := [(32, c06_), (72, c0i_), (73, c0j_)], fns := [], un := 6 }
theorem xok0m_ : CxOk Tryz.prog x0m_ := CxOk.of mixed ti_ok (fc ⟨con06_, fc ⟨con0i_, fc ⟨con0j_, fz⟩⟩⟩) fz
theorem fn0m_ : FnOk Tryz.prog 33 Tryz.f33 [] := ⟨Tryz.func33, Tryz.call33, lps_nil⟩
theorem e0m_ (m : NI) : bodyK x0m_ [] (denF x0m_ 8) Tryz.f33 (domV [tN] (m, ())) [] 0 (kOut [(.ptr (.pair tN (.pair tU (.pair tN tN)))), tI]) = mont_New' m := by kernel_rfl
theorem con0m_ : ConOk Tryz.prog 33 c0m_ := con_ok xok0m_ 8 fn0m_ false [tN] [(.ptr (.pair tN (.pair tU (.pair tN tN)))), tI] _ (by decide) (fun x => by rw [mont_New_eq]; exact e0m_ x.1)
noncomputable def c0n_ : Con := conV true [(.ptr (.pair tN (.pair tU (.pair tN tN))))] [.bool] fun x => mont_Ring_given x.1
noncomputable def x0n_ : Cx := { ti := ti, con := [], fns := [], un := 6 }
theorem xok0n_ : CxOk Tryz.prog x0n_ := CxOk.of mixed ti_ok fz fz
theorem fn0n_ : FnOk Tryz.prog 106 Tryz.f106 [] := ⟨Tryz.func106, Tryz.call106, lps_nil⟩
theorem e0n_ (r : (Option (NI × (Int × (NI × NI))))) : bodyK x0n_ [] (denF x0n_ 8) Tryz.f106 (domV [(.ptr (.pair tN (.pair tU (.pair tN tN))))] (r, ())) [] 0 (kOut [.bool]) = mont_Ring_given' r := by cases r <;> kernel_rfl
theorem con0n_ : ConOk Tryz.prog 106 c0n_ := con_ok xok0n_ 8 fn0n_ true [(.ptr (.pair tN (.pair tU (.pair tN tN))))] [.bool] _ (by decide) (fun x => by rw [mont_Ring_given_eq]; exact e0n_ x.1)
noncomputable def c0o_ : Con := conV true [(.ptr (.pair tN (.pair tU (.pair tN tN)))), tN] [tN] fun x => mont_Ring_low x.1 x.2.1
noncomputable def x0o_ : Cx := { ti := ti, con := [(34, c0a_), (72, c0i_)], fns := [], un := 6 }
theorem xok0o_ : CxOk Tryz.prog x0o_ := CxOk.of mixed ti_ok (fc ⟨con0a_, fc ⟨con0i_, fz⟩⟩) fz
theorem fn0o_ : FnOk Tryz.prog 142 Tryz.f142 [] := ⟨Tryz.func142, Tryz.call142, lps_nil⟩
theorem e0o_ (r : (Option (NI × (Int × (NI × NI))))) (a : NI) : bodyK x0o_ [] (denF x0o_ 8) Tryz.f142 (domV [(.ptr (.pair tN (.pair tU (.pair tN tN)))), tN] (r, a, ())) [] 0 (kOut [tN]) = mont_Ring_low' r a := by cases r <;> kernel_rfl
theorem con0o_ : ConOk Tryz.prog 142 c0o_ := con_ok xok0o_ 8 fn0o_ true [(.ptr (.pair tN (.pair tU (.pair tN tN)))), tN] [tN] _ (by decide) (fun x => by rw [mont_Ring_low_eq]; exact e0o_ x.1 x.2.1)
noncomputable def c0p_ : Con := conV true [(.arr 6 tU), tU, tN] [(.arr 6 tU)] fun x => mont_adds x.1 x.2.1 x.2.2.1
noncomputable def x0p_ : Cx := { ti := ti, con := [(78, c03_), (68, c_add64)], fns := [], un := 6 }
theorem xok0p_ : CxOk Tryz.prog x0p_ := CxOk.of mixed ti_ok (fc ⟨con03_, fc ⟨con_add64, fz⟩⟩) fz
theorem fn0p_ : FnOk Tryz.prog 131 Tryz.f131 [] := ⟨Tryz.func131, Tryz.call131, lps_nil⟩
theorem e0p_ (t : NI) (x : Int) (b : NI) : bodyK x0p_ [] (denF x0p_ 8) Tryz.f131 (domV [(.arr 6 tU), tU, tN] (t, x, b, ())) [] 0 (kOut [(.arr 6 tU)]) = mont_adds' t x b := by kernel_rfl
theorem con0p_ : ConOk Tryz.prog 131 c0p_ := con_ok xok0p_ 8 fn0p_ true [(.arr 6 tU), tU, tN] [(.arr 6 tU)] _ (by decide) (fun x => by rw [mont_adds_eq]; exact e0p_ x.1 x.2.1 x.2.2.1)
noncomputable def c0q_ : Con := conV true [(.ptr (.pair tN (.pair tU (.pair tN tN)))), tN, tN] [tN] fun x => mont_Ring_redc x.1 x.2.1 x.2.2.1
noncomputable def x0q_ : Cx := { ti := ti, con := [(131, c0p_), (35, c09_), (34, c0a_)], fns := [], un := 6 }
theorem xok0q_ : CxOk Tryz.prog x0q_ := CxOk.of mixed ti_ok (fc ⟨con0p_, fc ⟨con09_, fc ⟨con0a_, fz⟩⟩⟩) fz
theorem fn0q_ : FnOk Tryz.prog 109 Tryz.f109 [] := ⟨Tryz.func109, Tryz.call109, lps_nil⟩
theorem e0q_ (r : (Option (NI × (Int × (NI × NI))))) (a : NI) (b : NI) : bodyK x0q_ [] (denF x0q_ 8) Tryz.f109 (domV [(.ptr (.pair tN (.pair tU (.pair tN tN)))), tN, tN] (r, a, b, ())) [] 0 (kOut [tN]) = mont_Ring_redc' r a b := by cases r <;> kernel_rfl
theorem con0q_ : ConOk Tryz.prog 109 c0q_ := con_ok xok0q_ 8 fn0q_ true [(.ptr (.pair tN (.pair tU (.pair tN tN)))), tN, tN] [tN] _ (by decide) (fun x => by rw [mont_Ring_redc_eq]; exact e0q_ x.1 x.2.1 x.2.2.1)
noncomputable def c0r_ : Con := conV true [(.ptr (.pair tN (.pair tU (.pair tN tN)))), tN] [tN] fun x => mont_Ring_Form x.1 x.2.1
noncomputable def x0r_ : Cx := { ti := ti, con := [(106, c0n_), (142, c0o_), (109, c0q_)], fns := [], un := 6 }
theorem xok0r_ : CxOk Tryz.prog x0r_ := CxOk.of mixed ti_ok (fc ⟨con0n_, fc ⟨con0o_, fc ⟨con0q_, fz⟩⟩⟩) fz
theorem fn0r_ : FnOk Tryz.prog 130 Tryz.f130 [] := ⟨Tryz.func130, Tryz.call130, lps_nil⟩
theorem e0r_ (r : (Option (NI × (Int × (NI × NI))))) (a : NI) : bodyK x0r_ [] (denF x0r_ 8) Tryz.f130 (domV [(.ptr (.pair tN (.pair tU (.pair tN tN)))), tN] (r, a, ())) [] 0 (kOut [tN]) = mont_Ring_Form' r a := by cases r <;> kernel_rfl
theorem con0r_ : ConOk Tryz.prog 130 c0r_ := con_ok xok0r_ 8 fn0r_ true [(.ptr (.pair tN (.pair tU (.pair tN tN)))), tN] [tN] _ (by decide) (fun x => by rw [mont_Ring_Form_eq]; exact e0r_ x.1 x.2.1)
abbrev S0s_0 : Shape := { sl := [(0, (.pz (.pair tN (.pair tU (.pair tN tN))))), (pc 4 (.arr 16 tN) 1), (pc 5 (.arr 16 tN) 2), (pc 6 tN 3), (pv 7 tI)], ob := [(pv 1 (.arr 16 tN)), (pv 2 (.arr 16 tN)), (pv 3 tN)], lo := 4, nx := 4 }
abbrev E0s_0 : List Ex := [(.normal, { sl := [(pc 4 (.arr 16 tN) 1), (pc 5 (.arr 16 tN) 2)], ob := [(pv 1 (.arr 16 tN)), (pv 2 (.arr 16 tN))], lo := 4, nx := 4 })]
noncomputable def L0s_0 : Code := loopIn (bodyOf Tryz.f107) 0
noncomputable def P0s_0 : Lp := lpOf S0s_0 E0s_0 30 R_mont_Ring_powers_0
noncomputable def c0s_ : Con := conV true [(.ptr (.pair tN (.pair tU (.pair tN tN)))), tN] [(.arr 16 tN)] fun x => mont_Ring_powers x.1 x.2.1
noncomputable def x0s_ : Cx := { ti := ti, con := [(130, c0r_), (109, c0q_)], fns := [], un := 6 }
theorem xok0s_ : CxOk Tryz.prog x0s_ := CxOk.of mixed ti_ok (fc ⟨con0r_, fc ⟨con0q_, fz⟩⟩) fz
theorem r0s_0 (x : S0s_0.X) : denC x0s_ [] (denF x0s_ 8) L0s_0 (S0s_0.mkS 30 x) (kRound 0 S0s_0 E0s_0) = R_mont_Ring_powers_0 x := by kernel_rfl
theorem l0s_0 : LpOk Tryz.prog 0 (.loop L0s_0) P0s_0 := lpOf_ok xok0s_ 8 (lps_nil) S0s_0 E0s_0 30 R_mont_Ring_powers_0 (by decide) r0s_0
theorem fn0s_ : FnOk Tryz.prog 107 Tryz.f107 [(0, P0s_0)] := ⟨Tryz.func107, Tryz.call107, lps_of (by kernel_rfl) (lps_one l0s_0 (by kernel_rfl) fz)⟩
theorem e0s_ (r : (Option (NI × (Int × (NI × NI))))) (a : NI) : bodyK x0s_ [(0, P0s_0)] (denF x0s_ 8) Tryz.f107 (domV [(.ptr (.pair tN (.pair tU (.pair tN tN)))), tN] (r, a, ())) [] 0 (kOut [(.arr 16 tN)]) = mont_Ring_powers' r a := by cases r <;> kernel_rfl
theorem con0s_ : ConOk Tryz.prog 107 c0s_ := con_ok xok0s_ 8 fn0s_ true [(.ptr (.pair tN (.pair tU (.pair tN tN)))), tN] [(.arr 16 tN)] _ (by decide) (fun x => by rw [mont_Ring_powers_eq]; exact e0s_ x.1 x.2.1)
noncomputable def c0t_ : Con := conV true [tN, tI] [tI] fun x => mont_Ring_Prod_1 x.1 x.2.1
noncomputable def x0t_ : Cx := { ti := ti, con := [(70, c0b_), (69, c07_), (87, c0d_)], fns := [], un := 6 }
theorem xok0t_ : CxOk Tryz.prog x0t_ := CxOk.of mixed ti_ok (fc ⟨con0b_, fc ⟨con07_, fc ⟨con0d_, fz⟩⟩⟩) fz
theorem fn0t_ : FnOk Tryz.prog 108 Tryz.f108 [] := ⟨Tryz.func108, Tryz.call108, lps_nil⟩
theorem e0t_ (e : NI) (at_ : Int) : bodyK x0t_ [] (denF x0t_ 8) Tryz.f108 (domV [tN, tI] (e, at_, ())) [] 0 (kOut [tI]) = mont_Ring_Prod_1' e at_ := by kernel_rfl
theorem con0t_ : ConOk Tryz.prog 108 c0t_ := con_ok xok0t_ 8 fn0t_ true [tN, tI] [tI] _ (by decide) (fun x => by rw [mont_Ring_Prod_1_eq]; exact e0t_ x.1 x.2.1)
abbrev S0u_0 : Shape := { sl := [(0, (.pz (.pair tN (.pair tU (.pair tN tN))))), (2, (.sz tN)), (pc 6 tN 0), (8, (.w 146 (.arr 16 tN) 1)), (pv 9 tI), (33, (.sz tN)), (pv 34 tI), (pv 35 tI)], ob := [(pv 0 tN)], lo := 1, nx := 2 }
abbrev E0u_0 : List Ex := [(.normal, { sl := [(0, (.pz (.pair tN (.pair tU (.pair tN tN))))), (2, (.sz tN)), (pc 6 tN 0), (8, (.w 146 (.arr 16 tN) 2)), (pv 9 tI)], ob := [(pv 0 tN)], lo := 2, nx := 3 })]
noncomputable def L0u_0 : Code := loopIn (bodyOf Tryz.f76) 0
noncomputable def P0u_0 : Lp := lpOf S0u_0 E0u_0 98 R_mont_Ring_Prod_0
abbrev S0u_6 : Shape := { sl := [(0, (.pz (.pair tN (.pair tU (.pair tN tN))))), (2, (.sz tN)), (pc 6 tN 0), (8, (.w 146 (.arr 16 tN) 5)), (12, (.c ⟨.fn, (.mk 108 [])⟩)), (pc 13 tN 3), (pv 14 tI), (74, (.sz tN)), (pv 75 tI), (pv 76 tI)], ob := [(pv 0 tN), (pv 3 tN)], lo := 5, nx := 6 }
abbrev E0u_6 : List Ex := [(.normal, { sl := [(0, (.pz (.pair tN (.pair tU (.pair tN tN))))), (2, (.sz tN)), (pc 6 tN 0), (8, (.w 146 (.arr 16 tN) 6)), (12, (.c ⟨.fn, (.mk 108 [])⟩)), (pc 13 tN 3), (pv 14 tI)], ob := [(pv 0 tN), (pv 3 tN)], lo := 6, nx := 7 })]
noncomputable def L0u_6 : Code := loopIn (bodyOf Tryz.f76) 6
noncomputable def P0u_6 : Lp := lpOf S0u_6 E0u_6 98 R_mont_Ring_Prod_6
abbrev S0u_2 : Shape := { sl := [(0, (.pz (.pair tN (.pair tU (.pair tN tN))))), (2, (.sz tN)), (pc 6 tN 0), (8, (.w 146 (.arr 16 tN) 4)), (12, (.c ⟨.fn, (.mk 108 [])⟩)), (pc 13 tN 3), (pv 14 tI)], ob := [(pv 0 tN), (pv 3 tN)], lo := 4, nx := 5 }
abbrev E0u_2 : List Ex := [(.normal, { sl := [(0, (.pz (.pair tN (.pair tU (.pair tN tN))))), (pc 6 tN 0), (pc 13 tN 3)], ob := [(pv 0 tN), (pv 3 tN)], lo := 5, nx := 5 })]
noncomputable def L0u_2 : Code := loopIn (bodyOf Tryz.f76) 2
noncomputable def P0u_2 : Lp := lpOf S0u_2 E0u_2 98 R_mont_Ring_Prod_2
noncomputable def c0u_ : Con := conV true [(.ptr (.pair tN (.pair tU (.pair tN tN)))), (.sl tN), (.sl tN)] [tN, tI] fun x => mont_Ring_Prod x.1 x.2.1.1 x.2.1.2 x.2.2.1.1 x.2.2.1.2
noncomputable def x0u_ : Cx := { ti := ti, con := [(106, c0n_), (107, c0s_), (26, c05_), (109, c0q_), (108, c0t_), (32, c06_)], fns := [], un := 6 }
theorem xok0u_ : CxOk Tryz.prog x0u_ := CxOk.of mixed ti_ok (fc ⟨con0n_, fc ⟨con0s_, fc ⟨con05_, fc ⟨con0q_, fc ⟨con0t_, fc ⟨con06_, fz⟩⟩⟩⟩⟩⟩) fz
theorem r0u_0 (x : S0u_0.X) : denC x0u_ [] (denF x0u_ 8) L0u_0 (S0u_0.mkS 98 x) (kRound 0 S0u_0 E0u_0) = R_mont_Ring_Prod_0 x := by kernel_rfl
theorem l0u_0 : LpOk Tryz.prog 0 (.loop L0u_0) P0u_0 := lpOf_ok xok0u_ 8 (lps_nil) S0u_0 E0u_0 98 R_mont_Ring_Prod_0 (by decide) r0u_0
theorem r0u_6 (x : S0u_6.X) : denC x0u_ [] (denF x0u_ 8) L0u_6 (S0u_6.mkS 98 x) (kRound 6 S0u_6 E0u_6) = R_mont_Ring_Prod_6 x := by kernel_rfl
theorem l0u_6 : LpOk Tryz.prog 6 (.loop L0u_6) P0u_6 := lpOf_ok xok0u_ 8 (lps_nil) S0u_6 E0u_6 98 R_mont_Ring_Prod_6 (by decide) r0u_6
theorem r0u_2 (x : S0u_2.X) : denC x0u_ [(6, P0u_6)] (denF x0u_ 8) L0u_2 (S0u_2.mkS 98 x) (kRound 2 S0u_2 E0u_2) = R_mont_Ring_Prod_2 x := by kernel_rfl
theorem l0u_2 : LpOk Tryz.prog 2 (.loop L0u_2) P0u_2 := lpOf_ok xok0u_ 8 (lps_of (by kernel_rfl) (lps_one l0u_6 (by kernel_rfl) fz)) S0u_2 E0u_2 98 R_mont_Ring_Prod_2 (by decide) r0u_2
theorem fn0u_ : FnOk Tryz.prog 76 Tryz.f76 [(0, P0u_0), (6, P0u_6), (2, P0u_2)] := ⟨Tryz.func76, Tryz.call76, lps_of (by kernel_rfl) (lps_one l0u_0 (by kernel_rfl) (lps_one l0u_6 (by kernel_rfl) (lps_one l0u_2 (by kernel_rfl) fz)))⟩
theorem e0u_ (r : (Option (NI × (Int × (NI × NI))))) (nbases : Nat) (bases : Nat → NI) (nexps : Nat) (exps : Nat → NI) : bodyK x0u_ [(0, P0u_0), (6, P0u_6), (2, P0u_2)] (denF x0u_ 8) Tryz.f76 (domV [(.ptr (.pair tN (.pair tU (.pair tN tN)))), (.sl tN), (.sl tN)] (r, (nbases, bases), (nexps, exps), ())) [] 0 (kOut [tN, tI]) = mont_Ring_Prod' r nbases bases nexps exps := by cases r <;> kernel_rfl
theorem con0u_ : ConOk Tryz.prog 76 c0u_ := con_ok xok0u_ 8 fn0u_ true [(.ptr (.pair tN (.pair tU (.pair tN tN)))), (.sl tN), (.sl tN)] [tN, tI] _ (by decide) (fun x => by rw [mont_Ring_Prod_eq]; exact e0u_ x.1 x.2.1.1 x.2.1.2 x.2.2.1.1 x.2.2.1.2)
noncomputable def c0v_ : Con := conV true [(.ptr (.pair tN (.pair tU (.pair tN tN)))), tN, tN] [tN] fun x => mont_Ring_Exp x.1 x.2.1 x.2.2.1
noncomputable def x0v_ : Cx := { ti := ti, con := [(76, c0u_)], fns := [], un := 6 }
theorem xok0v_ : CxOk Tryz.prog x0v_ := CxOk.of mixed ti_ok (fc ⟨con0u_, fz⟩) fz
theorem fn0v_ : FnOk Tryz.prog 37 Tryz.f37 [] := ⟨Tryz.func37, Tryz.call37, lps_nil⟩
theorem e0v_ (r : (Option (NI × (Int × (NI × NI))))) (a : NI) (e : NI) : bodyK x0v_ [] (denF x0v_ 8) Tryz.f37 (domV [(.ptr (.pair tN (.pair tU (.pair tN tN)))), tN, tN] (r, a, e, ())) [] 0 (kOut [tN]) = mont_Ring_Exp' r a e := by cases r <;> kernel_rfl
theorem con0v_ : ConOk Tryz.prog 37 c0v_ := con_ok xok0v_ 8 fn0v_ true [(.ptr (.pair tN (.pair tU (.pair tN tN)))), tN, tN] [tN] _ (by decide) (fun x => by rw [mont_Ring_Exp_eq]; exact e0v_ x.1 x.2.1 x.2.2.1)
noncomputable def c0w_ : Con := conV true [(.ptr (.pair tN (.pair tU (.pair tN tN)))), tN] [.bool] fun x => mont_Ring_In x.1 x.2.1
noncomputable def x0w_ : Cx := { ti := ti, con := [(106, c0n_), (34, c0a_)], fns := [], un := 6 }
theorem xok0w_ : CxOk Tryz.prog x0w_ := CxOk.of mixed ti_ok (fc ⟨con0n_, fc ⟨con0a_, fz⟩⟩) fz
theorem fn0w_ : FnOk Tryz.prog 90 Tryz.f90 [] := ⟨Tryz.func90, Tryz.call90, lps_nil⟩
theorem e0w_ (r : (Option (NI × (Int × (NI × NI))))) (a : NI) : bodyK x0w_ [] (denF x0w_ 8) Tryz.f90 (domV [(.ptr (.pair tN (.pair tU (.pair tN tN)))), tN] (r, a, ())) [] 0 (kOut [.bool]) = mont_Ring_In' r a := by cases r <;> kernel_rfl
theorem con0w_ : ConOk Tryz.prog 90 c0w_ := con_ok xok0w_ 8 fn0w_ true [(.ptr (.pair tN (.pair tU (.pair tN tN)))), tN] [.bool] _ (by decide) (fun x => by rw [mont_Ring_In_eq]; exact e0w_ x.1 x.2.1)
end Go.Proofs.YtkhhonbkgckjjaaGreat

namespace Go.Proofs.YtkhhonbkgckjjaaGreat
abbrev S0x_0 : Shape := { sl := [(pv 0 tI), (3, (.v .bool)), (pv 11 tI), (pv 12 tI)], ob := [], lo := 0, nx := 0 }
abbrev E0x_0 : List Ex := [(.normal, { sl := [(3, (.v .bool))], ob := [], lo := 0, nx := 0 })]
noncomputable def L0x_0 : Code := loopIn (bodyOf Tryz.f25) 0
noncomputable def P0x_0 : Lp := lpOf S0x_0 E0x_0 31 R_prime_Small_0
noncomputable def c0x_ : Con := conV true [tI] [.bool] fun x => prime_Small x.1
noncomputable def x0x_ : Cx := { ti := ti, con := [], fns := [], un := 6 }
theorem xok0x_ : CxOk Tryz.prog x0x_ := CxOk.of mixed ti_ok fz fz
theorem r0x_0 (x : S0x_0.X) : denC x0x_ [] (denF x0x_ 8) L0x_0 (S0x_0.mkS 31 x) (kRound 0 S0x_0 E0x_0) = R_prime_Small_0 x := by kernel_rfl
theorem l0x_0 : LpOk Tryz.prog 0 (.loop L0x_0) P0x_0 := lpOf_ok xok0x_ 8 (lps_nil) S0x_0 E0x_0 31 R_prime_Small_0 (by decide) r0x_0
theorem fn0x_ : FnOk Tryz.prog 25 Tryz.f25 [(0, P0x_0)] := ⟨Tryz.func25, Tryz.call25, lps_of (by kernel_rfl) (lps_one l0x_0 (by kernel_rfl) fz)⟩
theorem e0x_ (n : Int) : bodyK x0x_ [(0, P0x_0)] (denF x0x_ 8) Tryz.f25 (domV [tI] (n, ())) [] 0 (kOut [.bool]) = prime_Small' n := by kernel_rfl
theorem con0x_ : ConOk Tryz.prog 25 c0x_ := con_ok xok0x_ 8 fn0x_ true [tI] [.bool] _ (by decide) (fun x => by rw [prime_Small_eq]; exact e0x_ x.1)
noncomputable def c0y_ : Con := conV true [tN, tN, tI] [.bool] fun x => prime_Step x.1 x.2.1 x.2.2.1
noncomputable def x0y_ : Cx := { ti := ti, con := [(33, c0m_), (32, c06_), (35, c09_), (36, c0g_), (38, c0h_), (34, c0a_), (37, c0v_), (39, c0k_), (40, c0l_)], fns := [], un := 6 }
theorem xok0y_ : CxOk Tryz.prog x0y_ := CxOk.of mixed ti_ok (fc ⟨con0m_, fc ⟨con06_, fc ⟨con09_, fc ⟨con0g_, fc ⟨con0h_, fc ⟨con0a_, fc ⟨con0v_, fc ⟨con0k_, fc ⟨con0l_, fz⟩⟩⟩⟩⟩⟩⟩⟩⟩) fz
theorem fn0y_ : FnOk Tryz.prog 11 Tryz.f11 [] := ⟨Tryz.func11, Tryz.call11, lps_nil⟩
theorem e0y_ (n : NI) (factor : NI) (witness : Int) : bodyK x0y_ [] (denF x0y_ 8) Tryz.f11 (domV [tN, tN, tI] (n, factor, witness, ())) [] 0 (kOut [.bool]) = prime_Step' n factor witness := by kernel_rfl
theorem con0y_ : ConOk Tryz.prog 11 c0y_ := con_ok xok0y_ 8 fn0y_ true [tN, tN, tI] [.bool] _ (by decide) (fun x => by rw [prime_Step_eq]; exact e0y_ x.1 x.2.1 x.2.2.1)
abbrev S0z_0 : Shape := { sl := [(pc 2 tN 0), (pc 3 tN 1), (pv 6 tI)], ob := [(pv 0 tN), (pv 1 tN)], lo := 2, nx := 2 }
abbrev E0z_0 : List Ex := [(.ret, { sl := [(pv 4 tI), (pv 5 tI)], ob := [], lo := 2, nx := 2 }), (.normal, { sl := [], ob := [], lo := 2, nx := 2 })]
noncomputable def L0z_0 : Code := loopIn (bodyOf Tryz.f71) 0
noncomputable def P0z_0 : Lp := lpOf S0z_0 E0z_0 16 R_prime_Witness_0
noncomputable def c0z_ : Con := conV true [tN, tN] [tI, tI] fun x => prime_Witness x.1 x.2.1
noncomputable def x0z_ : Cx := { ti := ti, con := [(11, c0y_)], fns := [], un := 6 }
theorem xok0z_ : CxOk Tryz.prog x0z_ := CxOk.of mixed ti_ok (fc ⟨con0y_, fz⟩) fz
theorem r0z_0 (x : S0z_0.X) : denC x0z_ [] (denF x0z_ 8) L0z_0 (S0z_0.mkS 16 x) (kRound 0 S0z_0 E0z_0) = R_prime_Witness_0 x := by kernel_rfl
theorem l0z_0 : LpOk Tryz.prog 0 (.loop L0z_0) P0z_0 := lpOf_ok xok0z_ 8 (lps_nil) S0z_0 E0z_0 16 R_prime_Witness_0 (by decide) r0z_0
theorem fn0z_ : FnOk Tryz.prog 71 Tryz.f71 [(0, P0z_0)] := ⟨Tryz.func71, Tryz.call71, lps_of (by kernel_rfl) (lps_one l0z_0 (by kernel_rfl) fz)⟩
theorem e0z_ (n : NI) (factor : NI) : bodyK x0z_ [(0, P0z_0)] (denF x0z_ 8) Tryz.f71 (domV [tN, tN] (n, factor, ())) [] 0 (kOut [tI, tI]) = prime_Witness' n factor := by kernel_rfl
theorem con0z_ : ConOk Tryz.prog 71 c0z_ := con_ok xok0z_ 8 fn0z_ true [tN, tN] [tI, tI] _ (by decide) (fun x => by rw [prime_Witness_eq]; exact e0z_ x.1 x.2.1)
abbrev S10_0 : Shape := { sl := [(0, (.sz (.pair tN tI))), (pv 5 tI)], ob := [], lo := 0, nx := 0 }
abbrev E10_0 : List Ex := [(.ret, { sl := [(pv 2 tI)], ob := [], lo := 0, nx := 0 }), (.normal, { sl := [], ob := [], lo := 0, nx := 0 })]
noncomputable def L10_0 : Code := loopIn (bodyOf Tryz.f89) 0
noncomputable def P10_0 : Lp := lpOf S10_0 E10_0 60 R_prime_Check_0
noncomputable def c10_ : Con := conV true [(.sl (.pair tN tI))] [tI] fun x => prime_Check x.1.1 x.1.2
noncomputable def x10_ : Cx := { ti := ti, con := [(87, c0d_), (25, c0x_), (11, c0y_)], fns := [], un := 6 }
theorem xok10_ : CxOk Tryz.prog x10_ := CxOk.of mixed ti_ok (fc ⟨con0d_, fc ⟨con0x_, fc ⟨con0y_, fz⟩⟩⟩) fz
theorem r10_0 (x : S10_0.X) : denC x10_ [] (denF x10_ 8) L10_0 (S10_0.mkS 60 x) (kRound 0 S10_0 E10_0) = R_prime_Check_0 x := by kernel_rfl
theorem l10_0 : LpOk Tryz.prog 0 (.loop L10_0) P10_0 := lpOf_ok xok10_ 8 (lps_nil) S10_0 E10_0 60 R_prime_Check_0 (by decide) r10_0
theorem fn10_ : FnOk Tryz.prog 89 Tryz.f89 [(0, P10_0)] := ⟨Tryz.func89, Tryz.call89, lps_of (by kernel_rfl) (lps_one l10_0 (by kernel_rfl) fz)⟩
theorem e10_ (nl : Nat) (l : Nat → (NI × Int)) : bodyK x10_ [(0, P10_0)] (denF x10_ 8) Tryz.f89 (domV [(.sl (.pair tN tI))] ((nl, l), ())) [] 0 (kOut [tI]) = prime_Check' nl l := by kernel_rfl
theorem con10_ : ConOk Tryz.prog 89 c10_ := con_ok xok10_ 8 fn10_ true [(.sl (.pair tN tI))] [tI] _ (by decide) (fun x => by rw [prime_Check_eq]; exact e10_ x.1.1 x.1.2)
end Go.Proofs.YtkhhonbkgckjjaaGreat

namespace Go.Proofs.YtkhhonbkgckjjaaGreat
abbrev S11_0 : Shape := { sl := [(pc 1 (.arr 256 .bool) 0), (pc 2 tN 1), (pc 3 tN 2), (pv 4 tI)], ob := [(pv 0 (.arr 256 .bool)), (pv 1 tN), (pv 2 tN)], lo := 3, nx := 3 }
abbrev E11_0 : List Ex := [(.normal, { sl := [(pc 2 tN 1), (pc 3 tN 2)], ob := [(pv 1 tN), (pv 2 tN)], lo := 3, nx := 3 })]
noncomputable def L11_0 : Code := loopIn (bodyOf Tryz.f56) 0
noncomputable def P11_0 : Lp := lpOf S11_0 E11_0 25 R_r01_Nat_0
noncomputable def c11_ : Con := conV true [(.arr 256 .bool)] [tN] fun x => r01_Nat x.1
noncomputable def x11_ : Cx := { ti := ti, con := [], fns := [], un := 6 }
theorem xok11_ : CxOk Tryz.prog x11_ := CxOk.of mixed ti_ok fz fz
theorem r11_0 (x : S11_0.X) : denC x11_ [] (denF x11_ 8) L11_0 (S11_0.mkS 25 x) (kRound 0 S11_0 E11_0) = R_r01_Nat_0 x := by kernel_rfl
theorem l11_0 : LpOk Tryz.prog 0 (.loop L11_0) P11_0 := lpOf_ok xok11_ 8 (lps_nil) S11_0 E11_0 25 R_r01_Nat_0 (by decide) r11_0
theorem fn11_ : FnOk Tryz.prog 56 Tryz.f56 [(0, P11_0)] := ⟨Tryz.func56, Tryz.call56, lps_of (by kernel_rfl) (lps_one l11_0 (by kernel_rfl) fz)⟩
theorem e11_ (b : (Nat → Bool)) : bodyK x11_ [(0, P11_0)] (denF x11_ 8) Tryz.f56 (domV [(.arr 256 .bool)] (b, ())) [] 0 (kOut [tN]) = r01_Nat' b := by kernel_rfl
theorem con11_ : ConOk Tryz.prog 56 c11_ := con_ok xok11_ 8 fn11_ true [(.arr 256 .bool)] [tN] _ (by decide) (fun x => by rw [r01_Nat_eq]; exact e11_ x.1)
abbrev S12_0 : Shape := { sl := [(pv 0 tI), (pc 2 tN 0), (pc 3 (.arr 256 .bool) 1), (pv 4 tI)], ob := [(pv 0 tN), (pv 1 (.arr 256 .bool))], lo := 2, nx := 2 }
abbrev E12_0 : List Ex := [(.normal, { sl := [(pc 2 tN 0), (pc 3 (.arr 256 .bool) 1)], ob := [(pv 0 tN), (pv 1 (.arr 256 .bool))], lo := 2, nx := 2 })]
noncomputable def L12_0 : Code := loopIn (bodyOf Tryz.f20) 0
noncomputable def P12_0 : Lp := lpOf S12_0 E12_0 23 R_r01_Int_0
noncomputable def c12_ : Con := conV true [tI] [tN] fun x => r01_Int x.1
noncomputable def x12_ : Cx := { ti := ti, con := [(56, c11_)], fns := [], un := 6 }
theorem xok12_ : CxOk Tryz.prog x12_ := CxOk.of mixed ti_ok (fc ⟨con11_, fz⟩) fz
theorem r12_0 (x : S12_0.X) : denC x12_ [] (denF x12_ 8) L12_0 (S12_0.mkS 23 x) (kRound 0 S12_0 E12_0) = R_r01_Int_0 x := by kernel_rfl
theorem l12_0 : LpOk Tryz.prog 0 (.loop L12_0) P12_0 := lpOf_ok xok12_ 8 (lps_nil) S12_0 E12_0 23 R_r01_Int_0 (by decide) r12_0
theorem fn12_ : FnOk Tryz.prog 20 Tryz.f20 [(0, P12_0)] := ⟨Tryz.func20, Tryz.call20, lps_of (by kernel_rfl) (lps_one l12_0 (by kernel_rfl) fz)⟩
theorem e12_ (n : Int) : bodyK x12_ [(0, P12_0)] (denF x12_ 8) Tryz.f20 (domV [tI] (n, ())) [] 0 (kOut [tN]) = r01_Int' n := by kernel_rfl
theorem con12_ : ConOk Tryz.prog 20 c12_ := con_ok xok12_ 8 fn12_ true [tI] [tN] _ (by decide) (fun x => by rw [r01_Int_eq]; exact e12_ x.1)
abbrev S13_0 : Shape := { sl := [(pc 1 tN 0), (pc 2 (.arr 256 .bool) 1), (pc 3 (.arr 256 .bool) 2), (pv 4 tI)], ob := [(pv 0 tN), (pv 1 (.arr 256 .bool)), (pv 2 (.arr 256 .bool))], lo := 3, nx := 3 }
abbrev E13_0 : List Ex := [(.normal, { sl := [(pc 2 (.arr 256 .bool) 1), (pc 3 (.arr 256 .bool) 2)], ob := [(pv 1 (.arr 256 .bool)), (pv 2 (.arr 256 .bool))], lo := 3, nx := 3 })]
noncomputable def L13_0 : Code := loopIn (bodyOf Tryz.f51) 0
noncomputable def P13_0 : Lp := lpOf S13_0 E13_0 22 R_r01_Of_0
noncomputable def c13_ : Con := conV true [tN] [(.arr 256 .bool)] fun x => r01_Of x.1
noncomputable def x13_ : Cx := { ti := ti, con := [], fns := [], un := 6 }
theorem xok13_ : CxOk Tryz.prog x13_ := CxOk.of mixed ti_ok fz fz
theorem r13_0 (x : S13_0.X) : denC x13_ [] (denF x13_ 8) L13_0 (S13_0.mkS 22 x) (kRound 0 S13_0 E13_0) = R_r01_Of_0 x := by kernel_rfl
theorem l13_0 : LpOk Tryz.prog 0 (.loop L13_0) P13_0 := lpOf_ok xok13_ 8 (lps_nil) S13_0 E13_0 22 R_r01_Of_0 (by decide) r13_0
theorem fn13_ : FnOk Tryz.prog 51 Tryz.f51 [(0, P13_0)] := ⟨Tryz.func51, Tryz.call51, lps_of (by kernel_rfl) (lps_one l13_0 (by kernel_rfl) fz)⟩
theorem e13_ (a : NI) : bodyK x13_ [(0, P13_0)] (denF x13_ 8) Tryz.f51 (domV [tN] (a, ())) [] 0 (kOut [(.arr 256 .bool)]) = r01_Of' a := by kernel_rfl
theorem con13_ : ConOk Tryz.prog 51 c13_ := con_ok xok13_ 8 fn13_ true [tN] [(.arr 256 .bool)] _ (by decide) (fun x => by rw [r01_Of_eq]; exact e13_ x.1)
abbrev S14_0 : Shape := { sl := [(pv 1 tI), (pc 4 tN 1), (pc 5 (.arr 256 .bool) 2), (pc 6 (.arr 256 .bool) 3), (pv 7 tI)], ob := [(pv 1 tN), (pv 2 (.arr 256 .bool)), (pv 3 (.arr 256 .bool))], lo := 4, nx := 4 }
abbrev E14_0 : List Ex := [(.normal, { sl := [(pc 4 tN 1), (pc 6 (.arr 256 .bool) 3)], ob := [(pv 1 tN), (pv 3 (.arr 256 .bool))], lo := 4, nx := 4 })]
noncomputable def L14_0 : Code := loopIn (bodyOf Tryz.f53) 0
noncomputable def P14_0 : Lp := lpOf S14_0 E14_0 34 R_r01_Up_0
noncomputable def c14_ : Con := conV true [tN, tI] [tN] fun x => r01_Up x.1 x.2.1
noncomputable def x14_ : Cx := { ti := ti, con := [(51, c13_), (56, c11_)], fns := [], un := 6 }
theorem xok14_ : CxOk Tryz.prog x14_ := CxOk.of mixed ti_ok (fc ⟨con13_, fc ⟨con11_, fz⟩⟩) fz
theorem r14_0 (x : S14_0.X) : denC x14_ [] (denF x14_ 8) L14_0 (S14_0.mkS 34 x) (kRound 0 S14_0 E14_0) = R_r01_Up_0 x := by kernel_rfl
theorem l14_0 : LpOk Tryz.prog 0 (.loop L14_0) P14_0 := lpOf_ok xok14_ 8 (lps_nil) S14_0 E14_0 34 R_r01_Up_0 (by decide) r14_0
theorem fn14_ : FnOk Tryz.prog 53 Tryz.f53 [(0, P14_0)] := ⟨Tryz.func53, Tryz.call53, lps_of (by kernel_rfl) (lps_one l14_0 (by kernel_rfl) fz)⟩
theorem e14_ (a : NI) (n : Int) : bodyK x14_ [(0, P14_0)] (denF x14_ 8) Tryz.f53 (domV [tN, tI] (a, n, ())) [] 0 (kOut [tN]) = r01_Up' a n := by kernel_rfl
theorem con14_ : ConOk Tryz.prog 53 c14_ := con_ok xok14_ 8 fn14_ true [tN, tI] [tN] _ (by decide) (fun x => by rw [r01_Up_eq]; exact e14_ x.1 x.2.1)
abbrev S15_0 : Shape := { sl := [(pc 4 tN 2), (pc 6 (.arr 256 .bool) 3), (pc 7 (.arr 256 .bool) 4), (pc 8 (.arr 256 .bool) 5), (9, (.v .bool)), (pv 10 tI)], ob := [(pv 2 tN), (pv 3 (.arr 256 .bool)), (pv 4 (.arr 256 .bool)), (pv 5 (.arr 256 .bool))], lo := 6, nx := 6 }
abbrev E15_0 : List Ex := [(.normal, { sl := [(pc 4 tN 2), (pc 8 (.arr 256 .bool) 5), (9, (.v .bool))], ob := [(pv 2 tN), (pv 5 (.arr 256 .bool))], lo := 6, nx := 6 })]
noncomputable def L15_0 : Code := loopIn (bodyOf Tryz.f52) 0
noncomputable def P15_0 : Lp := lpOf S15_0 E15_0 57 R_r01_Add_0
noncomputable def c15_ : Con := conV true [tN, tN] [tN, tI] fun x => r01_Add x.1 x.2.1
noncomputable def x15_ : Cx := { ti := ti, con := [(51, c13_), (56, c11_)], fns := [], un := 6 }
theorem xok15_ : CxOk Tryz.prog x15_ := CxOk.of mixed ti_ok (fc ⟨con13_, fc ⟨con11_, fz⟩⟩) fz
theorem r15_0 (x : S15_0.X) : denC x15_ [] (denF x15_ 8) L15_0 (S15_0.mkS 57 x) (kRound 0 S15_0 E15_0) = R_r01_Add_0 x := by kernel_rfl
theorem l15_0 : LpOk Tryz.prog 0 (.loop L15_0) P15_0 := lpOf_ok xok15_ 8 (lps_nil) S15_0 E15_0 57 R_r01_Add_0 (by decide) r15_0
theorem fn15_ : FnOk Tryz.prog 52 Tryz.f52 [(0, P15_0)] := ⟨Tryz.func52, Tryz.call52, lps_of (by kernel_rfl) (lps_one l15_0 (by kernel_rfl) fz)⟩
theorem e15_ (a : NI) (b : NI) : bodyK x15_ [(0, P15_0)] (denF x15_ 8) Tryz.f52 (domV [tN, tN] (a, b, ())) [] 0 (kOut [tN, tI]) = r01_Add' a b := by kernel_rfl
theorem con15_ : ConOk Tryz.prog 52 c15_ := con_ok xok15_ 8 fn15_ true [tN, tN] [tN, tI] _ (by decide) (fun x => by rw [r01_Add_eq]; exact e15_ x.1 x.2.1)
abbrev S16_0 : Shape := { sl := [(pv 1 tI), (pc 4 tN 1), (pc 5 (.arr 256 .bool) 2), (pc 6 (.arr 256 .bool) 3), (pv 7 tI)], ob := [(pv 1 tN), (pv 2 (.arr 256 .bool)), (pv 3 (.arr 256 .bool))], lo := 4, nx := 4 }
abbrev E16_0 : List Ex := [(.normal, { sl := [(pc 4 tN 1), (pc 6 (.arr 256 .bool) 3)], ob := [(pv 1 tN), (pv 3 (.arr 256 .bool))], lo := 4, nx := 4 })]
noncomputable def L16_0 : Code := loopIn (bodyOf Tryz.f54) 0
noncomputable def P16_0 : Lp := lpOf S16_0 E16_0 34 R_r01_Down_0
noncomputable def c16_ : Con := conV true [tN, tI] [tN] fun x => r01_Down x.1 x.2.1
noncomputable def x16_ : Cx := { ti := ti, con := [(51, c13_), (56, c11_)], fns := [], un := 6 }
theorem xok16_ : CxOk Tryz.prog x16_ := CxOk.of mixed ti_ok (fc ⟨con13_, fc ⟨con11_, fz⟩⟩) fz
theorem r16_0 (x : S16_0.X) : denC x16_ [] (denF x16_ 8) L16_0 (S16_0.mkS 34 x) (kRound 0 S16_0 E16_0) = R_r01_Down_0 x := by kernel_rfl
theorem l16_0 : LpOk Tryz.prog 0 (.loop L16_0) P16_0 := lpOf_ok xok16_ 8 (lps_nil) S16_0 E16_0 34 R_r01_Down_0 (by decide) r16_0
theorem fn16_ : FnOk Tryz.prog 54 Tryz.f54 [(0, P16_0)] := ⟨Tryz.func54, Tryz.call54, lps_of (by kernel_rfl) (lps_one l16_0 (by kernel_rfl) fz)⟩
theorem e16_ (a : NI) (n : Int) : bodyK x16_ [(0, P16_0)] (denF x16_ 8) Tryz.f54 (domV [tN, tI] (a, n, ())) [] 0 (kOut [tN]) = r01_Down' a n := by kernel_rfl
theorem con16_ : ConOk Tryz.prog 54 c16_ := con_ok xok16_ 8 fn16_ true [tN, tI] [tN] _ (by decide) (fun x => by rw [r01_Down_eq]; exact e16_ x.1 x.2.1)
abbrev S17_0 : Shape := { sl := [(pc 3 (.arr 256 .bool) 1), (pv 4 tI)], ob := [(pv 1 (.arr 256 .bool))], lo := 2, nx := 2 }
abbrev E17_0 : List Ex := [(.ret, { sl := [(pv 2 tI)], ob := [], lo := 2, nx := 2 }), (.normal, { sl := [], ob := [], lo := 2, nx := 2 })]
noncomputable def L17_0 : Code := loopIn (bodyOf Tryz.f22) 0
noncomputable def P17_0 : Lp := lpOf S17_0 E17_0 16 R_r01_Len_0
noncomputable def c17_ : Con := conV true [tN] [tI] fun x => r01_Len x.1
noncomputable def x17_ : Cx := { ti := ti, con := [(51, c13_)], fns := [], un := 6 }
theorem xok17_ : CxOk Tryz.prog x17_ := CxOk.of mixed ti_ok (fc ⟨con13_, fz⟩) fz
theorem r17_0 (x : S17_0.X) : denC x17_ [] (denF x17_ 8) L17_0 (S17_0.mkS 16 x) (kRound 0 S17_0 E17_0) = R_r01_Len_0 x := by kernel_rfl
theorem l17_0 : LpOk Tryz.prog 0 (.loop L17_0) P17_0 := lpOf_ok xok17_ 8 (lps_nil) S17_0 E17_0 16 R_r01_Len_0 (by decide) r17_0
theorem fn17_ : FnOk Tryz.prog 22 Tryz.f22 [(0, P17_0)] := ⟨Tryz.func22, Tryz.call22, lps_of (by kernel_rfl) (lps_one l17_0 (by kernel_rfl) fz)⟩
theorem e17_ (a : NI) : bodyK x17_ [(0, P17_0)] (denF x17_ 8) Tryz.f22 (domV [tN] (a, ())) [] 0 (kOut [tI]) = r01_Len' a := by kernel_rfl
theorem con17_ : ConOk Tryz.prog 22 c17_ := con_ok xok17_ 8 fn17_ true [tN] [tI] _ (by decide) (fun x => by rw [r01_Len_eq]; exact e17_ x.1)
abbrev S18_0 : Shape := { sl := [(pv 4 tI), (pc 5 (.arr 256 .bool) 1), (pv 6 tI)], ob := [(pv 1 (.arr 256 .bool))], lo := 2, nx := 2 }
abbrev E18_0 : List Ex := [(.normal, { sl := [(pv 4 tI)], ob := [], lo := 2, nx := 2 })]
noncomputable def L18_0 : Code := loopIn (bodyOf Tryz.f17) 0
noncomputable def P18_0 : Lp := lpOf S18_0 E18_0 24 R_r01_Low_0
noncomputable def c18_ : Con := conV true [tN] [tI, .bool] fun x => r01_Low x.1
noncomputable def x18_ : Cx := { ti := ti, con := [(22, c17_), (51, c13_)], fns := [], un := 6 }
theorem xok18_ : CxOk Tryz.prog x18_ := CxOk.of mixed ti_ok (fc ⟨con17_, fc ⟨con13_, fz⟩⟩) fz
theorem r18_0 (x : S18_0.X) : denC x18_ [] (denF x18_ 8) L18_0 (S18_0.mkS 24 x) (kRound 0 S18_0 E18_0) = R_r01_Low_0 x := by kernel_rfl
theorem l18_0 : LpOk Tryz.prog 0 (.loop L18_0) P18_0 := lpOf_ok xok18_ 8 (lps_nil) S18_0 E18_0 24 R_r01_Low_0 (by decide) r18_0
theorem fn18_ : FnOk Tryz.prog 17 Tryz.f17 [(0, P18_0)] := ⟨Tryz.func17, Tryz.call17, lps_of (by kernel_rfl) (lps_one l18_0 (by kernel_rfl) fz)⟩
theorem e18_ (a : NI) : bodyK x18_ [(0, P18_0)] (denF x18_ 8) Tryz.f17 (domV [tN] (a, ())) [] 0 (kOut [tI, .bool]) = r01_Low' a := by kernel_rfl
theorem con18_ : ConOk Tryz.prog 17 c18_ := con_ok xok18_ 8 fn18_ true [tN] [tI, .bool] _ (by decide) (fun x => by rw [r01_Low_eq]; exact e18_ x.1)
abbrev S19_0 : Shape := { sl := [(pc 5 (.arr 256 .bool) 2), (pc 6 (.arr 256 .bool) 3), (pv 7 tI)], ob := [(pv 2 (.arr 256 .bool)), (pv 3 (.arr 256 .bool))], lo := 4, nx := 4 }
abbrev E19_0 : List Ex := [(.ret, { sl := [(pv 4 tI)], ob := [], lo := 4, nx := 4 }), (.normal, { sl := [], ob := [], lo := 4, nx := 4 })]
noncomputable def L19_0 : Code := loopIn (bodyOf Tryz.f57) 0
noncomputable def P19_0 : Lp := lpOf S19_0 E19_0 26 R_r01_Cmp_0
noncomputable def c19_ : Con := conV true [tN, tN] [tI] fun x => r01_Cmp x.1 x.2.1
noncomputable def x19_ : Cx := { ti := ti, con := [(51, c13_)], fns := [], un := 6 }
theorem xok19_ : CxOk Tryz.prog x19_ := CxOk.of mixed ti_ok (fc ⟨con13_, fz⟩) fz
theorem r19_0 (x : S19_0.X) : denC x19_ [] (denF x19_ 8) L19_0 (S19_0.mkS 26 x) (kRound 0 S19_0 E19_0) = R_r01_Cmp_0 x := by kernel_rfl
theorem l19_0 : LpOk Tryz.prog 0 (.loop L19_0) P19_0 := lpOf_ok xok19_ 8 (lps_nil) S19_0 E19_0 26 R_r01_Cmp_0 (by decide) r19_0
theorem fn19_ : FnOk Tryz.prog 57 Tryz.f57 [(0, P19_0)] := ⟨Tryz.func57, Tryz.call57, lps_of (by kernel_rfl) (lps_one l19_0 (by kernel_rfl) fz)⟩
theorem e19_ (a : NI) (b : NI) : bodyK x19_ [(0, P19_0)] (denF x19_ 8) Tryz.f57 (domV [tN, tN] (a, b, ())) [] 0 (kOut [tI]) = r01_Cmp' a b := by kernel_rfl
theorem con19_ : ConOk Tryz.prog 57 c19_ := con_ok xok19_ 8 fn19_ true [tN, tN] [tI] _ (by decide) (fun x => by rw [r01_Cmp_eq]; exact e19_ x.1 x.2.1)
noncomputable def c1a_ : Con := conV true [tN, tI] [tI] fun x => r01_Bit x.1 x.2.1
noncomputable def x1a_ : Cx := { ti := ti, con := [(51, c13_)], fns := [], un := 6 }
theorem xok1a_ : CxOk Tryz.prog x1a_ := CxOk.of mixed ti_ok (fc ⟨con13_, fz⟩) fz
theorem fn1a_ : FnOk Tryz.prog 103 Tryz.f103 [] := ⟨Tryz.func103, Tryz.call103, lps_nil⟩
theorem e1a_ (a : NI) (k : Int) : bodyK x1a_ [] (denF x1a_ 8) Tryz.f103 (domV [tN, tI] (a, k, ())) [] 0 (kOut [tI]) = r01_Bit' a k := by kernel_rfl
theorem con1a_ : ConOk Tryz.prog 103 c1a_ := con_ok xok1a_ 8 fn1a_ true [tN, tI] [tI] _ (by decide) (fun x => by rw [r01_Bit_eq]; exact e1a_ x.1 x.2.1)
abbrev S1b_0 : Shape := { sl := [(pc 2 tN 1), (pc 3 (.arr 256 .bool) 2), (pv 4 tI)], ob := [(pv 1 tN), (pv 2 (.arr 256 .bool))], lo := 3, nx := 3 }
abbrev E1b_0 : List Ex := [(.normal, { sl := [(pc 2 tN 1), (pc 3 (.arr 256 .bool) 2)], ob := [(pv 1 tN), (pv 2 (.arr 256 .bool))], lo := 3, nx := 3 })]
noncomputable def L1b_0 : Code := loopIn (bodyOf Tryz.f96) 0
noncomputable def P1b_0 : Lp := lpOf S1b_0 E1b_0 19 R_r01_Not_0
noncomputable def c1b_ : Con := conV true [tN] [tN] fun x => r01_Not x.1
noncomputable def x1b_ : Cx := { ti := ti, con := [(51, c13_), (56, c11_)], fns := [], un := 6 }
theorem xok1b_ : CxOk Tryz.prog x1b_ := CxOk.of mixed ti_ok (fc ⟨con13_, fc ⟨con11_, fz⟩⟩) fz
theorem r1b_0 (x : S1b_0.X) : denC x1b_ [] (denF x1b_ 8) L1b_0 (S1b_0.mkS 19 x) (kRound 0 S1b_0 E1b_0) = R_r01_Not_0 x := by kernel_rfl
theorem l1b_0 : LpOk Tryz.prog 0 (.loop L1b_0) P1b_0 := lpOf_ok xok1b_ 8 (lps_nil) S1b_0 E1b_0 19 R_r01_Not_0 (by decide) r1b_0
theorem fn1b_ : FnOk Tryz.prog 96 Tryz.f96 [(0, P1b_0)] := ⟨Tryz.func96, Tryz.call96, lps_of (by kernel_rfl) (lps_one l1b_0 (by kernel_rfl) fz)⟩
theorem e1b_ (a : NI) : bodyK x1b_ [(0, P1b_0)] (denF x1b_ 8) Tryz.f96 (domV [tN] (a, ())) [] 0 (kOut [tN]) = r01_Not' a := by kernel_rfl
theorem con1b_ : ConOk Tryz.prog 96 c1b_ := con_ok xok1b_ 8 fn1b_ true [tN] [tN] _ (by decide) (fun x => by rw [r01_Not_eq]; exact e1b_ x.1)
noncomputable def c1c_ : Con := conV true [tN, tN] [tN, tI] fun x => r01_Sub x.1 x.2.1
noncomputable def x1c_ : Cx := { ti := ti, con := [(96, c1b_), (20, c12_), (52, c15_), (57, c19_)], fns := [], un := 6 }
theorem xok1c_ : CxOk Tryz.prog x1c_ := CxOk.of mixed ti_ok (fc ⟨con1b_, fc ⟨con12_, fc ⟨con15_, fc ⟨con19_, fz⟩⟩⟩⟩) fz
theorem fn1c_ : FnOk Tryz.prog 61 Tryz.f61 [] := ⟨Tryz.func61, Tryz.call61, lps_nil⟩
theorem e1c_ (a : NI) (b : NI) : bodyK x1c_ [] (denF x1c_ 8) Tryz.f61 (domV [tN, tN] (a, b, ())) [] 0 (kOut [tN, tI]) = r01_Sub' a b := by kernel_rfl
theorem con1c_ : ConOk Tryz.prog 61 c1c_ := con_ok xok1c_ 8 fn1c_ true [tN, tN] [tN, tI] _ (by decide) (fun x => by rw [r01_Sub_eq]; exact e1c_ x.1 x.2.1)
end Go.Proofs.YtkhhonbkgckjjaaGreat

namespace Go.Proofs.YtkhhonbkgckjjaaGreat
noncomputable def c1y_ : Con := conV false [(.pair (.sl (.pair tN tI)) tN)] [(.ptr (.pair (.pair (.ptr (.pair tN (.pair tU (.pair tN tN)))) (.ptr (.pair tN (.pair tU (.pair tN tN))))) tN)), tI] fun x => group_New x.1
noncomputable def x1y_ : Cx := { ti := ti, con := [(89, c10_), (33, c0m_), (26, c05_), (32, c06_), (90, c0w_), (37, c0v_)], fns := [], un := 6 }
theorem xok1y_ : CxOk Tryz.prog x1y_ := CxOk.of mixed ti_ok (fc ⟨con10_, fc ⟨con0m_, fc ⟨con05_, fc ⟨con06_, fc ⟨con0w_, fc ⟨con0v_, fz⟩⟩⟩⟩⟩⟩) fz
theorem fn1y_ : FnOk Tryz.prog 46 Tryz.f46 [] := ⟨Tryz.func46, Tryz.call46, lps_nil⟩
theorem e1y_ (p : ((Nat × (Nat → (NI × Int))) × NI)) : bodyK x1y_ [] (denF x1y_ 8) Tryz.f46 (domV [(.pair (.sl (.pair tN tI)) tN)] (p, ())) [] 0 (kOut [(.ptr (.pair (.pair (.ptr (.pair tN (.pair tU (.pair tN tN)))) (.ptr (.pair tN (.pair tU (.pair tN tN))))) tN)), tI]) = group_New' p := by kernel_rfl
theorem con1y_ : ConOk Tryz.prog 46 c1y_ := con_ok xok1y_ 8 fn1y_ false [(.pair (.sl (.pair tN tI)) tN)] [(.ptr (.pair (.pair (.ptr (.pair tN (.pair tU (.pair tN tN)))) (.ptr (.pair tN (.pair tU (.pair tN tN))))) tN)), tI] _ (by decide) (fun x => by rw [group_New_eq]; exact e1y_ x.1)
noncomputable def c1z_ : Con := conV true [(.pair (.sl (.pair tN tI)) tN)] [tI] fun x => group_Check x.1
noncomputable def x1z_ : Cx := { ti := ti, con := [(46, c1y_)], fns := [], un := 6 }
theorem xok1z_ : CxOk Tryz.prog x1z_ := CxOk.of mixed ti_ok (fc ⟨con1y_, fz⟩) fz
theorem fn1z_ : FnOk Tryz.prog 14 Tryz.f14 [] := ⟨Tryz.func14, Tryz.call14, lps_nil⟩
theorem e1z_ (p : ((Nat × (Nat → (NI × Int))) × NI)) : bodyK x1z_ [] (denF x1z_ 8) Tryz.f14 (domV [(.pair (.sl (.pair tN tI)) tN)] (p, ())) [] 0 (kOut [tI]) = group_Check' p := by kernel_rfl
theorem con1z_ : ConOk Tryz.prog 14 c1z_ := con_ok xok1z_ 8 fn1z_ true [(.pair (.sl (.pair tN tI)) tN)] [tI] _ (by decide) (fun x => by rw [group_Check_eq]; exact e1z_ x.1)
end Go.Proofs.YtkhhonbkgckjjaaGreat

namespace Go.Proofs.YtkhhonbkgckjjaaGreat
abbrev S2e_0 : Shape := { sl := [(pc 2 tN 0), (pc 3 tN 1), (pc 4 (.arr 32 tI) 2), (pc 5 (.arr 32 tI) 3), (pv 6 tI)], ob := [(pv 0 tN), (pv 1 tN), (pv 2 (.arr 32 tI)), (pv 3 (.arr 32 tI))], lo := 4, nx := 4 }
abbrev E2e_0 : List Ex := [(.normal, { sl := [(pc 4 (.arr 32 tI) 2), (pc 5 (.arr 32 tI) 3)], ob := [(pv 2 (.arr 32 tI)), (pv 3 (.arr 32 tI))], lo := 4, nx := 4 })]
noncomputable def L2e_0 : Code := loopIn (bodyOf Tryz.f98) 0
noncomputable def P2e_0 : Lp := lpOf S2e_0 E2e_0 38 R_r02_Of_0
noncomputable def c2e_ : Con := conV true [tN, tN] [(.arr 32 tI)] fun x => r02_Of x.1 x.2.1
noncomputable def x2e_ : Cx := { ti := ti, con := [], fns := [], un := 6 }
theorem xok2e_ : CxOk Tryz.prog x2e_ := CxOk.of mixed ti_ok fz fz
theorem r2e_0 (x : S2e_0.X) : denC x2e_ [] (denF x2e_ 8) L2e_0 (S2e_0.mkS 38 x) (kRound 0 S2e_0 E2e_0) = R_r02_Of_0 x := by kernel_rfl
theorem l2e_0 : LpOk Tryz.prog 0 (.loop L2e_0) P2e_0 := lpOf_ok xok2e_ 8 (lps_nil) S2e_0 E2e_0 38 R_r02_Of_0 (by decide) r2e_0
theorem fn2e_ : FnOk Tryz.prog 98 Tryz.f98 [(0, P2e_0)] := ⟨Tryz.func98, Tryz.call98, lps_of (by kernel_rfl) (lps_one l2e_0 (by kernel_rfl) fz)⟩
theorem e2e_ (low : NI) (high : NI) : bodyK x2e_ [(0, P2e_0)] (denF x2e_ 8) Tryz.f98 (domV [tN, tN] (low, high, ())) [] 0 (kOut [(.arr 32 tI)]) = r02_Of' low high := by kernel_rfl
theorem con2e_ : ConOk Tryz.prog 98 c2e_ := con_ok xok2e_ 8 fn2e_ true [tN, tN] [(.arr 32 tI)] _ (by decide) (fun x => by rw [r02_Of_eq]; exact e2e_ x.1 x.2.1)
abbrev S2f_0 : Shape := { sl := [(pc 2 (.arr 32 tI) 0), (pc 4 (.arr 32 tI) 1), (pc 5 (.arr 32 tI) 2), (pv 6 tI), (pv 7 tI)], ob := [(pv 0 (.arr 32 tI)), (pv 1 (.arr 32 tI)), (pv 2 (.arr 32 tI))], lo := 3, nx := 3 }
abbrev E2f_0 : List Ex := [(.normal, { sl := [(pc 4 (.arr 32 tI) 1), (pc 5 (.arr 32 tI) 2)], ob := [(pv 1 (.arr 32 tI)), (pv 2 (.arr 32 tI))], lo := 3, nx := 3 })]
noncomputable def L2f_0 : Code := loopIn (bodyOf Tryz.f125) 0
noncomputable def P2f_0 : Lp := lpOf S2f_0 E2f_0 28 R_r02_twice_0
noncomputable def c2f_ : Con := conV true [(.arr 32 tI), tI] [(.arr 32 tI)] fun x => r02_twice x.1 x.2.1
noncomputable def x2f_ : Cx := { ti := ti, con := [], fns := [], un := 6 }
theorem xok2f_ : CxOk Tryz.prog x2f_ := CxOk.of mixed ti_ok fz fz
theorem r2f_0 (x : S2f_0.X) : denC x2f_ [] (denF x2f_ 8) L2f_0 (S2f_0.mkS 28 x) (kRound 0 S2f_0 E2f_0) = R_r02_twice_0 x := by kernel_rfl
theorem l2f_0 : LpOk Tryz.prog 0 (.loop L2f_0) P2f_0 := lpOf_ok xok2f_ 8 (lps_nil) S2f_0 E2f_0 28 R_r02_twice_0 (by decide) r2f_0
theorem fn2f_ : FnOk Tryz.prog 125 Tryz.f125 [(0, P2f_0)] := ⟨Tryz.func125, Tryz.call125, lps_of (by kernel_rfl) (lps_one l2f_0 (by kernel_rfl) fz)⟩
theorem e2f_ (a : NI) (one : Int) : bodyK x2f_ [(0, P2f_0)] (denF x2f_ 8) Tryz.f125 (domV [(.arr 32 tI), tI] (a, one, ())) [] 0 (kOut [(.arr 32 tI)]) = r02_twice' a one := by kernel_rfl
theorem con2f_ : ConOk Tryz.prog 125 c2f_ := con_ok xok2f_ 8 fn2f_ true [(.arr 32 tI), tI] [(.arr 32 tI)] _ (by decide) (fun x => by rw [r02_twice_eq]; exact e2f_ x.1 x.2.1)
abbrev S2g_0 : Shape := { sl := [(pc 2 (.arr 32 tI) 0), (pc 3 (.arr 32 tI) 1), (pv 5 tI)], ob := [(pv 0 (.arr 32 tI)), (pv 1 (.arr 32 tI))], lo := 2, nx := 2 }
abbrev E2g_0 : List Ex := [(.ret, { sl := [(4, (.v .bool))], ob := [], lo := 2, nx := 2 }), (.normal, { sl := [], ob := [], lo := 2, nx := 2 })]
noncomputable def L2g_0 : Code := loopIn (bodyOf Tryz.f126) 0
noncomputable def P2g_0 : Lp := lpOf S2g_0 E2g_0 24 R_r02_below_0
noncomputable def c2g_ : Con := conV true [(.arr 32 tI), (.arr 32 tI)] [.bool] fun x => r02_below x.1 x.2.1
noncomputable def x2g_ : Cx := { ti := ti, con := [], fns := [], un := 6 }
theorem xok2g_ : CxOk Tryz.prog x2g_ := CxOk.of mixed ti_ok fz fz
theorem r2g_0 (x : S2g_0.X) : denC x2g_ [] (denF x2g_ 8) L2g_0 (S2g_0.mkS 24 x) (kRound 0 S2g_0 E2g_0) = R_r02_below_0 x := by kernel_rfl
theorem l2g_0 : LpOk Tryz.prog 0 (.loop L2g_0) P2g_0 := lpOf_ok xok2g_ 8 (lps_nil) S2g_0 E2g_0 24 R_r02_below_0 (by decide) r2g_0
theorem fn2g_ : FnOk Tryz.prog 126 Tryz.f126 [(0, P2g_0)] := ⟨Tryz.func126, Tryz.call126, lps_of (by kernel_rfl) (lps_one l2g_0 (by kernel_rfl) fz)⟩
theorem e2g_ (a : NI) (b : NI) : bodyK x2g_ [(0, P2g_0)] (denF x2g_ 8) Tryz.f126 (domV [(.arr 32 tI), (.arr 32 tI)] (a, b, ())) [] 0 (kOut [.bool]) = r02_below' a b := by kernel_rfl
theorem con2g_ : ConOk Tryz.prog 126 c2g_ := con_ok xok2g_ 8 fn2g_ true [(.arr 32 tI), (.arr 32 tI)] [.bool] _ (by decide) (fun x => by rw [r02_below_eq]; exact e2g_ x.1 x.2.1)
abbrev S2h_0 : Shape := { sl := [(pc 2 (.arr 32 tI) 0), (pc 3 (.arr 32 tI) 1), (pc 4 (.arr 32 tI) 2), (pv 5 tI), (pc 6 (.arr 32 tI) 3), (pv 7 tI)], ob := [(pv 0 (.arr 32 tI)), (pv 1 (.arr 32 tI)), (pv 2 (.arr 32 tI)), (pv 3 (.arr 32 tI))], lo := 4, nx := 4 }
abbrev E2h_0 : List Ex := [(.normal, { sl := [(pc 4 (.arr 32 tI) 2), (pc 6 (.arr 32 tI) 3)], ob := [(pv 2 (.arr 32 tI)), (pv 3 (.arr 32 tI))], lo := 4, nx := 4 })]
noncomputable def L2h_0 : Code := loopIn (bodyOf Tryz.f127) 0
noncomputable def P2h_0 : Lp := lpOf S2h_0 E2h_0 31 R_r02_less_0
noncomputable def c2h_ : Con := conV true [(.arr 32 tI), (.arr 32 tI)] [(.arr 32 tI)] fun x => r02_less x.1 x.2.1
noncomputable def x2h_ : Cx := { ti := ti, con := [], fns := [], un := 6 }
theorem xok2h_ : CxOk Tryz.prog x2h_ := CxOk.of mixed ti_ok fz fz
theorem r2h_0 (x : S2h_0.X) : denC x2h_ [] (denF x2h_ 8) L2h_0 (S2h_0.mkS 31 x) (kRound 0 S2h_0 E2h_0) = R_r02_less_0 x := by kernel_rfl
theorem l2h_0 : LpOk Tryz.prog 0 (.loop L2h_0) P2h_0 := lpOf_ok xok2h_ 8 (lps_nil) S2h_0 E2h_0 31 R_r02_less_0 (by decide) r2h_0
theorem fn2h_ : FnOk Tryz.prog 127 Tryz.f127 [(0, P2h_0)] := ⟨Tryz.func127, Tryz.call127, lps_of (by kernel_rfl) (lps_one l2h_0 (by kernel_rfl) fz)⟩
theorem e2h_ (a : NI) (b : NI) : bodyK x2h_ [(0, P2h_0)] (denF x2h_ 8) Tryz.f127 (domV [(.arr 32 tI), (.arr 32 tI)] (a, b, ())) [] 0 (kOut [(.arr 32 tI)]) = r02_less' a b := by kernel_rfl
theorem con2h_ : ConOk Tryz.prog 127 c2h_ := con_ok xok2h_ 8 fn2h_ true [(.arr 32 tI), (.arr 32 tI)] [(.arr 32 tI)] _ (by decide) (fun x => by rw [r02_less_eq]; exact e2h_ x.1 x.2.1)
abbrev S2i_0 : Shape := { sl := [(pc 2 (.arr 32 tI) 0), (pc 3 (.arr 32 tI) 1), (pc 4 (.arr 32 tI) 2), (pc 5 (.arr 32 tI) 3), (pc 6 (.arr 32 tI) 4), (pc 7 (.arr 32 tI) 5), (pv 8 tI)], ob := [(pv 0 (.arr 32 tI)), (pv 1 (.arr 32 tI)), (pv 2 (.arr 32 tI)), (pv 3 (.arr 32 tI)), (pv 4 (.arr 32 tI)), (pv 5 (.arr 32 tI))], lo := 6, nx := 6 }
abbrev E2i_0 : List Ex := [(.normal, { sl := [(pc 4 (.arr 32 tI) 2), (pc 5 (.arr 32 tI) 3), (pc 6 (.arr 32 tI) 4), (pc 7 (.arr 32 tI) 5)], ob := [(pv 2 (.arr 32 tI)), (pv 3 (.arr 32 tI)), (pv 4 (.arr 32 tI)), (pv 5 (.arr 32 tI))], lo := 6, nx := 6 })]
noncomputable def L2i_0 : Code := loopIn (bodyOf Tryz.f97) 0
noncomputable def P2i_0 : Lp := lpOf S2i_0 E2i_0 45 R_r02_parted_0
noncomputable def c2i_ : Con := conV true [(.arr 32 tI), (.arr 32 tI)] [(.arr 32 tI), (.arr 32 tI)] fun x => r02_parted x.1 x.2.1
noncomputable def x2i_ : Cx := { ti := ti, con := [(125, c2f_), (126, c2g_), (127, c2h_)], fns := [], un := 6 }
theorem xok2i_ : CxOk Tryz.prog x2i_ := CxOk.of mixed ti_ok (fc ⟨con2f_, fc ⟨con2g_, fc ⟨con2h_, fz⟩⟩⟩) fz
theorem r2i_0 (x : S2i_0.X) : denC x2i_ [] (denF x2i_ 8) L2i_0 (S2i_0.mkS 45 x) (kRound 0 S2i_0 E2i_0) = R_r02_parted_0 x := by kernel_rfl
theorem l2i_0 : LpOk Tryz.prog 0 (.loop L2i_0) P2i_0 := lpOf_ok xok2i_ 8 (lps_nil) S2i_0 E2i_0 45 R_r02_parted_0 (by decide) r2i_0
theorem fn2i_ : FnOk Tryz.prog 97 Tryz.f97 [(0, P2i_0)] := ⟨Tryz.func97, Tryz.call97, lps_of (by kernel_rfl) (lps_one l2i_0 (by kernel_rfl) fz)⟩
theorem e2i_ (a : NI) (m : NI) : bodyK x2i_ [(0, P2i_0)] (denF x2i_ 8) Tryz.f97 (domV [(.arr 32 tI), (.arr 32 tI)] (a, m, ())) [] 0 (kOut [(.arr 32 tI), (.arr 32 tI)]) = r02_parted' a m := by kernel_rfl
theorem con2i_ : ConOk Tryz.prog 97 c2i_ := con_ok xok2i_ 8 fn2i_ true [(.arr 32 tI), (.arr 32 tI)] [(.arr 32 tI), (.arr 32 tI)] _ (by decide) (fun x => by rw [r02_parted_eq]; exact e2i_ x.1 x.2.1)
abbrev S2j_0 : Shape := { sl := [(pc 1 (.arr 32 tI) 0), (pc 2 tN 1), (pc 3 tN 2), (pc 4 tN 3), (pc 5 tN 4), (pv 6 tI)], ob := [(pv 0 (.arr 32 tI)), (pv 1 tN), (pv 2 tN), (pv 3 tN), (pv 4 tN)], lo := 5, nx := 5 }
abbrev E2j_0 : List Ex := [(.normal, { sl := [(pc 2 tN 1), (pc 3 tN 2), (pc 4 tN 3), (pc 5 tN 4)], ob := [(pv 1 tN), (pv 2 tN), (pv 3 tN), (pv 4 tN)], lo := 5, nx := 5 })]
noncomputable def L2j_0 : Code := loopIn (bodyOf Tryz.f99) 0
noncomputable def P2j_0 : Lp := lpOf S2j_0 E2j_0 48 R_r02_Nats_0
noncomputable def c2j_ : Con := conV true [(.arr 32 tI)] [tN, tN] fun x => r02_Nats x.1
noncomputable def x2j_ : Cx := { ti := ti, con := [], fns := [], un := 6 }
theorem xok2j_ : CxOk Tryz.prog x2j_ := CxOk.of mixed ti_ok fz fz
theorem r2j_0 (x : S2j_0.X) : denC x2j_ [] (denF x2j_ 8) L2j_0 (S2j_0.mkS 48 x) (kRound 0 S2j_0 E2j_0) = R_r02_Nats_0 x := by kernel_rfl
theorem l2j_0 : LpOk Tryz.prog 0 (.loop L2j_0) P2j_0 := lpOf_ok xok2j_ 8 (lps_nil) S2j_0 E2j_0 48 R_r02_Nats_0 (by decide) r2j_0
theorem fn2j_ : FnOk Tryz.prog 99 Tryz.f99 [(0, P2j_0)] := ⟨Tryz.func99, Tryz.call99, lps_of (by kernel_rfl) (lps_one l2j_0 (by kernel_rfl) fz)⟩
theorem e2j_ (d : NI) : bodyK x2j_ [(0, P2j_0)] (denF x2j_ 8) Tryz.f99 (domV [(.arr 32 tI)] (d, ())) [] 0 (kOut [tN, tN]) = r02_Nats' d := by kernel_rfl
theorem con2j_ : ConOk Tryz.prog 99 c2j_ := con_ok xok2j_ 8 fn2j_ true [(.arr 32 tI)] [tN, tN] _ (by decide) (fun x => by rw [r02_Nats_eq]; exact e2j_ x.1)
noncomputable def c2k_ : Con := conV true [tN, tN] [tN, tN, tI] fun x => r02_Div x.1 x.2.1
noncomputable def x2k_ : Cx := { ti := ti, con := [(98, c2e_), (97, c2i_), (99, c2j_)], fns := [], un := 6 }
theorem xok2k_ : CxOk Tryz.prog x2k_ := CxOk.of mixed ti_ok (fc ⟨con2e_, fc ⟨con2i_, fc ⟨con2j_, fz⟩⟩⟩) fz
theorem fn2k_ : FnOk Tryz.prog 62 Tryz.f62 [] := ⟨Tryz.func62, Tryz.call62, lps_nil⟩
theorem e2k_ (a : NI) (b : NI) : bodyK x2k_ [] (denF x2k_ 8) Tryz.f62 (domV [tN, tN] (a, b, ())) [] 0 (kOut [tN, tN, tI]) = r02_Div' a b := by kernel_rfl
theorem con2k_ : ConOk Tryz.prog 62 c2k_ := con_ok xok2k_ 8 fn2k_ true [tN, tN] [tN, tN, tI] _ (by decide) (fun x => by rw [r02_Div_eq]; exact e2k_ x.1 x.2.1)
abbrev S2l_2 : Shape := { sl := [(pc 4 tN 2), (pc 5 tN 3), (pc 6 (.arr 32 tI) 4), (pc 7 (.arr 32 tI) 5), (pc 8 (.arr 32 tI) 6), (pv 9 tI), (pv 10 tI), (pv 11 tI)], ob := [(pv 2 tN), (pv 3 tN), (pv 4 (.arr 32 tI)), (pv 5 (.arr 32 tI)), (pv 6 (.arr 32 tI))], lo := 7, nx := 7 }
abbrev E2l_2 : List Ex := [(.normal, { sl := [(pc 4 tN 2), (pc 5 tN 3), (pc 6 (.arr 32 tI) 4), (pc 7 (.arr 32 tI) 5), (pc 8 (.arr 32 tI) 6), (pv 9 tI), (pv 10 tI)], ob := [(pv 2 tN), (pv 3 tN), (pv 4 (.arr 32 tI)), (pv 5 (.arr 32 tI)), (pv 6 (.arr 32 tI))], lo := 7, nx := 7 })]
noncomputable def L2l_2 : Code := loopIn (bodyOf Tryz.f94) 2
noncomputable def P2l_2 : Lp := lpOf S2l_2 E2l_2 59 R_r02_Mul_2
abbrev S2l_0 : Shape := { sl := [(pc 4 tN 2), (pc 5 tN 3), (pc 6 (.arr 32 tI) 4), (pc 7 (.arr 32 tI) 5), (pc 8 (.arr 32 tI) 6), (pv 9 tI)], ob := [(pv 2 tN), (pv 3 tN), (pv 4 (.arr 32 tI)), (pv 5 (.arr 32 tI)), (pv 6 (.arr 32 tI))], lo := 7, nx := 7 }
abbrev E2l_0 : List Ex := [(.normal, { sl := [(pc 4 tN 2), (pc 5 tN 3), (pc 8 (.arr 32 tI) 6)], ob := [(pv 2 tN), (pv 3 tN), (pv 6 (.arr 32 tI))], lo := 7, nx := 7 })]
noncomputable def L2l_0 : Code := loopIn (bodyOf Tryz.f94) 0
noncomputable def P2l_0 : Lp := lpOf S2l_0 E2l_0 59 R_r02_Mul_0
noncomputable def c2l_ : Con := conV true [tN, tN] [tN, tN] fun x => r02_Mul x.1 x.2.1
noncomputable def x2l_ : Cx := { ti := ti, con := [(98, c2e_), (99, c2j_)], fns := [], un := 6 }
theorem xok2l_ : CxOk Tryz.prog x2l_ := CxOk.of mixed ti_ok (fc ⟨con2e_, fc ⟨con2j_, fz⟩⟩) fz
theorem r2l_2 (x : S2l_2.X) : denC x2l_ [] (denF x2l_ 8) L2l_2 (S2l_2.mkS 59 x) (kRound 2 S2l_2 E2l_2) = R_r02_Mul_2 x := by kernel_rfl
theorem l2l_2 : LpOk Tryz.prog 2 (.loop L2l_2) P2l_2 := lpOf_ok xok2l_ 8 (lps_nil) S2l_2 E2l_2 59 R_r02_Mul_2 (by decide) r2l_2
theorem r2l_0 (x : S2l_0.X) : denC x2l_ [(2, P2l_2)] (denF x2l_ 8) L2l_0 (S2l_0.mkS 59 x) (kRound 0 S2l_0 E2l_0) = R_r02_Mul_0 x := by kernel_rfl
theorem l2l_0 : LpOk Tryz.prog 0 (.loop L2l_0) P2l_0 := lpOf_ok xok2l_ 8 (lps_of (by kernel_rfl) (lps_one l2l_2 (by kernel_rfl) fz)) S2l_0 E2l_0 59 R_r02_Mul_0 (by decide) r2l_0
theorem fn2l_ : FnOk Tryz.prog 94 Tryz.f94 [(2, P2l_2), (0, P2l_0)] := ⟨Tryz.func94, Tryz.call94, lps_of (by kernel_rfl) (lps_one l2l_2 (by kernel_rfl) (lps_one l2l_0 (by kernel_rfl) fz))⟩
theorem e2l_ (a : NI) (b : NI) : bodyK x2l_ [(2, P2l_2), (0, P2l_0)] (denF x2l_ 8) Tryz.f94 (domV [tN, tN] (a, b, ())) [] 0 (kOut [tN, tN]) = r02_Mul' a b := by kernel_rfl
theorem con2l_ : ConOk Tryz.prog 94 c2l_ := con_ok xok2l_ 8 fn2l_ true [tN, tN] [tN, tN] _ (by decide) (fun x => by rw [r02_Mul_eq]; exact e2l_ x.1 x.2.1)
noncomputable def c2m_ : Con := conV true [tN, tN, tN] [tN, tI] fun x => r02_Rem x.1 x.2.1 x.2.2.1
noncomputable def x2m_ : Cx := { ti := ti, con := [(98, c2e_), (97, c2i_), (99, c2j_)], fns := [], un := 6 }
theorem xok2m_ : CxOk Tryz.prog x2m_ := CxOk.of mixed ti_ok (fc ⟨con2e_, fc ⟨con2i_, fc ⟨con2j_, fz⟩⟩⟩) fz
theorem fn2m_ : FnOk Tryz.prog 100 Tryz.f100 [] := ⟨Tryz.func100, Tryz.call100, lps_nil⟩
theorem e2m_ (low : NI) (high : NI) (m : NI) : bodyK x2m_ [] (denF x2m_ 8) Tryz.f100 (domV [tN, tN, tN] (low, high, m, ())) [] 0 (kOut [tN, tI]) = r02_Rem' low high m := by kernel_rfl
theorem con2m_ : ConOk Tryz.prog 100 c2m_ := con_ok xok2m_ 8 fn2m_ true [tN, tN, tN] [tN, tI] _ (by decide) (fun x => by rw [r02_Rem_eq]; exact e2m_ x.1 x.2.1 x.2.2.1)
noncomputable def c2n_ : Con := conV true [tN, tN, tN] [tN, tI] fun x => r02_MulMod x.1 x.2.1 x.2.2.1
noncomputable def x2n_ : Cx := { ti := ti, con := [(94, c2l_), (100, c2m_)], fns := [], un := 6 }
theorem xok2n_ : CxOk Tryz.prog x2n_ := CxOk.of mixed ti_ok (fc ⟨con2l_, fc ⟨con2m_, fz⟩⟩) fz
theorem fn2n_ : FnOk Tryz.prog 102 Tryz.f102 [] := ⟨Tryz.func102, Tryz.call102, lps_nil⟩
theorem e2n_ (a : NI) (b : NI) (m : NI) : bodyK x2n_ [] (denF x2n_ 8) Tryz.f102 (domV [tN, tN, tN] (a, b, m, ())) [] 0 (kOut [tN, tI]) = r02_MulMod' a b m := by kernel_rfl
theorem con2n_ : ConOk Tryz.prog 102 c2n_ := con_ok xok2n_ 8 fn2n_ true [tN, tN, tN] [tN, tI] _ (by decide) (fun x => by rw [r02_MulMod_eq]; exact e2n_ x.1 x.2.1 x.2.2.1)
noncomputable def c2o_ : Con := conV true [tN, tN, tN] [tN, tI] fun x => r02_AddMod x.1 x.2.1 x.2.2.1
noncomputable def x2o_ : Cx := { ti := ti, con := [(52, c15_), (20, c12_), (100, c2m_)], fns := [], un := 6 }
theorem xok2o_ : CxOk Tryz.prog x2o_ := CxOk.of mixed ti_ok (fc ⟨con15_, fc ⟨con12_, fc ⟨con2m_, fz⟩⟩⟩) fz
theorem fn2o_ : FnOk Tryz.prog 140 Tryz.f140 [] := ⟨Tryz.func140, Tryz.call140, lps_nil⟩
theorem e2o_ (a : NI) (b : NI) (m : NI) : bodyK x2o_ [] (denF x2o_ 8) Tryz.f140 (domV [tN, tN, tN] (a, b, m, ())) [] 0 (kOut [tN, tI]) = r02_AddMod' a b m := by kernel_rfl
theorem con2o_ : ConOk Tryz.prog 140 c2o_ := con_ok xok2o_ 8 fn2o_ true [tN, tN, tN] [tN, tI] _ (by decide) (fun x => by rw [r02_AddMod_eq]; exact e2o_ x.1 x.2.1 x.2.2.1)
noncomputable def c2p_ : Con := conV true [tN, tN, tN] [tN, tI] fun x => r02_SubMod x.1 x.2.1 x.2.2.1
noncomputable def x2p_ : Cx := { ti := ti, con := [(100, c2m_), (61, c1c_), (140, c2o_)], fns := [], un := 6 }
theorem xok2p_ : CxOk Tryz.prog x2p_ := CxOk.of mixed ti_ok (fc ⟨con2m_, fc ⟨con1c_, fc ⟨con2o_, fz⟩⟩⟩) fz
theorem fn2p_ : FnOk Tryz.prog 123 Tryz.f123 [] := ⟨Tryz.func123, Tryz.call123, lps_nil⟩
theorem e2p_ (a : NI) (b : NI) (m : NI) : bodyK x2p_ [] (denF x2p_ 8) Tryz.f123 (domV [tN, tN, tN] (a, b, m, ())) [] 0 (kOut [tN, tI]) = r02_SubMod' a b m := by kernel_rfl
theorem con2p_ : ConOk Tryz.prog 123 c2p_ := con_ok xok2p_ 8 fn2p_ true [tN, tN, tN] [tN, tI] _ (by decide) (fun x => by rw [r02_SubMod_eq]; exact e2p_ x.1 x.2.1 x.2.2.1)
abbrev S2q_0 : Shape := { sl := [(pc 4 tN 2), (pc 5 tN 3), (pc 6 tN 4), (pv 7 tI)], ob := [(pv 2 tN), (pv 3 tN), (pv 4 tN)], lo := 5, nx := 5 }
abbrev E2q_0 : List Ex := [(.normal, { sl := [(pc 4 tN 2), (pc 5 tN 3)], ob := [(pv 2 tN), (pv 3 tN)], lo := 5, nx := 5 })]
noncomputable def L2q_0 : Code := loopIn (bodyOf Tryz.f124) 0
noncomputable def P2q_0 : Lp := lpOf S2q_0 E2q_0 32 R_r02_Gcd_0
noncomputable def c2q_ : Con := conV true [tN, tN] [tN] fun x => r02_Gcd x.1 x.2.1
noncomputable def x2q_ : Cx := { ti := ti, con := [(62, c2k_)], fns := [], un := 6 }
theorem xok2q_ : CxOk Tryz.prog x2q_ := CxOk.of mixed ti_ok (fc ⟨con2k_, fz⟩) fz
theorem r2q_0 (x : S2q_0.X) : denC x2q_ [] (denF x2q_ 8) L2q_0 (S2q_0.mkS 32 x) (kRound 0 S2q_0 E2q_0) = R_r02_Gcd_0 x := by kernel_rfl
theorem l2q_0 : LpOk Tryz.prog 0 (.loop L2q_0) P2q_0 := lpOf_ok xok2q_ 8 (lps_nil) S2q_0 E2q_0 32 R_r02_Gcd_0 (by decide) r2q_0
theorem fn2q_ : FnOk Tryz.prog 124 Tryz.f124 [(0, P2q_0)] := ⟨Tryz.func124, Tryz.call124, lps_of (by kernel_rfl) (lps_one l2q_0 (by kernel_rfl) fz)⟩
theorem e2q_ (a : NI) (b : NI) : bodyK x2q_ [(0, P2q_0)] (denF x2q_ 8) Tryz.f124 (domV [tN, tN] (a, b, ())) [] 0 (kOut [tN]) = r02_Gcd' a b := by kernel_rfl
theorem con2q_ : ConOk Tryz.prog 124 c2q_ := con_ok xok2q_ 8 fn2q_ true [tN, tN] [tN] _ (by decide) (fun x => by rw [r02_Gcd_eq]; exact e2q_ x.1 x.2.1)
end Go.Proofs.YtkhhonbkgckjjaaGreat

namespace Go.Proofs.YtkhhonbkgckjjaaGreat
noncomputable def c2r_ : Con := conV true [tN] [.bool] fun x => r03_May x.1
noncomputable def x2r_ : Cx := { ti := ti, con := [(20, c12_)], fns := [], un := 6 }
theorem xok2r_ : CxOk Tryz.prog x2r_ := CxOk.of mixed ti_ok (fc ⟨con12_, fz⟩) fz
theorem fn2r_ : FnOk Tryz.prog 121 Tryz.f121 [] := ⟨Tryz.func121, Tryz.call121, lps_nil⟩
theorem e2r_ (m : NI) : bodyK x2r_ [] (denF x2r_ 8) Tryz.f121 (domV [tN] (m, ())) [] 0 (kOut [.bool]) = r03_May' m := by kernel_rfl
theorem con2r_ : ConOk Tryz.prog 121 c2r_ := con_ok xok2r_ 8 fn2r_ true [tN] [.bool] _ (by decide) (fun x => by rw [r03_May_eq]; exact e2r_ x.1)
noncomputable def c2s_ : Con := conV true [tI, tI, tI] [tI] fun x => r03_Times x.1 x.2.1 x.2.2.1
noncomputable def x2s_ : Cx := { ti := ti, con := [(78, c03_), (129, c02_)], fns := [], un := 6 }
theorem xok2s_ : CxOk Tryz.prog x2s_ := CxOk.of mixed ti_ok (fc ⟨con03_, fc ⟨con02_, fz⟩⟩) fz
theorem fn2s_ : FnOk Tryz.prog 128 Tryz.f128 [] := ⟨Tryz.func128, Tryz.call128, lps_nil⟩
theorem e2s_ (a : Int) (b : Int) (m : Int) : bodyK x2s_ [] (denF x2s_ 8) Tryz.f128 (domV [tI, tI, tI] (a, b, m, ())) [] 0 (kOut [tI]) = r03_Times' a b m := by kernel_rfl
theorem con2s_ : ConOk Tryz.prog 128 c2s_ := con_ok xok2s_ 8 fn2s_ true [tI, tI, tI] [tI] _ (by decide) (fun x => by rw [r03_Times_eq]; exact e2s_ x.1 x.2.1 x.2.2.1)
abbrev S2t_0 : Shape := { sl := [(pv 0 tI), (pv 2 tI), (pc 4 tN 0), (pv 7 tI), (pv 8 tI)], ob := [(pv 0 tN)], lo := 1, nx := 1 }
abbrev E2t_0 : List Ex := [(.normal, { sl := [(pv 7 tI)], ob := [], lo := 1, nx := 1 })]
noncomputable def L2t_0 : Code := loopIn (bodyOf Tryz.f101) 0
noncomputable def P2t_0 : Lp := lpOf S2t_0 E2t_0 31 R_r03_Power_0
noncomputable def c2t_ : Con := conV true [tI, tN, tI] [tI] fun x => r03_Power x.1 x.2.1 x.2.2.1
noncomputable def x2t_ : Cx := { ti := ti, con := [(22, c17_), (128, c2s_), (103, c1a_)], fns := [], un := 6 }
theorem xok2t_ : CxOk Tryz.prog x2t_ := CxOk.of mixed ti_ok (fc ⟨con17_, fc ⟨con2s_, fc ⟨con1a_, fz⟩⟩⟩) fz
theorem r2t_0 (x : S2t_0.X) : denC x2t_ [] (denF x2t_ 8) L2t_0 (S2t_0.mkS 31 x) (kRound 0 S2t_0 E2t_0) = R_r03_Power_0 x := by kernel_rfl
theorem l2t_0 : LpOk Tryz.prog 0 (.loop L2t_0) P2t_0 := lpOf_ok xok2t_ 8 (lps_nil) S2t_0 E2t_0 31 R_r03_Power_0 (by decide) r2t_0
theorem fn2t_ : FnOk Tryz.prog 101 Tryz.f101 [(0, P2t_0)] := ⟨Tryz.func101, Tryz.call101, lps_of (by kernel_rfl) (lps_one l2t_0 (by kernel_rfl) fz)⟩
theorem e2t_ (a : Int) (e : NI) (m : Int) : bodyK x2t_ [(0, P2t_0)] (denF x2t_ 8) Tryz.f101 (domV [tI, tN, tI] (a, e, m, ())) [] 0 (kOut [tI]) = r03_Power' a e m := by kernel_rfl
theorem con2t_ : ConOk Tryz.prog 101 c2t_ := con_ok xok2t_ 8 fn2t_ true [tI, tN, tI] [tI] _ (by decide) (fun x => by rw [r03_Power_eq]; exact e2t_ x.1 x.2.1 x.2.2.1)
abbrev S2u_0 : Shape := { sl := [(pc 3 tN 0), (pc 4 tN 1), (pc 5 tN 2), (pc 6 tN 3), (pc 13 tN 4), (pv 15 tI)], ob := [(pv 0 tN), (pv 1 tN), (pv 2 tN), (pv 3 tN), (pv 4 tN)], lo := 5, nx := 5 }
abbrev E2u_0 : List Ex := [(.normal, { sl := [(pc 6 tN 3), (pc 13 tN 4)], ob := [(pv 3 tN), (pv 4 tN)], lo := 5, nx := 5 })]
noncomputable def L2u_0 : Code := loopIn (bodyOf Tryz.f63) 0
noncomputable def P2u_0 : Lp := lpOf S2u_0 E2u_0 86 R_r03_Exp_0
noncomputable def c2u_ : Con := conV true [tN, tN, tN] [tN] fun x => r03_Exp x.1 x.2.1 x.2.2.1
noncomputable def x2u_ : Cx := { ti := ti, con := [(17, c18_), (100, c2m_), (101, c2t_), (20, c12_), (22, c17_), (102, c2n_), (103, c1a_)], fns := [], un := 6 }
theorem xok2u_ : CxOk Tryz.prog x2u_ := CxOk.of mixed ti_ok (fc ⟨con18_, fc ⟨con2m_, fc ⟨con2t_, fc ⟨con12_, fc ⟨con17_, fc ⟨con2n_, fc ⟨con1a_, fz⟩⟩⟩⟩⟩⟩⟩) fz
theorem r2u_0 (x : S2u_0.X) : denC x2u_ [] (denF x2u_ 8) L2u_0 (S2u_0.mkS 86 x) (kRound 0 S2u_0 E2u_0) = R_r03_Exp_0 x := by kernel_rfl
theorem l2u_0 : LpOk Tryz.prog 0 (.loop L2u_0) P2u_0 := lpOf_ok xok2u_ 8 (lps_nil) S2u_0 E2u_0 86 R_r03_Exp_0 (by decide) r2u_0
theorem fn2u_ : FnOk Tryz.prog 63 Tryz.f63 [(0, P2u_0)] := ⟨Tryz.func63, Tryz.call63, lps_of (by kernel_rfl) (lps_one l2u_0 (by kernel_rfl) fz)⟩
theorem e2u_ (a : NI) (e : NI) (m : NI) : bodyK x2u_ [(0, P2u_0)] (denF x2u_ 8) Tryz.f63 (domV [tN, tN, tN] (a, e, m, ())) [] 0 (kOut [tN]) = r03_Exp' a e m := by kernel_rfl
theorem con2u_ : ConOk Tryz.prog 63 c2u_ := con_ok xok2u_ 8 fn2u_ true [tN, tN, tN] [tN] _ (by decide) (fun x => by rw [r03_Exp_eq]; exact e2u_ x.1 x.2.1 x.2.2.1)
end Go.Proofs.YtkhhonbkgckjjaaGreat

namespace Go.Proofs.YtkhhonbkgckjjaaGreat
abbrev S2v_0 : Shape := { sl := [(pv 0 tI), (pv 3 tI)], ob := [], lo := 0, nx := 0 }
abbrev E2v_0 : List Ex := [(.ret, { sl := [(2, (.v .bool))], ob := [], lo := 0, nx := 0 }), (.normal, { sl := [], ob := [], lo := 0, nx := 0 })]
noncomputable def L2v_0 : Code := loopIn (bodyOf Tryz.f93) 0
noncomputable def P2v_0 : Lp := lpOf S2v_0 E2v_0 25 R_r04_Plain_0
noncomputable def c2v_ : Con := conV true [tI] [.bool] fun x => r04_Plain x.1
noncomputable def x2v_ : Cx := { ti := ti, con := [], fns := [], un := 6 }
theorem xok2v_ : CxOk Tryz.prog x2v_ := CxOk.of mixed ti_ok fz fz
theorem r2v_0 (x : S2v_0.X) : denC x2v_ [] (denF x2v_ 8) L2v_0 (S2v_0.mkS 25 x) (kRound 0 S2v_0 E2v_0) = R_r04_Plain_0 x := by kernel_rfl
theorem l2v_0 : LpOk Tryz.prog 0 (.loop L2v_0) P2v_0 := lpOf_ok xok2v_ 8 (lps_nil) S2v_0 E2v_0 25 R_r04_Plain_0 (by decide) r2v_0
theorem fn2v_ : FnOk Tryz.prog 93 Tryz.f93 [(0, P2v_0)] := ⟨Tryz.func93, Tryz.call93, lps_of (by kernel_rfl) (lps_one l2v_0 (by kernel_rfl) fz)⟩
theorem e2v_ (n : Int) : bodyK x2v_ [(0, P2v_0)] (denF x2v_ 8) Tryz.f93 (domV [tI] (n, ())) [] 0 (kOut [.bool]) = r04_Plain' n := by kernel_rfl
theorem con2v_ : ConOk Tryz.prog 93 c2v_ := con_ok xok2v_ 8 fn2v_ true [tI] [.bool] _ (by decide) (fun x => by rw [r04_Plain_eq]; exact e2v_ x.1)
noncomputable def c2w_ : Con := conV true [tI] [.bool] fun x => r04_Small x.1
noncomputable def x2w_ : Cx := { ti := ti, con := [(93, c2v_)], fns := [], un := 6 }
theorem xok2w_ : CxOk Tryz.prog x2w_ := CxOk.of mixed ti_ok (fc ⟨con2v_, fz⟩) fz
theorem fn2w_ : FnOk Tryz.prog 55 Tryz.f55 [] := ⟨Tryz.func55, Tryz.call55, lps_nil⟩
theorem e2w_ (n : Int) : bodyK x2w_ [] (denF x2w_ 8) Tryz.f55 (domV [tI] (n, ())) [] 0 (kOut [.bool]) = r04_Small' n := by kernel_rfl
theorem con2w_ : ConOk Tryz.prog 55 c2w_ := con_ok xok2w_ 8 fn2w_ true [tI] [.bool] _ (by decide) (fun x => by rw [r04_Small_eq]; exact e2w_ x.1)
abbrev S2x_0 : Shape := { sl := [(pv 8 tI), (pv 9 tI), (pv 10 tI)], ob := [], lo := 0, nx := 0 }
abbrev E2x_0 : List Ex := [(.normal, { sl := [(pv 8 tI)], ob := [], lo := 0, nx := 0 })]
noncomputable def L2x_0 : Code := loopIn (bodyOf Tryz.f122) 0
noncomputable def P2x_0 : Lp := lpOf S2x_0 E2x_0 65 R_r04_step_0
noncomputable def c2x_ : Con := conV true [tI, tI, tI] [.bool] fun x => r04_step x.1 x.2.1 x.2.2.1
noncomputable def x2x_ : Cx := { ti := ti, con := [(20, c12_), (101, c2t_)], fns := [], un := 6 }
theorem xok2x_ : CxOk Tryz.prog x2x_ := CxOk.of mixed ti_ok (fc ⟨con12_, fc ⟨con2t_, fz⟩⟩) fz
theorem r2x_0 (x : S2x_0.X) : denC x2x_ [] (denF x2x_ 8) L2x_0 (S2x_0.mkS 65 x) (kRound 0 S2x_0 E2x_0) = R_r04_step_0 x := by kernel_rfl
theorem l2x_0 : LpOk Tryz.prog 0 (.loop L2x_0) P2x_0 := lpOf_ok xok2x_ 8 (lps_nil) S2x_0 E2x_0 65 R_r04_step_0 (by decide) r2x_0
theorem fn2x_ : FnOk Tryz.prog 122 Tryz.f122 [(0, P2x_0)] := ⟨Tryz.func122, Tryz.call122, lps_of (by kernel_rfl) (lps_one l2x_0 (by kernel_rfl) fz)⟩
theorem e2x_ (n : Int) (f : Int) (witness : Int) : bodyK x2x_ [(0, P2x_0)] (denF x2x_ 8) Tryz.f122 (domV [tI, tI, tI] (n, f, witness, ())) [] 0 (kOut [.bool]) = r04_step' n f witness := by kernel_rfl
theorem con2x_ : ConOk Tryz.prog 122 c2x_ := con_ok xok2x_ 8 fn2x_ true [tI, tI, tI] [.bool] _ (by decide) (fun x => by rw [r04_step_eq]; exact e2x_ x.1 x.2.1 x.2.2.1)
noncomputable def c2y_ : Con := conV true [tN, tN, tI] [.bool] fun x => r04_Step x.1 x.2.1 x.2.2.1
noncomputable def x2y_ : Cx := { ti := ti, con := [(121, c2r_), (20, c12_), (57, c19_), (17, c18_), (122, c2x_), (61, c1c_), (62, c2k_), (94, c2l_), (63, c2u_), (123, c2p_), (124, c2q_)], fns := [], un := 6 }
theorem xok2y_ : CxOk Tryz.prog x2y_ := CxOk.of mixed ti_ok (fc ⟨con2r_, fc ⟨con12_, fc ⟨con19_, fc ⟨con18_, fc ⟨con2x_, fc ⟨con1c_, fc ⟨con2k_, fc ⟨con2l_, fc ⟨con2u_, fc ⟨con2p_, fc ⟨con2q_, fz⟩⟩⟩⟩⟩⟩⟩⟩⟩⟩⟩) fz
theorem fn2y_ : FnOk Tryz.prog 95 Tryz.f95 [] := ⟨Tryz.func95, Tryz.call95, lps_nil⟩
theorem e2y_ (n : NI) (factor : NI) (witness : Int) : bodyK x2y_ [] (denF x2y_ 8) Tryz.f95 (domV [tN, tN, tI] (n, factor, witness, ())) [] 0 (kOut [.bool]) = r04_Step' n factor witness := by kernel_rfl
theorem con2y_ : ConOk Tryz.prog 95 c2y_ := con_ok xok2y_ 8 fn2y_ true [tN, tN, tI] [.bool] _ (by decide) (fun x => by rw [r04_Step_eq]; exact e2y_ x.1 x.2.1 x.2.2.1)
abbrev S2z_0 : Shape := { sl := [(0, (.sz (.pair tN tI))), (pv 5 tI)], ob := [], lo := 0, nx := 0 }
abbrev E2z_0 : List Ex := [(.ret, { sl := [(2, (.v .bool))], ob := [], lo := 0, nx := 0 }), (.normal, { sl := [], ob := [], lo := 0, nx := 0 })]
noncomputable def L2z_0 : Code := loopIn (bodyOf Tryz.f64) 0
noncomputable def P2z_0 : Lp := lpOf S2z_0 E2z_0 60 R_r04_Check_0
noncomputable def c2z_ : Con := conV true [(.sl (.pair tN tI))] [.bool] fun x => r04_Check x.1.1 x.1.2
noncomputable def x2z_ : Cx := { ti := ti, con := [(17, c18_), (55, c2w_), (95, c2y_)], fns := [], un := 6 }
theorem xok2z_ : CxOk Tryz.prog x2z_ := CxOk.of mixed ti_ok (fc ⟨con18_, fc ⟨con2w_, fc ⟨con2y_, fz⟩⟩⟩) fz
theorem r2z_0 (x : S2z_0.X) : denC x2z_ [] (denF x2z_ 8) L2z_0 (S2z_0.mkS 60 x) (kRound 0 S2z_0 E2z_0) = R_r04_Check_0 x := by kernel_rfl
theorem l2z_0 : LpOk Tryz.prog 0 (.loop L2z_0) P2z_0 := lpOf_ok xok2z_ 8 (lps_nil) S2z_0 E2z_0 60 R_r04_Check_0 (by decide) r2z_0
theorem fn2z_ : FnOk Tryz.prog 64 Tryz.f64 [(0, P2z_0)] := ⟨Tryz.func64, Tryz.call64, lps_of (by kernel_rfl) (lps_one l2z_0 (by kernel_rfl) fz)⟩
theorem e2z_ (nl : Nat) (l : Nat → (NI × Int)) : bodyK x2z_ [(0, P2z_0)] (denF x2z_ 8) Tryz.f64 (domV [(.sl (.pair tN tI))] ((nl, l), ())) [] 0 (kOut [.bool]) = r04_Check' nl l := by kernel_rfl
theorem con2z_ : ConOk Tryz.prog 64 c2z_ := con_ok xok2z_ 8 fn2z_ true [(.sl (.pair tN tI))] [.bool] _ (by decide) (fun x => by rw [r04_Check_eq]; exact e2z_ x.1.1 x.1.2)
end Go.Proofs.YtkhhonbkgckjjaaGreat

namespace Go.Proofs.YtkhhonbkgckjjaaGreat
noncomputable def c30_ : Con := conV true [(.pair (.sl (.pair tN tI)) tN)] [tN] fun x => r07_Q x.1
noncomputable def x30_ : Cx := { ti := ti, con := [], fns := [], un := 6 }
theorem xok30_ : CxOk Tryz.prog x30_ := CxOk.of mixed ti_ok fz fz
theorem fn30_ : FnOk Tryz.prog 65 Tryz.f65 [] := ⟨Tryz.func65, Tryz.call65, lps_nil⟩
theorem e30_ (p : ((Nat × (Nat → (NI × Int))) × NI)) : bodyK x30_ [] (denF x30_ 8) Tryz.f65 (domV [(.pair (.sl (.pair tN tI)) tN)] (p, ())) [] 0 (kOut [tN]) = r07_Q' p := by kernel_rfl
theorem con30_ : ConOk Tryz.prog 65 c30_ := con_ok xok30_ 8 fn30_ true [(.pair (.sl (.pair tN tI)) tN)] [tN] _ (by decide) (fun x => by rw [r07_Q_eq]; exact e30_ x.1)
noncomputable def c31_ : Con := conV true [(.pair (.sl (.pair tN tI)) tN)] [tN] fun x => r07_P x.1
noncomputable def x31_ : Cx := { ti := ti, con := [], fns := [], un := 6 }
theorem xok31_ : CxOk Tryz.prog x31_ := CxOk.of mixed ti_ok fz fz
theorem fn31_ : FnOk Tryz.prog 66 Tryz.f66 [] := ⟨Tryz.func66, Tryz.call66, lps_nil⟩
theorem e31_ (p : ((Nat × (Nat → (NI × Int))) × NI)) : bodyK x31_ [] (denF x31_ 8) Tryz.f66 (domV [(.pair (.sl (.pair tN tI)) tN)] (p, ())) [] 0 (kOut [tN]) = r07_P' p := by kernel_rfl
theorem con31_ : ConOk Tryz.prog 66 c31_ := con_ok xok31_ 8 fn31_ true [(.pair (.sl (.pair tN tI)) tN)] [tN] _ (by decide) (fun x => by rw [r07_P_eq]; exact e31_ x.1)
noncomputable def c32_ : Con := conV true [(.pair (.sl (.pair tN tI)) tN)] [.bool] fun x => r07_May x.1
noncomputable def x32_ : Cx := { ti := ti, con := [(64, c2z_), (65, c30_), (22, c17_), (20, c12_), (66, c31_), (57, c19_), (63, c2u_)], fns := [], un := 6 }
theorem xok32_ : CxOk Tryz.prog x32_ := CxOk.of mixed ti_ok (fc ⟨con2z_, fc ⟨con30_, fc ⟨con17_, fc ⟨con12_, fc ⟨con31_, fc ⟨con19_, fc ⟨con2u_, fz⟩⟩⟩⟩⟩⟩⟩) fz
theorem fn32_ : FnOk Tryz.prog 24 Tryz.f24 [] := ⟨Tryz.func24, Tryz.call24, lps_nil⟩
theorem e32_ (p : ((Nat × (Nat → (NI × Int))) × NI)) : bodyK x32_ [] (denF x32_ 8) Tryz.f24 (domV [(.pair (.sl (.pair tN tI)) tN)] (p, ())) [] 0 (kOut [.bool]) = r07_May' p := by kernel_rfl
theorem con32_ : ConOk Tryz.prog 24 c32_ := con_ok xok32_ 8 fn32_ true [(.pair (.sl (.pair tN tI)) tN)] [.bool] _ (by decide) (fun x => by rw [r07_May_eq]; exact e32_ x.1)
end Go.Proofs.YtkhhonbkgckjjaaGreat
