/-
  The functions of the program are the plain ones.
-/
import Derived.Test.YtccbdhpcblfopaaGreatProg
import Derived.Test.YtccbdhpcblfopaaGreatDenD
import Derived.KernelRfl
import Derived.Test.YtccbdhpcblfopaaGreatPlA
set_option linter.unusedVariables false
set_option linter.unusedSimpArgs false
set_option maxRecDepth 100000
set_option maxHeartbeats 0
namespace Go.Pl
end Go.Pl
open Go Go.Den Go.Pl
namespace Go.Proofs.YtccbdhpcblfopaaGreat
abbrev tN : Ty := .arr 4 (.int .u64)
abbrev tU : Ty := .int .u64
abbrev tI : Ty := .int .i64
abbrev pc (i : Nat) (t : Ty) (r : Nat) : Nat × Pat := (i, .c ⟨.ptr t, .rf r []⟩)
abbrev pv (i : Nat) (t : Ty) : Nat × Pat := (i, .v t)
theorem fc {α : Type _} {p : α → Prop} {a : α} {l : List α} (h : p a ∧ ∀ x ∈ l, p x) : ∀ x ∈ a :: l, p x := List.forall_mem_cons.2 h
theorem fz {α : Type _} {p : α → Prop} : ∀ x ∈ ([] : List α), p x := List.forall_mem_nil _
noncomputable def ti : List (Nat × TI) := [
  (3, ⟨(TypeDesc.int IntKind.i64), (.int .i64), 8⟩),
  (4, ⟨TypeDesc.bool, .bool, 1⟩),
  (5, ⟨(TypeDesc.int IntKind.u8), (.int .u8), 1⟩),
  (9, ⟨TypeDesc.string, .str, 16⟩),
  (22, ⟨(TypeDesc.slice 68), (.sl (.pair (.sl (.arr 4 (.int .u64))) (.pair (.int .i64) (.arr 4 (.int .u64))))), 24⟩),
  (23, ⟨(TypeDesc.slice 49), (.sl (.arr 4 (.int .u64))), 24⟩),
  (26, ⟨(TypeDesc.pointer 51), (.ptr (.pair (.pair (.ptr (.pair (.arr 4 (.int .u64)) (.pair (.int .u64) (.pair (.arr 4 (.int .u64)) (.arr 4 (.int .u64)))))) (.ptr (.pair (.arr 4 (.int .u64)) (.pair (.int .u64) (.pair (.arr 4 (.int .u64)) (.arr 4 (.int .u64))))))) (.arr 4 (.int .u64)))), 8⟩),
  (28, ⟨(TypeDesc.struct #[{ name := "P", type := 3, offset := 0, embedded := false, tag := "", pkgPath := "", byteOffset := 0 }, { name := "Q", type := 3, offset := 1, embedded := false, tag := "", pkgPath := "", byteOffset := 8 }, { name := "G", type := 3, offset := 2, embedded := false, tag := "", pkgPath := "", byteOffset := 16 }]), (.pair (.int .i64) (.pair (.int .i64) (.int .i64))), 24⟩),
  (31, ⟨(TypeDesc.slice 3), (.sl (.int .i64)), 24⟩),
  (32, ⟨(TypeDesc.int IntKind.i64), (.int .i64), 8⟩),
  (44, ⟨(TypeDesc.pointer 138), (.ptr (.pair (.arr 4 (.int .u64)) (.pair (.int .u64) (.pair (.arr 4 (.int .u64)) (.arr 4 (.int .u64)))))), 8⟩),
  (46, ⟨(TypeDesc.struct #[{ name := "ring", type := 44, offset := 0, embedded := false, tag := "", pkgPath := "sacristy/group", byteOffset := 0 }, { name := "field", type := 44, offset := 1, embedded := false, tag := "", pkgPath := "sacristy/group", byteOffset := 8 }]), (.pair (.ptr (.pair (.arr 4 (.int .u64)) (.pair (.int .u64) (.pair (.arr 4 (.int .u64)) (.arr 4 (.int .u64)))))) (.ptr (.pair (.arr 4 (.int .u64)) (.pair (.int .u64) (.pair (.arr 4 (.int .u64)) (.arr 4 (.int .u64))))))), 16⟩),
  (47, ⟨(TypeDesc.int IntKind.u64), (.int .u64), 8⟩),
  (49, ⟨(TypeDesc.array 4 47), (.arr 4 (.int .u64)), 32⟩),
  (51, ⟨(TypeDesc.struct #[{ name := "rings", type := 46, offset := 0, embedded := true, tag := "", pkgPath := "sacristy/group", byteOffset := 0 }, { name := "g", type := 49, offset := 2, embedded := false, tag := "", pkgPath := "sacristy/group", byteOffset := 16 }]), (.pair (.pair (.ptr (.pair (.arr 4 (.int .u64)) (.pair (.int .u64) (.pair (.arr 4 (.int .u64)) (.arr 4 (.int .u64)))))) (.ptr (.pair (.arr 4 (.int .u64)) (.pair (.int .u64) (.pair (.arr 4 (.int .u64)) (.arr 4 (.int .u64))))))) (.arr 4 (.int .u64))), 48⟩),
  (52, ⟨(TypeDesc.slice 26), (.sl (.ptr (.pair (.pair (.ptr (.pair (.arr 4 (.int .u64)) (.pair (.int .u64) (.pair (.arr 4 (.int .u64)) (.arr 4 (.int .u64)))))) (.ptr (.pair (.arr 4 (.int .u64)) (.pair (.int .u64) (.pair (.arr 4 (.int .u64)) (.arr 4 (.int .u64))))))) (.arr 4 (.int .u64))))), 24⟩),
  (53, ⟨(TypeDesc.int IntKind.u32), (.int .u32), 4⟩),
  (54, ⟨(TypeDesc.array 9 53), (.arr 9 (.int .u32)), 36⟩),
  (57, ⟨(TypeDesc.slice 92), (.sl (.pair (.arr 4 (.int .u64)) (.int .i64))), 24⟩),
  (59, ⟨(TypeDesc.struct #[{ name := "Chain", type := 57, offset := 0, embedded := false, tag := "", pkgPath := "", byteOffset := 0 }, { name := "G", type := 49, offset := 1, embedded := false, tag := "", pkgPath := "", byteOffset := 24 }]), (.pair (.sl (.pair (.arr 4 (.int .u64)) (.int .i64))) (.arr 4 (.int .u64))), 56⟩),
  (61, ⟨(TypeDesc.slice 59), (.sl (.pair (.sl (.pair (.arr 4 (.int .u64)) (.int .i64))) (.arr 4 (.int .u64)))), 24⟩),
  (66, ⟨(TypeDesc.struct #[{ name := "I", type := 3, offset := 0, embedded := false, tag := "", pkgPath := "", byteOffset := 0 }, { name := "Y", type := 49, offset := 1, embedded := false, tag := "", pkgPath := "", byteOffset := 8 }]), (.pair (.int .i64) (.arr 4 (.int .u64))), 40⟩),
  (68, ⟨(TypeDesc.struct #[{ name := "C", type := 23, offset := 0, embedded := false, tag := "", pkgPath := "", byteOffset := 0 }, { name := "S", type := 66, offset := 1, embedded := false, tag := "", pkgPath := "", byteOffset := 24 }]), (.pair (.sl (.arr 4 (.int .u64))) (.pair (.int .i64) (.arr 4 (.int .u64)))), 64⟩),
  (73, ⟨(TypeDesc.func #[3, 3] #[] false), .fn, 8⟩),
  (75, ⟨(TypeDesc.pointer 121), (.ptr (.pair .str (.pair .str (.int .i64)))), 8⟩),
  (80, ⟨(TypeDesc.slice 5), (.sl (.int .u8)), 24⟩),
  (81, ⟨(TypeDesc.int IntKind.u64), (.int .u64), 8⟩),
  (83, ⟨(TypeDesc.struct #[{ name := "K", type := 9, offset := 0, embedded := false, tag := "", pkgPath := "", byteOffset := 0 }, { name := "V", type := 9, offset := 1, embedded := false, tag := "", pkgPath := "", byteOffset := 16 }, { name := "Told", type := 3, offset := 2, embedded := false, tag := "", pkgPath := "", byteOffset := 32 }]), (.pair .str (.pair .str (.int .i64))), 40⟩),
  (92, ⟨(TypeDesc.struct #[{ name := "N", type := 49, offset := 0, embedded := false, tag := "", pkgPath := "", byteOffset := 0 }, { name := "A", type := 3, offset := 4, embedded := false, tag := "", pkgPath := "", byteOffset := 32 }]), (.pair (.arr 4 (.int .u64)) (.int .i64)), 40⟩),
  (97, ⟨(TypeDesc.slice 66), (.sl (.pair (.int .i64) (.arr 4 (.int .u64)))), 24⟩),
  (121, ⟨(TypeDesc.struct #[{ name := "k", type := 9, offset := 0, embedded := false, tag := "", pkgPath := "sacristy/drbg", byteOffset := 0 }, { name := "v", type := 9, offset := 1, embedded := false, tag := "", pkgPath := "sacristy/drbg", byteOffset := 16 }, { name := "told", type := 3, offset := 2, embedded := false, tag := "", pkgPath := "sacristy/drbg", byteOffset := 32 }]), (.pair .str (.pair .str (.int .i64))), 40⟩),
  (123, ⟨(TypeDesc.pointer 125), (.sp 125), 8⟩),
  (125, ⟨(TypeDesc.struct #[{ name := "addr", type := 123, offset := 0, embedded := false, tag := "", pkgPath := "strings", byteOffset := 0 }, { name := "buf", type := 80, offset := 1, embedded := false, tag := "", pkgPath := "strings", byteOffset := 8 }]), (.pair (.sp 125) (.sl (.int .u8))), 32⟩),
  (138, ⟨(TypeDesc.struct #[{ name := "m", type := 49, offset := 0, embedded := false, tag := "", pkgPath := "sacristy/mont", byteOffset := 0 }, { name := "inv", type := 47, offset := 4, embedded := false, tag := "", pkgPath := "sacristy/mont", byteOffset := 32 }, { name := "one", type := 49, offset := 5, embedded := false, tag := "", pkgPath := "sacristy/mont", byteOffset := 40 }, { name := "square", type := 49, offset := 9, embedded := false, tag := "", pkgPath := "sacristy/mont", byteOffset := 72 }]), (.pair (.arr 4 (.int .u64)) (.pair (.int .u64) (.pair (.arr 4 (.int .u64)) (.arr 4 (.int .u64))))), 104⟩),
  (146, ⟨(TypeDesc.array 256 4), (.arr 256 .bool), 256⟩),
  (159, ⟨(TypeDesc.pointer 5), (.ptr (.int .u8)), 8⟩),
  (168, ⟨(TypeDesc.slice 169), (.sl (.arr 16 (.arr 4 (.int .u64)))), 24⟩),
  (169, ⟨(TypeDesc.array 16 49), (.arr 16 (.arr 4 (.int .u64))), 512⟩),
  (179, ⟨(TypeDesc.array 32 3), (.arr 32 (.int .i64)), 256⟩),
  (189, ⟨(TypeDesc.slice 9), (.sl .str), 24⟩),
  (191, ⟨(TypeDesc.pointer 214), (.ptr (.pair .bool (.pair (.arr 8 (.int .u32)) (.pair (.arr 64 (.int .u8)) (.int .i64))))), 8⟩),
  (196, ⟨(TypeDesc.array 8 3), (.arr 8 (.int .i64)), 64⟩),
  (200, ⟨(TypeDesc.array 8 47), (.arr 8 (.int .u64)), 64⟩),
  (201, ⟨(TypeDesc.slice 47), (.sl (.int .u64)), 24⟩),
  (203, ⟨(TypeDesc.array 6 47), (.arr 6 (.int .u64)), 48⟩),
  (210, ⟨(TypeDesc.array 8 53), (.arr 8 (.int .u32)), 32⟩),
  (212, ⟨(TypeDesc.array 64 5), (.arr 64 (.int .u8)), 64⟩),
  (214, ⟨(TypeDesc.struct #[{ name := "given", type := 4, offset := 0, embedded := false, tag := "", pkgPath := "sacristy/sha", byteOffset := 0 }, { name := "words", type := 210, offset := 1, embedded := false, tag := "", pkgPath := "sacristy/sha", byteOffset := 4 }, { name := "rest", type := 212, offset := 9, embedded := false, tag := "", pkgPath := "sacristy/sha", byteOffset := 36 }, { name := "n", type := 3, offset := 73, embedded := false, tag := "", pkgPath := "sacristy/sha", byteOffset := 104 }]), (.pair .bool (.pair (.arr 8 (.int .u32)) (.pair (.arr 64 (.int .u8)) (.int .i64)))), 112⟩),
  (216, ⟨(TypeDesc.array 8 5), (.arr 8 (.int .u8)), 8⟩),
  (217, ⟨(TypeDesc.array 64 3), (.arr 64 (.int .i64)), 512⟩),
  (221, ⟨(TypeDesc.array 64 53), (.arr 64 (.int .u32)), 256⟩),
  (225, ⟨(TypeDesc.slice 53), (.sl (.int .u32)), 24⟩)]
theorem ti3 : TI1 Tryz.prog ti (3, ⟨(TypeDesc.int IntKind.i64), (.int .i64), 8⟩) where
  under := Tryz.underlying3
  info := by kernel_rfl
  zero := by kernel_rfl
  shape := rfl
  head := by intro _ h; cases h
  eq := fun h => absurd h (by decide)
theorem ti4 : TI1 Tryz.prog ti (4, ⟨TypeDesc.bool, .bool, 1⟩) where
  under := Tryz.underlying4
  info := by kernel_rfl
  zero := by kernel_rfl
  shape := rfl
  head := by intro _ h; cases h
  eq := fun h => absurd h (by decide)
theorem ti5 : TI1 Tryz.prog ti (5, ⟨(TypeDesc.int IntKind.u8), (.int .u8), 1⟩) where
  under := Tryz.underlying5
  info := by kernel_rfl
  zero := by kernel_rfl
  shape := rfl
  head := by intro _ h; cases h
  eq := fun h => absurd h (by decide)
theorem ti9 : TI1 Tryz.prog ti (9, ⟨TypeDesc.string, .str, 16⟩) where
  under := Tryz.underlying9
  info := by kernel_rfl
  zero := by kernel_rfl
  shape := rfl
  head := by intro _ h; cases h
  eq := fun h => absurd h (by decide)
theorem ti22 : TI1 Tryz.prog ti (22, ⟨(TypeDesc.slice 68), (.sl (.pair (.sl (.arr 4 (.int .u64))) (.pair (.int .i64) (.arr 4 (.int .u64))))), 24⟩) where
  under := Tryz.underlying22
  info := by kernel_rfl
  zero := by kernel_rfl
  shape := ⟨_, rfl, rfl, by decide⟩
  head := by intro _ h; cases h
  eq := fun h => absurd h (by decide)
theorem ti23 : TI1 Tryz.prog ti (23, ⟨(TypeDesc.slice 49), (.sl (.arr 4 (.int .u64))), 24⟩) where
  under := Tryz.underlying23
  info := by kernel_rfl
  zero := by kernel_rfl
  shape := ⟨_, rfl, rfl, by decide⟩
  head := by intro _ h; cases h
  eq := fun h => absurd h (by decide)
theorem ti26 : TI1 Tryz.prog ti (26, ⟨(TypeDesc.pointer 51), (.ptr (.pair (.pair (.ptr (.pair (.arr 4 (.int .u64)) (.pair (.int .u64) (.pair (.arr 4 (.int .u64)) (.arr 4 (.int .u64)))))) (.ptr (.pair (.arr 4 (.int .u64)) (.pair (.int .u64) (.pair (.arr 4 (.int .u64)) (.arr 4 (.int .u64))))))) (.arr 4 (.int .u64)))), 8⟩) where
  under := Tryz.underlying26
  info := by kernel_rfl
  zero := by kernel_rfl
  shape := .inl ⟨_, rfl⟩
  head := by intro _ h; cases h
  eq := fun h => absurd h (by decide)
theorem ti28 : TI1 Tryz.prog ti (28, ⟨(TypeDesc.struct #[{ name := "P", type := 3, offset := 0, embedded := false, tag := "", pkgPath := "", byteOffset := 0 }, { name := "Q", type := 3, offset := 1, embedded := false, tag := "", pkgPath := "", byteOffset := 8 }, { name := "G", type := 3, offset := 2, embedded := false, tag := "", pkgPath := "", byteOffset := 16 }]), (.pair (.int .i64) (.pair (.int .i64) (.int .i64))), 24⟩) where
  under := Tryz.underlying28
  info := by kernel_rfl
  zero := by kernel_rfl
  shape := ⟨rfl, ⟨rfl, by decide, ⟨_, rfl, rfl, by decide⟩, ⟨rfl, by decide, ⟨_, rfl, rfl, by decide⟩, ⟨rfl, by decide, _, rfl, rfl, by decide⟩⟩⟩⟩
  head := by intro _ h; cases h
  eq := fun _ _ => ⟨by kernel_rfl, by kernel_rfl, (by intro fs h; cases h <;> decide), by decide⟩
theorem ti31 : TI1 Tryz.prog ti (31, ⟨(TypeDesc.slice 3), (.sl (.int .i64)), 24⟩) where
  under := Tryz.underlying31
  info := by kernel_rfl
  zero := by kernel_rfl
  shape := ⟨_, rfl, rfl, by decide⟩
  head := by intro _ h; cases h
  eq := fun h => absurd h (by decide)
theorem ti32 : TI1 Tryz.prog ti (32, ⟨(TypeDesc.int IntKind.i64), (.int .i64), 8⟩) where
  under := Tryz.underlying32
  info := by kernel_rfl
  zero := by kernel_rfl
  shape := rfl
  head := by intro _ h; cases h
  eq := fun h => absurd h (by decide)
theorem ti44 : TI1 Tryz.prog ti (44, ⟨(TypeDesc.pointer 138), (.ptr (.pair (.arr 4 (.int .u64)) (.pair (.int .u64) (.pair (.arr 4 (.int .u64)) (.arr 4 (.int .u64)))))), 8⟩) where
  under := Tryz.underlying44
  info := by kernel_rfl
  zero := by kernel_rfl
  shape := .inl ⟨_, rfl⟩
  head := by intro _ h; cases h
  eq := fun h => absurd h (by decide)
theorem ti46 : TI1 Tryz.prog ti (46, ⟨(TypeDesc.struct #[{ name := "ring", type := 44, offset := 0, embedded := false, tag := "", pkgPath := "sacristy/group", byteOffset := 0 }, { name := "field", type := 44, offset := 1, embedded := false, tag := "", pkgPath := "sacristy/group", byteOffset := 8 }]), (.pair (.ptr (.pair (.arr 4 (.int .u64)) (.pair (.int .u64) (.pair (.arr 4 (.int .u64)) (.arr 4 (.int .u64)))))) (.ptr (.pair (.arr 4 (.int .u64)) (.pair (.int .u64) (.pair (.arr 4 (.int .u64)) (.arr 4 (.int .u64))))))), 16⟩) where
  under := Tryz.underlying46
  info := by kernel_rfl
  zero := by kernel_rfl
  shape := ⟨rfl, ⟨rfl, by decide, ⟨_, rfl, rfl, by decide⟩, ⟨rfl, by decide, _, rfl, rfl, by decide⟩⟩⟩
  head := by intro _ h; cases h
  eq := fun _ h => absurd h (by decide)
theorem ti47 : TI1 Tryz.prog ti (47, ⟨(TypeDesc.int IntKind.u64), (.int .u64), 8⟩) where
  under := Tryz.underlying47
  info := by kernel_rfl
  zero := by kernel_rfl
  shape := rfl
  head := by intro _ h; cases h
  eq := fun h => absurd h (by decide)
theorem ti49 : TI1 Tryz.prog ti (49, ⟨(TypeDesc.array 4 47), (.arr 4 (.int .u64)), 32⟩) where
  under := Tryz.underlying49
  info := by kernel_rfl
  zero := by kernel_rfl
  shape := ⟨_, rfl, rfl, by decide, by decide⟩
  head := by intro _ h; cases h
  eq := fun _ _ => ⟨by kernel_rfl, by kernel_rfl, (by intro fs h; cases h <;> decide), by decide⟩
theorem ti51 : TI1 Tryz.prog ti (51, ⟨(TypeDesc.struct #[{ name := "rings", type := 46, offset := 0, embedded := true, tag := "", pkgPath := "sacristy/group", byteOffset := 0 }, { name := "g", type := 49, offset := 2, embedded := false, tag := "", pkgPath := "sacristy/group", byteOffset := 16 }]), (.pair (.pair (.ptr (.pair (.arr 4 (.int .u64)) (.pair (.int .u64) (.pair (.arr 4 (.int .u64)) (.arr 4 (.int .u64)))))) (.ptr (.pair (.arr 4 (.int .u64)) (.pair (.int .u64) (.pair (.arr 4 (.int .u64)) (.arr 4 (.int .u64))))))) (.arr 4 (.int .u64))), 48⟩) where
  under := Tryz.underlying51
  info := by kernel_rfl
  zero := by kernel_rfl
  shape := ⟨rfl, ⟨rfl, by decide, ⟨_, rfl, rfl, by decide⟩, ⟨rfl, by decide, _, rfl, rfl, by decide⟩⟩⟩
  head := by intro _ h; cases h
  eq := fun _ h => absurd h (by decide)
theorem ti52 : TI1 Tryz.prog ti (52, ⟨(TypeDesc.slice 26), (.sl (.ptr (.pair (.pair (.ptr (.pair (.arr 4 (.int .u64)) (.pair (.int .u64) (.pair (.arr 4 (.int .u64)) (.arr 4 (.int .u64)))))) (.ptr (.pair (.arr 4 (.int .u64)) (.pair (.int .u64) (.pair (.arr 4 (.int .u64)) (.arr 4 (.int .u64))))))) (.arr 4 (.int .u64))))), 24⟩) where
  under := Tryz.underlying52
  info := by kernel_rfl
  zero := by kernel_rfl
  shape := ⟨_, rfl, rfl, by decide⟩
  head := by intro _ h; cases h
  eq := fun h => absurd h (by decide)
theorem ti53 : TI1 Tryz.prog ti (53, ⟨(TypeDesc.int IntKind.u32), (.int .u32), 4⟩) where
  under := Tryz.underlying53
  info := by kernel_rfl
  zero := by kernel_rfl
  shape := rfl
  head := by intro _ h; cases h
  eq := fun h => absurd h (by decide)
theorem ti54 : TI1 Tryz.prog ti (54, ⟨(TypeDesc.array 9 53), (.arr 9 (.int .u32)), 36⟩) where
  under := Tryz.underlying54
  info := by kernel_rfl
  zero := by kernel_rfl
  shape := ⟨_, rfl, rfl, by decide, by decide⟩
  head := by intro _ h; cases h
  eq := fun _ _ => ⟨by kernel_rfl, by kernel_rfl, (by intro fs h; cases h <;> decide), by decide⟩
theorem ti57 : TI1 Tryz.prog ti (57, ⟨(TypeDesc.slice 92), (.sl (.pair (.arr 4 (.int .u64)) (.int .i64))), 24⟩) where
  under := Tryz.underlying57
  info := by kernel_rfl
  zero := by kernel_rfl
  shape := ⟨_, rfl, rfl, by decide⟩
  head := by intro _ h; cases h
  eq := fun h => absurd h (by decide)
theorem ti59 : TI1 Tryz.prog ti (59, ⟨(TypeDesc.struct #[{ name := "Chain", type := 57, offset := 0, embedded := false, tag := "", pkgPath := "", byteOffset := 0 }, { name := "G", type := 49, offset := 1, embedded := false, tag := "", pkgPath := "", byteOffset := 24 }]), (.pair (.sl (.pair (.arr 4 (.int .u64)) (.int .i64))) (.arr 4 (.int .u64))), 56⟩) where
  under := Tryz.underlying59
  info := by kernel_rfl
  zero := by kernel_rfl
  shape := ⟨rfl, ⟨rfl, by decide, ⟨_, rfl, rfl, by decide⟩, ⟨rfl, by decide, _, rfl, rfl, by decide⟩⟩⟩
  head := by intro _ h; cases h
  eq := fun _ h => absurd h (by decide)
theorem ti61 : TI1 Tryz.prog ti (61, ⟨(TypeDesc.slice 59), (.sl (.pair (.sl (.pair (.arr 4 (.int .u64)) (.int .i64))) (.arr 4 (.int .u64)))), 24⟩) where
  under := Tryz.underlying61
  info := by kernel_rfl
  zero := by kernel_rfl
  shape := ⟨_, rfl, rfl, by decide⟩
  head := by intro _ h; cases h
  eq := fun h => absurd h (by decide)
theorem ti66 : TI1 Tryz.prog ti (66, ⟨(TypeDesc.struct #[{ name := "I", type := 3, offset := 0, embedded := false, tag := "", pkgPath := "", byteOffset := 0 }, { name := "Y", type := 49, offset := 1, embedded := false, tag := "", pkgPath := "", byteOffset := 8 }]), (.pair (.int .i64) (.arr 4 (.int .u64))), 40⟩) where
  under := Tryz.underlying66
  info := by kernel_rfl
  zero := by kernel_rfl
  shape := ⟨rfl, ⟨rfl, by decide, ⟨_, rfl, rfl, by decide⟩, ⟨rfl, by decide, _, rfl, rfl, by decide⟩⟩⟩
  head := by intro _ h; cases h
  eq := fun _ _ => ⟨by kernel_rfl, by kernel_rfl, (by intro fs h; cases h <;> decide), by decide⟩
theorem ti68 : TI1 Tryz.prog ti (68, ⟨(TypeDesc.struct #[{ name := "C", type := 23, offset := 0, embedded := false, tag := "", pkgPath := "", byteOffset := 0 }, { name := "S", type := 66, offset := 1, embedded := false, tag := "", pkgPath := "", byteOffset := 24 }]), (.pair (.sl (.arr 4 (.int .u64))) (.pair (.int .i64) (.arr 4 (.int .u64)))), 64⟩) where
  under := Tryz.underlying68
  info := by kernel_rfl
  zero := by kernel_rfl
  shape := ⟨rfl, ⟨rfl, by decide, ⟨_, rfl, rfl, by decide⟩, ⟨rfl, by decide, _, rfl, rfl, by decide⟩⟩⟩
  head := by intro _ h; cases h
  eq := fun _ h => absurd h (by decide)
theorem ti73 : TI1 Tryz.prog ti (73, ⟨(TypeDesc.func #[3, 3] #[] false), .fn, 8⟩) where
  under := Tryz.underlying73
  info := by kernel_rfl
  zero := by kernel_rfl
  shape := rfl
  head := by intro _ h; cases h
  eq := fun h => absurd h (by decide)
theorem ti75 : TI1 Tryz.prog ti (75, ⟨(TypeDesc.pointer 121), (.ptr (.pair .str (.pair .str (.int .i64)))), 8⟩) where
  under := Tryz.underlying75
  info := by kernel_rfl
  zero := by kernel_rfl
  shape := .inl ⟨_, rfl⟩
  head := by intro _ h; cases h
  eq := fun h => absurd h (by decide)
theorem ti80 : TI1 Tryz.prog ti (80, ⟨(TypeDesc.slice 5), (.sl (.int .u8)), 24⟩) where
  under := Tryz.underlying80
  info := by kernel_rfl
  zero := by kernel_rfl
  shape := ⟨_, rfl, rfl, by decide⟩
  head := by intro _ h; cases h
  eq := fun h => absurd h (by decide)
theorem ti81 : TI1 Tryz.prog ti (81, ⟨(TypeDesc.int IntKind.u64), (.int .u64), 8⟩) where
  under := Tryz.underlying81
  info := by kernel_rfl
  zero := by kernel_rfl
  shape := rfl
  head := by intro _ h; cases h
  eq := fun h => absurd h (by decide)
theorem ti83 : TI1 Tryz.prog ti (83, ⟨(TypeDesc.struct #[{ name := "K", type := 9, offset := 0, embedded := false, tag := "", pkgPath := "", byteOffset := 0 }, { name := "V", type := 9, offset := 1, embedded := false, tag := "", pkgPath := "", byteOffset := 16 }, { name := "Told", type := 3, offset := 2, embedded := false, tag := "", pkgPath := "", byteOffset := 32 }]), (.pair .str (.pair .str (.int .i64))), 40⟩) where
  under := Tryz.underlying83
  info := by kernel_rfl
  zero := by kernel_rfl
  shape := ⟨rfl, ⟨rfl, by decide, ⟨_, rfl, rfl, by decide⟩, ⟨rfl, by decide, ⟨_, rfl, rfl, by decide⟩, ⟨rfl, by decide, _, rfl, rfl, by decide⟩⟩⟩⟩
  head := by intro _ h; cases h
  eq := fun _ _ => ⟨by kernel_rfl, by kernel_rfl, (by intro fs h; cases h <;> decide), by decide⟩
theorem ti92 : TI1 Tryz.prog ti (92, ⟨(TypeDesc.struct #[{ name := "N", type := 49, offset := 0, embedded := false, tag := "", pkgPath := "", byteOffset := 0 }, { name := "A", type := 3, offset := 4, embedded := false, tag := "", pkgPath := "", byteOffset := 32 }]), (.pair (.arr 4 (.int .u64)) (.int .i64)), 40⟩) where
  under := Tryz.underlying92
  info := by kernel_rfl
  zero := by kernel_rfl
  shape := ⟨rfl, ⟨rfl, by decide, ⟨_, rfl, rfl, by decide⟩, ⟨rfl, by decide, _, rfl, rfl, by decide⟩⟩⟩
  head := by intro _ h; cases h
  eq := fun _ _ => ⟨by kernel_rfl, by kernel_rfl, (by intro fs h; cases h <;> decide), by decide⟩
theorem ti97 : TI1 Tryz.prog ti (97, ⟨(TypeDesc.slice 66), (.sl (.pair (.int .i64) (.arr 4 (.int .u64)))), 24⟩) where
  under := Tryz.underlying97
  info := by kernel_rfl
  zero := by kernel_rfl
  shape := ⟨_, rfl, rfl, by decide⟩
  head := by intro _ h; cases h
  eq := fun h => absurd h (by decide)
theorem ti121 : TI1 Tryz.prog ti (121, ⟨(TypeDesc.struct #[{ name := "k", type := 9, offset := 0, embedded := false, tag := "", pkgPath := "sacristy/drbg", byteOffset := 0 }, { name := "v", type := 9, offset := 1, embedded := false, tag := "", pkgPath := "sacristy/drbg", byteOffset := 16 }, { name := "told", type := 3, offset := 2, embedded := false, tag := "", pkgPath := "sacristy/drbg", byteOffset := 32 }]), (.pair .str (.pair .str (.int .i64))), 40⟩) where
  under := Tryz.underlying121
  info := by kernel_rfl
  zero := by kernel_rfl
  shape := ⟨rfl, ⟨rfl, by decide, ⟨_, rfl, rfl, by decide⟩, ⟨rfl, by decide, ⟨_, rfl, rfl, by decide⟩, ⟨rfl, by decide, _, rfl, rfl, by decide⟩⟩⟩⟩
  head := by intro _ h; cases h
  eq := fun _ _ => ⟨by kernel_rfl, by kernel_rfl, (by intro fs h; cases h <;> decide), by decide⟩
theorem ti123 : TI1 Tryz.prog ti (123, ⟨(TypeDesc.pointer 125), (.sp 125), 8⟩) where
  under := Tryz.underlying123
  info := by kernel_rfl
  zero := by kernel_rfl
  shape := .inr ⟨_, rfl⟩
  head := by intro _ h; cases h
  eq := fun h => absurd h (by decide)
theorem ti125 : TI1 Tryz.prog ti (125, ⟨(TypeDesc.struct #[{ name := "addr", type := 123, offset := 0, embedded := false, tag := "", pkgPath := "strings", byteOffset := 0 }, { name := "buf", type := 80, offset := 1, embedded := false, tag := "", pkgPath := "strings", byteOffset := 8 }]), (.pair (.sp 125) (.sl (.int .u8))), 32⟩) where
  under := Tryz.underlying125
  info := by kernel_rfl
  zero := by kernel_rfl
  shape := ⟨rfl, ⟨rfl, by decide, ⟨_, rfl, rfl, by decide⟩, ⟨rfl, by decide, _, rfl, rfl, by decide⟩⟩⟩
  head := by intro _ h; cases h; rfl
  eq := fun _ h => absurd h (by decide)
theorem ti138 : TI1 Tryz.prog ti (138, ⟨(TypeDesc.struct #[{ name := "m", type := 49, offset := 0, embedded := false, tag := "", pkgPath := "sacristy/mont", byteOffset := 0 }, { name := "inv", type := 47, offset := 4, embedded := false, tag := "", pkgPath := "sacristy/mont", byteOffset := 32 }, { name := "one", type := 49, offset := 5, embedded := false, tag := "", pkgPath := "sacristy/mont", byteOffset := 40 }, { name := "square", type := 49, offset := 9, embedded := false, tag := "", pkgPath := "sacristy/mont", byteOffset := 72 }]), (.pair (.arr 4 (.int .u64)) (.pair (.int .u64) (.pair (.arr 4 (.int .u64)) (.arr 4 (.int .u64))))), 104⟩) where
  under := Tryz.underlying138
  info := by kernel_rfl
  zero := by kernel_rfl
  shape := ⟨rfl, ⟨rfl, by decide, ⟨_, rfl, rfl, by decide⟩, ⟨rfl, by decide, ⟨_, rfl, rfl, by decide⟩, ⟨rfl, by decide, ⟨_, rfl, rfl, by decide⟩, ⟨rfl, by decide, _, rfl, rfl, by decide⟩⟩⟩⟩⟩
  head := by intro _ h; cases h
  eq := fun _ _ => ⟨by kernel_rfl, by kernel_rfl, (by intro fs h; cases h <;> decide), by decide⟩
theorem ti146 : TI1 Tryz.prog ti (146, ⟨(TypeDesc.array 256 4), (.arr 256 .bool), 256⟩) where
  under := Tryz.underlying146
  info := by kernel_rfl
  zero := by kernel_rfl
  shape := ⟨_, rfl, rfl, by decide, by decide⟩
  head := by intro _ h; cases h
  eq := fun _ _ => ⟨by kernel_rfl, by kernel_rfl, (by intro fs h; cases h <;> decide), by decide⟩
theorem ti159 : TI1 Tryz.prog ti (159, ⟨(TypeDesc.pointer 5), (.ptr (.int .u8)), 8⟩) where
  under := Tryz.underlying159
  info := by kernel_rfl
  zero := by kernel_rfl
  shape := .inl ⟨_, rfl⟩
  head := by intro _ h; cases h
  eq := fun h => absurd h (by decide)
theorem ti168 : TI1 Tryz.prog ti (168, ⟨(TypeDesc.slice 169), (.sl (.arr 16 (.arr 4 (.int .u64)))), 24⟩) where
  under := Tryz.underlying168
  info := by kernel_rfl
  zero := by kernel_rfl
  shape := ⟨_, rfl, rfl, by decide⟩
  head := by intro _ h; cases h
  eq := fun h => absurd h (by decide)
theorem ti169 : TI1 Tryz.prog ti (169, ⟨(TypeDesc.array 16 49), (.arr 16 (.arr 4 (.int .u64))), 512⟩) where
  under := Tryz.underlying169
  info := by kernel_rfl
  zero := by kernel_rfl
  shape := ⟨_, rfl, rfl, by decide, by decide⟩
  head := by intro _ h; cases h
  eq := fun _ _ => ⟨by kernel_rfl, by kernel_rfl, (by intro fs h; cases h <;> decide), by decide⟩
theorem ti179 : TI1 Tryz.prog ti (179, ⟨(TypeDesc.array 32 3), (.arr 32 (.int .i64)), 256⟩) where
  under := Tryz.underlying179
  info := by kernel_rfl
  zero := by kernel_rfl
  shape := ⟨_, rfl, rfl, by decide, by decide⟩
  head := by intro _ h; cases h
  eq := fun _ _ => ⟨by kernel_rfl, by kernel_rfl, (by intro fs h; cases h <;> decide), by decide⟩
theorem ti189 : TI1 Tryz.prog ti (189, ⟨(TypeDesc.slice 9), (.sl .str), 24⟩) where
  under := Tryz.underlying189
  info := by kernel_rfl
  zero := by kernel_rfl
  shape := ⟨_, rfl, rfl, by decide⟩
  head := by intro _ h; cases h
  eq := fun h => absurd h (by decide)
theorem ti191 : TI1 Tryz.prog ti (191, ⟨(TypeDesc.pointer 214), (.ptr (.pair .bool (.pair (.arr 8 (.int .u32)) (.pair (.arr 64 (.int .u8)) (.int .i64))))), 8⟩) where
  under := Tryz.underlying191
  info := by kernel_rfl
  zero := by kernel_rfl
  shape := .inl ⟨_, rfl⟩
  head := by intro _ h; cases h
  eq := fun h => absurd h (by decide)
theorem ti196 : TI1 Tryz.prog ti (196, ⟨(TypeDesc.array 8 3), (.arr 8 (.int .i64)), 64⟩) where
  under := Tryz.underlying196
  info := by kernel_rfl
  zero := by kernel_rfl
  shape := ⟨_, rfl, rfl, by decide, by decide⟩
  head := by intro _ h; cases h
  eq := fun _ _ => ⟨by kernel_rfl, by kernel_rfl, (by intro fs h; cases h <;> decide), by decide⟩
theorem ti200 : TI1 Tryz.prog ti (200, ⟨(TypeDesc.array 8 47), (.arr 8 (.int .u64)), 64⟩) where
  under := Tryz.underlying200
  info := by kernel_rfl
  zero := by kernel_rfl
  shape := ⟨_, rfl, rfl, by decide, by decide⟩
  head := by intro _ h; cases h
  eq := fun _ _ => ⟨by kernel_rfl, by kernel_rfl, (by intro fs h; cases h <;> decide), by decide⟩
theorem ti201 : TI1 Tryz.prog ti (201, ⟨(TypeDesc.slice 47), (.sl (.int .u64)), 24⟩) where
  under := Tryz.underlying201
  info := by kernel_rfl
  zero := by kernel_rfl
  shape := ⟨_, rfl, rfl, by decide⟩
  head := by intro _ h; cases h
  eq := fun h => absurd h (by decide)
theorem ti203 : TI1 Tryz.prog ti (203, ⟨(TypeDesc.array 6 47), (.arr 6 (.int .u64)), 48⟩) where
  under := Tryz.underlying203
  info := by kernel_rfl
  zero := by kernel_rfl
  shape := ⟨_, rfl, rfl, by decide, by decide⟩
  head := by intro _ h; cases h
  eq := fun _ _ => ⟨by kernel_rfl, by kernel_rfl, (by intro fs h; cases h <;> decide), by decide⟩
theorem ti210 : TI1 Tryz.prog ti (210, ⟨(TypeDesc.array 8 53), (.arr 8 (.int .u32)), 32⟩) where
  under := Tryz.underlying210
  info := by kernel_rfl
  zero := by kernel_rfl
  shape := ⟨_, rfl, rfl, by decide, by decide⟩
  head := by intro _ h; cases h
  eq := fun _ _ => ⟨by kernel_rfl, by kernel_rfl, (by intro fs h; cases h <;> decide), by decide⟩
theorem ti212 : TI1 Tryz.prog ti (212, ⟨(TypeDesc.array 64 5), (.arr 64 (.int .u8)), 64⟩) where
  under := Tryz.underlying212
  info := by kernel_rfl
  zero := by kernel_rfl
  shape := ⟨_, rfl, rfl, by decide, by decide⟩
  head := by intro _ h; cases h
  eq := fun _ _ => ⟨by kernel_rfl, by kernel_rfl, (by intro fs h; cases h <;> decide), by decide⟩
theorem ti214 : TI1 Tryz.prog ti (214, ⟨(TypeDesc.struct #[{ name := "given", type := 4, offset := 0, embedded := false, tag := "", pkgPath := "sacristy/sha", byteOffset := 0 }, { name := "words", type := 210, offset := 1, embedded := false, tag := "", pkgPath := "sacristy/sha", byteOffset := 4 }, { name := "rest", type := 212, offset := 9, embedded := false, tag := "", pkgPath := "sacristy/sha", byteOffset := 36 }, { name := "n", type := 3, offset := 73, embedded := false, tag := "", pkgPath := "sacristy/sha", byteOffset := 104 }]), (.pair .bool (.pair (.arr 8 (.int .u32)) (.pair (.arr 64 (.int .u8)) (.int .i64)))), 112⟩) where
  under := Tryz.underlying214
  info := by kernel_rfl
  zero := by kernel_rfl
  shape := ⟨rfl, ⟨rfl, by decide, ⟨_, rfl, rfl, by decide⟩, ⟨rfl, by decide, ⟨_, rfl, rfl, by decide⟩, ⟨rfl, by decide, ⟨_, rfl, rfl, by decide⟩, ⟨rfl, by decide, _, rfl, rfl, by decide⟩⟩⟩⟩⟩
  head := by intro _ h; cases h
  eq := fun _ _ => ⟨by kernel_rfl, by kernel_rfl, (by intro fs h; cases h <;> decide), by decide⟩
theorem ti216 : TI1 Tryz.prog ti (216, ⟨(TypeDesc.array 8 5), (.arr 8 (.int .u8)), 8⟩) where
  under := Tryz.underlying216
  info := by kernel_rfl
  zero := by kernel_rfl
  shape := ⟨_, rfl, rfl, by decide, by decide⟩
  head := by intro _ h; cases h
  eq := fun _ _ => ⟨by kernel_rfl, by kernel_rfl, (by intro fs h; cases h <;> decide), by decide⟩
theorem ti217 : TI1 Tryz.prog ti (217, ⟨(TypeDesc.array 64 3), (.arr 64 (.int .i64)), 512⟩) where
  under := Tryz.underlying217
  info := by kernel_rfl
  zero := by kernel_rfl
  shape := ⟨_, rfl, rfl, by decide, by decide⟩
  head := by intro _ h; cases h
  eq := fun _ _ => ⟨by kernel_rfl, by kernel_rfl, (by intro fs h; cases h <;> decide), by decide⟩
theorem ti221 : TI1 Tryz.prog ti (221, ⟨(TypeDesc.array 64 53), (.arr 64 (.int .u32)), 256⟩) where
  under := Tryz.underlying221
  info := by kernel_rfl
  zero := by kernel_rfl
  shape := ⟨_, rfl, rfl, by decide, by decide⟩
  head := by intro _ h; cases h
  eq := fun _ _ => ⟨by kernel_rfl, by kernel_rfl, (by intro fs h; cases h <;> decide), by decide⟩
theorem ti225 : TI1 Tryz.prog ti (225, ⟨(TypeDesc.slice 53), (.sl (.int .u32)), 24⟩) where
  under := Tryz.underlying225
  info := by kernel_rfl
  zero := by kernel_rfl
  shape := ⟨_, rfl, rfl, by decide⟩
  head := by intro _ h; cases h
  eq := fun h => absurd h (by decide)
theorem ti_ok : TIok Tryz.prog ti := TIok.of (List.forall_mem_cons.2 ⟨ti3, List.forall_mem_cons.2 ⟨ti4, List.forall_mem_cons.2 ⟨ti5, List.forall_mem_cons.2 ⟨ti9, List.forall_mem_cons.2 ⟨ti22, List.forall_mem_cons.2 ⟨ti23, List.forall_mem_cons.2 ⟨ti26, List.forall_mem_cons.2 ⟨ti28, List.forall_mem_cons.2 ⟨ti31, List.forall_mem_cons.2 ⟨ti32, List.forall_mem_cons.2 ⟨ti44, List.forall_mem_cons.2 ⟨ti46, List.forall_mem_cons.2 ⟨ti47, List.forall_mem_cons.2 ⟨ti49, List.forall_mem_cons.2 ⟨ti51, List.forall_mem_cons.2 ⟨ti52, List.forall_mem_cons.2 ⟨ti53, List.forall_mem_cons.2 ⟨ti54, List.forall_mem_cons.2 ⟨ti57, List.forall_mem_cons.2 ⟨ti59, List.forall_mem_cons.2 ⟨ti61, List.forall_mem_cons.2 ⟨ti66, List.forall_mem_cons.2 ⟨ti68, List.forall_mem_cons.2 ⟨ti73, List.forall_mem_cons.2 ⟨ti75, List.forall_mem_cons.2 ⟨ti80, List.forall_mem_cons.2 ⟨ti81, List.forall_mem_cons.2 ⟨ti83, List.forall_mem_cons.2 ⟨ti92, List.forall_mem_cons.2 ⟨ti97, List.forall_mem_cons.2 ⟨ti121, List.forall_mem_cons.2 ⟨ti123, List.forall_mem_cons.2 ⟨ti125, List.forall_mem_cons.2 ⟨ti138, List.forall_mem_cons.2 ⟨ti146, List.forall_mem_cons.2 ⟨ti159, List.forall_mem_cons.2 ⟨ti168, List.forall_mem_cons.2 ⟨ti169, List.forall_mem_cons.2 ⟨ti179, List.forall_mem_cons.2 ⟨ti189, List.forall_mem_cons.2 ⟨ti191, List.forall_mem_cons.2 ⟨ti196, List.forall_mem_cons.2 ⟨ti200, List.forall_mem_cons.2 ⟨ti201, List.forall_mem_cons.2 ⟨ti203, List.forall_mem_cons.2 ⟨ti210, List.forall_mem_cons.2 ⟨ti212, List.forall_mem_cons.2 ⟨ti214, List.forall_mem_cons.2 ⟨ti216, List.forall_mem_cons.2 ⟨ti217, List.forall_mem_cons.2 ⟨ti221, List.forall_mem_cons.2 ⟨ti225, List.forall_mem_nil _⟩⟩⟩⟩⟩⟩⟩⟩⟩⟩⟩⟩⟩⟩⟩⟩⟩⟩⟩⟩⟩⟩⟩⟩⟩⟩⟩⟩⟩⟩⟩⟩⟩⟩⟩⟩⟩⟩⟩⟩⟩⟩⟩⟩⟩⟩⟩⟩⟩⟩⟩⟩)
theorem mixed : Tryz.prog.follows .mixedOrders = true := by kernel_rfl
noncomputable def c_sub64 : Con := conV false [u64, u64, u64] [u64, u64] fun x => sub64 x.1 x.2.1 x.2.2.1
theorem con_sub64 : ConOk Tryz.prog 149 c_sub64 := sub64_ok Tryz.func149 (by kernel_rfl) (by kernel_rfl) (by kernel_rfl) (by kernel_rfl)
noncomputable def c_add64 : Con := conV false [u64, u64, u64] [u64, u64] fun x => add64 x.1 x.2.1 x.2.2.1
theorem con_add64 : ConOk Tryz.prog 151 c_add64 := add64_ok Tryz.func151 (by kernel_rfl) (by kernel_rfl) (by kernel_rfl) (by kernel_rfl)
end Go.Proofs.YtccbdhpcblfopaaGreat

namespace Go.Proofs.YtccbdhpcblfopaaGreat
noncomputable def c00_ : Con := conV true [tU] [tI] fun x => bits_Len64 x.1
noncomputable def x00_ : Cx := { ti := ti, con := [], fns := [], un := 6 }
theorem xok00_ : CxOk Tryz.prog x00_ := CxOk.of mixed ti_ok fz fz
theorem fn00_ : FnOk Tryz.prog 81 Tryz.f81 [] := ⟨Tryz.func81, Tryz.call81, lps_nil⟩
theorem e00_ (x : Int) : bodyK x00_ [] (denF x00_ 8) Tryz.f81 (domV [tU] (x, ())) [] 0 (kOut [tI]) = bits_Len64' x := by kernel_rfl
theorem con00_ : ConOk Tryz.prog 81 c00_ := con_ok xok00_ 8 fn00_ true [tU] [tI] _ (by decide) (fun x => by rw [bits_Len64_eq]; exact e00_ x.1)
noncomputable def c01_ : Con := conV true [tU] [tI] fun x => bits_LeadingZeros64 x.1
noncomputable def x01_ : Cx := { ti := ti, con := [(81, c00_)], fns := [], un := 6 }
theorem xok01_ : CxOk Tryz.prog x01_ := CxOk.of mixed ti_ok (fc ⟨con00_, fz⟩) fz
theorem fn01_ : FnOk Tryz.prog 159 Tryz.f159 [] := ⟨Tryz.func159, Tryz.call159, lps_nil⟩
theorem e01_ (x : Int) : bodyK x01_ [] (denF x01_ 8) Tryz.f159 (domV [tU] (x, ())) [] 0 (kOut [tI]) = bits_LeadingZeros64' x := by kernel_rfl
theorem con01_ : ConOk Tryz.prog 159 c01_ := con_ok xok01_ 8 fn01_ true [tU] [tI] _ (by decide) (fun x => by rw [bits_LeadingZeros64_eq]; exact e01_ x.1)
abbrev S02_0 : Shape := { sl := [(pv 2 tU), (pv 8 tU), (pv 9 tU), (pv 10 tU), (pv 11 tU), (pv 13 tU), (pv 14 tU), (pv 15 tU), (pv 16 tU)], ob := [], lo := 0, nx := 0 }
abbrev E02_0 : List Ex := [(.normal, { sl := [(pv 2 tU), (pv 8 tU), (pv 9 tU), (pv 10 tU), (pv 11 tU), (pv 13 tU), (pv 14 tU), (pv 15 tU)], ob := [], lo := 0, nx := 0 })]
noncomputable def L02_0 : Code := loopIn (bodyOf Tryz.f136) 0
noncomputable def P02_0 : Lp := lpOf S02_0 E02_0 135 R_bits_Div64_0
abbrev S02_2 : Shape := { sl := [(pv 2 tU), (pv 8 tU), (pv 9 tU), (pv 10 tU), (pv 14 tU), (pv 15 tU), (pv 16 tU), (pv 17 tU), (pv 18 tU)], ob := [], lo := 0, nx := 0 }
abbrev E02_2 : List Ex := [(.normal, { sl := [(pv 2 tU), (pv 8 tU), (pv 14 tU), (pv 15 tU), (pv 17 tU), (pv 18 tU)], ob := [], lo := 0, nx := 0 })]
noncomputable def L02_2 : Code := loopIn (bodyOf Tryz.f136) 2
noncomputable def P02_2 : Lp := lpOf S02_2 E02_2 135 R_bits_Div64_2
noncomputable def c02_ : Con := conV true [tU, tU, tU] [tU, tU] fun x => bits_Div64 x.1 x.2.1 x.2.2.1
noncomputable def x02_ : Cx := { ti := ti, con := [(159, c01_)], fns := [], un := 6 }
theorem xok02_ : CxOk Tryz.prog x02_ := CxOk.of mixed ti_ok (fc ⟨con01_, fz⟩) fz
theorem r02_0 (x : S02_0.X) : denC x02_ [] (denF x02_ 8) L02_0 (S02_0.mkS 135 x) (kRound 0 S02_0 E02_0) = R_bits_Div64_0 x := by kernel_rfl
theorem l02_0 : LpOk Tryz.prog 0 (.loop L02_0) P02_0 := lpOf_ok xok02_ 8 (lps_nil) S02_0 E02_0 135 R_bits_Div64_0 (by decide) r02_0
theorem r02_2 (x : S02_2.X) : denC x02_ [] (denF x02_ 8) L02_2 (S02_2.mkS 135 x) (kRound 2 S02_2 E02_2) = R_bits_Div64_2 x := by kernel_rfl
theorem l02_2 : LpOk Tryz.prog 2 (.loop L02_2) P02_2 := lpOf_ok xok02_ 8 (lps_nil) S02_2 E02_2 135 R_bits_Div64_2 (by decide) r02_2
theorem fn02_ : FnOk Tryz.prog 136 Tryz.f136 [(0, P02_0), (2, P02_2)] := ⟨Tryz.func136, Tryz.call136, lps_of (by kernel_rfl) (lps_one l02_0 (by kernel_rfl) (lps_one l02_2 (by kernel_rfl) fz))⟩
theorem e02_ (hi : Int) (lo : Int) (y : Int) : bodyK x02_ [(0, P02_0), (2, P02_2)] (denF x02_ 8) Tryz.f136 (domV [tU, tU, tU] (hi, lo, y, ())) [] 0 (kOut [tU, tU]) = bits_Div64' hi lo y := by kernel_rfl
theorem con02_ : ConOk Tryz.prog 136 c02_ := con_ok xok02_ 8 fn02_ true [tU, tU, tU] [tU, tU] _ (by decide) (fun x => by rw [bits_Div64_eq]; exact e02_ x.1 x.2.1 x.2.2.1)
noncomputable def c03_ : Con := conV true [tU, tU] [tU, tU] fun x => bits_Mul64 x.1 x.2.1
noncomputable def x03_ : Cx := { ti := ti, con := [], fns := [], un := 6 }
theorem xok03_ : CxOk Tryz.prog x03_ := CxOk.of mixed ti_ok fz fz
theorem fn03_ : FnOk Tryz.prog 135 Tryz.f135 [] := ⟨Tryz.func135, Tryz.call135, lps_nil⟩
theorem e03_ (x : Int) (y : Int) : bodyK x03_ [] (denF x03_ 8) Tryz.f135 (domV [tU, tU] (x, y, ())) [] 0 (kOut [tU, tU]) = bits_Mul64' x y := by kernel_rfl
theorem con03_ : ConOk Tryz.prog 135 c03_ := con_ok xok03_ 8 fn03_ true [tU, tU] [tU, tU] _ (by decide) (fun x => by rw [bits_Mul64_eq]; exact e03_ x.1 x.2.1)
noncomputable def c04_ : Con := conV true [(.int .u32), tI] [(.int .u32)] fun x => bits_RotateLeft32 x.1 x.2.1
noncomputable def x04_ : Cx := { ti := ti, con := [], fns := [], un := 6 }
theorem xok04_ : CxOk Tryz.prog x04_ := CxOk.of mixed ti_ok fz fz
theorem fn04_ : FnOk Tryz.prog 169 Tryz.f169 [] := ⟨Tryz.func169, Tryz.call169, lps_nil⟩
theorem e04_ (x : Int) (k : Int) : bodyK x04_ [] (denF x04_ 8) Tryz.f169 (domV [(.int .u32), tI] (x, k, ())) [] 0 (kOut [(.int .u32)]) = bits_RotateLeft32' x k := by kernel_rfl
theorem con04_ : ConOk Tryz.prog 169 c04_ := con_ok xok04_ 8 fn04_ true [(.int .u32), tI] [(.int .u32)] _ (by decide) (fun x => by rw [bits_RotateLeft32_eq]; exact e04_ x.1 x.2.1)
end Go.Proofs.YtccbdhpcblfopaaGreat

namespace Go.Proofs.YtccbdhpcblfopaaGreat
noncomputable def c05_ : Con := conV true [tN] [tI, .bool] fun x => nat_Int x.1
noncomputable def x05_ : Cx := { ti := ti, con := [], fns := [], un := 6 }
theorem xok05_ : CxOk Tryz.prog x05_ := CxOk.of mixed ti_ok fz fz
theorem fn05_ : FnOk Tryz.prog 76 Tryz.f76 [] := ⟨Tryz.func76, Tryz.call76, lps_nil⟩
theorem e05_ (a : NI) : bodyK x05_ [] (denF x05_ 8) Tryz.f76 (domV [tN] (a, ())) [] 0 (kOut [tI, .bool]) = nat_Int' a := by kernel_rfl
theorem con05_ : ConOk Tryz.prog 76 c05_ := con_ok xok05_ 8 fn05_ true [tN] [tI, .bool] _ (by decide) (fun x => by rw [nat_Int_eq]; exact e05_ x.1)
noncomputable def c06_ : Con := conV true [tI] [tN] fun x => nat_Of x.1
noncomputable def x06_ : Cx := { ti := ti, con := [], fns := [], un := 6 }
theorem xok06_ : CxOk Tryz.prog x06_ := CxOk.of mixed ti_ok fz fz
theorem fn06_ : FnOk Tryz.prog 39 Tryz.f39 [] := ⟨Tryz.func39, Tryz.call39, lps_nil⟩
theorem e06_ (n : Int) : bodyK x06_ [] (denF x06_ 8) Tryz.f39 (domV [tI] (n, ())) [] 0 (kOut [tN]) = nat_Of' n := by kernel_rfl
theorem con06_ : ConOk Tryz.prog 39 c06_ := con_ok xok06_ 8 fn06_ true [tI] [tN] _ (by decide) (fun x => by rw [nat_Of_eq]; exact e06_ x.1)
noncomputable def c07_ : Con := conV true [tN, tI] [tI] fun x => nat_Bit x.1 x.2.1
noncomputable def x07_ : Cx := { ti := ti, con := [], fns := [], un := 6 }
theorem xok07_ : CxOk Tryz.prog x07_ := CxOk.of mixed ti_ok fz fz
theorem fn07_ : FnOk Tryz.prog 153 Tryz.f153 [] := ⟨Tryz.func153, Tryz.call153, lps_nil⟩
theorem e07_ (a : NI) (k : Int) : bodyK x07_ [] (denF x07_ 8) Tryz.f153 (domV [tN, tI] (a, k, ())) [] 0 (kOut [tI]) = nat_Bit' a k := by kernel_rfl
theorem con07_ : ConOk Tryz.prog 153 c07_ := con_ok xok07_ 8 fn07_ true [tN, tI] [tI] _ (by decide) (fun x => by rw [nat_Bit_eq]; exact e07_ x.1 x.2.1)
abbrev S08_0 : Shape := { sl := [(pc 2 tN 0), (pc 4 tN 1), (pc 5 tN 2), (pv 6 tI), (pv 7 tI), (pv 8 tI)], ob := [(pv 0 tN), (pv 1 tN), (pv 2 tN)], lo := 3, nx := 3 }
abbrev E08_0 : List Ex := [(.normal, { sl := [(pc 4 tN 1), (pc 5 tN 2)], ob := [(pv 1 tN), (pv 2 tN)], lo := 3, nx := 3 })]
noncomputable def L08_0 : Code := loopIn (bodyOf Tryz.f122) 0
noncomputable def P08_0 : Lp := lpOf S08_0 E08_0 51 R_nat_Up_0
noncomputable def c08_ : Con := conV true [tN, tI] [tN] fun x => nat_Up x.1 x.2.1
noncomputable def x08_ : Cx := { ti := ti, con := [], fns := [], un := 6 }
theorem xok08_ : CxOk Tryz.prog x08_ := CxOk.of mixed ti_ok fz fz
theorem r08_0 (x : S08_0.X) : denC x08_ [] (denF x08_ 8) L08_0 (S08_0.mkS 51 x) (kRound 0 S08_0 E08_0) = R_nat_Up_0 x := by kernel_rfl
theorem l08_0 : LpOk Tryz.prog 0 (.loop L08_0) P08_0 := lpOf_ok xok08_ 8 (lps_nil) S08_0 E08_0 51 R_nat_Up_0 (by decide) r08_0
theorem fn08_ : FnOk Tryz.prog 122 Tryz.f122 [(0, P08_0)] := ⟨Tryz.func122, Tryz.call122, lps_of (by kernel_rfl) (lps_one l08_0 (by kernel_rfl) fz)⟩
theorem e08_ (a : NI) (k : Int) : bodyK x08_ [(0, P08_0)] (denF x08_ 8) Tryz.f122 (domV [tN, tI] (a, k, ())) [] 0 (kOut [tN]) = nat_Up' a k := by kernel_rfl
theorem con08_ : ConOk Tryz.prog 122 c08_ := con_ok xok08_ 8 fn08_ true [tN, tI] [tN] _ (by decide) (fun x => by rw [nat_Up_eq]; exact e08_ x.1 x.2.1)
noncomputable def c09_ : Con := conV true [tN, tN] [tN, tI] fun x => nat_Sub x.1 x.2.1
noncomputable def x09_ : Cx := { ti := ti, con := [(149, c_sub64)], fns := [], un := 6 }
theorem xok09_ : CxOk Tryz.prog x09_ := CxOk.of mixed ti_ok (fc ⟨con_sub64, fz⟩) fz
theorem fn09_ : FnOk Tryz.prog 113 Tryz.f113 [] := ⟨Tryz.func113, Tryz.call113, lps_nil⟩
theorem e09_ (a : NI) (b : NI) : bodyK x09_ [] (denF x09_ 8) Tryz.f113 (domV [tN, tN] (a, b, ())) [] 0 (kOut [tN, tI]) = nat_Sub' a b := by kernel_rfl
theorem con09_ : ConOk Tryz.prog 113 c09_ := con_ok xok09_ 8 fn09_ true [tN, tN] [tN, tI] _ (by decide) (fun x => by rw [nat_Sub_eq]; exact e09_ x.1 x.2.1)
noncomputable def c0a_ : Con := conV true [tN, tN] [tI] fun x => nat_Cmp x.1 x.2.1
noncomputable def x0a_ : Cx := { ti := ti, con := [], fns := [], un := 6 }
theorem xok0a_ : CxOk Tryz.prog x0a_ := CxOk.of mixed ti_ok fz fz
theorem fn0a_ : FnOk Tryz.prog 83 Tryz.f83 [] := ⟨Tryz.func83, Tryz.call83, lps_nil⟩
theorem e0a_ (a : NI) (b : NI) : bodyK x0a_ [] (denF x0a_ 8) Tryz.f83 (domV [tN, tN] (a, b, ())) [] 0 (kOut [tI]) = nat_Cmp' a b := by kernel_rfl
theorem con0a_ : ConOk Tryz.prog 83 c0a_ := con_ok xok0a_ 8 fn0a_ true [tN, tN] [tI] _ (by decide) (fun x => by rw [nat_Cmp_eq]; exact e0a_ x.1 x.2.1)
noncomputable def c0b_ : Con := conV true [tN] [tI] fun x => nat_Len x.1
noncomputable def x0b_ : Cx := { ti := ti, con := [(81, c00_)], fns := [], un := 6 }
theorem xok0b_ : CxOk Tryz.prog x0b_ := CxOk.of mixed ti_ok (fc ⟨con00_, fz⟩) fz
theorem fn0b_ : FnOk Tryz.prog 38 Tryz.f38 [] := ⟨Tryz.func38, Tryz.call38, lps_nil⟩
theorem e0b_ (a : NI) : bodyK x0b_ [] (denF x0b_ 8) Tryz.f38 (domV [tN] (a, ())) [] 0 (kOut [tI]) = nat_Len' a := by kernel_rfl
theorem con0b_ : ConOk Tryz.prog 38 c0b_ := con_ok xok0b_ 8 fn0b_ true [tN] [tI] _ (by decide) (fun x => by rw [nat_Len_eq]; exact e0b_ x.1)
abbrev S0c_0 : Shape := { sl := [(pc 2 tN 0), (pc 4 tN 1), (pc 5 tN 2), (pv 6 tI), (pv 7 tI), (pv 20 tI), (pv 21 tI)], ob := [(pv 0 tN), (pv 1 tN), (pv 2 tN)], lo := 3, nx := 3 }
abbrev E0c_0 : List Ex := [(.normal, { sl := [(pc 4 tN 1), (pc 5 tN 2)], ob := [(pv 1 tN), (pv 2 tN)], lo := 3, nx := 3 })]
noncomputable def L0c_0 : Code := loopIn (bodyOf Tryz.f121) 0
noncomputable def P0c_0 : Lp := lpOf S0c_0 E0c_0 54 R_nat_Down_0
noncomputable def c0c_ : Con := conV true [tN, tI] [tN] fun x => nat_Down x.1 x.2.1
noncomputable def x0c_ : Cx := { ti := ti, con := [], fns := [], un := 6 }
theorem xok0c_ : CxOk Tryz.prog x0c_ := CxOk.of mixed ti_ok fz fz
theorem r0c_0 (x : S0c_0.X) : denC x0c_ [] (denF x0c_ 8) L0c_0 (S0c_0.mkS 54 x) (kRound 0 S0c_0 E0c_0) = R_nat_Down_0 x := by kernel_rfl
theorem l0c_0 : LpOk Tryz.prog 0 (.loop L0c_0) P0c_0 := lpOf_ok xok0c_ 8 (lps_nil) S0c_0 E0c_0 54 R_nat_Down_0 (by decide) r0c_0
theorem fn0c_ : FnOk Tryz.prog 121 Tryz.f121 [(0, P0c_0)] := ⟨Tryz.func121, Tryz.call121, lps_of (by kernel_rfl) (lps_one l0c_0 (by kernel_rfl) fz)⟩
theorem e0c_ (a : NI) (k : Int) : bodyK x0c_ [(0, P0c_0)] (denF x0c_ 8) Tryz.f121 (domV [tN, tI] (a, k, ())) [] 0 (kOut [tN]) = nat_Down' a k := by kernel_rfl
theorem con0c_ : ConOk Tryz.prog 121 c0c_ := con_ok xok0c_ 8 fn0c_ true [tN, tI] [tN] _ (by decide) (fun x => by rw [nat_Down_eq]; exact e0c_ x.1 x.2.1)
noncomputable def c0d_ : Con := conV true [tN, tN] [tN, tI] fun x => nat_Add x.1 x.2.1
noncomputable def x0d_ : Cx := { ti := ti, con := [(151, c_add64)], fns := [], un := 6 }
theorem xok0d_ : CxOk Tryz.prog x0d_ := CxOk.of mixed ti_ok (fc ⟨con_add64, fz⟩) fz
theorem fn0d_ : FnOk Tryz.prog 127 Tryz.f127 [] := ⟨Tryz.func127, Tryz.call127, lps_nil⟩
theorem e0d_ (a : NI) (b : NI) : bodyK x0d_ [] (denF x0d_ 8) Tryz.f127 (domV [tN, tN] (a, b, ())) [] 0 (kOut [tN, tI]) = nat_Add' a b := by kernel_rfl
theorem con0d_ : ConOk Tryz.prog 127 c0d_ := con_ok xok0d_ 8 fn0d_ true [tN, tN] [tN, tI] _ (by decide) (fun x => by rw [nat_Add_eq]; exact e0d_ x.1 x.2.1)
end Go.Proofs.YtccbdhpcblfopaaGreat

namespace Go.Proofs.YtccbdhpcblfopaaGreat
noncomputable def c0e_ : Con := conV true [tN, tU, tU] [tN, tN] fun x => wide_short x.1 x.2.1 x.2.2.1
noncomputable def x0e_ : Cx := { ti := ti, con := [(136, c02_)], fns := [], un := 6 }
theorem xok0e_ : CxOk Tryz.prog x0e_ := CxOk.of mixed ti_ok (fc ⟨con02_, fz⟩) fz
theorem fn0e_ : FnOk Tryz.prog 152 Tryz.f152 [] := ⟨Tryz.func152, Tryz.call152, lps_nil⟩
theorem e0e_ (a : NI) (left_ : Int) (m : Int) : bodyK x0e_ [] (denF x0e_ 8) Tryz.f152 (domV [tN, tU, tU] (a, left_, m, ())) [] 0 (kOut [tN, tN]) = wide_short' a left_ m := by kernel_rfl
theorem con0e_ : ConOk Tryz.prog 152 c0e_ := con_ok xok0e_ 8 fn0e_ true [tN, tU, tU] [tN, tN] _ (by decide) (fun x => by rw [wide_short_eq]; exact e0e_ x.1 x.2.1 x.2.2.1)
abbrev S0f_0 : Shape := { sl := [(pc 3 tN 0), (pc 4 tN 1), (pc 5 tN 2), (pc 6 tN 3), (pc 7 tN 4), (pc 8 tN 5), (pv 25 tI)], ob := [(pv 0 tN), (pv 1 tN), (pv 2 tN), (pv 3 tN), (pv 4 tN), (pv 5 tN)], lo := 6, nx := 6 }
abbrev E0f_0 : List Ex := [(.normal, { sl := [(pc 4 tN 1), (pc 6 tN 3), (pc 7 tN 4), (pc 8 tN 5)], ob := [(pv 1 tN), (pv 3 tN), (pv 4 tN), (pv 5 tN)], lo := 6, nx := 6 })]
noncomputable def L0f_0 : Code := loopIn (bodyOf Tryz.f118) 0
noncomputable def P0f_0 : Lp := lpOf S0f_0 E0f_0 68 R_wide_parted_0
noncomputable def c0f_ : Con := conV true [tN, tN, tN] [tN, tN] fun x => wide_parted x.1 x.2.1 x.2.2.1
noncomputable def x0f_ : Cx := { ti := ti, con := [(152, c0e_), (153, c07_), (122, c08_), (113, c09_), (83, c0a_)], fns := [], un := 6 }
theorem xok0f_ : CxOk Tryz.prog x0f_ := CxOk.of mixed ti_ok (fc ⟨con0e_, fc ⟨con07_, fc ⟨con08_, fc ⟨con09_, fc ⟨con0a_, fz⟩⟩⟩⟩⟩) fz
theorem r0f_0 (x : S0f_0.X) : denC x0f_ [] (denF x0f_ 8) L0f_0 (S0f_0.mkS 68 x) (kRound 0 S0f_0 E0f_0) = R_wide_parted_0 x := by kernel_rfl
theorem l0f_0 : LpOk Tryz.prog 0 (.loop L0f_0) P0f_0 := lpOf_ok xok0f_ 8 (lps_nil) S0f_0 E0f_0 68 R_wide_parted_0 (by decide) r0f_0
theorem fn0f_ : FnOk Tryz.prog 118 Tryz.f118 [(0, P0f_0)] := ⟨Tryz.func118, Tryz.call118, lps_of (by kernel_rfl) (lps_one l0f_0 (by kernel_rfl) fz)⟩
theorem e0f_ (a : NI) (left_ : NI) (m : NI) : bodyK x0f_ [(0, P0f_0)] (denF x0f_ 8) Tryz.f118 (domV [tN, tN, tN] (a, left_, m, ())) [] 0 (kOut [tN, tN]) = wide_parted' a left_ m := by kernel_rfl
theorem con0f_ : ConOk Tryz.prog 118 c0f_ := con_ok xok0f_ 8 fn0f_ true [tN, tN, tN] [tN, tN] _ (by decide) (fun x => by rw [wide_parted_eq]; exact e0f_ x.1 x.2.1 x.2.2.1)
noncomputable def c0g_ : Con := conV true [tN, tN, tN] [tN, tI] fun x => wide_Rem x.1 x.2.1 x.2.2.1
noncomputable def x0g_ : Cx := { ti := ti, con := [(118, c0f_)], fns := [], un := 6 }
theorem xok0g_ : CxOk Tryz.prog x0g_ := CxOk.of mixed ti_ok (fc ⟨con0f_, fz⟩) fz
theorem fn0g_ : FnOk Tryz.prog 79 Tryz.f79 [] := ⟨Tryz.func79, Tryz.call79, lps_nil⟩
theorem e0g_ (low : NI) (high : NI) (m : NI) : bodyK x0g_ [] (denF x0g_ 8) Tryz.f79 (domV [tN, tN, tN] (low, high, m, ())) [] 0 (kOut [tN, tI]) = wide_Rem' low high m := by kernel_rfl
theorem con0g_ : ConOk Tryz.prog 79 c0g_ := con_ok xok0g_ 8 fn0g_ true [tN, tN, tN] [tN, tI] _ (by decide) (fun x => by rw [wide_Rem_eq]; exact e0g_ x.1 x.2.1 x.2.2.1)
noncomputable def c0h_ : Con := conV true [tN, tN] [tN, tN] fun x => wide_Mul x.1 x.2.1
noncomputable def x0h_ : Cx := { ti := ti, con := [(135, c03_), (151, c_add64)], fns := [(150, Tryz.f150, [])], un := 6 }
theorem xok0h_ : CxOk Tryz.prog x0h_ := CxOk.of mixed ti_ok (fc ⟨con03_, fc ⟨con_add64, fz⟩⟩) (fc ⟨⟨Tryz.func150, Tryz.call150, lps_nil⟩, fz⟩)
theorem fn0h_ : FnOk Tryz.prog 115 Tryz.f115 [] := ⟨Tryz.func115, Tryz.call115, lps_nil⟩
theorem e0h_ (a : NI) (b : NI) : bodyK x0h_ [] (denF x0h_ 8) Tryz.f115 (domV [tN, tN] (a, b, ())) [] 0 (kOut [tN, tN]) = wide_Mul' a b := by kernel_rfl
theorem con0h_ : ConOk Tryz.prog 115 c0h_ := con_ok xok0h_ 8 fn0h_ true [tN, tN] [tN, tN] _ (by decide) (fun x => by rw [wide_Mul_eq]; exact e0h_ x.1 x.2.1)
noncomputable def c0i_ : Con := conV true [tN, tN, tN] [tN, tI] fun x => wide_MulMod x.1 x.2.1 x.2.2.1
noncomputable def x0i_ : Cx := { ti := ti, con := [(115, c0h_), (79, c0g_)], fns := [], un := 6 }
theorem xok0i_ : CxOk Tryz.prog x0i_ := CxOk.of mixed ti_ok (fc ⟨con0h_, fc ⟨con0g_, fz⟩⟩) fz
theorem fn0i_ : FnOk Tryz.prog 80 Tryz.f80 [] := ⟨Tryz.func80, Tryz.call80, lps_nil⟩
theorem e0i_ (a : NI) (b : NI) (m : NI) : bodyK x0i_ [] (denF x0i_ 8) Tryz.f80 (domV [tN, tN, tN] (a, b, m, ())) [] 0 (kOut [tN, tI]) = wide_MulMod' a b m := by kernel_rfl
theorem con0i_ : ConOk Tryz.prog 80 c0i_ := con_ok xok0i_ 8 fn0i_ true [tN, tN, tN] [tN, tI] _ (by decide) (fun x => by rw [wide_MulMod_eq]; exact e0i_ x.1 x.2.1 x.2.2.1)
noncomputable def c0j_ : Con := conV true [tN, tN] [tN, tN, tI] fun x => wide_Div x.1 x.2.1
noncomputable def x0j_ : Cx := { ti := ti, con := [(118, c0f_)], fns := [], un := 6 }
theorem xok0j_ : CxOk Tryz.prog x0j_ := CxOk.of mixed ti_ok (fc ⟨con0f_, fz⟩) fz
theorem fn0j_ : FnOk Tryz.prog 114 Tryz.f114 [] := ⟨Tryz.func114, Tryz.call114, lps_nil⟩
theorem e0j_ (a : NI) (b : NI) : bodyK x0j_ [] (denF x0j_ 8) Tryz.f114 (domV [tN, tN] (a, b, ())) [] 0 (kOut [tN, tN, tI]) = wide_Div' a b := by kernel_rfl
theorem con0j_ : ConOk Tryz.prog 114 c0j_ := con_ok xok0j_ 8 fn0j_ true [tN, tN] [tN, tN, tI] _ (by decide) (fun x => by rw [wide_Div_eq]; exact e0j_ x.1 x.2.1)
noncomputable def c0k_ : Con := conV true [tN, tN, tN] [tN, tI] fun x => wide_SubMod x.1 x.2.1 x.2.2.1
noncomputable def x0k_ : Cx := { ti := ti, con := [(79, c0g_), (113, c09_), (127, c0d_)], fns := [], un := 6 }
theorem xok0k_ : CxOk Tryz.prog x0k_ := CxOk.of mixed ti_ok (fc ⟨con0g_, fc ⟨con09_, fc ⟨con0d_, fz⟩⟩⟩) fz
theorem fn0k_ : FnOk Tryz.prog 116 Tryz.f116 [] := ⟨Tryz.func116, Tryz.call116, lps_nil⟩
theorem e0k_ (a : NI) (b : NI) (m : NI) : bodyK x0k_ [] (denF x0k_ 8) Tryz.f116 (domV [tN, tN, tN] (a, b, m, ())) [] 0 (kOut [tN, tI]) = wide_SubMod' a b m := by kernel_rfl
theorem con0k_ : ConOk Tryz.prog 116 c0k_ := con_ok xok0k_ 8 fn0k_ true [tN, tN, tN] [tN, tI] _ (by decide) (fun x => by rw [wide_SubMod_eq]; exact e0k_ x.1 x.2.1 x.2.2.1)
abbrev S0l_0 : Shape := { sl := [(pc 2 tN 0), (pc 3 tN 1), (pc 4 tN 2)], ob := [(pv 0 tN), (pv 1 tN), (pv 2 tN)], lo := 3, nx := 3 }
abbrev E0l_0 : List Ex := [(.normal, { sl := [(pc 2 tN 0), (pc 4 tN 2)], ob := [(pv 0 tN), (pv 2 tN)], lo := 3, nx := 3 })]
noncomputable def L0l_0 : Code := loopIn (bodyOf Tryz.f117) 0
noncomputable def P0l_0 : Lp := lpOf S0l_0 E0l_0 21 R_wide_Gcd_0
noncomputable def c0l_ : Con := conV true [tN, tN] [tN] fun x => wide_Gcd x.1 x.2.1
noncomputable def x0l_ : Cx := { ti := ti, con := [(114, c0j_)], fns := [], un := 6 }
theorem xok0l_ : CxOk Tryz.prog x0l_ := CxOk.of mixed ti_ok (fc ⟨con0j_, fz⟩) fz
theorem r0l_0 (x : S0l_0.X) : denC x0l_ [] (denF x0l_ 8) L0l_0 (S0l_0.mkS 21 x) (kRound 0 S0l_0 E0l_0) = R_wide_Gcd_0 x := by kernel_rfl
theorem l0l_0 : LpOk Tryz.prog 0 (.loop L0l_0) P0l_0 := lpOf_ok xok0l_ 8 (lps_nil) S0l_0 E0l_0 21 R_wide_Gcd_0 (by decide) r0l_0
theorem fn0l_ : FnOk Tryz.prog 117 Tryz.f117 [(0, P0l_0)] := ⟨Tryz.func117, Tryz.call117, lps_of (by kernel_rfl) (lps_one l0l_0 (by kernel_rfl) fz)⟩
theorem e0l_ (a : NI) (b : NI) : bodyK x0l_ [(0, P0l_0)] (denF x0l_ 8) Tryz.f117 (domV [tN, tN] (a, b, ())) [] 0 (kOut [tN]) = wide_Gcd' a b := by kernel_rfl
theorem con0l_ : ConOk Tryz.prog 117 c0l_ := con_ok xok0l_ 8 fn0l_ true [tN, tN] [tN] _ (by decide) (fun x => by rw [wide_Gcd_eq]; exact e0l_ x.1 x.2.1)
noncomputable def c0m_ : Con := conV true [tN, tN, tN] [tN, tI] fun x => wide_AddMod x.1 x.2.1 x.2.2.1
noncomputable def x0m_ : Cx := { ti := ti, con := [(127, c0d_), (39, c06_), (79, c0g_)], fns := [], un := 6 }
theorem xok0m_ : CxOk Tryz.prog x0m_ := CxOk.of mixed ti_ok (fc ⟨con0d_, fc ⟨con06_, fc ⟨con0g_, fz⟩⟩⟩) fz
theorem fn0m_ : FnOk Tryz.prog 95 Tryz.f95 [] := ⟨Tryz.func95, Tryz.call95, lps_nil⟩
theorem e0m_ (a : NI) (b : NI) (m : NI) : bodyK x0m_ [] (denF x0m_ 8) Tryz.f95 (domV [tN, tN, tN] (a, b, m, ())) [] 0 (kOut [tN, tI]) = wide_AddMod' a b m := by kernel_rfl
theorem con0m_ : ConOk Tryz.prog 95 c0m_ := con_ok xok0m_ 8 fn0m_ true [tN, tN, tN] [tN, tI] _ (by decide) (fun x => by rw [wide_AddMod_eq]; exact e0m_ x.1 x.2.1 x.2.2.1)
end Go.Proofs.YtccbdhpcblfopaaGreat

namespace Go.Proofs.YtccbdhpcblfopaaGreat
noncomputable def c0n_ : Con := conV false [tN] [(.ptr (.pair tN (.pair tU (.pair tN tN)))), tI] fun x => mont_New x.1
noncomputable def x0n_ : Cx := { ti := ti, con := [(39, c06_), (79, c0g_), (80, c0i_)], fns := [], un := 6 }
theorem xok0n_ : CxOk Tryz.prog x0n_ := CxOk.of mixed ti_ok (fc ⟨con06_, fc ⟨con0g_, fc ⟨con0i_, fz⟩⟩⟩) fz
theorem fn0n_ : FnOk Tryz.prog 37 Tryz.f37 [] := ⟨Tryz.func37, Tryz.call37, lps_nil⟩
theorem e0n_ (m : NI) : bodyK x0n_ [] (denF x0n_ 8) Tryz.f37 (domV [tN] (m, ())) [] 0 (kOut [(.ptr (.pair tN (.pair tU (.pair tN tN)))), tI]) = mont_New' m := by kernel_rfl
theorem con0n_ : ConOk Tryz.prog 37 c0n_ := con_ok xok0n_ 8 fn0n_ false [tN] [(.ptr (.pair tN (.pair tU (.pair tN tN)))), tI] _ (by decide) (fun x => by rw [mont_New_eq]; exact e0n_ x.1)
noncomputable def c0o_ : Con := conV true [(.ptr (.pair tN (.pair tU (.pair tN tN))))] [.bool] fun x => mont_Ring_given x.1
noncomputable def x0o_ : Cx := { ti := ti, con := [], fns := [], un := 6 }
theorem xok0o_ : CxOk Tryz.prog x0o_ := CxOk.of mixed ti_ok fz fz
theorem fn0o_ : FnOk Tryz.prog 82 Tryz.f82 [] := ⟨Tryz.func82, Tryz.call82, lps_nil⟩
theorem e0o_ (r : (Option (NI × (Int × (NI × NI))))) : bodyK x0o_ [] (denF x0o_ 8) Tryz.f82 (domV [(.ptr (.pair tN (.pair tU (.pair tN tN))))] (r, ())) [] 0 (kOut [.bool]) = mont_Ring_given' r := by cases r <;> kernel_rfl
theorem con0o_ : ConOk Tryz.prog 82 c0o_ := con_ok xok0o_ 8 fn0o_ true [(.ptr (.pair tN (.pair tU (.pair tN tN))))] [.bool] _ (by decide) (fun x => by rw [mont_Ring_given_eq]; exact e0o_ x.1)
noncomputable def c0p_ : Con := conV true [(.ptr (.pair tN (.pair tU (.pair tN tN)))), tN] [tN] fun x => mont_Ring_low x.1 x.2.1
noncomputable def x0p_ : Cx := { ti := ti, con := [(83, c0a_), (79, c0g_)], fns := [], un := 6 }
theorem xok0p_ : CxOk Tryz.prog x0p_ := CxOk.of mixed ti_ok (fc ⟨con0a_, fc ⟨con0g_, fz⟩⟩) fz
theorem fn0p_ : FnOk Tryz.prog 130 Tryz.f130 [] := ⟨Tryz.func130, Tryz.call130, lps_nil⟩
theorem e0p_ (r : (Option (NI × (Int × (NI × NI))))) (a : NI) : bodyK x0p_ [] (denF x0p_ 8) Tryz.f130 (domV [(.ptr (.pair tN (.pair tU (.pair tN tN)))), tN] (r, a, ())) [] 0 (kOut [tN]) = mont_Ring_low' r a := by cases r <;> kernel_rfl
theorem con0p_ : ConOk Tryz.prog 130 c0p_ := con_ok xok0p_ 8 fn0p_ true [(.ptr (.pair tN (.pair tU (.pair tN tN)))), tN] [tN] _ (by decide) (fun x => by rw [mont_Ring_low_eq]; exact e0p_ x.1 x.2.1)
noncomputable def c0q_ : Con := conV true [(.arr 6 tU), tU, tN] [(.arr 6 tU)] fun x => mont_adds x.1 x.2.1 x.2.2.1
noncomputable def x0q_ : Cx := { ti := ti, con := [(135, c03_), (151, c_add64)], fns := [], un := 6 }
theorem xok0q_ : CxOk Tryz.prog x0q_ := CxOk.of mixed ti_ok (fc ⟨con03_, fc ⟨con_add64, fz⟩⟩) fz
theorem fn0q_ : FnOk Tryz.prog 154 Tryz.f154 [] := ⟨Tryz.func154, Tryz.call154, lps_nil⟩
theorem e0q_ (t : NI) (x : Int) (b : NI) : bodyK x0q_ [] (denF x0q_ 8) Tryz.f154 (domV [(.arr 6 tU), tU, tN] (t, x, b, ())) [] 0 (kOut [(.arr 6 tU)]) = mont_adds' t x b := by kernel_rfl
theorem con0q_ : ConOk Tryz.prog 154 c0q_ := con_ok xok0q_ 8 fn0q_ true [(.arr 6 tU), tU, tN] [(.arr 6 tU)] _ (by decide) (fun x => by rw [mont_adds_eq]; exact e0q_ x.1 x.2.1 x.2.2.1)
noncomputable def c0r_ : Con := conV true [(.ptr (.pair tN (.pair tU (.pair tN tN)))), tN, tN] [tN] fun x => mont_Ring_redc x.1 x.2.1 x.2.2.1
noncomputable def x0r_ : Cx := { ti := ti, con := [(154, c0q_), (113, c09_), (83, c0a_)], fns := [], un := 6 }
theorem xok0r_ : CxOk Tryz.prog x0r_ := CxOk.of mixed ti_ok (fc ⟨con0q_, fc ⟨con09_, fc ⟨con0a_, fz⟩⟩⟩) fz
theorem fn0r_ : FnOk Tryz.prog 123 Tryz.f123 [] := ⟨Tryz.func123, Tryz.call123, lps_nil⟩
theorem e0r_ (r : (Option (NI × (Int × (NI × NI))))) (a : NI) (b : NI) : bodyK x0r_ [] (denF x0r_ 8) Tryz.f123 (domV [(.ptr (.pair tN (.pair tU (.pair tN tN)))), tN, tN] (r, a, b, ())) [] 0 (kOut [tN]) = mont_Ring_redc' r a b := by cases r <;> kernel_rfl
theorem con0r_ : ConOk Tryz.prog 123 c0r_ := con_ok xok0r_ 8 fn0r_ true [(.ptr (.pair tN (.pair tU (.pair tN tN)))), tN, tN] [tN] _ (by decide) (fun x => by rw [mont_Ring_redc_eq]; exact e0r_ x.1 x.2.1 x.2.2.1)
noncomputable def c0s_ : Con := conV true [(.ptr (.pair tN (.pair tU (.pair tN tN)))), tN] [tN] fun x => mont_Ring_Form x.1 x.2.1
noncomputable def x0s_ : Cx := { ti := ti, con := [(82, c0o_), (130, c0p_), (123, c0r_)], fns := [], un := 6 }
theorem xok0s_ : CxOk Tryz.prog x0s_ := CxOk.of mixed ti_ok (fc ⟨con0o_, fc ⟨con0p_, fc ⟨con0r_, fz⟩⟩⟩) fz
theorem fn0s_ : FnOk Tryz.prog 129 Tryz.f129 [] := ⟨Tryz.func129, Tryz.call129, lps_nil⟩
theorem e0s_ (r : (Option (NI × (Int × (NI × NI))))) (a : NI) : bodyK x0s_ [] (denF x0s_ 8) Tryz.f129 (domV [(.ptr (.pair tN (.pair tU (.pair tN tN)))), tN] (r, a, ())) [] 0 (kOut [tN]) = mont_Ring_Form' r a := by cases r <;> kernel_rfl
theorem con0s_ : ConOk Tryz.prog 129 c0s_ := con_ok xok0s_ 8 fn0s_ true [(.ptr (.pair tN (.pair tU (.pair tN tN)))), tN] [tN] _ (by decide) (fun x => by rw [mont_Ring_Form_eq]; exact e0s_ x.1 x.2.1)
abbrev S0t_0 : Shape := { sl := [(0, (.pz (.pair tN (.pair tU (.pair tN tN))))), (pc 4 (.arr 16 tN) 1), (pc 5 (.arr 16 tN) 2), (pc 6 tN 3), (pv 7 tI)], ob := [(pv 1 (.arr 16 tN)), (pv 2 (.arr 16 tN)), (pv 3 tN)], lo := 4, nx := 4 }
abbrev E0t_0 : List Ex := [(.normal, { sl := [(pc 4 (.arr 16 tN) 1), (pc 5 (.arr 16 tN) 2)], ob := [(pv 1 (.arr 16 tN)), (pv 2 (.arr 16 tN))], lo := 4, nx := 4 })]
noncomputable def L0t_0 : Code := loopIn (bodyOf Tryz.f119) 0
noncomputable def P0t_0 : Lp := lpOf S0t_0 E0t_0 30 R_mont_Ring_powers_0
noncomputable def c0t_ : Con := conV true [(.ptr (.pair tN (.pair tU (.pair tN tN)))), tN] [(.arr 16 tN)] fun x => mont_Ring_powers x.1 x.2.1
noncomputable def x0t_ : Cx := { ti := ti, con := [(129, c0s_), (123, c0r_)], fns := [], un := 6 }
theorem xok0t_ : CxOk Tryz.prog x0t_ := CxOk.of mixed ti_ok (fc ⟨con0s_, fc ⟨con0r_, fz⟩⟩) fz
theorem r0t_0 (x : S0t_0.X) : denC x0t_ [] (denF x0t_ 8) L0t_0 (S0t_0.mkS 30 x) (kRound 0 S0t_0 E0t_0) = R_mont_Ring_powers_0 x := by kernel_rfl
theorem l0t_0 : LpOk Tryz.prog 0 (.loop L0t_0) P0t_0 := lpOf_ok xok0t_ 8 (lps_nil) S0t_0 E0t_0 30 R_mont_Ring_powers_0 (by decide) r0t_0
theorem fn0t_ : FnOk Tryz.prog 119 Tryz.f119 [(0, P0t_0)] := ⟨Tryz.func119, Tryz.call119, lps_of (by kernel_rfl) (lps_one l0t_0 (by kernel_rfl) fz)⟩
theorem e0t_ (r : (Option (NI × (Int × (NI × NI))))) (a : NI) : bodyK x0t_ [(0, P0t_0)] (denF x0t_ 8) Tryz.f119 (domV [(.ptr (.pair tN (.pair tU (.pair tN tN)))), tN] (r, a, ())) [] 0 (kOut [(.arr 16 tN)]) = mont_Ring_powers' r a := by cases r <;> kernel_rfl
theorem con0t_ : ConOk Tryz.prog 119 c0t_ := con_ok xok0t_ 8 fn0t_ true [(.ptr (.pair tN (.pair tU (.pair tN tN)))), tN] [(.arr 16 tN)] _ (by decide) (fun x => by rw [mont_Ring_powers_eq]; exact e0t_ x.1 x.2.1)
noncomputable def c0u_ : Con := conV true [tN, tI] [tI] fun x => mont_Ring_Prod_1 x.1 x.2.1
noncomputable def x0u_ : Cx := { ti := ti, con := [(121, c0c_), (122, c08_), (76, c05_)], fns := [], un := 6 }
theorem xok0u_ : CxOk Tryz.prog x0u_ := CxOk.of mixed ti_ok (fc ⟨con0c_, fc ⟨con08_, fc ⟨con05_, fz⟩⟩⟩) fz
theorem fn0u_ : FnOk Tryz.prog 120 Tryz.f120 [] := ⟨Tryz.func120, Tryz.call120, lps_nil⟩
theorem e0u_ (e : NI) (at_ : Int) : bodyK x0u_ [] (denF x0u_ 8) Tryz.f120 (domV [tN, tI] (e, at_, ())) [] 0 (kOut [tI]) = mont_Ring_Prod_1' e at_ := by kernel_rfl
theorem con0u_ : ConOk Tryz.prog 120 c0u_ := con_ok xok0u_ 8 fn0u_ true [tN, tI] [tI] _ (by decide) (fun x => by rw [mont_Ring_Prod_1_eq]; exact e0u_ x.1 x.2.1)
abbrev S0v_0 : Shape := { sl := [(0, (.pz (.pair tN (.pair tU (.pair tN tN))))), (2, (.sz tN)), (pc 6 tN 0), (8, (.w 169 (.arr 16 tN) 1)), (pv 9 tI), (33, (.sz tN)), (pv 34 tI), (pv 35 tI)], ob := [(pv 0 tN)], lo := 1, nx := 2 }
abbrev E0v_0 : List Ex := [(.normal, { sl := [(0, (.pz (.pair tN (.pair tU (.pair tN tN))))), (2, (.sz tN)), (pc 6 tN 0), (8, (.w 169 (.arr 16 tN) 2)), (pv 9 tI)], ob := [(pv 0 tN)], lo := 2, nx := 3 })]
noncomputable def L0v_0 : Code := loopIn (bodyOf Tryz.f84) 0
noncomputable def P0v_0 : Lp := lpOf S0v_0 E0v_0 98 R_mont_Ring_Prod_0
abbrev S0v_6 : Shape := { sl := [(0, (.pz (.pair tN (.pair tU (.pair tN tN))))), (2, (.sz tN)), (pc 6 tN 0), (8, (.w 169 (.arr 16 tN) 5)), (12, (.c ⟨.fn, (.mk 120 [])⟩)), (pc 13 tN 3), (pv 14 tI), (74, (.sz tN)), (pv 75 tI), (pv 76 tI)], ob := [(pv 0 tN), (pv 3 tN)], lo := 5, nx := 6 }
abbrev E0v_6 : List Ex := [(.normal, { sl := [(0, (.pz (.pair tN (.pair tU (.pair tN tN))))), (2, (.sz tN)), (pc 6 tN 0), (8, (.w 169 (.arr 16 tN) 6)), (12, (.c ⟨.fn, (.mk 120 [])⟩)), (pc 13 tN 3), (pv 14 tI)], ob := [(pv 0 tN), (pv 3 tN)], lo := 6, nx := 7 })]
noncomputable def L0v_6 : Code := loopIn (bodyOf Tryz.f84) 6
noncomputable def P0v_6 : Lp := lpOf S0v_6 E0v_6 98 R_mont_Ring_Prod_6
abbrev S0v_2 : Shape := { sl := [(0, (.pz (.pair tN (.pair tU (.pair tN tN))))), (2, (.sz tN)), (pc 6 tN 0), (8, (.w 169 (.arr 16 tN) 4)), (12, (.c ⟨.fn, (.mk 120 [])⟩)), (pc 13 tN 3), (pv 14 tI)], ob := [(pv 0 tN), (pv 3 tN)], lo := 4, nx := 5 }
abbrev E0v_2 : List Ex := [(.normal, { sl := [(0, (.pz (.pair tN (.pair tU (.pair tN tN))))), (pc 6 tN 0), (pc 13 tN 3)], ob := [(pv 0 tN), (pv 3 tN)], lo := 5, nx := 5 })]
noncomputable def L0v_2 : Code := loopIn (bodyOf Tryz.f84) 2
noncomputable def P0v_2 : Lp := lpOf S0v_2 E0v_2 98 R_mont_Ring_Prod_2
noncomputable def c0v_ : Con := conV true [(.ptr (.pair tN (.pair tU (.pair tN tN)))), (.sl tN), (.sl tN)] [tN, tI] fun x => mont_Ring_Prod x.1 x.2.1.1 x.2.1.2 x.2.2.1.1 x.2.2.1.2
noncomputable def x0v_ : Cx := { ti := ti, con := [(82, c0o_), (119, c0t_), (38, c0b_), (123, c0r_), (120, c0u_), (39, c06_)], fns := [], un := 6 }
theorem xok0v_ : CxOk Tryz.prog x0v_ := CxOk.of mixed ti_ok (fc ⟨con0o_, fc ⟨con0t_, fc ⟨con0b_, fc ⟨con0r_, fc ⟨con0u_, fc ⟨con06_, fz⟩⟩⟩⟩⟩⟩) fz
theorem r0v_0 (x : S0v_0.X) : denC x0v_ [] (denF x0v_ 8) L0v_0 (S0v_0.mkS 98 x) (kRound 0 S0v_0 E0v_0) = R_mont_Ring_Prod_0 x := by kernel_rfl
theorem l0v_0 : LpOk Tryz.prog 0 (.loop L0v_0) P0v_0 := lpOf_ok xok0v_ 8 (lps_nil) S0v_0 E0v_0 98 R_mont_Ring_Prod_0 (by decide) r0v_0
theorem r0v_6 (x : S0v_6.X) : denC x0v_ [] (denF x0v_ 8) L0v_6 (S0v_6.mkS 98 x) (kRound 6 S0v_6 E0v_6) = R_mont_Ring_Prod_6 x := by kernel_rfl
theorem l0v_6 : LpOk Tryz.prog 6 (.loop L0v_6) P0v_6 := lpOf_ok xok0v_ 8 (lps_nil) S0v_6 E0v_6 98 R_mont_Ring_Prod_6 (by decide) r0v_6
theorem r0v_2 (x : S0v_2.X) : denC x0v_ [(6, P0v_6)] (denF x0v_ 8) L0v_2 (S0v_2.mkS 98 x) (kRound 2 S0v_2 E0v_2) = R_mont_Ring_Prod_2 x := by kernel_rfl
theorem l0v_2 : LpOk Tryz.prog 2 (.loop L0v_2) P0v_2 := lpOf_ok xok0v_ 8 (lps_of (by kernel_rfl) (lps_one l0v_6 (by kernel_rfl) fz)) S0v_2 E0v_2 98 R_mont_Ring_Prod_2 (by decide) r0v_2
theorem fn0v_ : FnOk Tryz.prog 84 Tryz.f84 [(0, P0v_0), (6, P0v_6), (2, P0v_2)] := ⟨Tryz.func84, Tryz.call84, lps_of (by kernel_rfl) (lps_one l0v_0 (by kernel_rfl) (lps_one l0v_6 (by kernel_rfl) (lps_one l0v_2 (by kernel_rfl) fz)))⟩
theorem e0v_ (r : (Option (NI × (Int × (NI × NI))))) (nbases : Nat) (bases : Nat → NI) (nexps : Nat) (exps : Nat → NI) : bodyK x0v_ [(0, P0v_0), (6, P0v_6), (2, P0v_2)] (denF x0v_ 8) Tryz.f84 (domV [(.ptr (.pair tN (.pair tU (.pair tN tN)))), (.sl tN), (.sl tN)] (r, (nbases, bases), (nexps, exps), ())) [] 0 (kOut [tN, tI]) = mont_Ring_Prod' r nbases bases nexps exps := by cases r <;> kernel_rfl
theorem con0v_ : ConOk Tryz.prog 84 c0v_ := con_ok xok0v_ 8 fn0v_ true [(.ptr (.pair tN (.pair tU (.pair tN tN)))), (.sl tN), (.sl tN)] [tN, tI] _ (by decide) (fun x => by rw [mont_Ring_Prod_eq]; exact e0v_ x.1 x.2.1.1 x.2.1.2 x.2.2.1.1 x.2.2.1.2)
noncomputable def c0w_ : Con := conV true [(.ptr (.pair tN (.pair tU (.pair tN tN)))), tN, tN] [tN] fun x => mont_Ring_Exp x.1 x.2.1 x.2.2.1
noncomputable def x0w_ : Cx := { ti := ti, con := [(84, c0v_)], fns := [], un := 6 }
theorem xok0w_ : CxOk Tryz.prog x0w_ := CxOk.of mixed ti_ok (fc ⟨con0v_, fz⟩) fz
theorem fn0w_ : FnOk Tryz.prog 41 Tryz.f41 [] := ⟨Tryz.func41, Tryz.call41, lps_nil⟩
theorem e0w_ (r : (Option (NI × (Int × (NI × NI))))) (a : NI) (e : NI) : bodyK x0w_ [] (denF x0w_ 8) Tryz.f41 (domV [(.ptr (.pair tN (.pair tU (.pair tN tN)))), tN, tN] (r, a, e, ())) [] 0 (kOut [tN]) = mont_Ring_Exp' r a e := by cases r <;> kernel_rfl
theorem con0w_ : ConOk Tryz.prog 41 c0w_ := con_ok xok0w_ 8 fn0w_ true [(.ptr (.pair tN (.pair tU (.pair tN tN)))), tN, tN] [tN] _ (by decide) (fun x => by rw [mont_Ring_Exp_eq]; exact e0w_ x.1 x.2.1 x.2.2.1)
noncomputable def c0x_ : Con := conV true [(.ptr (.pair tN (.pair tU (.pair tN tN)))), tN] [.bool] fun x => mont_Ring_In x.1 x.2.1
noncomputable def x0x_ : Cx := { ti := ti, con := [(82, c0o_), (83, c0a_)], fns := [], un := 6 }
theorem xok0x_ : CxOk Tryz.prog x0x_ := CxOk.of mixed ti_ok (fc ⟨con0o_, fc ⟨con0a_, fz⟩⟩) fz
theorem fn0x_ : FnOk Tryz.prog 40 Tryz.f40 [] := ⟨Tryz.func40, Tryz.call40, lps_nil⟩
theorem e0x_ (r : (Option (NI × (Int × (NI × NI))))) (a : NI) : bodyK x0x_ [] (denF x0x_ 8) Tryz.f40 (domV [(.ptr (.pair tN (.pair tU (.pair tN tN)))), tN] (r, a, ())) [] 0 (kOut [.bool]) = mont_Ring_In' r a := by cases r <;> kernel_rfl
theorem con0x_ : ConOk Tryz.prog 40 c0x_ := con_ok xok0x_ 8 fn0x_ true [(.ptr (.pair tN (.pair tU (.pair tN tN)))), tN] [.bool] _ (by decide) (fun x => by rw [mont_Ring_In_eq]; exact e0x_ x.1 x.2.1)
noncomputable def c0y_ : Con := conV true [(.ptr (.pair tN (.pair tU (.pair tN tN))))] [tN] fun x => mont_Ring_M x.1
noncomputable def x0y_ : Cx := { ti := ti, con := [(82, c0o_)], fns := [], un := 6 }
theorem xok0y_ : CxOk Tryz.prog x0y_ := CxOk.of mixed ti_ok (fc ⟨con0o_, fz⟩) fz
theorem fn0y_ : FnOk Tryz.prog 128 Tryz.f128 [] := ⟨Tryz.func128, Tryz.call128, lps_nil⟩
theorem e0y_ (r : (Option (NI × (Int × (NI × NI))))) : bodyK x0y_ [] (denF x0y_ 8) Tryz.f128 (domV [(.ptr (.pair tN (.pair tU (.pair tN tN))))] (r, ())) [] 0 (kOut [tN]) = mont_Ring_M' r := by cases r <;> kernel_rfl
theorem con0y_ : ConOk Tryz.prog 128 c0y_ := con_ok xok0y_ 8 fn0y_ true [(.ptr (.pair tN (.pair tU (.pair tN tN))))] [tN] _ (by decide) (fun x => by rw [mont_Ring_M_eq]; exact e0y_ x.1)
noncomputable def c0z_ : Con := conV true [(.ptr (.pair tN (.pair tU (.pair tN tN)))), tN, tN] [tN] fun x => mont_Ring_Mul x.1 x.2.1 x.2.2.1
noncomputable def x0z_ : Cx := { ti := ti, con := [(82, c0o_), (129, c0s_), (130, c0p_), (123, c0r_)], fns := [], un := 6 }
theorem xok0z_ : CxOk Tryz.prog x0z_ := CxOk.of mixed ti_ok (fc ⟨con0o_, fc ⟨con0s_, fc ⟨con0p_, fc ⟨con0r_, fz⟩⟩⟩⟩) fz
theorem fn0z_ : FnOk Tryz.prog 97 Tryz.f97 [] := ⟨Tryz.func97, Tryz.call97, lps_nil⟩
theorem e0z_ (r : (Option (NI × (Int × (NI × NI))))) (a : NI) (b : NI) : bodyK x0z_ [] (denF x0z_ 8) Tryz.f97 (domV [(.ptr (.pair tN (.pair tU (.pair tN tN)))), tN, tN] (r, a, b, ())) [] 0 (kOut [tN]) = mont_Ring_Mul' r a b := by cases r <;> kernel_rfl
theorem con0z_ : ConOk Tryz.prog 97 c0z_ := con_ok xok0z_ 8 fn0z_ true [(.ptr (.pair tN (.pair tU (.pair tN tN)))), tN, tN] [tN] _ (by decide) (fun x => by rw [mont_Ring_Mul_eq]; exact e0z_ x.1 x.2.1 x.2.2.1)
end Go.Proofs.YtccbdhpcblfopaaGreat

namespace Go.Proofs.YtccbdhpcblfopaaGreat
abbrev S10_0 : Shape := { sl := [(pv 0 tI), (3, (.v .bool)), (pv 11 tI), (pv 12 tI)], ob := [], lo := 0, nx := 0 }
abbrev E10_0 : List Ex := [(.normal, { sl := [(3, (.v .bool))], ob := [], lo := 0, nx := 0 })]
noncomputable def L10_0 : Code := loopIn (bodyOf Tryz.f77) 0
noncomputable def P10_0 : Lp := lpOf S10_0 E10_0 31 R_prime_Small_0
noncomputable def c10_ : Con := conV true [tI] [.bool] fun x => prime_Small x.1
noncomputable def x10_ : Cx := { ti := ti, con := [], fns := [], un := 6 }
theorem xok10_ : CxOk Tryz.prog x10_ := CxOk.of mixed ti_ok fz fz
theorem r10_0 (x : S10_0.X) : denC x10_ [] (denF x10_ 8) L10_0 (S10_0.mkS 31 x) (kRound 0 S10_0 E10_0) = R_prime_Small_0 x := by kernel_rfl
theorem l10_0 : LpOk Tryz.prog 0 (.loop L10_0) P10_0 := lpOf_ok xok10_ 8 (lps_nil) S10_0 E10_0 31 R_prime_Small_0 (by decide) r10_0
theorem fn10_ : FnOk Tryz.prog 77 Tryz.f77 [(0, P10_0)] := ⟨Tryz.func77, Tryz.call77, lps_of (by kernel_rfl) (lps_one l10_0 (by kernel_rfl) fz)⟩
theorem e10_ (n : Int) : bodyK x10_ [(0, P10_0)] (denF x10_ 8) Tryz.f77 (domV [tI] (n, ())) [] 0 (kOut [.bool]) = prime_Small' n := by kernel_rfl
theorem con10_ : ConOk Tryz.prog 77 c10_ := con_ok xok10_ 8 fn10_ true [tI] [.bool] _ (by decide) (fun x => by rw [prime_Small_eq]; exact e10_ x.1)
noncomputable def c11_ : Con := conV true [tN, tN, tI] [.bool] fun x => prime_Step x.1 x.2.1 x.2.2.1
noncomputable def x11_ : Cx := { ti := ti, con := [(37, c0n_), (39, c06_), (113, c09_), (114, c0j_), (115, c0h_), (83, c0a_), (41, c0w_), (116, c0k_), (117, c0l_)], fns := [], un := 6 }
theorem xok11_ : CxOk Tryz.prog x11_ := CxOk.of mixed ti_ok (fc ⟨con0n_, fc ⟨con06_, fc ⟨con09_, fc ⟨con0j_, fc ⟨con0h_, fc ⟨con0a_, fc ⟨con0w_, fc ⟨con0k_, fc ⟨con0l_, fz⟩⟩⟩⟩⟩⟩⟩⟩⟩) fz
theorem fn11_ : FnOk Tryz.prog 78 Tryz.f78 [] := ⟨Tryz.func78, Tryz.call78, lps_nil⟩
theorem e11_ (n : NI) (factor : NI) (witness : Int) : bodyK x11_ [] (denF x11_ 8) Tryz.f78 (domV [tN, tN, tI] (n, factor, witness, ())) [] 0 (kOut [.bool]) = prime_Step' n factor witness := by kernel_rfl
theorem con11_ : ConOk Tryz.prog 78 c11_ := con_ok xok11_ 8 fn11_ true [tN, tN, tI] [.bool] _ (by decide) (fun x => by rw [prime_Step_eq]; exact e11_ x.1 x.2.1 x.2.2.1)
abbrev S12_0 : Shape := { sl := [(0, (.sz (.pair tN tI))), (pv 5 tI)], ob := [], lo := 0, nx := 0 }
abbrev E12_0 : List Ex := [(.ret, { sl := [(pv 2 tI)], ob := [], lo := 0, nx := 0 }), (.normal, { sl := [], ob := [], lo := 0, nx := 0 })]
noncomputable def L12_0 : Code := loopIn (bodyOf Tryz.f36) 0
noncomputable def P12_0 : Lp := lpOf S12_0 E12_0 60 R_prime_Check_0
noncomputable def c12_ : Con := conV true [(.sl (.pair tN tI))] [tI] fun x => prime_Check x.1.1 x.1.2
noncomputable def x12_ : Cx := { ti := ti, con := [(76, c05_), (77, c10_), (78, c11_)], fns := [], un := 6 }
theorem xok12_ : CxOk Tryz.prog x12_ := CxOk.of mixed ti_ok (fc ⟨con05_, fc ⟨con10_, fc ⟨con11_, fz⟩⟩⟩) fz
theorem r12_0 (x : S12_0.X) : denC x12_ [] (denF x12_ 8) L12_0 (S12_0.mkS 60 x) (kRound 0 S12_0 E12_0) = R_prime_Check_0 x := by kernel_rfl
theorem l12_0 : LpOk Tryz.prog 0 (.loop L12_0) P12_0 := lpOf_ok xok12_ 8 (lps_nil) S12_0 E12_0 60 R_prime_Check_0 (by decide) r12_0
theorem fn12_ : FnOk Tryz.prog 36 Tryz.f36 [(0, P12_0)] := ⟨Tryz.func36, Tryz.call36, lps_of (by kernel_rfl) (lps_one l12_0 (by kernel_rfl) fz)⟩
theorem e12_ (nl : Nat) (l : Nat → (NI × Int)) : bodyK x12_ [(0, P12_0)] (denF x12_ 8) Tryz.f36 (domV [(.sl (.pair tN tI))] ((nl, l), ())) [] 0 (kOut [tI]) = prime_Check' nl l := by kernel_rfl
theorem con12_ : ConOk Tryz.prog 36 c12_ := con_ok xok12_ 8 fn12_ true [(.sl (.pair tN tI))] [tI] _ (by decide) (fun x => by rw [prime_Check_eq]; exact e12_ x.1.1 x.1.2)
end Go.Proofs.YtccbdhpcblfopaaGreat

namespace Go.Proofs.YtccbdhpcblfopaaGreat
noncomputable def c13_ : Con := conV false [(.pair (.sl (.pair tN tI)) tN)] [(.ptr (.pair (.pair (.ptr (.pair tN (.pair tU (.pair tN tN)))) (.ptr (.pair tN (.pair tU (.pair tN tN))))) tN)), tI] fun x => group_New x.1
noncomputable def x13_ : Cx := { ti := ti, con := [(36, c12_), (37, c0n_), (38, c0b_), (39, c06_), (40, c0x_), (41, c0w_)], fns := [], un := 6 }
theorem xok13_ : CxOk Tryz.prog x13_ := CxOk.of mixed ti_ok (fc ⟨con12_, fc ⟨con0n_, fc ⟨con0b_, fc ⟨con06_, fc ⟨con0x_, fc ⟨con0w_, fz⟩⟩⟩⟩⟩⟩) fz
theorem fn13_ : FnOk Tryz.prog 18 Tryz.f18 [] := ⟨Tryz.func18, Tryz.call18, lps_nil⟩
theorem e13_ (p : ((Nat × (Nat → (NI × Int))) × NI)) : bodyK x13_ [] (denF x13_ 8) Tryz.f18 (domV [(.pair (.sl (.pair tN tI)) tN)] (p, ())) [] 0 (kOut [(.ptr (.pair (.pair (.ptr (.pair tN (.pair tU (.pair tN tN)))) (.ptr (.pair tN (.pair tU (.pair tN tN))))) tN)), tI]) = group_New' p := by kernel_rfl
theorem con13_ : ConOk Tryz.prog 18 c13_ := con_ok xok13_ 8 fn13_ false [(.pair (.sl (.pair tN tI)) tN)] [(.ptr (.pair (.pair (.ptr (.pair tN (.pair tU (.pair tN tN)))) (.ptr (.pair tN (.pair tU (.pair tN tN))))) tN)), tI] _ (by decide) (fun x => by rw [group_New_eq]; exact e13_ x.1)
noncomputable def c14_ : Con := conV false [(.ptr (.pair (.pair (.ptr (.pair tN (.pair tU (.pair tN tN)))) (.ptr (.pair tN (.pair tU (.pair tN tN))))) tN))] [(.ptr (.pair tN (.pair tU (.pair tN tN))))] fun x => group_Group_Field x.1
noncomputable def x14_ : Cx := { ti := ti, con := [], fns := [], un := 6 }
theorem xok14_ : CxOk Tryz.prog x14_ := CxOk.of mixed ti_ok fz fz
theorem fn14_ : FnOk Tryz.prog 52 Tryz.f52 [] := ⟨Tryz.func52, Tryz.call52, lps_nil⟩
theorem e14_ (g : (Option (((PtrV (NI × (Int × (NI × NI)))) × (PtrV (NI × (Int × (NI × NI))))) × NI))) : bodyK x14_ [] (denF x14_ 8) Tryz.f52 (domV [(.ptr (.pair (.pair (.ptr (.pair tN (.pair tU (.pair tN tN)))) (.ptr (.pair tN (.pair tU (.pair tN tN))))) tN))] (g, ())) [] 0 (kOut [(.ptr (.pair tN (.pair tU (.pair tN tN))))]) = group_Group_Field' g := by cases g <;> kernel_rfl
theorem con14_ : ConOk Tryz.prog 52 c14_ := con_ok xok14_ 8 fn14_ false [(.ptr (.pair (.pair (.ptr (.pair tN (.pair tU (.pair tN tN)))) (.ptr (.pair tN (.pair tU (.pair tN tN))))) tN))] [(.ptr (.pair tN (.pair tU (.pair tN tN))))] _ (by decide) (fun x => by rw [group_Group_Field_eq]; exact e14_ x.1)
noncomputable def c15_ : Con := conV true [(.ptr (.pair (.pair (.ptr (.pair tN (.pair tU (.pair tN tN)))) (.ptr (.pair tN (.pair tU (.pair tN tN))))) tN))] [tN] fun x => group_Group_Q x.1
noncomputable def x15_ : Cx := { ti := ti, con := [(52, c14_), (128, c0y_)], fns := [], un := 6 }
theorem xok15_ : CxOk Tryz.prog x15_ := CxOk.of mixed ti_ok (fc ⟨con14_, fc ⟨con0y_, fz⟩⟩) fz
theorem fn15_ : FnOk Tryz.prog 96 Tryz.f96 [] := ⟨Tryz.func96, Tryz.call96, lps_nil⟩
theorem e15_ (g : (Option (((PtrV (NI × (Int × (NI × NI)))) × (PtrV (NI × (Int × (NI × NI))))) × NI))) : bodyK x15_ [] (denF x15_ 8) Tryz.f96 (domV [(.ptr (.pair (.pair (.ptr (.pair tN (.pair tU (.pair tN tN)))) (.ptr (.pair tN (.pair tU (.pair tN tN))))) tN))] (g, ())) [] 0 (kOut [tN]) = group_Group_Q' g := by cases g <;> kernel_rfl
theorem con15_ : ConOk Tryz.prog 96 c15_ := con_ok xok15_ 8 fn15_ true [(.ptr (.pair (.pair (.ptr (.pair tN (.pair tU (.pair tN tN)))) (.ptr (.pair tN (.pair tU (.pair tN tN))))) tN))] [tN] _ (by decide) (fun x => by rw [group_Group_Q_eq]; exact e15_ x.1)
noncomputable def c16_ : Con := conV true [(.ptr (.pair (.pair (.ptr (.pair tN (.pair tU (.pair tN tN)))) (.ptr (.pair tN (.pair tU (.pair tN tN))))) tN))] [tN] fun x => group_Group_G x.1
noncomputable def x16_ : Cx := { ti := ti, con := [], fns := [], un := 6 }
theorem xok16_ : CxOk Tryz.prog x16_ := CxOk.of mixed ti_ok fz fz
theorem fn16_ : FnOk Tryz.prog 92 Tryz.f92 [] := ⟨Tryz.func92, Tryz.call92, lps_nil⟩
theorem e16_ (g : (Option (((PtrV (NI × (Int × (NI × NI)))) × (PtrV (NI × (Int × (NI × NI))))) × NI))) : bodyK x16_ [] (denF x16_ 8) Tryz.f92 (domV [(.ptr (.pair (.pair (.ptr (.pair tN (.pair tU (.pair tN tN)))) (.ptr (.pair tN (.pair tU (.pair tN tN))))) tN))] (g, ())) [] 0 (kOut [tN]) = group_Group_G' g := by cases g <;> kernel_rfl
theorem con16_ : ConOk Tryz.prog 92 c16_ := con_ok xok16_ 8 fn16_ true [(.ptr (.pair (.pair (.ptr (.pair tN (.pair tU (.pair tN tN)))) (.ptr (.pair tN (.pair tU (.pair tN tN))))) tN))] [tN] _ (by decide) (fun x => by rw [group_Group_G_eq]; exact e16_ x.1)
noncomputable def c17_ : Con := conV false [(.ptr (.pair (.pair (.ptr (.pair tN (.pair tU (.pair tN tN)))) (.ptr (.pair tN (.pair tU (.pair tN tN))))) tN))] [(.ptr (.pair tN (.pair tU (.pair tN tN))))] fun x => group_Group_Ring x.1
noncomputable def x17_ : Cx := { ti := ti, con := [], fns := [], un := 6 }
theorem xok17_ : CxOk Tryz.prog x17_ := CxOk.of mixed ti_ok fz fz
theorem fn17_ : FnOk Tryz.prog 98 Tryz.f98 [] := ⟨Tryz.func98, Tryz.call98, lps_nil⟩
theorem e17_ (g : (Option (((PtrV (NI × (Int × (NI × NI)))) × (PtrV (NI × (Int × (NI × NI))))) × NI))) : bodyK x17_ [] (denF x17_ 8) Tryz.f98 (domV [(.ptr (.pair (.pair (.ptr (.pair tN (.pair tU (.pair tN tN)))) (.ptr (.pair tN (.pair tU (.pair tN tN))))) tN))] (g, ())) [] 0 (kOut [(.ptr (.pair tN (.pair tU (.pair tN tN))))]) = group_Group_Ring' g := by cases g <;> kernel_rfl
theorem con17_ : ConOk Tryz.prog 98 c17_ := con_ok xok17_ 8 fn17_ false [(.ptr (.pair (.pair (.ptr (.pair tN (.pair tU (.pair tN tN)))) (.ptr (.pair tN (.pair tU (.pair tN tN))))) tN))] [(.ptr (.pair tN (.pair tU (.pair tN tN))))] _ (by decide) (fun x => by rw [group_Group_Ring_eq]; exact e17_ x.1)
end Go.Proofs.YtccbdhpcblfopaaGreat

namespace Go.Proofs.YtccbdhpcblfopaaGreat
noncomputable def c18_ : Con := conV true [(.ptr (.pair (.pair (.ptr (.pair tN (.pair tU (.pair tN tN)))) (.ptr (.pair tN (.pair tU (.pair tN tN))))) tN)), tN, tN] [tN] fun x => field_Add x.1 x.2.1 x.2.2.1
noncomputable def x18_ : Cx := { ti := ti, con := [(96, c15_), (95, c0m_)], fns := [], un := 6 }
theorem xok18_ : CxOk Tryz.prog x18_ := CxOk.of mixed ti_ok (fc ⟨con15_, fc ⟨con0m_, fz⟩⟩) fz
theorem fn18_ : FnOk Tryz.prog 54 Tryz.f54 [] := ⟨Tryz.func54, Tryz.call54, lps_nil⟩
theorem e18_ (g : (Option (((PtrV (NI × (Int × (NI × NI)))) × (PtrV (NI × (Int × (NI × NI))))) × NI))) (a : NI) (b : NI) : bodyK x18_ [] (denF x18_ 8) Tryz.f54 (domV [(.ptr (.pair (.pair (.ptr (.pair tN (.pair tU (.pair tN tN)))) (.ptr (.pair tN (.pair tU (.pair tN tN))))) tN)), tN, tN] (g, a, b, ())) [] 0 (kOut [tN]) = field_Add' g a b := by cases g <;> kernel_rfl
theorem con18_ : ConOk Tryz.prog 54 c18_ := con_ok xok18_ 8 fn18_ true [(.ptr (.pair (.pair (.ptr (.pair tN (.pair tU (.pair tN tN)))) (.ptr (.pair tN (.pair tU (.pair tN tN))))) tN)), tN, tN] [tN] _ (by decide) (fun x => by rw [field_Add_eq]; exact e18_ x.1 x.2.1 x.2.2.1)
noncomputable def c19_ : Con := conV true [(.ptr (.pair (.pair (.ptr (.pair tN (.pair tU (.pair tN tN)))) (.ptr (.pair tN (.pair tU (.pair tN tN))))) tN)), tN, tN] [tN] fun x => field_Mul x.1 x.2.1 x.2.2.1
noncomputable def x19_ : Cx := { ti := ti, con := [(52, c14_), (97, c0z_)], fns := [], un := 6 }
theorem xok19_ : CxOk Tryz.prog x19_ := CxOk.of mixed ti_ok (fc ⟨con14_, fc ⟨con0z_, fz⟩⟩) fz
theorem fn19_ : FnOk Tryz.prog 55 Tryz.f55 [] := ⟨Tryz.func55, Tryz.call55, lps_nil⟩
theorem e19_ (g : (Option (((PtrV (NI × (Int × (NI × NI)))) × (PtrV (NI × (Int × (NI × NI))))) × NI))) (a : NI) (b : NI) : bodyK x19_ [] (denF x19_ 8) Tryz.f55 (domV [(.ptr (.pair (.pair (.ptr (.pair tN (.pair tU (.pair tN tN)))) (.ptr (.pair tN (.pair tU (.pair tN tN))))) tN)), tN, tN] (g, a, b, ())) [] 0 (kOut [tN]) = field_Mul' g a b := by cases g <;> kernel_rfl
theorem con19_ : ConOk Tryz.prog 55 c19_ := con_ok xok19_ 8 fn19_ true [(.ptr (.pair (.pair (.ptr (.pair tN (.pair tU (.pair tN tN)))) (.ptr (.pair tN (.pair tU (.pair tN tN))))) tN)), tN, tN] [tN] _ (by decide) (fun x => by rw [field_Mul_eq]; exact e19_ x.1 x.2.1 x.2.2.1)
noncomputable def c1a_ : Con := conV true [(.ptr (.pair (.pair (.ptr (.pair tN (.pair tU (.pair tN tN)))) (.ptr (.pair tN (.pair tU (.pair tN tN))))) tN)), tN] [.bool] fun x => field_In x.1 x.2.1
noncomputable def x1a_ : Cx := { ti := ti, con := [(52, c14_), (40, c0x_)], fns := [], un := 6 }
theorem xok1a_ : CxOk Tryz.prog x1a_ := CxOk.of mixed ti_ok (fc ⟨con14_, fc ⟨con0x_, fz⟩⟩) fz
theorem fn1a_ : FnOk Tryz.prog 45 Tryz.f45 [] := ⟨Tryz.func45, Tryz.call45, lps_nil⟩
theorem e1a_ (g : (Option (((PtrV (NI × (Int × (NI × NI)))) × (PtrV (NI × (Int × (NI × NI))))) × NI))) (a : NI) : bodyK x1a_ [] (denF x1a_ 8) Tryz.f45 (domV [(.ptr (.pair (.pair (.ptr (.pair tN (.pair tU (.pair tN tN)))) (.ptr (.pair tN (.pair tU (.pair tN tN))))) tN)), tN] (g, a, ())) [] 0 (kOut [.bool]) = field_In' g a := by cases g <;> kernel_rfl
theorem con1a_ : ConOk Tryz.prog 45 c1a_ := con_ok xok1a_ 8 fn1a_ true [(.ptr (.pair (.pair (.ptr (.pair tN (.pair tU (.pair tN tN)))) (.ptr (.pair tN (.pair tU (.pair tN tN))))) tN)), tN] [.bool] _ (by decide) (fun x => by rw [field_In_eq]; exact e1a_ x.1 x.2.1)
end Go.Proofs.YtccbdhpcblfopaaGreat

namespace Go.Proofs.YtccbdhpcblfopaaGreat
noncomputable def c1d_ : Con := conV true [(.ptr (.pair (.pair (.ptr (.pair tN (.pair tU (.pair tN tN)))) (.ptr (.pair tN (.pair tU (.pair tN tN))))) tN)), tN, tN] [tN] fun x => power_Exp x.1 x.2.1 x.2.2.1
noncomputable def x1d_ : Cx := { ti := ti, con := [(98, c17_), (41, c0w_)], fns := [], un := 6 }
theorem xok1d_ : CxOk Tryz.prog x1d_ := CxOk.of mixed ti_ok (fc ⟨con17_, fc ⟨con0w_, fz⟩⟩) fz
theorem fn1d_ : FnOk Tryz.prog 91 Tryz.f91 [] := ⟨Tryz.func91, Tryz.call91, lps_nil⟩
theorem e1d_ (g : (Option (((PtrV (NI × (Int × (NI × NI)))) × (PtrV (NI × (Int × (NI × NI))))) × NI))) (a : NI) (e : NI) : bodyK x1d_ [] (denF x1d_ 8) Tryz.f91 (domV [(.ptr (.pair (.pair (.ptr (.pair tN (.pair tU (.pair tN tN)))) (.ptr (.pair tN (.pair tU (.pair tN tN))))) tN)), tN, tN] (g, a, e, ())) [] 0 (kOut [tN]) = power_Exp' g a e := by cases g <;> kernel_rfl
theorem con1d_ : ConOk Tryz.prog 91 c1d_ := con_ok xok1d_ 8 fn1d_ true [(.ptr (.pair (.pair (.ptr (.pair tN (.pair tU (.pair tN tN)))) (.ptr (.pair tN (.pair tU (.pair tN tN))))) tN)), tN, tN] [tN] _ (by decide) (fun x => by rw [power_Exp_eq]; exact e1d_ x.1 x.2.1 x.2.2.1)
noncomputable def c1e_ : Con := conV true [(.ptr (.pair (.pair (.ptr (.pair tN (.pair tU (.pair tN tN)))) (.ptr (.pair tN (.pair tU (.pair tN tN))))) tN)), tN] [tN] fun x => power_Of x.1 x.2.1
noncomputable def x1e_ : Cx := { ti := ti, con := [(92, c16_), (91, c1d_)], fns := [], un := 6 }
theorem xok1e_ : CxOk Tryz.prog x1e_ := CxOk.of mixed ti_ok (fc ⟨con16_, fc ⟨con1d_, fz⟩⟩) fz
theorem fn1e_ : FnOk Tryz.prog 47 Tryz.f47 [] := ⟨Tryz.func47, Tryz.call47, lps_nil⟩
theorem e1e_ (g : (Option (((PtrV (NI × (Int × (NI × NI)))) × (PtrV (NI × (Int × (NI × NI))))) × NI))) (e : NI) : bodyK x1e_ [] (denF x1e_ 8) Tryz.f47 (domV [(.ptr (.pair (.pair (.ptr (.pair tN (.pair tU (.pair tN tN)))) (.ptr (.pair tN (.pair tU (.pair tN tN))))) tN)), tN] (g, e, ())) [] 0 (kOut [tN]) = power_Of' g e := by cases g <;> kernel_rfl
theorem con1e_ : ConOk Tryz.prog 47 c1e_ := con_ok xok1e_ 8 fn1e_ true [(.ptr (.pair (.pair (.ptr (.pair tN (.pair tU (.pair tN tN)))) (.ptr (.pair tN (.pair tU (.pair tN tN))))) tN)), tN] [tN] _ (by decide) (fun x => by rw [power_Of_eq]; exact e1e_ x.1 x.2.1)
noncomputable def c1f_ : Con := conV true [(.ptr (.pair (.pair (.ptr (.pair tN (.pair tU (.pair tN tN)))) (.ptr (.pair tN (.pair tU (.pair tN tN))))) tN)), tN] [.bool] fun x => power_In x.1 x.2.1
noncomputable def x1f_ : Cx := { ti := ti, con := [(98, c17_), (40, c0x_), (96, c15_), (41, c0w_), (39, c06_)], fns := [], un := 6 }
theorem xok1f_ : CxOk Tryz.prog x1f_ := CxOk.of mixed ti_ok (fc ⟨con17_, fc ⟨con0x_, fc ⟨con15_, fc ⟨con0w_, fc ⟨con06_, fz⟩⟩⟩⟩⟩) fz
theorem fn1f_ : FnOk Tryz.prog 90 Tryz.f90 [] := ⟨Tryz.func90, Tryz.call90, lps_nil⟩
theorem e1f_ (g : (Option (((PtrV (NI × (Int × (NI × NI)))) × (PtrV (NI × (Int × (NI × NI))))) × NI))) (a : NI) : bodyK x1f_ [] (denF x1f_ 8) Tryz.f90 (domV [(.ptr (.pair (.pair (.ptr (.pair tN (.pair tU (.pair tN tN)))) (.ptr (.pair tN (.pair tU (.pair tN tN))))) tN)), tN] (g, a, ())) [] 0 (kOut [.bool]) = power_In' g a := by cases g <;> kernel_rfl
theorem con1f_ : ConOk Tryz.prog 90 c1f_ := con_ok xok1f_ 8 fn1f_ true [(.ptr (.pair (.pair (.ptr (.pair tN (.pair tU (.pair tN tN)))) (.ptr (.pair tN (.pair tU (.pair tN tN))))) tN)), tN] [.bool] _ (by decide) (fun x => by rw [power_In_eq]; exact e1f_ x.1 x.2.1)
noncomputable def c1g_ : Con := conV true [(.ptr (.pair (.pair (.ptr (.pair tN (.pair tU (.pair tN tN)))) (.ptr (.pair tN (.pair tU (.pair tN tN))))) tN)), (.sl tN), (.sl tN)] [tN, tI] fun x => power_Multi x.1 x.2.1.1 x.2.1.2 x.2.2.1.1 x.2.2.1.2
noncomputable def x1g_ : Cx := { ti := ti, con := [(98, c17_), (84, c0v_)], fns := [], un := 6 }
theorem xok1g_ : CxOk Tryz.prog x1g_ := CxOk.of mixed ti_ok (fc ⟨con17_, fc ⟨con0v_, fz⟩⟩) fz
theorem fn1g_ : FnOk Tryz.prog 56 Tryz.f56 [] := ⟨Tryz.func56, Tryz.call56, lps_nil⟩
theorem e1g_ (g : (Option (((PtrV (NI × (Int × (NI × NI)))) × (PtrV (NI × (Int × (NI × NI))))) × NI))) (nbases : Nat) (bases : Nat → NI) (nexps : Nat) (exps : Nat → NI) : bodyK x1g_ [] (denF x1g_ 8) Tryz.f56 (domV [(.ptr (.pair (.pair (.ptr (.pair tN (.pair tU (.pair tN tN)))) (.ptr (.pair tN (.pair tU (.pair tN tN))))) tN)), (.sl tN), (.sl tN)] (g, (nbases, bases), (nexps, exps), ())) [] 0 (kOut [tN, tI]) = power_Multi' g nbases bases nexps exps := by cases g <;> kernel_rfl
theorem con1g_ : ConOk Tryz.prog 56 c1g_ := con_ok xok1g_ 8 fn1g_ true [(.ptr (.pair (.pair (.ptr (.pair tN (.pair tU (.pair tN tN)))) (.ptr (.pair tN (.pair tU (.pair tN tN))))) tN)), (.sl tN), (.sl tN)] [tN, tI] _ (by decide) (fun x => by rw [power_Multi_eq]; exact e1g_ x.1 x.2.1.1 x.2.1.2 x.2.2.1.1 x.2.2.1.2)
end Go.Proofs.YtccbdhpcblfopaaGreat

namespace Go.Proofs.YtccbdhpcblfopaaGreat
abbrev S2d_0 : Shape := { sl := [(pc 1 tN 0), (pc 2 (.arr 256 .bool) 1), (pc 3 (.arr 256 .bool) 2), (pv 4 tI)], ob := [(pv 0 tN), (pv 1 (.arr 256 .bool)), (pv 2 (.arr 256 .bool))], lo := 3, nx := 3 }
abbrev E2d_0 : List Ex := [(.normal, { sl := [(pc 2 (.arr 256 .bool) 1), (pc 3 (.arr 256 .bool) 2)], ob := [(pv 1 (.arr 256 .bool)), (pv 2 (.arr 256 .bool))], lo := 3, nx := 3 })]
noncomputable def L2d_0 : Code := loopIn (bodyOf Tryz.f94) 0
noncomputable def P2d_0 : Lp := lpOf S2d_0 E2d_0 22 R_r01_Of_0
noncomputable def c2d_ : Con := conV true [tN] [(.arr 256 .bool)] fun x => r01_Of x.1
noncomputable def x2d_ : Cx := { ti := ti, con := [], fns := [], un := 6 }
theorem xok2d_ : CxOk Tryz.prog x2d_ := CxOk.of mixed ti_ok fz fz
theorem r2d_0 (x : S2d_0.X) : denC x2d_ [] (denF x2d_ 8) L2d_0 (S2d_0.mkS 22 x) (kRound 0 S2d_0 E2d_0) = R_r01_Of_0 x := by kernel_rfl
theorem l2d_0 : LpOk Tryz.prog 0 (.loop L2d_0) P2d_0 := lpOf_ok xok2d_ 8 (lps_nil) S2d_0 E2d_0 22 R_r01_Of_0 (by decide) r2d_0
theorem fn2d_ : FnOk Tryz.prog 94 Tryz.f94 [(0, P2d_0)] := ⟨Tryz.func94, Tryz.call94, lps_of (by kernel_rfl) (lps_one l2d_0 (by kernel_rfl) fz)⟩
theorem e2d_ (a : NI) : bodyK x2d_ [(0, P2d_0)] (denF x2d_ 8) Tryz.f94 (domV [tN] (a, ())) [] 0 (kOut [(.arr 256 .bool)]) = r01_Of' a := by kernel_rfl
theorem con2d_ : ConOk Tryz.prog 94 c2d_ := con_ok xok2d_ 8 fn2d_ true [tN] [(.arr 256 .bool)] _ (by decide) (fun x => by rw [r01_Of_eq]; exact e2d_ x.1)
abbrev S2e_0 : Shape := { sl := [(pc 3 (.arr 256 .bool) 1), (pv 4 tI)], ob := [(pv 1 (.arr 256 .bool))], lo := 2, nx := 2 }
abbrev E2e_0 : List Ex := [(.ret, { sl := [(pv 2 tI)], ob := [], lo := 2, nx := 2 }), (.normal, { sl := [], ob := [], lo := 2, nx := 2 })]
noncomputable def L2e_0 : Code := loopIn (bodyOf Tryz.f93) 0
noncomputable def P2e_0 : Lp := lpOf S2e_0 E2e_0 16 R_r01_Len_0
noncomputable def c2e_ : Con := conV true [tN] [tI] fun x => r01_Len x.1
noncomputable def x2e_ : Cx := { ti := ti, con := [(94, c2d_)], fns := [], un := 6 }
theorem xok2e_ : CxOk Tryz.prog x2e_ := CxOk.of mixed ti_ok (fc ⟨con2d_, fz⟩) fz
theorem r2e_0 (x : S2e_0.X) : denC x2e_ [] (denF x2e_ 8) L2e_0 (S2e_0.mkS 16 x) (kRound 0 S2e_0 E2e_0) = R_r01_Len_0 x := by kernel_rfl
theorem l2e_0 : LpOk Tryz.prog 0 (.loop L2e_0) P2e_0 := lpOf_ok xok2e_ 8 (lps_nil) S2e_0 E2e_0 16 R_r01_Len_0 (by decide) r2e_0
theorem fn2e_ : FnOk Tryz.prog 93 Tryz.f93 [(0, P2e_0)] := ⟨Tryz.func93, Tryz.call93, lps_of (by kernel_rfl) (lps_one l2e_0 (by kernel_rfl) fz)⟩
theorem e2e_ (a : NI) : bodyK x2e_ [(0, P2e_0)] (denF x2e_ 8) Tryz.f93 (domV [tN] (a, ())) [] 0 (kOut [tI]) = r01_Len' a := by kernel_rfl
theorem con2e_ : ConOk Tryz.prog 93 c2e_ := con_ok xok2e_ 8 fn2e_ true [tN] [tI] _ (by decide) (fun x => by rw [r01_Len_eq]; exact e2e_ x.1)
abbrev S2f_0 : Shape := { sl := [(pv 4 tI), (pc 5 (.arr 256 .bool) 1), (pv 6 tI)], ob := [(pv 1 (.arr 256 .bool))], lo := 2, nx := 2 }
abbrev E2f_0 : List Ex := [(.normal, { sl := [(pv 4 tI)], ob := [], lo := 2, nx := 2 })]
noncomputable def L2f_0 : Code := loopIn (bodyOf Tryz.f49) 0
noncomputable def P2f_0 : Lp := lpOf S2f_0 E2f_0 24 R_r01_Low_0
noncomputable def c2f_ : Con := conV true [tN] [tI, .bool] fun x => r01_Low x.1
noncomputable def x2f_ : Cx := { ti := ti, con := [(93, c2e_), (94, c2d_)], fns := [], un := 6 }
theorem xok2f_ : CxOk Tryz.prog x2f_ := CxOk.of mixed ti_ok (fc ⟨con2e_, fc ⟨con2d_, fz⟩⟩) fz
theorem r2f_0 (x : S2f_0.X) : denC x2f_ [] (denF x2f_ 8) L2f_0 (S2f_0.mkS 24 x) (kRound 0 S2f_0 E2f_0) = R_r01_Low_0 x := by kernel_rfl
theorem l2f_0 : LpOk Tryz.prog 0 (.loop L2f_0) P2f_0 := lpOf_ok xok2f_ 8 (lps_nil) S2f_0 E2f_0 24 R_r01_Low_0 (by decide) r2f_0
theorem fn2f_ : FnOk Tryz.prog 49 Tryz.f49 [(0, P2f_0)] := ⟨Tryz.func49, Tryz.call49, lps_of (by kernel_rfl) (lps_one l2f_0 (by kernel_rfl) fz)⟩
theorem e2f_ (a : NI) : bodyK x2f_ [(0, P2f_0)] (denF x2f_ 8) Tryz.f49 (domV [tN] (a, ())) [] 0 (kOut [tI, .bool]) = r01_Low' a := by kernel_rfl
theorem con2f_ : ConOk Tryz.prog 49 c2f_ := con_ok xok2f_ 8 fn2f_ true [tN] [tI, .bool] _ (by decide) (fun x => by rw [r01_Low_eq]; exact e2f_ x.1)
abbrev S2g_0 : Shape := { sl := [(pc 1 (.arr 256 .bool) 0), (pc 2 tN 1), (pc 3 tN 2), (pv 4 tI)], ob := [(pv 0 (.arr 256 .bool)), (pv 1 tN), (pv 2 tN)], lo := 3, nx := 3 }
abbrev E2g_0 : List Ex := [(.normal, { sl := [(pc 2 tN 1), (pc 3 tN 2)], ob := [(pv 1 tN), (pv 2 tN)], lo := 3, nx := 3 })]
noncomputable def L2g_0 : Code := loopIn (bodyOf Tryz.f87) 0
noncomputable def P2g_0 : Lp := lpOf S2g_0 E2g_0 25 R_r01_Nat_0
noncomputable def c2g_ : Con := conV true [(.arr 256 .bool)] [tN] fun x => r01_Nat x.1
noncomputable def x2g_ : Cx := { ti := ti, con := [], fns := [], un := 6 }
theorem xok2g_ : CxOk Tryz.prog x2g_ := CxOk.of mixed ti_ok fz fz
theorem r2g_0 (x : S2g_0.X) : denC x2g_ [] (denF x2g_ 8) L2g_0 (S2g_0.mkS 25 x) (kRound 0 S2g_0 E2g_0) = R_r01_Nat_0 x := by kernel_rfl
theorem l2g_0 : LpOk Tryz.prog 0 (.loop L2g_0) P2g_0 := lpOf_ok xok2g_ 8 (lps_nil) S2g_0 E2g_0 25 R_r01_Nat_0 (by decide) r2g_0
theorem fn2g_ : FnOk Tryz.prog 87 Tryz.f87 [(0, P2g_0)] := ⟨Tryz.func87, Tryz.call87, lps_of (by kernel_rfl) (lps_one l2g_0 (by kernel_rfl) fz)⟩
theorem e2g_ (b : (Nat → Bool)) : bodyK x2g_ [(0, P2g_0)] (denF x2g_ 8) Tryz.f87 (domV [(.arr 256 .bool)] (b, ())) [] 0 (kOut [tN]) = r01_Nat' b := by kernel_rfl
theorem con2g_ : ConOk Tryz.prog 87 c2g_ := con_ok xok2g_ 8 fn2g_ true [(.arr 256 .bool)] [tN] _ (by decide) (fun x => by rw [r01_Nat_eq]; exact e2g_ x.1)
abbrev S2h_0 : Shape := { sl := [(pv 0 tI), (pc 2 tN 0), (pc 3 (.arr 256 .bool) 1), (pv 4 tI)], ob := [(pv 0 tN), (pv 1 (.arr 256 .bool))], lo := 2, nx := 2 }
abbrev E2h_0 : List Ex := [(.normal, { sl := [(pc 2 tN 0), (pc 3 (.arr 256 .bool) 1)], ob := [(pv 0 tN), (pv 1 (.arr 256 .bool))], lo := 2, nx := 2 })]
noncomputable def L2h_0 : Code := loopIn (bodyOf Tryz.f44) 0
noncomputable def P2h_0 : Lp := lpOf S2h_0 E2h_0 23 R_r01_Int_0
noncomputable def c2h_ : Con := conV true [tI] [tN] fun x => r01_Int x.1
noncomputable def x2h_ : Cx := { ti := ti, con := [(87, c2g_)], fns := [], un := 6 }
theorem xok2h_ : CxOk Tryz.prog x2h_ := CxOk.of mixed ti_ok (fc ⟨con2g_, fz⟩) fz
theorem r2h_0 (x : S2h_0.X) : denC x2h_ [] (denF x2h_ 8) L2h_0 (S2h_0.mkS 23 x) (kRound 0 S2h_0 E2h_0) = R_r01_Int_0 x := by kernel_rfl
theorem l2h_0 : LpOk Tryz.prog 0 (.loop L2h_0) P2h_0 := lpOf_ok xok2h_ 8 (lps_nil) S2h_0 E2h_0 23 R_r01_Int_0 (by decide) r2h_0
theorem fn2h_ : FnOk Tryz.prog 44 Tryz.f44 [(0, P2h_0)] := ⟨Tryz.func44, Tryz.call44, lps_of (by kernel_rfl) (lps_one l2h_0 (by kernel_rfl) fz)⟩
theorem e2h_ (n : Int) : bodyK x2h_ [(0, P2h_0)] (denF x2h_ 8) Tryz.f44 (domV [tI] (n, ())) [] 0 (kOut [tN]) = r01_Int' n := by kernel_rfl
theorem con2h_ : ConOk Tryz.prog 44 c2h_ := con_ok xok2h_ 8 fn2h_ true [tI] [tN] _ (by decide) (fun x => by rw [r01_Int_eq]; exact e2h_ x.1)
noncomputable def c2i_ : Con := conV true [tN, tI] [tI] fun x => r01_Bit x.1 x.2.1
noncomputable def x2i_ : Cx := { ti := ti, con := [(94, c2d_)], fns := [], un := 6 }
theorem xok2i_ : CxOk Tryz.prog x2i_ := CxOk.of mixed ti_ok (fc ⟨con2d_, fz⟩) fz
theorem fn2i_ : FnOk Tryz.prog 137 Tryz.f137 [] := ⟨Tryz.func137, Tryz.call137, lps_nil⟩
theorem e2i_ (a : NI) (k : Int) : bodyK x2i_ [] (denF x2i_ 8) Tryz.f137 (domV [tN, tI] (a, k, ())) [] 0 (kOut [tI]) = r01_Bit' a k := by kernel_rfl
theorem con2i_ : ConOk Tryz.prog 137 c2i_ := con_ok xok2i_ 8 fn2i_ true [tN, tI] [tI] _ (by decide) (fun x => by rw [r01_Bit_eq]; exact e2i_ x.1 x.2.1)
abbrev S2j_0 : Shape := { sl := [(pc 5 (.arr 256 .bool) 2), (pc 6 (.arr 256 .bool) 3), (pv 7 tI)], ob := [(pv 2 (.arr 256 .bool)), (pv 3 (.arr 256 .bool))], lo := 4, nx := 4 }
abbrev E2j_0 : List Ex := [(.ret, { sl := [(pv 4 tI)], ob := [], lo := 4, nx := 4 }), (.normal, { sl := [], ob := [], lo := 4, nx := 4 })]
noncomputable def L2j_0 : Code := loopIn (bodyOf Tryz.f100) 0
noncomputable def P2j_0 : Lp := lpOf S2j_0 E2j_0 26 R_r01_Cmp_0
noncomputable def c2j_ : Con := conV true [tN, tN] [tI] fun x => r01_Cmp x.1 x.2.1
noncomputable def x2j_ : Cx := { ti := ti, con := [(94, c2d_)], fns := [], un := 6 }
theorem xok2j_ : CxOk Tryz.prog x2j_ := CxOk.of mixed ti_ok (fc ⟨con2d_, fz⟩) fz
theorem r2j_0 (x : S2j_0.X) : denC x2j_ [] (denF x2j_ 8) L2j_0 (S2j_0.mkS 26 x) (kRound 0 S2j_0 E2j_0) = R_r01_Cmp_0 x := by kernel_rfl
theorem l2j_0 : LpOk Tryz.prog 0 (.loop L2j_0) P2j_0 := lpOf_ok xok2j_ 8 (lps_nil) S2j_0 E2j_0 26 R_r01_Cmp_0 (by decide) r2j_0
theorem fn2j_ : FnOk Tryz.prog 100 Tryz.f100 [(0, P2j_0)] := ⟨Tryz.func100, Tryz.call100, lps_of (by kernel_rfl) (lps_one l2j_0 (by kernel_rfl) fz)⟩
theorem e2j_ (a : NI) (b : NI) : bodyK x2j_ [(0, P2j_0)] (denF x2j_ 8) Tryz.f100 (domV [tN, tN] (a, b, ())) [] 0 (kOut [tI]) = r01_Cmp' a b := by kernel_rfl
theorem con2j_ : ConOk Tryz.prog 100 c2j_ := con_ok xok2j_ 8 fn2j_ true [tN, tN] [tI] _ (by decide) (fun x => by rw [r01_Cmp_eq]; exact e2j_ x.1 x.2.1)
end Go.Proofs.YtccbdhpcblfopaaGreat

namespace Go.Proofs.YtccbdhpcblfopaaGreat
noncomputable def c2k_ : Con := conV false [] [(.pair (.sl (.pair tN tI)) tN)] fun x => r07_Other 
noncomputable def x2k_ : Cx := { ti := ti, con := [], fns := [], un := 6 }
theorem xok2k_ : CxOk Tryz.prog x2k_ := CxOk.of mixed ti_ok fz fz
theorem fn2k_ : FnOk Tryz.prog 20 Tryz.f20 [] := ⟨Tryz.func20, Tryz.call20, lps_nil⟩
theorem e2k_  : bodyK x2k_ [] (denF x2k_ 8) Tryz.f20 (domV [] (())) [] 0 (kOut [(.pair (.sl (.pair tN tI)) tN)]) = r07_Other'  := by kernel_rfl
theorem con2k_ : ConOk Tryz.prog 20 c2k_ := con_ok xok2k_ 8 fn2k_ false [] [(.pair (.sl (.pair tN tI)) tN)] _ (by decide) (fun x => by rw [r07_Other_eq]; exact e2k_ )
noncomputable def c2l_ : Con := conV false [] [(.pair (.sl (.pair tN tI)) tN)] fun x => r07_Least 
noncomputable def x2l_ : Cx := { ti := ti, con := [], fns := [], un := 6 }
theorem xok2l_ : CxOk Tryz.prog x2l_ := CxOk.of mixed ti_ok fz fz
theorem fn2l_ : FnOk Tryz.prog 19 Tryz.f19 [] := ⟨Tryz.func19, Tryz.call19, lps_nil⟩
theorem e2l_  : bodyK x2l_ [] (denF x2l_ 8) Tryz.f19 (domV [] (())) [] 0 (kOut [(.pair (.sl (.pair tN tI)) tN)]) = r07_Least'  := by kernel_rfl
theorem con2l_ : ConOk Tryz.prog 19 c2l_ := con_ok xok2l_ 8 fn2l_ false [] [(.pair (.sl (.pair tN tI)) tN)] _ (by decide) (fun x => by rw [r07_Least_eq]; exact e2l_ )
noncomputable def c2m_ : Con := conV false [tI] [(.pair (.sl (.pair tN tI)) tN)] fun x => r07_Pick x.1
noncomputable def x2m_ : Cx := { ti := ti, con := [(20, c2k_), (19, c2l_)], fns := [], un := 6 }
theorem xok2m_ : CxOk Tryz.prog x2m_ := CxOk.of mixed ti_ok (fc ⟨con2k_, fc ⟨con2l_, fz⟩⟩) fz
theorem fn2m_ : FnOk Tryz.prog 25 Tryz.f25 [] := ⟨Tryz.func25, Tryz.call25, lps_nil⟩
theorem e2m_ (which : Int) : bodyK x2m_ [] (denF x2m_ 8) Tryz.f25 (domV [tI] (which, ())) [] 0 (kOut [(.pair (.sl (.pair tN tI)) tN)]) = r07_Pick' which := by kernel_rfl
theorem con2m_ : ConOk Tryz.prog 25 c2m_ := con_ok xok2m_ 8 fn2m_ false [tI] [(.pair (.sl (.pair tN tI)) tN)] _ (by decide) (fun x => by rw [r07_Pick_eq]; exact e2m_ x.1)
noncomputable def c2n_ : Con := conV true [(.pair (.sl (.pair tN tI)) tN)] [tN] fun x => r07_P x.1
noncomputable def x2n_ : Cx := { ti := ti, con := [], fns := [], un := 6 }
theorem xok2n_ : CxOk Tryz.prog x2n_ := CxOk.of mixed ti_ok fz fz
theorem fn2n_ : FnOk Tryz.prog 50 Tryz.f50 [] := ⟨Tryz.func50, Tryz.call50, lps_nil⟩
theorem e2n_ (p : ((Nat × (Nat → (NI × Int))) × NI)) : bodyK x2n_ [] (denF x2n_ 8) Tryz.f50 (domV [(.pair (.sl (.pair tN tI)) tN)] (p, ())) [] 0 (kOut [tN]) = r07_P' p := by kernel_rfl
theorem con2n_ : ConOk Tryz.prog 50 c2n_ := con_ok xok2n_ 8 fn2n_ true [(.pair (.sl (.pair tN tI)) tN)] [tN] _ (by decide) (fun x => by rw [r07_P_eq]; exact e2n_ x.1)
noncomputable def c2o_ : Con := conV true [(.pair (.sl (.pair tN tI)) tN)] [tN] fun x => r07_Q x.1
noncomputable def x2o_ : Cx := { ti := ti, con := [], fns := [], un := 6 }
theorem xok2o_ : CxOk Tryz.prog x2o_ := CxOk.of mixed ti_ok fz fz
theorem fn2o_ : FnOk Tryz.prog 51 Tryz.f51 [] := ⟨Tryz.func51, Tryz.call51, lps_nil⟩
theorem e2o_ (p : ((Nat × (Nat → (NI × Int))) × NI)) : bodyK x2o_ [] (denF x2o_ 8) Tryz.f51 (domV [(.pair (.sl (.pair tN tI)) tN)] (p, ())) [] 0 (kOut [tN]) = r07_Q' p := by kernel_rfl
theorem con2o_ : ConOk Tryz.prog 51 c2o_ := con_ok xok2o_ 8 fn2o_ true [(.pair (.sl (.pair tN tI)) tN)] [tN] _ (by decide) (fun x => by rw [r07_Q_eq]; exact e2o_ x.1)
end Go.Proofs.YtccbdhpcblfopaaGreat

namespace Go.Proofs.YtccbdhpcblfopaaGreat
noncomputable def c2q_ : Con := conV true [tI, tI, tI] [tI] fun x => r03_Times x.1 x.2.1 x.2.2.1
noncomputable def x2q_ : Cx := { ti := ti, con := [(135, c03_), (136, c02_)], fns := [], un := 6 }
theorem xok2q_ : CxOk Tryz.prog x2q_ := CxOk.of mixed ti_ok (fc ⟨con03_, fc ⟨con02_, fz⟩⟩) fz
theorem fn2q_ : FnOk Tryz.prog 102 Tryz.f102 [] := ⟨Tryz.func102, Tryz.call102, lps_nil⟩
theorem e2q_ (a : Int) (b : Int) (m : Int) : bodyK x2q_ [] (denF x2q_ 8) Tryz.f102 (domV [tI, tI, tI] (a, b, m, ())) [] 0 (kOut [tI]) = r03_Times' a b m := by kernel_rfl
theorem con2q_ : ConOk Tryz.prog 102 c2q_ := con_ok xok2q_ 8 fn2q_ true [tI, tI, tI] [tI] _ (by decide) (fun x => by rw [r03_Times_eq]; exact e2q_ x.1 x.2.1 x.2.2.1)
abbrev S2r_0 : Shape := { sl := [(pv 0 tI), (pv 2 tI), (pc 4 tN 0), (pv 7 tI), (pv 8 tI)], ob := [(pv 0 tN)], lo := 1, nx := 1 }
abbrev E2r_0 : List Ex := [(.normal, { sl := [(pv 7 tI)], ob := [], lo := 1, nx := 1 })]
noncomputable def L2r_0 : Code := loopIn (bodyOf Tryz.f103) 0
noncomputable def P2r_0 : Lp := lpOf S2r_0 E2r_0 31 R_r03_Power_0
noncomputable def c2r_ : Con := conV true [tI, tN, tI] [tI] fun x => r03_Power x.1 x.2.1 x.2.2.1
noncomputable def x2r_ : Cx := { ti := ti, con := [(93, c2e_), (102, c2q_), (137, c2i_)], fns := [], un := 6 }
theorem xok2r_ : CxOk Tryz.prog x2r_ := CxOk.of mixed ti_ok (fc ⟨con2e_, fc ⟨con2q_, fc ⟨con2i_, fz⟩⟩⟩) fz
theorem r2r_0 (x : S2r_0.X) : denC x2r_ [] (denF x2r_ 8) L2r_0 (S2r_0.mkS 31 x) (kRound 0 S2r_0 E2r_0) = R_r03_Power_0 x := by kernel_rfl
theorem l2r_0 : LpOk Tryz.prog 0 (.loop L2r_0) P2r_0 := lpOf_ok xok2r_ 8 (lps_nil) S2r_0 E2r_0 31 R_r03_Power_0 (by decide) r2r_0
theorem fn2r_ : FnOk Tryz.prog 103 Tryz.f103 [(0, P2r_0)] := ⟨Tryz.func103, Tryz.call103, lps_of (by kernel_rfl) (lps_one l2r_0 (by kernel_rfl) fz)⟩
theorem e2r_ (a : Int) (e : NI) (m : Int) : bodyK x2r_ [(0, P2r_0)] (denF x2r_ 8) Tryz.f103 (domV [tI, tN, tI] (a, e, m, ())) [] 0 (kOut [tI]) = r03_Power' a e m := by kernel_rfl
theorem con2r_ : ConOk Tryz.prog 103 c2r_ := con_ok xok2r_ 8 fn2r_ true [tI, tN, tI] [tI] _ (by decide) (fun x => by rw [r03_Power_eq]; exact e2r_ x.1 x.2.1 x.2.2.1)
end Go.Proofs.YtccbdhpcblfopaaGreat

namespace Go.Proofs.YtccbdhpcblfopaaGreat
noncomputable def c2s_ : Con := conV true [(.pair (.sl (.pair tN tI)) tN)] [(.pair tI (.pair tI tI))] fun x => r09_Of x.1
noncomputable def x2s_ : Cx := { ti := ti, con := [(50, c2n_), (49, c2f_), (51, c2o_)], fns := [], un := 6 }
theorem xok2s_ : CxOk Tryz.prog x2s_ := CxOk.of mixed ti_ok (fc ⟨con2n_, fc ⟨con2f_, fc ⟨con2o_, fz⟩⟩⟩) fz
theorem fn2s_ : FnOk Tryz.prog 26 Tryz.f26 [] := ⟨Tryz.func26, Tryz.call26, lps_nil⟩
theorem e2s_ (p : ((Nat × (Nat → (NI × Int))) × NI)) : bodyK x2s_ [] (denF x2s_ 8) Tryz.f26 (domV [(.pair (.sl (.pair tN tI)) tN)] (p, ())) [] 0 (kOut [(.pair tI (.pair tI tI))]) = r09_Of' p := by kernel_rfl
theorem con2s_ : ConOk Tryz.prog 26 c2s_ := con_ok xok2s_ 8 fn2s_ true [(.pair (.sl (.pair tN tI)) tN)] [(.pair tI (.pair tI tI))] _ (by decide) (fun x => by rw [r09_Of_eq]; exact e2s_ x.1)
noncomputable def c2t_ : Con := conV true [(.pair tI (.pair tI tI)), tI, tN] [tI] fun x => r09_Exp x.1 x.2.1 x.2.2.1
noncomputable def x2t_ : Cx := { ti := ti, con := [(103, c2r_)], fns := [], un := 6 }
theorem xok2t_ : CxOk Tryz.prog x2t_ := CxOk.of mixed ti_ok (fc ⟨con2r_, fz⟩) fz
theorem fn2t_ : FnOk Tryz.prog 62 Tryz.f62 [] := ⟨Tryz.func62, Tryz.call62, lps_nil⟩
theorem e2t_ (s : (Int × (Int × Int))) (a : Int) (e : NI) : bodyK x2t_ [] (denF x2t_ 8) Tryz.f62 (domV [(.pair tI (.pair tI tI)), tI, tN] (s, a, e, ())) [] 0 (kOut [tI]) = r09_Exp' s a e := by kernel_rfl
theorem con2t_ : ConOk Tryz.prog 62 c2t_ := con_ok xok2t_ 8 fn2t_ true [(.pair tI (.pair tI tI)), tI, tN] [tI] _ (by decide) (fun x => by rw [r09_Exp_eq]; exact e2t_ x.1 x.2.1 x.2.2.1)
noncomputable def c2u_ : Con := conV true [(.pair tI (.pair tI tI)), tN] [.bool] fun x => r09_In x.1 x.2.1
noncomputable def x2u_ : Cx := { ti := ti, con := [(49, c2f_), (44, c2h_), (62, c2t_)], fns := [], un := 6 }
theorem xok2u_ : CxOk Tryz.prog x2u_ := CxOk.of mixed ti_ok (fc ⟨con2f_, fc ⟨con2h_, fc ⟨con2t_, fz⟩⟩⟩) fz
theorem fn2u_ : FnOk Tryz.prog 131 Tryz.f131 [] := ⟨Tryz.func131, Tryz.call131, lps_nil⟩
theorem e2u_ (s : (Int × (Int × Int))) (a : NI) : bodyK x2u_ [] (denF x2u_ 8) Tryz.f131 (domV [(.pair tI (.pair tI tI)), tN] (s, a, ())) [] 0 (kOut [.bool]) = r09_In' s a := by kernel_rfl
theorem con2u_ : ConOk Tryz.prog 131 c2u_ := con_ok xok2u_ 8 fn2u_ true [(.pair tI (.pair tI tI)), tN] [.bool] _ (by decide) (fun x => by rw [r09_In_eq]; exact e2u_ x.1 x.2.1)
noncomputable def c2v_ : Con := conV true [(.pair tI (.pair tI tI)), tI, tI] [tI] fun x => r09_Mul x.1 x.2.1 x.2.2.1
noncomputable def x2v_ : Cx := { ti := ti, con := [(102, c2q_)], fns := [], un := 6 }
theorem xok2v_ : CxOk Tryz.prog x2v_ := CxOk.of mixed ti_ok (fc ⟨con2q_, fz⟩) fz
theorem fn2v_ : FnOk Tryz.prog 61 Tryz.f61 [] := ⟨Tryz.func61, Tryz.call61, lps_nil⟩
theorem e2v_ (s : (Int × (Int × Int))) (a : Int) (b : Int) : bodyK x2v_ [] (denF x2v_ 8) Tryz.f61 (domV [(.pair tI (.pair tI tI)), tI, tI] (s, a, b, ())) [] 0 (kOut [tI]) = r09_Mul' s a b := by kernel_rfl
theorem con2v_ : ConOk Tryz.prog 61 c2v_ := con_ok xok2v_ 8 fn2v_ true [(.pair tI (.pair tI tI)), tI, tI] [tI] _ (by decide) (fun x => by rw [r09_Mul_eq]; exact e2v_ x.1 x.2.1 x.2.2.1)
end Go.Proofs.YtccbdhpcblfopaaGreat

namespace Go.Proofs.YtccbdhpcblfopaaGreat
abbrev S2z_0 : Shape := { sl := [(pc 2 tN 0), (pc 3 tN 1), (pc 4 (.arr 32 tI) 2), (pc 5 (.arr 32 tI) 3), (pv 6 tI)], ob := [(pv 0 tN), (pv 1 tN), (pv 2 (.arr 32 tI)), (pv 3 (.arr 32 tI))], lo := 4, nx := 4 }
abbrev E2z_0 : List Ex := [(.normal, { sl := [(pc 4 (.arr 32 tI) 2), (pc 5 (.arr 32 tI) 3)], ob := [(pv 2 (.arr 32 tI)), (pv 3 (.arr 32 tI))], lo := 4, nx := 4 })]
noncomputable def L2z_0 : Code := loopIn (bodyOf Tryz.f133) 0
noncomputable def P2z_0 : Lp := lpOf S2z_0 E2z_0 38 R_r02_Of_0
noncomputable def c2z_ : Con := conV true [tN, tN] [(.arr 32 tI)] fun x => r02_Of x.1 x.2.1
noncomputable def x2z_ : Cx := { ti := ti, con := [], fns := [], un := 6 }
theorem xok2z_ : CxOk Tryz.prog x2z_ := CxOk.of mixed ti_ok fz fz
theorem r2z_0 (x : S2z_0.X) : denC x2z_ [] (denF x2z_ 8) L2z_0 (S2z_0.mkS 38 x) (kRound 0 S2z_0 E2z_0) = R_r02_Of_0 x := by kernel_rfl
theorem l2z_0 : LpOk Tryz.prog 0 (.loop L2z_0) P2z_0 := lpOf_ok xok2z_ 8 (lps_nil) S2z_0 E2z_0 38 R_r02_Of_0 (by decide) r2z_0
theorem fn2z_ : FnOk Tryz.prog 133 Tryz.f133 [(0, P2z_0)] := ⟨Tryz.func133, Tryz.call133, lps_of (by kernel_rfl) (lps_one l2z_0 (by kernel_rfl) fz)⟩
theorem e2z_ (low : NI) (high : NI) : bodyK x2z_ [(0, P2z_0)] (denF x2z_ 8) Tryz.f133 (domV [tN, tN] (low, high, ())) [] 0 (kOut [(.arr 32 tI)]) = r02_Of' low high := by kernel_rfl
theorem con2z_ : ConOk Tryz.prog 133 c2z_ := con_ok xok2z_ 8 fn2z_ true [tN, tN] [(.arr 32 tI)] _ (by decide) (fun x => by rw [r02_Of_eq]; exact e2z_ x.1 x.2.1)
abbrev S30_0 : Shape := { sl := [(pc 2 (.arr 32 tI) 0), (pc 4 (.arr 32 tI) 1), (pc 5 (.arr 32 tI) 2), (pv 6 tI), (pv 7 tI)], ob := [(pv 0 (.arr 32 tI)), (pv 1 (.arr 32 tI)), (pv 2 (.arr 32 tI))], lo := 3, nx := 3 }
abbrev E30_0 : List Ex := [(.normal, { sl := [(pc 4 (.arr 32 tI) 1), (pc 5 (.arr 32 tI) 2)], ob := [(pv 1 (.arr 32 tI)), (pv 2 (.arr 32 tI))], lo := 3, nx := 3 })]
noncomputable def L30_0 : Code := loopIn (bodyOf Tryz.f156) 0
noncomputable def P30_0 : Lp := lpOf S30_0 E30_0 28 R_r02_twice_0
noncomputable def c30_ : Con := conV true [(.arr 32 tI), tI] [(.arr 32 tI)] fun x => r02_twice x.1 x.2.1
noncomputable def x30_ : Cx := { ti := ti, con := [], fns := [], un := 6 }
theorem xok30_ : CxOk Tryz.prog x30_ := CxOk.of mixed ti_ok fz fz
theorem r30_0 (x : S30_0.X) : denC x30_ [] (denF x30_ 8) L30_0 (S30_0.mkS 28 x) (kRound 0 S30_0 E30_0) = R_r02_twice_0 x := by kernel_rfl
theorem l30_0 : LpOk Tryz.prog 0 (.loop L30_0) P30_0 := lpOf_ok xok30_ 8 (lps_nil) S30_0 E30_0 28 R_r02_twice_0 (by decide) r30_0
theorem fn30_ : FnOk Tryz.prog 156 Tryz.f156 [(0, P30_0)] := ⟨Tryz.func156, Tryz.call156, lps_of (by kernel_rfl) (lps_one l30_0 (by kernel_rfl) fz)⟩
theorem e30_ (a : NI) (one : Int) : bodyK x30_ [(0, P30_0)] (denF x30_ 8) Tryz.f156 (domV [(.arr 32 tI), tI] (a, one, ())) [] 0 (kOut [(.arr 32 tI)]) = r02_twice' a one := by kernel_rfl
theorem con30_ : ConOk Tryz.prog 156 c30_ := con_ok xok30_ 8 fn30_ true [(.arr 32 tI), tI] [(.arr 32 tI)] _ (by decide) (fun x => by rw [r02_twice_eq]; exact e30_ x.1 x.2.1)
abbrev S31_0 : Shape := { sl := [(pc 2 (.arr 32 tI) 0), (pc 3 (.arr 32 tI) 1), (pv 5 tI)], ob := [(pv 0 (.arr 32 tI)), (pv 1 (.arr 32 tI))], lo := 2, nx := 2 }
abbrev E31_0 : List Ex := [(.ret, { sl := [(4, (.v .bool))], ob := [], lo := 2, nx := 2 }), (.normal, { sl := [], ob := [], lo := 2, nx := 2 })]
noncomputable def L31_0 : Code := loopIn (bodyOf Tryz.f157) 0
noncomputable def P31_0 : Lp := lpOf S31_0 E31_0 24 R_r02_below_0
noncomputable def c31_ : Con := conV true [(.arr 32 tI), (.arr 32 tI)] [.bool] fun x => r02_below x.1 x.2.1
noncomputable def x31_ : Cx := { ti := ti, con := [], fns := [], un := 6 }
theorem xok31_ : CxOk Tryz.prog x31_ := CxOk.of mixed ti_ok fz fz
theorem r31_0 (x : S31_0.X) : denC x31_ [] (denF x31_ 8) L31_0 (S31_0.mkS 24 x) (kRound 0 S31_0 E31_0) = R_r02_below_0 x := by kernel_rfl
theorem l31_0 : LpOk Tryz.prog 0 (.loop L31_0) P31_0 := lpOf_ok xok31_ 8 (lps_nil) S31_0 E31_0 24 R_r02_below_0 (by decide) r31_0
theorem fn31_ : FnOk Tryz.prog 157 Tryz.f157 [(0, P31_0)] := ⟨Tryz.func157, Tryz.call157, lps_of (by kernel_rfl) (lps_one l31_0 (by kernel_rfl) fz)⟩
theorem e31_ (a : NI) (b : NI) : bodyK x31_ [(0, P31_0)] (denF x31_ 8) Tryz.f157 (domV [(.arr 32 tI), (.arr 32 tI)] (a, b, ())) [] 0 (kOut [.bool]) = r02_below' a b := by kernel_rfl
theorem con31_ : ConOk Tryz.prog 157 c31_ := con_ok xok31_ 8 fn31_ true [(.arr 32 tI), (.arr 32 tI)] [.bool] _ (by decide) (fun x => by rw [r02_below_eq]; exact e31_ x.1 x.2.1)
abbrev S32_0 : Shape := { sl := [(pc 2 (.arr 32 tI) 0), (pc 3 (.arr 32 tI) 1), (pc 4 (.arr 32 tI) 2), (pv 5 tI), (pc 6 (.arr 32 tI) 3), (pv 7 tI)], ob := [(pv 0 (.arr 32 tI)), (pv 1 (.arr 32 tI)), (pv 2 (.arr 32 tI)), (pv 3 (.arr 32 tI))], lo := 4, nx := 4 }
abbrev E32_0 : List Ex := [(.normal, { sl := [(pc 4 (.arr 32 tI) 2), (pc 6 (.arr 32 tI) 3)], ob := [(pv 2 (.arr 32 tI)), (pv 3 (.arr 32 tI))], lo := 4, nx := 4 })]
noncomputable def L32_0 : Code := loopIn (bodyOf Tryz.f158) 0
noncomputable def P32_0 : Lp := lpOf S32_0 E32_0 31 R_r02_less_0
noncomputable def c32_ : Con := conV true [(.arr 32 tI), (.arr 32 tI)] [(.arr 32 tI)] fun x => r02_less x.1 x.2.1
noncomputable def x32_ : Cx := { ti := ti, con := [], fns := [], un := 6 }
theorem xok32_ : CxOk Tryz.prog x32_ := CxOk.of mixed ti_ok fz fz
theorem r32_0 (x : S32_0.X) : denC x32_ [] (denF x32_ 8) L32_0 (S32_0.mkS 31 x) (kRound 0 S32_0 E32_0) = R_r02_less_0 x := by kernel_rfl
theorem l32_0 : LpOk Tryz.prog 0 (.loop L32_0) P32_0 := lpOf_ok xok32_ 8 (lps_nil) S32_0 E32_0 31 R_r02_less_0 (by decide) r32_0
theorem fn32_ : FnOk Tryz.prog 158 Tryz.f158 [(0, P32_0)] := ⟨Tryz.func158, Tryz.call158, lps_of (by kernel_rfl) (lps_one l32_0 (by kernel_rfl) fz)⟩
theorem e32_ (a : NI) (b : NI) : bodyK x32_ [(0, P32_0)] (denF x32_ 8) Tryz.f158 (domV [(.arr 32 tI), (.arr 32 tI)] (a, b, ())) [] 0 (kOut [(.arr 32 tI)]) = r02_less' a b := by kernel_rfl
theorem con32_ : ConOk Tryz.prog 158 c32_ := con_ok xok32_ 8 fn32_ true [(.arr 32 tI), (.arr 32 tI)] [(.arr 32 tI)] _ (by decide) (fun x => by rw [r02_less_eq]; exact e32_ x.1 x.2.1)
abbrev S33_0 : Shape := { sl := [(pc 2 (.arr 32 tI) 0), (pc 3 (.arr 32 tI) 1), (pc 4 (.arr 32 tI) 2), (pc 5 (.arr 32 tI) 3), (pc 6 (.arr 32 tI) 4), (pc 7 (.arr 32 tI) 5), (pv 8 tI)], ob := [(pv 0 (.arr 32 tI)), (pv 1 (.arr 32 tI)), (pv 2 (.arr 32 tI)), (pv 3 (.arr 32 tI)), (pv 4 (.arr 32 tI)), (pv 5 (.arr 32 tI))], lo := 6, nx := 6 }
abbrev E33_0 : List Ex := [(.normal, { sl := [(pc 4 (.arr 32 tI) 2), (pc 5 (.arr 32 tI) 3), (pc 6 (.arr 32 tI) 4), (pc 7 (.arr 32 tI) 5)], ob := [(pv 2 (.arr 32 tI)), (pv 3 (.arr 32 tI)), (pv 4 (.arr 32 tI)), (pv 5 (.arr 32 tI))], lo := 6, nx := 6 })]
noncomputable def L33_0 : Code := loopIn (bodyOf Tryz.f132) 0
noncomputable def P33_0 : Lp := lpOf S33_0 E33_0 45 R_r02_parted_0
noncomputable def c33_ : Con := conV true [(.arr 32 tI), (.arr 32 tI)] [(.arr 32 tI), (.arr 32 tI)] fun x => r02_parted x.1 x.2.1
noncomputable def x33_ : Cx := { ti := ti, con := [(156, c30_), (157, c31_), (158, c32_)], fns := [], un := 6 }
theorem xok33_ : CxOk Tryz.prog x33_ := CxOk.of mixed ti_ok (fc ⟨con30_, fc ⟨con31_, fc ⟨con32_, fz⟩⟩⟩) fz
theorem r33_0 (x : S33_0.X) : denC x33_ [] (denF x33_ 8) L33_0 (S33_0.mkS 45 x) (kRound 0 S33_0 E33_0) = R_r02_parted_0 x := by kernel_rfl
theorem l33_0 : LpOk Tryz.prog 0 (.loop L33_0) P33_0 := lpOf_ok xok33_ 8 (lps_nil) S33_0 E33_0 45 R_r02_parted_0 (by decide) r33_0
theorem fn33_ : FnOk Tryz.prog 132 Tryz.f132 [(0, P33_0)] := ⟨Tryz.func132, Tryz.call132, lps_of (by kernel_rfl) (lps_one l33_0 (by kernel_rfl) fz)⟩
theorem e33_ (a : NI) (m : NI) : bodyK x33_ [(0, P33_0)] (denF x33_ 8) Tryz.f132 (domV [(.arr 32 tI), (.arr 32 tI)] (a, m, ())) [] 0 (kOut [(.arr 32 tI), (.arr 32 tI)]) = r02_parted' a m := by kernel_rfl
theorem con33_ : ConOk Tryz.prog 132 c33_ := con_ok xok33_ 8 fn33_ true [(.arr 32 tI), (.arr 32 tI)] [(.arr 32 tI), (.arr 32 tI)] _ (by decide) (fun x => by rw [r02_parted_eq]; exact e33_ x.1 x.2.1)
abbrev S34_0 : Shape := { sl := [(pc 1 (.arr 32 tI) 0), (pc 2 tN 1), (pc 3 tN 2), (pc 4 tN 3), (pc 5 tN 4), (pv 6 tI)], ob := [(pv 0 (.arr 32 tI)), (pv 1 tN), (pv 2 tN), (pv 3 tN), (pv 4 tN)], lo := 5, nx := 5 }
abbrev E34_0 : List Ex := [(.normal, { sl := [(pc 2 tN 1), (pc 3 tN 2), (pc 4 tN 3), (pc 5 tN 4)], ob := [(pv 1 tN), (pv 2 tN), (pv 3 tN), (pv 4 tN)], lo := 5, nx := 5 })]
noncomputable def L34_0 : Code := loopIn (bodyOf Tryz.f134) 0
noncomputable def P34_0 : Lp := lpOf S34_0 E34_0 48 R_r02_Nats_0
noncomputable def c34_ : Con := conV true [(.arr 32 tI)] [tN, tN] fun x => r02_Nats x.1
noncomputable def x34_ : Cx := { ti := ti, con := [], fns := [], un := 6 }
theorem xok34_ : CxOk Tryz.prog x34_ := CxOk.of mixed ti_ok fz fz
theorem r34_0 (x : S34_0.X) : denC x34_ [] (denF x34_ 8) L34_0 (S34_0.mkS 48 x) (kRound 0 S34_0 E34_0) = R_r02_Nats_0 x := by kernel_rfl
theorem l34_0 : LpOk Tryz.prog 0 (.loop L34_0) P34_0 := lpOf_ok xok34_ 8 (lps_nil) S34_0 E34_0 48 R_r02_Nats_0 (by decide) r34_0
theorem fn34_ : FnOk Tryz.prog 134 Tryz.f134 [(0, P34_0)] := ⟨Tryz.func134, Tryz.call134, lps_of (by kernel_rfl) (lps_one l34_0 (by kernel_rfl) fz)⟩
theorem e34_ (d : NI) : bodyK x34_ [(0, P34_0)] (denF x34_ 8) Tryz.f134 (domV [(.arr 32 tI)] (d, ())) [] 0 (kOut [tN, tN]) = r02_Nats' d := by kernel_rfl
theorem con34_ : ConOk Tryz.prog 134 c34_ := con_ok xok34_ 8 fn34_ true [(.arr 32 tI)] [tN, tN] _ (by decide) (fun x => by rw [r02_Nats_eq]; exact e34_ x.1)
noncomputable def c35_ : Con := conV true [tN, tN, tN] [tN, tI] fun x => r02_Rem x.1 x.2.1 x.2.2.1
noncomputable def x35_ : Cx := { ti := ti, con := [(133, c2z_), (132, c33_), (134, c34_)], fns := [], un := 6 }
theorem xok35_ : CxOk Tryz.prog x35_ := CxOk.of mixed ti_ok (fc ⟨con2z_, fc ⟨con33_, fc ⟨con34_, fz⟩⟩⟩) fz
theorem fn35_ : FnOk Tryz.prog 101 Tryz.f101 [] := ⟨Tryz.func101, Tryz.call101, lps_nil⟩
theorem e35_ (low : NI) (high : NI) (m : NI) : bodyK x35_ [] (denF x35_ 8) Tryz.f101 (domV [tN, tN, tN] (low, high, m, ())) [] 0 (kOut [tN, tI]) = r02_Rem' low high m := by kernel_rfl
theorem con35_ : ConOk Tryz.prog 101 c35_ := con_ok xok35_ 8 fn35_ true [tN, tN, tN] [tN, tI] _ (by decide) (fun x => by rw [r02_Rem_eq]; exact e35_ x.1 x.2.1 x.2.2.1)
end Go.Proofs.YtccbdhpcblfopaaGreat

namespace Go.Proofs.YtccbdhpcblfopaaGreat
noncomputable def c36_ : Con := conV true [tN, tI] [tI] fun x => r08_By x.1 x.2.1
noncomputable def x36_ : Cx := { ti := ti, con := [(44, c2h_), (101, c35_), (49, c2f_)], fns := [], un := 6 }
theorem xok36_ : CxOk Tryz.prog x36_ := CxOk.of mixed ti_ok (fc ⟨con2h_, fc ⟨con35_, fc ⟨con2f_, fz⟩⟩⟩) fz
theorem fn36_ : FnOk Tryz.prog 58 Tryz.f58 [] := ⟨Tryz.func58, Tryz.call58, lps_nil⟩
theorem e36_ (a : NI) (q : Int) : bodyK x36_ [] (denF x36_ 8) Tryz.f58 (domV [tN, tI] (a, q, ())) [] 0 (kOut [tI]) = r08_By' a q := by kernel_rfl
theorem con36_ : ConOk Tryz.prog 58 c36_ := con_ok xok36_ 8 fn36_ true [tN, tI] [tI] _ (by decide) (fun x => by rw [r08_By_eq]; exact e36_ x.1 x.2.1)
noncomputable def c37_ : Con := conV true [tI, tI, tI] [tI] fun x => r08_Mul x.1 x.2.1 x.2.2.1
noncomputable def x37_ : Cx := { ti := ti, con := [(102, c2q_)], fns := [], un := 6 }
theorem xok37_ : CxOk Tryz.prog x37_ := CxOk.of mixed ti_ok (fc ⟨con2q_, fz⟩) fz
theorem fn37_ : FnOk Tryz.prog 60 Tryz.f60 [] := ⟨Tryz.func60, Tryz.call60, lps_nil⟩
theorem e37_ (a : Int) (b : Int) (q : Int) : bodyK x37_ [] (denF x37_ 8) Tryz.f60 (domV [tI, tI, tI] (a, b, q, ())) [] 0 (kOut [tI]) = r08_Mul' a b q := by kernel_rfl
theorem con37_ : ConOk Tryz.prog 60 c37_ := con_ok xok37_ 8 fn37_ true [tI, tI, tI] [tI] _ (by decide) (fun x => by rw [r08_Mul_eq]; exact e37_ x.1 x.2.1 x.2.2.1)
noncomputable def c38_ : Con := conV true [tI, tI, tI] [tI] fun x => r08_Add x.1 x.2.1 x.2.2.1
noncomputable def x38_ : Cx := { ti := ti, con := [], fns := [], un := 6 }
theorem xok38_ : CxOk Tryz.prog x38_ := CxOk.of mixed ti_ok fz fz
theorem fn38_ : FnOk Tryz.prog 59 Tryz.f59 [] := ⟨Tryz.func59, Tryz.call59, lps_nil⟩
theorem e38_ (a : Int) (b : Int) (q : Int) : bodyK x38_ [] (denF x38_ 8) Tryz.f59 (domV [tI, tI, tI] (a, b, q, ())) [] 0 (kOut [tI]) = r08_Add' a b q := by kernel_rfl
theorem con38_ : ConOk Tryz.prog 59 c38_ := con_ok xok38_ 8 fn38_ true [tI, tI, tI] [tI] _ (by decide) (fun x => by rw [r08_Add_eq]; exact e38_ x.1 x.2.1 x.2.2.1)
end Go.Proofs.YtccbdhpcblfopaaGreat
