/-
  The functions of the program are the plain ones.
-/
import Derived.Test.YtejjdkhjdcjbbaaProg
import Derived.Test.YtejjdkhjdcjbbaaDenD
import Derived.KernelRfl
set_option linter.unusedVariables false
set_option linter.unusedSimpArgs false
set_option maxRecDepth 100000
set_option maxHeartbeats 0
namespace Go.Pl
end Go.Pl
open Go Go.Den Go.Pl
namespace Go.Proofs.Ytejjdkhjdcjbbaa
abbrev tI : Ty := .int .i64
abbrev pc (i : Nat) (t : Ty) (r : Nat) : Nat × Pat := (i, .c ⟨.ptr t, .rf r []⟩)
abbrev pv (i : Nat) (t : Ty) : Nat × Pat := (i, .v t)
theorem fc {α : Type _} {p : α → Prop} {a : α} {l : List α} (h : p a ∧ ∀ x ∈ l, p x) : ∀ x ∈ a :: l, p x := List.forall_mem_cons.2 h
theorem fz {α : Type _} {p : α → Prop} : ∀ x ∈ ([] : List α), p x := List.forall_mem_nil _
noncomputable def ti : List (Nat × TI) := [
  (3, ⟨(TypeDesc.int IntKind.i64), (.int .i64), 8⟩),
  (4, ⟨TypeDesc.bool, .bool, 1⟩),
  (5, ⟨(TypeDesc.int IntKind.u8), (.int .u8), 1⟩),
  (9, ⟨TypeDesc.string, .str, 16⟩),
  (26, ⟨(TypeDesc.int IntKind.i64), (.int .i64), 8⟩),
  (55, ⟨(TypeDesc.array 2 3), (.arr 2 (.int .i64)), 16⟩),
  (56, ⟨(TypeDesc.slice 68), (.sl (.pair .str (.int .i64))), 24⟩),
  (58, ⟨(TypeDesc.pointer 86), (.ptr (.pair (.int .i64) (.pair (.int .i64) (.pair (.sl .str) .mp)))), 8⟩),
  (61, ⟨(TypeDesc.slice 9), (.sl .str), 24⟩),
  (62, ⟨(TypeDesc.slice 3), (.sl (.int .i64)), 24⟩),
  (64, ⟨(TypeDesc.struct #[{ name := "N", type := 3, offset := 0, embedded := false, tag := "", pkgPath := "", byteOffset := 0 }, { name := "M", type := 3, offset := 1, embedded := false, tag := "", pkgPath := "", byteOffset := 8 }, { name := "Keys", type := 61, offset := 2, embedded := false, tag := "", pkgPath := "", byteOffset := 16 }, { name := "Ends", type := 62, offset := 3, embedded := false, tag := "", pkgPath := "", byteOffset := 40 }]), (.pair (.int .i64) (.pair (.int .i64) (.pair (.sl .str) (.sl (.int .i64))))), 64⟩),
  (68, ⟨(TypeDesc.struct #[{ name := "Key", type := 9, offset := 0, embedded := false, tag := "", pkgPath := "", byteOffset := 0 }, { name := "End", type := 3, offset := 1, embedded := false, tag := "", pkgPath := "", byteOffset := 16 }]), (.pair .str (.int .i64)), 24⟩),
  (80, ⟨(TypeDesc.array 4 9), (.arr 4 .str), 64⟩),
  (81, ⟨(TypeDesc.array 4 3), (.arr 4 (.int .i64)), 32⟩),
  (83, ⟨(TypeDesc.slice 5), (.sl (.int .u8)), 24⟩),
  (84, ⟨(TypeDesc.map 3 3), .mp, 8⟩),
  (86, ⟨(TypeDesc.struct #[{ name := "servers", type := 3, offset := 0, embedded := false, tag := "", pkgPath := "sacristy/space", byteOffset := 0 }, { name := "clients", type := 3, offset := 1, embedded := false, tag := "", pkgPath := "sacristy/space", byteOffset := 8 }, { name := "keys", type := 61, offset := 2, embedded := false, tag := "", pkgPath := "sacristy/space", byteOffset := 16 }, { name := "used", type := 84, offset := 3, embedded := false, tag := "", pkgPath := "sacristy/space", byteOffset := 40 }]), (.pair (.int .i64) (.pair (.int .i64) (.pair (.sl .str) .mp))), 48⟩),
  (87, ⟨(TypeDesc.slice 58), (.sl (.ptr (.pair (.int .i64) (.pair (.int .i64) (.pair (.sl .str) .mp))))), 24⟩),
  (100, ⟨(TypeDesc.func #[9, 9] #[3] false), .fn, 8⟩),
  (102, ⟨(TypeDesc.int IntKind.u64), (.int .u64), 8⟩)]
theorem ti3 : TI1 Try.prog ti (3, ⟨(TypeDesc.int IntKind.i64), (.int .i64), 8⟩) where
  under := Try.underlying3
  info := by kernel_rfl
  zero := by kernel_rfl
  shape := rfl
  head := by intro _ h; cases h
  eq := fun h => absurd h (by decide)
theorem ti4 : TI1 Try.prog ti (4, ⟨TypeDesc.bool, .bool, 1⟩) where
  under := Try.underlying4
  info := by kernel_rfl
  zero := by kernel_rfl
  shape := rfl
  head := by intro _ h; cases h
  eq := fun h => absurd h (by decide)
theorem ti5 : TI1 Try.prog ti (5, ⟨(TypeDesc.int IntKind.u8), (.int .u8), 1⟩) where
  under := Try.underlying5
  info := by kernel_rfl
  zero := by kernel_rfl
  shape := rfl
  head := by intro _ h; cases h
  eq := fun h => absurd h (by decide)
theorem ti9 : TI1 Try.prog ti (9, ⟨TypeDesc.string, .str, 16⟩) where
  under := Try.underlying9
  info := by kernel_rfl
  zero := by kernel_rfl
  shape := rfl
  head := by intro _ h; cases h
  eq := fun h => absurd h (by decide)
theorem ti26 : TI1 Try.prog ti (26, ⟨(TypeDesc.int IntKind.i64), (.int .i64), 8⟩) where
  under := Try.underlying26
  info := by kernel_rfl
  zero := by kernel_rfl
  shape := rfl
  head := by intro _ h; cases h
  eq := fun h => absurd h (by decide)
theorem ti55 : TI1 Try.prog ti (55, ⟨(TypeDesc.array 2 3), (.arr 2 (.int .i64)), 16⟩) where
  under := Try.underlying55
  info := by kernel_rfl
  zero := by kernel_rfl
  shape := ⟨_, rfl, rfl, by decide, by decide⟩
  head := by intro _ h; cases h
  eq := fun _ _ => ⟨by kernel_rfl, by kernel_rfl, (by intro fs h; cases h <;> decide), by decide⟩
theorem ti56 : TI1 Try.prog ti (56, ⟨(TypeDesc.slice 68), (.sl (.pair .str (.int .i64))), 24⟩) where
  under := Try.underlying56
  info := by kernel_rfl
  zero := by kernel_rfl
  shape := ⟨_, rfl, rfl, by decide⟩
  head := by intro _ h; cases h
  eq := fun h => absurd h (by decide)
theorem ti58 : TI1 Try.prog ti (58, ⟨(TypeDesc.pointer 86), (.ptr (.pair (.int .i64) (.pair (.int .i64) (.pair (.sl .str) .mp)))), 8⟩) where
  under := Try.underlying58
  info := by kernel_rfl
  zero := by kernel_rfl
  shape := .inl ⟨_, rfl⟩
  head := by intro _ h; cases h
  eq := fun h => absurd h (by decide)
theorem ti61 : TI1 Try.prog ti (61, ⟨(TypeDesc.slice 9), (.sl .str), 24⟩) where
  under := Try.underlying61
  info := by kernel_rfl
  zero := by kernel_rfl
  shape := ⟨_, rfl, rfl, by decide⟩
  head := by intro _ h; cases h
  eq := fun h => absurd h (by decide)
theorem ti62 : TI1 Try.prog ti (62, ⟨(TypeDesc.slice 3), (.sl (.int .i64)), 24⟩) where
  under := Try.underlying62
  info := by kernel_rfl
  zero := by kernel_rfl
  shape := ⟨_, rfl, rfl, by decide⟩
  head := by intro _ h; cases h
  eq := fun h => absurd h (by decide)
theorem ti64 : TI1 Try.prog ti (64, ⟨(TypeDesc.struct #[{ name := "N", type := 3, offset := 0, embedded := false, tag := "", pkgPath := "", byteOffset := 0 }, { name := "M", type := 3, offset := 1, embedded := false, tag := "", pkgPath := "", byteOffset := 8 }, { name := "Keys", type := 61, offset := 2, embedded := false, tag := "", pkgPath := "", byteOffset := 16 }, { name := "Ends", type := 62, offset := 3, embedded := false, tag := "", pkgPath := "", byteOffset := 40 }]), (.pair (.int .i64) (.pair (.int .i64) (.pair (.sl .str) (.sl (.int .i64))))), 64⟩) where
  under := Try.underlying64
  info := by kernel_rfl
  zero := by kernel_rfl
  shape := ⟨rfl, ⟨rfl, by decide, ⟨_, rfl, rfl, by decide⟩, ⟨rfl, by decide, ⟨_, rfl, rfl, by decide⟩, ⟨rfl, by decide, ⟨_, rfl, rfl, by decide⟩, ⟨rfl, by decide, _, rfl, rfl, by decide⟩⟩⟩⟩⟩
  head := by intro _ h; cases h
  eq := fun _ h => absurd h (by decide)
theorem ti68 : TI1 Try.prog ti (68, ⟨(TypeDesc.struct #[{ name := "Key", type := 9, offset := 0, embedded := false, tag := "", pkgPath := "", byteOffset := 0 }, { name := "End", type := 3, offset := 1, embedded := false, tag := "", pkgPath := "", byteOffset := 16 }]), (.pair .str (.int .i64)), 24⟩) where
  under := Try.underlying68
  info := by kernel_rfl
  zero := by kernel_rfl
  shape := ⟨rfl, ⟨rfl, by decide, ⟨_, rfl, rfl, by decide⟩, ⟨rfl, by decide, _, rfl, rfl, by decide⟩⟩⟩
  head := by intro _ h; cases h
  eq := fun _ _ => ⟨by kernel_rfl, by kernel_rfl, (by intro fs h; cases h <;> decide), by decide⟩
theorem ti80 : TI1 Try.prog ti (80, ⟨(TypeDesc.array 4 9), (.arr 4 .str), 64⟩) where
  under := Try.underlying80
  info := by kernel_rfl
  zero := by kernel_rfl
  shape := ⟨_, rfl, rfl, by decide, by decide⟩
  head := by intro _ h; cases h
  eq := fun _ _ => ⟨by kernel_rfl, by kernel_rfl, (by intro fs h; cases h <;> decide), by decide⟩
theorem ti81 : TI1 Try.prog ti (81, ⟨(TypeDesc.array 4 3), (.arr 4 (.int .i64)), 32⟩) where
  under := Try.underlying81
  info := by kernel_rfl
  zero := by kernel_rfl
  shape := ⟨_, rfl, rfl, by decide, by decide⟩
  head := by intro _ h; cases h
  eq := fun _ _ => ⟨by kernel_rfl, by kernel_rfl, (by intro fs h; cases h <;> decide), by decide⟩
theorem ti83 : TI1 Try.prog ti (83, ⟨(TypeDesc.slice 5), (.sl (.int .u8)), 24⟩) where
  under := Try.underlying83
  info := by kernel_rfl
  zero := by kernel_rfl
  shape := ⟨_, rfl, rfl, by decide⟩
  head := by intro _ h; cases h
  eq := fun h => absurd h (by decide)
theorem ti84 : TI1 Try.prog ti (84, ⟨(TypeDesc.map 3 3), .mp, 8⟩) where
  under := Try.underlying84
  info := by kernel_rfl
  zero := by kernel_rfl
  shape := rfl
  head := by intro _ h; cases h
  eq := fun h => absurd h (by decide)
theorem ti86 : TI1 Try.prog ti (86, ⟨(TypeDesc.struct #[{ name := "servers", type := 3, offset := 0, embedded := false, tag := "", pkgPath := "sacristy/space", byteOffset := 0 }, { name := "clients", type := 3, offset := 1, embedded := false, tag := "", pkgPath := "sacristy/space", byteOffset := 8 }, { name := "keys", type := 61, offset := 2, embedded := false, tag := "", pkgPath := "sacristy/space", byteOffset := 16 }, { name := "used", type := 84, offset := 3, embedded := false, tag := "", pkgPath := "sacristy/space", byteOffset := 40 }]), (.pair (.int .i64) (.pair (.int .i64) (.pair (.sl .str) .mp))), 48⟩) where
  under := Try.underlying86
  info := by kernel_rfl
  zero := by kernel_rfl
  shape := ⟨rfl, ⟨rfl, by decide, ⟨_, rfl, rfl, by decide⟩, ⟨rfl, by decide, ⟨_, rfl, rfl, by decide⟩, ⟨rfl, by decide, ⟨_, rfl, rfl, by decide⟩, ⟨rfl, by decide, _, rfl, rfl, by decide⟩⟩⟩⟩⟩
  head := by intro _ h; cases h
  eq := fun _ h => absurd h (by decide)
theorem ti87 : TI1 Try.prog ti (87, ⟨(TypeDesc.slice 58), (.sl (.ptr (.pair (.int .i64) (.pair (.int .i64) (.pair (.sl .str) .mp))))), 24⟩) where
  under := Try.underlying87
  info := by kernel_rfl
  zero := by kernel_rfl
  shape := ⟨_, rfl, rfl, by decide⟩
  head := by intro _ h; cases h
  eq := fun h => absurd h (by decide)
theorem ti100 : TI1 Try.prog ti (100, ⟨(TypeDesc.func #[9, 9] #[3] false), .fn, 8⟩) where
  under := Try.underlying100
  info := by kernel_rfl
  zero := by kernel_rfl
  shape := rfl
  head := by intro _ h; cases h
  eq := fun h => absurd h (by decide)
theorem ti102 : TI1 Try.prog ti (102, ⟨(TypeDesc.int IntKind.u64), (.int .u64), 8⟩) where
  under := Try.underlying102
  info := by kernel_rfl
  zero := by kernel_rfl
  shape := rfl
  head := by intro _ h; cases h
  eq := fun h => absurd h (by decide)
theorem ti_ok : TIok Try.prog ti := TIok.of (List.forall_mem_cons.2 ⟨ti3, List.forall_mem_cons.2 ⟨ti4, List.forall_mem_cons.2 ⟨ti5, List.forall_mem_cons.2 ⟨ti9, List.forall_mem_cons.2 ⟨ti26, List.forall_mem_cons.2 ⟨ti55, List.forall_mem_cons.2 ⟨ti56, List.forall_mem_cons.2 ⟨ti58, List.forall_mem_cons.2 ⟨ti61, List.forall_mem_cons.2 ⟨ti62, List.forall_mem_cons.2 ⟨ti64, List.forall_mem_cons.2 ⟨ti68, List.forall_mem_cons.2 ⟨ti80, List.forall_mem_cons.2 ⟨ti81, List.forall_mem_cons.2 ⟨ti83, List.forall_mem_cons.2 ⟨ti84, List.forall_mem_cons.2 ⟨ti86, List.forall_mem_cons.2 ⟨ti87, List.forall_mem_cons.2 ⟨ti100, List.forall_mem_cons.2 ⟨ti102, List.forall_mem_nil _⟩⟩⟩⟩⟩⟩⟩⟩⟩⟩⟩⟩⟩⟩⟩⟩⟩⟩⟩⟩)
theorem mixed : Try.prog.follows .mixedOrders = true := by kernel_rfl
end Go.Proofs.Ytejjdkhjdcjbbaa
