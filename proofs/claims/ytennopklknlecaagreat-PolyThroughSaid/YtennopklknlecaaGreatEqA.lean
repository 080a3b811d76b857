/-
  The functions of the program are the plain ones.
-/
import Derived.Test.YtennopklknlecaaGreatProg
import Derived.Test.YtennopklknlecaaGreatDenD
import Derived.KernelRfl
import Derived.Test.YtennopklknlecaaGreatPlA
set_option linter.unusedVariables false
set_option linter.unusedSimpArgs false
set_option maxRecDepth 100000
set_option maxHeartbeats 0
namespace Go.Pl
end Go.Pl
open Go Go.Den Go.Pl
namespace Go.Proofs.YtennopklknlecaaGreat
noncomputable def ti : List (Nat × TI) := [
  (3, ⟨(TypeDesc.int IntKind.i64), (.int .i64), 8⟩),
  (4, ⟨TypeDesc.bool, .bool, 1⟩),
  (5, ⟨(TypeDesc.int IntKind.u8), (.int .u8), 1⟩),
  (9, ⟨TypeDesc.string, .str, 16⟩),
  (22, ⟨(TypeDesc.slice 37), (.sl (.arr 4 (.int .u64))), 24⟩),
  (24, ⟨(TypeDesc.pointer 78), (.ptr (.pair (.pair (.ptr (.pair (.arr 4 (.int .u64)) (.pair (.int .u64) (.pair (.arr 4 (.int .u64)) (.arr 4 (.int .u64)))))) (.ptr (.pair (.arr 4 (.int .u64)) (.pair (.int .u64) (.pair (.arr 4 (.int .u64)) (.arr 4 (.int .u64))))))) (.arr 4 (.int .u64)))), 8⟩),
  (27, ⟨(TypeDesc.int IntKind.i64), (.int .i64), 8⟩),
  (30, ⟨(TypeDesc.slice 3), (.sl (.int .i64)), 24⟩),
  (35, ⟨(TypeDesc.int IntKind.u64), (.int .u64), 8⟩),
  (37, ⟨(TypeDesc.array 4 35), (.arr 4 (.int .u64)), 32⟩),
  (43, ⟨(TypeDesc.slice 72), (.sl (.pair (.arr 4 (.int .u64)) (.int .i64))), 24⟩),
  (45, ⟨(TypeDesc.struct #[{ name := "Chain", type := 43, offset := 0, embedded := false, tag := "", pkgPath := "", byteOffset := 0 }, { name := "G", type := 37, offset := 1, embedded := false, tag := "", pkgPath := "", byteOffset := 24 }]), (.pair (.sl (.pair (.arr 4 (.int .u64)) (.int .i64))) (.arr 4 (.int .u64))), 56⟩),
  (52, ⟨(TypeDesc.pointer 96), (.ptr (.pair (.arr 4 (.int .u64)) (.pair (.int .u64) (.pair (.arr 4 (.int .u64)) (.arr 4 (.int .u64)))))), 8⟩),
  (72, ⟨(TypeDesc.struct #[{ name := "N", type := 37, offset := 0, embedded := false, tag := "", pkgPath := "", byteOffset := 0 }, { name := "A", type := 3, offset := 4, embedded := false, tag := "", pkgPath := "", byteOffset := 32 }]), (.pair (.arr 4 (.int .u64)) (.int .i64)), 40⟩),
  (76, ⟨(TypeDesc.struct #[{ name := "ring", type := 52, offset := 0, embedded := false, tag := "", pkgPath := "sacristy/group", byteOffset := 0 }, { name := "field", type := 52, offset := 1, embedded := false, tag := "", pkgPath := "sacristy/group", byteOffset := 8 }]), (.pair (.ptr (.pair (.arr 4 (.int .u64)) (.pair (.int .u64) (.pair (.arr 4 (.int .u64)) (.arr 4 (.int .u64)))))) (.ptr (.pair (.arr 4 (.int .u64)) (.pair (.int .u64) (.pair (.arr 4 (.int .u64)) (.arr 4 (.int .u64))))))), 16⟩),
  (78, ⟨(TypeDesc.struct #[{ name := "rings", type := 76, offset := 0, embedded := true, tag := "", pkgPath := "sacristy/group", byteOffset := 0 }, { name := "g", type := 37, offset := 2, embedded := false, tag := "", pkgPath := "sacristy/group", byteOffset := 16 }]), (.pair (.pair (.ptr (.pair (.arr 4 (.int .u64)) (.pair (.int .u64) (.pair (.arr 4 (.int .u64)) (.arr 4 (.int .u64)))))) (.ptr (.pair (.arr 4 (.int .u64)) (.pair (.int .u64) (.pair (.arr 4 (.int .u64)) (.arr 4 (.int .u64))))))) (.arr 4 (.int .u64))), 48⟩),
  (80, ⟨(TypeDesc.array 256 4), (.arr 256 .bool), 256⟩),
  (96, ⟨(TypeDesc.struct #[{ name := "m", type := 37, offset := 0, embedded := false, tag := "", pkgPath := "sacristy/mont", byteOffset := 0 }, { name := "inv", type := 35, offset := 4, embedded := false, tag := "", pkgPath := "sacristy/mont", byteOffset := 32 }, { name := "one", type := 37, offset := 5, embedded := false, tag := "", pkgPath := "sacristy/mont", byteOffset := 40 }, { name := "square", type := 37, offset := 9, embedded := false, tag := "", pkgPath := "sacristy/mont", byteOffset := 72 }]), (.pair (.arr 4 (.int .u64)) (.pair (.int .u64) (.pair (.arr 4 (.int .u64)) (.arr 4 (.int .u64))))), 104⟩),
  (106, ⟨(TypeDesc.array 32 3), (.arr 32 (.int .i64)), 256⟩),
  (117, ⟨(TypeDesc.int IntKind.u64), (.int .u64), 8⟩),
  (118, ⟨(TypeDesc.slice 119), (.sl (.arr 16 (.arr 4 (.int .u64)))), 24⟩),
  (119, ⟨(TypeDesc.array 16 37), (.arr 16 (.arr 4 (.int .u64))), 512⟩),
  (122, ⟨(TypeDesc.array 6 35), (.arr 6 (.int .u64)), 48⟩),
  (124, ⟨(TypeDesc.slice 35), (.sl (.int .u64)), 24⟩),
  (131, ⟨(TypeDesc.array 8 35), (.arr 8 (.int .u64)), 64⟩)]
theorem ti3 : TI1 Tryz.prog ti (3, ⟨(TypeDesc.int IntKind.i64), (.int .i64), 8⟩) where
  under := Tryz.underlying3
  info := by kernel_rfl
  zero := by kernel_rfl
  shape := rfl
  eq := fun h => absurd h (by decide)
theorem ti4 : TI1 Tryz.prog ti (4, ⟨TypeDesc.bool, .bool, 1⟩) where
  under := Tryz.underlying4
  info := by kernel_rfl
  zero := by kernel_rfl
  shape := rfl
  eq := fun h => absurd h (by decide)
theorem ti5 : TI1 Tryz.prog ti (5, ⟨(TypeDesc.int IntKind.u8), (.int .u8), 1⟩) where
  under := Tryz.underlying5
  info := by kernel_rfl
  zero := by kernel_rfl
  shape := rfl
  eq := fun h => absurd h (by decide)
theorem ti9 : TI1 Tryz.prog ti (9, ⟨TypeDesc.string, .str, 16⟩) where
  under := Tryz.underlying9
  info := by kernel_rfl
  zero := by kernel_rfl
  shape := rfl
  eq := fun h => absurd h (by decide)
theorem ti22 : TI1 Tryz.prog ti (22, ⟨(TypeDesc.slice 37), (.sl (.arr 4 (.int .u64))), 24⟩) where
  under := Tryz.underlying22
  info := by kernel_rfl
  zero := by kernel_rfl
  shape := ⟨_, rfl, rfl, by decide⟩
  eq := fun h => absurd h (by decide)
theorem ti24 : TI1 Tryz.prog ti (24, ⟨(TypeDesc.pointer 78), (.ptr (.pair (.pair (.ptr (.pair (.arr 4 (.int .u64)) (.pair (.int .u64) (.pair (.arr 4 (.int .u64)) (.arr 4 (.int .u64)))))) (.ptr (.pair (.arr 4 (.int .u64)) (.pair (.int .u64) (.pair (.arr 4 (.int .u64)) (.arr 4 (.int .u64))))))) (.arr 4 (.int .u64)))), 8⟩) where
  under := Tryz.underlying24
  info := by kernel_rfl
  zero := by kernel_rfl
  shape := ⟨_, rfl⟩
  eq := fun h => absurd h (by decide)
theorem ti27 : TI1 Tryz.prog ti (27, ⟨(TypeDesc.int IntKind.i64), (.int .i64), 8⟩) where
  under := Tryz.underlying27
  info := by kernel_rfl
  zero := by kernel_rfl
  shape := rfl
  eq := fun h => absurd h (by decide)
theorem ti30 : TI1 Tryz.prog ti (30, ⟨(TypeDesc.slice 3), (.sl (.int .i64)), 24⟩) where
  under := Tryz.underlying30
  info := by kernel_rfl
  zero := by kernel_rfl
  shape := ⟨_, rfl, rfl, by decide⟩
  eq := fun h => absurd h (by decide)
theorem ti35 : TI1 Tryz.prog ti (35, ⟨(TypeDesc.int IntKind.u64), (.int .u64), 8⟩) where
  under := Tryz.underlying35
  info := by kernel_rfl
  zero := by kernel_rfl
  shape := rfl
  eq := fun h => absurd h (by decide)
theorem ti37 : TI1 Tryz.prog ti (37, ⟨(TypeDesc.array 4 35), (.arr 4 (.int .u64)), 32⟩) where
  under := Tryz.underlying37
  info := by kernel_rfl
  zero := by kernel_rfl
  shape := ⟨_, rfl, rfl, by decide, by decide⟩
  eq := fun _ _ => ⟨by kernel_rfl, by kernel_rfl, (by intro fs h; cases h <;> decide), by decide⟩
theorem ti43 : TI1 Tryz.prog ti (43, ⟨(TypeDesc.slice 72), (.sl (.pair (.arr 4 (.int .u64)) (.int .i64))), 24⟩) where
  under := Tryz.underlying43
  info := by kernel_rfl
  zero := by kernel_rfl
  shape := ⟨_, rfl, rfl, by decide⟩
  eq := fun h => absurd h (by decide)
theorem ti45 : TI1 Tryz.prog ti (45, ⟨(TypeDesc.struct #[{ name := "Chain", type := 43, offset := 0, embedded := false, tag := "", pkgPath := "", byteOffset := 0 }, { name := "G", type := 37, offset := 1, embedded := false, tag := "", pkgPath := "", byteOffset := 24 }]), (.pair (.sl (.pair (.arr 4 (.int .u64)) (.int .i64))) (.arr 4 (.int .u64))), 56⟩) where
  under := Tryz.underlying45
  info := by kernel_rfl
  zero := by kernel_rfl
  shape := ⟨rfl, ⟨rfl, by decide, ⟨_, rfl, rfl, by decide⟩, ⟨rfl, by decide, _, rfl, rfl, by decide⟩⟩⟩
  eq := fun _ h => absurd h (by decide)
theorem ti52 : TI1 Tryz.prog ti (52, ⟨(TypeDesc.pointer 96), (.ptr (.pair (.arr 4 (.int .u64)) (.pair (.int .u64) (.pair (.arr 4 (.int .u64)) (.arr 4 (.int .u64)))))), 8⟩) where
  under := Tryz.underlying52
  info := by kernel_rfl
  zero := by kernel_rfl
  shape := ⟨_, rfl⟩
  eq := fun h => absurd h (by decide)
theorem ti72 : TI1 Tryz.prog ti (72, ⟨(TypeDesc.struct #[{ name := "N", type := 37, offset := 0, embedded := false, tag := "", pkgPath := "", byteOffset := 0 }, { name := "A", type := 3, offset := 4, embedded := false, tag := "", pkgPath := "", byteOffset := 32 }]), (.pair (.arr 4 (.int .u64)) (.int .i64)), 40⟩) where
  under := Tryz.underlying72
  info := by kernel_rfl
  zero := by kernel_rfl
  shape := ⟨rfl, ⟨rfl, by decide, ⟨_, rfl, rfl, by decide⟩, ⟨rfl, by decide, _, rfl, rfl, by decide⟩⟩⟩
  eq := fun _ _ => ⟨by kernel_rfl, by kernel_rfl, (by intro fs h; cases h <;> decide), by decide⟩
theorem ti76 : TI1 Tryz.prog ti (76, ⟨(TypeDesc.struct #[{ name := "ring", type := 52, offset := 0, embedded := false, tag := "", pkgPath := "sacristy/group", byteOffset := 0 }, { name := "field", type := 52, offset := 1, embedded := false, tag := "", pkgPath := "sacristy/group", byteOffset := 8 }]), (.pair (.ptr (.pair (.arr 4 (.int .u64)) (.pair (.int .u64) (.pair (.arr 4 (.int .u64)) (.arr 4 (.int .u64)))))) (.ptr (.pair (.arr 4 (.int .u64)) (.pair (.int .u64) (.pair (.arr 4 (.int .u64)) (.arr 4 (.int .u64))))))), 16⟩) where
  under := Tryz.underlying76
  info := by kernel_rfl
  zero := by kernel_rfl
  shape := ⟨rfl, ⟨rfl, by decide, ⟨_, rfl, rfl, by decide⟩, ⟨rfl, by decide, _, rfl, rfl, by decide⟩⟩⟩
  eq := fun _ h => absurd h (by decide)
theorem ti78 : TI1 Tryz.prog ti (78, ⟨(TypeDesc.struct #[{ name := "rings", type := 76, offset := 0, embedded := true, tag := "", pkgPath := "sacristy/group", byteOffset := 0 }, { name := "g", type := 37, offset := 2, embedded := false, tag := "", pkgPath := "sacristy/group", byteOffset := 16 }]), (.pair (.pair (.ptr (.pair (.arr 4 (.int .u64)) (.pair (.int .u64) (.pair (.arr 4 (.int .u64)) (.arr 4 (.int .u64)))))) (.ptr (.pair (.arr 4 (.int .u64)) (.pair (.int .u64) (.pair (.arr 4 (.int .u64)) (.arr 4 (.int .u64))))))) (.arr 4 (.int .u64))), 48⟩) where
  under := Tryz.underlying78
  info := by kernel_rfl
  zero := by kernel_rfl
  shape := ⟨rfl, ⟨rfl, by decide, ⟨_, rfl, rfl, by decide⟩, ⟨rfl, by decide, _, rfl, rfl, by decide⟩⟩⟩
  eq := fun _ h => absurd h (by decide)
theorem ti80 : TI1 Tryz.prog ti (80, ⟨(TypeDesc.array 256 4), (.arr 256 .bool), 256⟩) where
  under := Tryz.underlying80
  info := by kernel_rfl
  zero := by kernel_rfl
  shape := ⟨_, rfl, rfl, by decide, by decide⟩
  eq := fun _ _ => ⟨by kernel_rfl, by kernel_rfl, (by intro fs h; cases h <;> decide), by decide⟩
theorem ti96 : TI1 Tryz.prog ti (96, ⟨(TypeDesc.struct #[{ name := "m", type := 37, offset := 0, embedded := false, tag := "", pkgPath := "sacristy/mont", byteOffset := 0 }, { name := "inv", type := 35, offset := 4, embedded := false, tag := "", pkgPath := "sacristy/mont", byteOffset := 32 }, { name := "one", type := 37, offset := 5, embedded := false, tag := "", pkgPath := "sacristy/mont", byteOffset := 40 }, { name := "square", type := 37, offset := 9, embedded := false, tag := "", pkgPath := "sacristy/mont", byteOffset := 72 }]), (.pair (.arr 4 (.int .u64)) (.pair (.int .u64) (.pair (.arr 4 (.int .u64)) (.arr 4 (.int .u64))))), 104⟩) where
  under := Tryz.underlying96
  info := by kernel_rfl
  zero := by kernel_rfl
  shape := ⟨rfl, ⟨rfl, by decide, ⟨_, rfl, rfl, by decide⟩, ⟨rfl, by decide, ⟨_, rfl, rfl, by decide⟩, ⟨rfl, by decide, ⟨_, rfl, rfl, by decide⟩, ⟨rfl, by decide, _, rfl, rfl, by decide⟩⟩⟩⟩⟩
  eq := fun _ _ => ⟨by kernel_rfl, by kernel_rfl, (by intro fs h; cases h <;> decide), by decide⟩
theorem ti106 : TI1 Tryz.prog ti (106, ⟨(TypeDesc.array 32 3), (.arr 32 (.int .i64)), 256⟩) where
  under := Tryz.underlying106
  info := by kernel_rfl
  zero := by kernel_rfl
  shape := ⟨_, rfl, rfl, by decide, by decide⟩
  eq := fun _ _ => ⟨by kernel_rfl, by kernel_rfl, (by intro fs h; cases h <;> decide), by decide⟩
theorem ti117 : TI1 Tryz.prog ti (117, ⟨(TypeDesc.int IntKind.u64), (.int .u64), 8⟩) where
  under := Tryz.underlying117
  info := by kernel_rfl
  zero := by kernel_rfl
  shape := rfl
  eq := fun h => absurd h (by decide)
theorem ti118 : TI1 Tryz.prog ti (118, ⟨(TypeDesc.slice 119), (.sl (.arr 16 (.arr 4 (.int .u64)))), 24⟩) where
  under := Tryz.underlying118
  info := by kernel_rfl
  zero := by kernel_rfl
  shape := ⟨_, rfl, rfl, by decide⟩
  eq := fun h => absurd h (by decide)
theorem ti119 : TI1 Tryz.prog ti (119, ⟨(TypeDesc.array 16 37), (.arr 16 (.arr 4 (.int .u64))), 512⟩) where
  under := Tryz.underlying119
  info := by kernel_rfl
  zero := by kernel_rfl
  shape := ⟨_, rfl, rfl, by decide, by decide⟩
  eq := fun _ _ => ⟨by kernel_rfl, by kernel_rfl, (by intro fs h; cases h <;> decide), by decide⟩
theorem ti122 : TI1 Tryz.prog ti (122, ⟨(TypeDesc.array 6 35), (.arr 6 (.int .u64)), 48⟩) where
  under := Tryz.underlying122
  info := by kernel_rfl
  zero := by kernel_rfl
  shape := ⟨_, rfl, rfl, by decide, by decide⟩
  eq := fun _ _ => ⟨by kernel_rfl, by kernel_rfl, (by intro fs h; cases h <;> decide), by decide⟩
theorem ti124 : TI1 Tryz.prog ti (124, ⟨(TypeDesc.slice 35), (.sl (.int .u64)), 24⟩) where
  under := Tryz.underlying124
  info := by kernel_rfl
  zero := by kernel_rfl
  shape := ⟨_, rfl, rfl, by decide⟩
  eq := fun h => absurd h (by decide)
theorem ti131 : TI1 Tryz.prog ti (131, ⟨(TypeDesc.array 8 35), (.arr 8 (.int .u64)), 64⟩) where
  under := Tryz.underlying131
  info := by kernel_rfl
  zero := by kernel_rfl
  shape := ⟨_, rfl, rfl, by decide, by decide⟩
  eq := fun _ _ => ⟨by kernel_rfl, by kernel_rfl, (by intro fs h; cases h <;> decide), by decide⟩
theorem ti_ok : TIok Tryz.prog ti := TIok.of (List.forall_mem_cons.2 ⟨ti3, List.forall_mem_cons.2 ⟨ti4, List.forall_mem_cons.2 ⟨ti5, List.forall_mem_cons.2 ⟨ti9, List.forall_mem_cons.2 ⟨ti22, List.forall_mem_cons.2 ⟨ti24, List.forall_mem_cons.2 ⟨ti27, List.forall_mem_cons.2 ⟨ti30, List.forall_mem_cons.2 ⟨ti35, List.forall_mem_cons.2 ⟨ti37, List.forall_mem_cons.2 ⟨ti43, List.forall_mem_cons.2 ⟨ti45, List.forall_mem_cons.2 ⟨ti52, List.forall_mem_cons.2 ⟨ti72, List.forall_mem_cons.2 ⟨ti76, List.forall_mem_cons.2 ⟨ti78, List.forall_mem_cons.2 ⟨ti80, List.forall_mem_cons.2 ⟨ti96, List.forall_mem_cons.2 ⟨ti106, List.forall_mem_cons.2 ⟨ti117, List.forall_mem_cons.2 ⟨ti118, List.forall_mem_cons.2 ⟨ti119, List.forall_mem_cons.2 ⟨ti122, List.forall_mem_cons.2 ⟨ti124, List.forall_mem_cons.2 ⟨ti131, List.forall_mem_nil _⟩⟩⟩⟩⟩⟩⟩⟩⟩⟩⟩⟩⟩⟩⟩⟩⟩⟩⟩⟩⟩⟩⟩⟩⟩)
theorem mixed : Tryz.prog.follows .mixedOrders = true := by kernel_rfl
noncomputable def c_sub64 : Con := conV false [u64, u64, u64] [u64, u64] fun x => sub64 x.1 x.2.1 x.2.2.1
theorem con_sub64 : ConOk Tryz.prog 94 c_sub64 := sub64_ok Tryz.func94 (by kernel_rfl) (by kernel_rfl) (by kernel_rfl) (by kernel_rfl)
noncomputable def c_add64 : Con := conV false [u64, u64, u64] [u64, u64] fun x => add64 x.1 x.2.1 x.2.2.1
theorem con_add64 : ConOk Tryz.prog 95 c_add64 := add64_ok Tryz.func95 (by kernel_rfl) (by kernel_rfl) (by kernel_rfl) (by kernel_rfl)
end Go.Proofs.YtennopklknlecaaGreat

set_option linter.unusedVariables false
set_option linter.unusedSimpArgs false
set_option maxRecDepth 100000
set_option maxHeartbeats 0
namespace Go.Pl
end Go.Pl
open Go Go.Den Go.Pl
namespace Go.Proofs.YtennopklknlecaaGreat
noncomputable def c_bits_Len64 : Con := conV true [(.int .u64)] [(.int .i64)] fun x => bits_Len64 x.1
noncomputable def x_bits_Len64 : Cx := { ti := ti, con := [], fns := [], un := 6 }
theorem xok_bits_Len64 : CxOk Tryz.prog x_bits_Len64 := CxOk.of mixed ti_ok (List.forall_mem_nil _) (List.forall_mem_nil _)
theorem fn_bits_Len64 : FnOk Tryz.prog 70 Tryz.f70 [] := ⟨Tryz.func70, Tryz.call70, lps_nil⟩
theorem e_bits_Len64 (x : Int) : bodyK x_bits_Len64 [] (denF x_bits_Len64 8) Tryz.f70 (domV [(.int .u64)] (x, ())) [] 0 (kOut [(.int .i64)]) = bits_Len64' x := by kernel_rfl
theorem con_bits_Len64 : ConOk Tryz.prog 70 c_bits_Len64 := con_ok xok_bits_Len64 8 fn_bits_Len64 true [(.int .u64)] [(.int .i64)] _ (by decide) (fun x => by rw [bits_Len64_eq]; exact e_bits_Len64 x.1)
noncomputable def c_bits_LeadingZeros64 : Con := conV true [(.int .u64)] [(.int .i64)] fun x => bits_LeadingZeros64 x.1
noncomputable def x_bits_LeadingZeros64 : Cx := { ti := ti, con := [(70, c_bits_Len64)], fns := [], un := 6 }
theorem xok_bits_LeadingZeros64 : CxOk Tryz.prog x_bits_LeadingZeros64 := CxOk.of mixed ti_ok (List.forall_mem_cons.2 ⟨con_bits_Len64, List.forall_mem_nil _⟩) (List.forall_mem_nil _)
theorem fn_bits_LeadingZeros64 : FnOk Tryz.prog 100 Tryz.f100 [] := ⟨Tryz.func100, Tryz.call100, lps_nil⟩
theorem e_bits_LeadingZeros64 (x : Int) : bodyK x_bits_LeadingZeros64 [] (denF x_bits_LeadingZeros64 8) Tryz.f100 (domV [(.int .u64)] (x, ())) [] 0 (kOut [(.int .i64)]) = bits_LeadingZeros64' x := by kernel_rfl
theorem con_bits_LeadingZeros64 : ConOk Tryz.prog 100 c_bits_LeadingZeros64 := con_ok xok_bits_LeadingZeros64 8 fn_bits_LeadingZeros64 true [(.int .u64)] [(.int .i64)] _ (by decide) (fun x => by rw [bits_LeadingZeros64_eq]; exact e_bits_LeadingZeros64 x.1)
abbrev S_bits_Div64_0 : Shape := { sl := [(2, (.v (.int .u64))), (8, (.v (.int .u64))), (9, (.v (.int .u64))), (10, (.v (.int .u64))), (11, (.v (.int .u64))), (13, (.v (.int .u64))), (14, (.v (.int .u64))), (15, (.v (.int .u64))), (16, (.v (.int .u64)))], ob := [], lo := 0, nx := 0 }
abbrev E_bits_Div64_0 : List Ex := [(.normal, { sl := [(2, (.v (.int .u64))), (8, (.v (.int .u64))), (9, (.v (.int .u64))), (10, (.v (.int .u64))), (11, (.v (.int .u64))), (13, (.v (.int .u64))), (14, (.v (.int .u64))), (15, (.v (.int .u64)))], ob := [], lo := 0, nx := 0 })]
noncomputable def L_bits_Div64_0 : Code := loopIn (bodyOf Tryz.f86) 0
noncomputable def P_bits_Div64_0 : Lp := lpOf S_bits_Div64_0 E_bits_Div64_0 135 R_bits_Div64_0
abbrev S_bits_Div64_2 : Shape := { sl := [(2, (.v (.int .u64))), (8, (.v (.int .u64))), (9, (.v (.int .u64))), (10, (.v (.int .u64))), (14, (.v (.int .u64))), (15, (.v (.int .u64))), (16, (.v (.int .u64))), (17, (.v (.int .u64))), (18, (.v (.int .u64)))], ob := [], lo := 0, nx := 0 }
abbrev E_bits_Div64_2 : List Ex := [(.normal, { sl := [(2, (.v (.int .u64))), (8, (.v (.int .u64))), (14, (.v (.int .u64))), (15, (.v (.int .u64))), (17, (.v (.int .u64))), (18, (.v (.int .u64)))], ob := [], lo := 0, nx := 0 })]
noncomputable def L_bits_Div64_2 : Code := loopIn (bodyOf Tryz.f86) 2
noncomputable def P_bits_Div64_2 : Lp := lpOf S_bits_Div64_2 E_bits_Div64_2 135 R_bits_Div64_2
noncomputable def c_bits_Div64 : Con := conV true [(.int .u64), (.int .u64), (.int .u64)] [(.int .u64), (.int .u64)] fun x => bits_Div64 x.1 x.2.1 x.2.2.1
noncomputable def x_bits_Div64 : Cx := { ti := ti, con := [(100, c_bits_LeadingZeros64)], fns := [], un := 6 }
theorem xok_bits_Div64 : CxOk Tryz.prog x_bits_Div64 := CxOk.of mixed ti_ok (List.forall_mem_cons.2 ⟨con_bits_LeadingZeros64, List.forall_mem_nil _⟩) (List.forall_mem_nil _)
theorem r_bits_Div64_0 (x : S_bits_Div64_0.X) : denC x_bits_Div64 [] (denF x_bits_Div64 8) L_bits_Div64_0 (S_bits_Div64_0.mkS 135 x) (kRound 0 S_bits_Div64_0 E_bits_Div64_0) = R_bits_Div64_0 x := by kernel_rfl
theorem l_bits_Div64_0 : LpOk Tryz.prog 0 (.loop L_bits_Div64_0) P_bits_Div64_0 := lpOf_ok xok_bits_Div64 8 (lps_nil) S_bits_Div64_0 E_bits_Div64_0 135 R_bits_Div64_0 (by decide) r_bits_Div64_0
theorem r_bits_Div64_2 (x : S_bits_Div64_2.X) : denC x_bits_Div64 [] (denF x_bits_Div64 8) L_bits_Div64_2 (S_bits_Div64_2.mkS 135 x) (kRound 2 S_bits_Div64_2 E_bits_Div64_2) = R_bits_Div64_2 x := by kernel_rfl
theorem l_bits_Div64_2 : LpOk Tryz.prog 2 (.loop L_bits_Div64_2) P_bits_Div64_2 := lpOf_ok xok_bits_Div64 8 (lps_nil) S_bits_Div64_2 E_bits_Div64_2 135 R_bits_Div64_2 (by decide) r_bits_Div64_2
theorem fn_bits_Div64 : FnOk Tryz.prog 86 Tryz.f86 [(0, P_bits_Div64_0), (2, P_bits_Div64_2)] := ⟨Tryz.func86, Tryz.call86, lps_of (by kernel_rfl) (lps_one l_bits_Div64_0 (by kernel_rfl) (lps_one l_bits_Div64_2 (by kernel_rfl) (List.forall_mem_nil _)))⟩
theorem e_bits_Div64 (hi : Int) (lo : Int) (y : Int) : bodyK x_bits_Div64 [(0, P_bits_Div64_0), (2, P_bits_Div64_2)] (denF x_bits_Div64 8) Tryz.f86 (domV [(.int .u64), (.int .u64), (.int .u64)] (hi, lo, y, ())) [] 0 (kOut [(.int .u64), (.int .u64)]) = bits_Div64' hi lo y := by kernel_rfl
theorem con_bits_Div64 : ConOk Tryz.prog 86 c_bits_Div64 := con_ok xok_bits_Div64 8 fn_bits_Div64 true [(.int .u64), (.int .u64), (.int .u64)] [(.int .u64), (.int .u64)] _ (by decide) (fun x => by rw [bits_Div64_eq]; exact e_bits_Div64 x.1 x.2.1 x.2.2.1)
noncomputable def c_bits_Mul64 : Con := conV true [(.int .u64), (.int .u64)] [(.int .u64), (.int .u64)] fun x => bits_Mul64 x.1 x.2.1
noncomputable def x_bits_Mul64 : Cx := { ti := ti, con := [], fns := [], un := 6 }
theorem xok_bits_Mul64 : CxOk Tryz.prog x_bits_Mul64 := CxOk.of mixed ti_ok (List.forall_mem_nil _) (List.forall_mem_nil _)
theorem fn_bits_Mul64 : FnOk Tryz.prog 85 Tryz.f85 [] := ⟨Tryz.func85, Tryz.call85, lps_nil⟩
theorem e_bits_Mul64 (x : Int) (y : Int) : bodyK x_bits_Mul64 [] (denF x_bits_Mul64 8) Tryz.f85 (domV [(.int .u64), (.int .u64)] (x, y, ())) [] 0 (kOut [(.int .u64), (.int .u64)]) = bits_Mul64' x y := by kernel_rfl
theorem con_bits_Mul64 : ConOk Tryz.prog 85 c_bits_Mul64 := con_ok xok_bits_Mul64 8 fn_bits_Mul64 true [(.int .u64), (.int .u64)] [(.int .u64), (.int .u64)] _ (by decide) (fun x => by rw [bits_Mul64_eq]; exact e_bits_Mul64 x.1 x.2.1)
end Go.Proofs.YtennopklknlecaaGreat

set_option linter.unusedVariables false
set_option linter.unusedSimpArgs false
set_option maxRecDepth 100000
set_option maxHeartbeats 0
namespace Go.Pl
end Go.Pl
open Go Go.Den Go.Pl
namespace Go.Proofs.YtennopklknlecaaGreat
noncomputable def c_nat_Int : Con := conV true [(.arr 4 (.int .u64))] [(.int .i64), .bool] fun x => nat_Int x.1
noncomputable def x_nat_Int : Cx := { ti := ti, con := [], fns := [], un := 6 }
theorem xok_nat_Int : CxOk Tryz.prog x_nat_Int := CxOk.of mixed ti_ok (List.forall_mem_nil _) (List.forall_mem_nil _)
theorem fn_nat_Int : FnOk Tryz.prog 65 Tryz.f65 [] := ⟨Tryz.func65, Tryz.call65, lps_nil⟩
theorem e_nat_Int (a : (Nat → Int)) : bodyK x_nat_Int [] (denF x_nat_Int 8) Tryz.f65 (domV [(.arr 4 (.int .u64))] (a, ())) [] 0 (kOut [(.int .i64), .bool]) = nat_Int' a := by kernel_rfl
theorem con_nat_Int : ConOk Tryz.prog 65 c_nat_Int := con_ok xok_nat_Int 8 fn_nat_Int true [(.arr 4 (.int .u64))] [(.int .i64), .bool] _ (by decide) (fun x => by rw [nat_Int_eq]; exact e_nat_Int x.1)
noncomputable def c_nat_Of : Con := conV true [(.int .i64)] [(.arr 4 (.int .u64))] fun x => nat_Of x.1
noncomputable def x_nat_Of : Cx := { ti := ti, con := [], fns := [], un := 6 }
theorem xok_nat_Of : CxOk Tryz.prog x_nat_Of := CxOk.of mixed ti_ok (List.forall_mem_nil _) (List.forall_mem_nil _)
theorem fn_nat_Of : FnOk Tryz.prog 42 Tryz.f42 [] := ⟨Tryz.func42, Tryz.call42, lps_nil⟩
theorem e_nat_Of (n : Int) : bodyK x_nat_Of [] (denF x_nat_Of 8) Tryz.f42 (domV [(.int .i64)] (n, ())) [] 0 (kOut [(.arr 4 (.int .u64))]) = nat_Of' n := by kernel_rfl
theorem con_nat_Of : ConOk Tryz.prog 42 c_nat_Of := con_ok xok_nat_Of 8 fn_nat_Of true [(.int .i64)] [(.arr 4 (.int .u64))] _ (by decide) (fun x => by rw [nat_Of_eq]; exact e_nat_Of x.1)
noncomputable def c_nat_Bit : Con := conV true [(.arr 4 (.int .u64)), (.int .i64)] [(.int .i64)] fun x => nat_Bit x.1 x.2.1
noncomputable def x_nat_Bit : Cx := { ti := ti, con := [], fns := [], un := 6 }
theorem xok_nat_Bit : CxOk Tryz.prog x_nat_Bit := CxOk.of mixed ti_ok (List.forall_mem_nil _) (List.forall_mem_nil _)
theorem fn_nat_Bit : FnOk Tryz.prog 103 Tryz.f103 [] := ⟨Tryz.func103, Tryz.call103, lps_nil⟩
theorem e_nat_Bit (a : (Nat → Int)) (k : Int) : bodyK x_nat_Bit [] (denF x_nat_Bit 8) Tryz.f103 (domV [(.arr 4 (.int .u64)), (.int .i64)] (a, k, ())) [] 0 (kOut [(.int .i64)]) = nat_Bit' a k := by kernel_rfl
theorem con_nat_Bit : ConOk Tryz.prog 103 c_nat_Bit := con_ok xok_nat_Bit 8 fn_nat_Bit true [(.arr 4 (.int .u64)), (.int .i64)] [(.int .i64)] _ (by decide) (fun x => by rw [nat_Bit_eq]; exact e_nat_Bit x.1 x.2.1)
abbrev S_nat_Up_0 : Shape := { sl := [(2, (.c ⟨(.ptr (.arr 4 (.int .u64))), (.rf 0 [])⟩)), (4, (.c ⟨(.ptr (.arr 4 (.int .u64))), (.rf 1 [])⟩)), (5, (.c ⟨(.ptr (.arr 4 (.int .u64))), (.rf 2 [])⟩)), (6, (.v (.int .i64))), (7, (.v (.int .i64))), (8, (.v (.int .i64)))], ob := [(0, (.v (.arr 4 (.int .u64)))), (1, (.v (.arr 4 (.int .u64)))), (2, (.v (.arr 4 (.int .u64))))], lo := 3, nx := 3 }
abbrev E_nat_Up_0 : List Ex := [(.normal, { sl := [(4, (.c ⟨(.ptr (.arr 4 (.int .u64))), (.rf 1 [])⟩)), (5, (.c ⟨(.ptr (.arr 4 (.int .u64))), (.rf 2 [])⟩))], ob := [(1, (.v (.arr 4 (.int .u64)))), (2, (.v (.arr 4 (.int .u64))))], lo := 3, nx := 3 })]
noncomputable def L_nat_Up_0 : Code := loopIn (bodyOf Tryz.f93) 0
noncomputable def P_nat_Up_0 : Lp := lpOf S_nat_Up_0 E_nat_Up_0 51 R_nat_Up_0
noncomputable def c_nat_Up : Con := conV true [(.arr 4 (.int .u64)), (.int .i64)] [(.arr 4 (.int .u64))] fun x => nat_Up x.1 x.2.1
noncomputable def x_nat_Up : Cx := { ti := ti, con := [], fns := [], un := 6 }
theorem xok_nat_Up : CxOk Tryz.prog x_nat_Up := CxOk.of mixed ti_ok (List.forall_mem_nil _) (List.forall_mem_nil _)
theorem r_nat_Up_0 (x : S_nat_Up_0.X) : denC x_nat_Up [] (denF x_nat_Up 8) L_nat_Up_0 (S_nat_Up_0.mkS 51 x) (kRound 0 S_nat_Up_0 E_nat_Up_0) = R_nat_Up_0 x := by kernel_rfl
theorem l_nat_Up_0 : LpOk Tryz.prog 0 (.loop L_nat_Up_0) P_nat_Up_0 := lpOf_ok xok_nat_Up 8 (lps_nil) S_nat_Up_0 E_nat_Up_0 51 R_nat_Up_0 (by decide) r_nat_Up_0
theorem fn_nat_Up : FnOk Tryz.prog 93 Tryz.f93 [(0, P_nat_Up_0)] := ⟨Tryz.func93, Tryz.call93, lps_of (by kernel_rfl) (lps_one l_nat_Up_0 (by kernel_rfl) (List.forall_mem_nil _))⟩
theorem e_nat_Up (a : (Nat → Int)) (k : Int) : bodyK x_nat_Up [(0, P_nat_Up_0)] (denF x_nat_Up 8) Tryz.f93 (domV [(.arr 4 (.int .u64)), (.int .i64)] (a, k, ())) [] 0 (kOut [(.arr 4 (.int .u64))]) = nat_Up' a k := by kernel_rfl
theorem con_nat_Up : ConOk Tryz.prog 93 c_nat_Up := con_ok xok_nat_Up 8 fn_nat_Up true [(.arr 4 (.int .u64)), (.int .i64)] [(.arr 4 (.int .u64))] _ (by decide) (fun x => by rw [nat_Up_eq]; exact e_nat_Up x.1 x.2.1)
noncomputable def c_nat_Sub : Con := conV true [(.arr 4 (.int .u64)), (.arr 4 (.int .u64))] [(.arr 4 (.int .u64)), (.int .i64)] fun x => nat_Sub x.1 x.2.1
noncomputable def x_nat_Sub : Cx := { ti := ti, con := [(94, c_sub64)], fns := [], un := 6 }
theorem xok_nat_Sub : CxOk Tryz.prog x_nat_Sub := CxOk.of mixed ti_ok (List.forall_mem_cons.2 ⟨con_sub64, List.forall_mem_nil _⟩) (List.forall_mem_nil _)
theorem fn_nat_Sub : FnOk Tryz.prog 74 Tryz.f74 [] := ⟨Tryz.func74, Tryz.call74, lps_nil⟩
theorem e_nat_Sub (a : (Nat → Int)) (b : (Nat → Int)) : bodyK x_nat_Sub [] (denF x_nat_Sub 8) Tryz.f74 (domV [(.arr 4 (.int .u64)), (.arr 4 (.int .u64))] (a, b, ())) [] 0 (kOut [(.arr 4 (.int .u64)), (.int .i64)]) = nat_Sub' a b := by kernel_rfl
theorem con_nat_Sub : ConOk Tryz.prog 74 c_nat_Sub := con_ok xok_nat_Sub 8 fn_nat_Sub true [(.arr 4 (.int .u64)), (.arr 4 (.int .u64))] [(.arr 4 (.int .u64)), (.int .i64)] _ (by decide) (fun x => by rw [nat_Sub_eq]; exact e_nat_Sub x.1 x.2.1)
noncomputable def c_nat_Cmp : Con := conV true [(.arr 4 (.int .u64)), (.arr 4 (.int .u64))] [(.int .i64)] fun x => nat_Cmp x.1 x.2.1
noncomputable def x_nat_Cmp : Cx := { ti := ti, con := [], fns := [], un := 6 }
theorem xok_nat_Cmp : CxOk Tryz.prog x_nat_Cmp := CxOk.of mixed ti_ok (List.forall_mem_nil _) (List.forall_mem_nil _)
theorem fn_nat_Cmp : FnOk Tryz.prog 72 Tryz.f72 [] := ⟨Tryz.func72, Tryz.call72, lps_nil⟩
theorem e_nat_Cmp (a : (Nat → Int)) (b : (Nat → Int)) : bodyK x_nat_Cmp [] (denF x_nat_Cmp 8) Tryz.f72 (domV [(.arr 4 (.int .u64)), (.arr 4 (.int .u64))] (a, b, ())) [] 0 (kOut [(.int .i64)]) = nat_Cmp' a b := by kernel_rfl
theorem con_nat_Cmp : ConOk Tryz.prog 72 c_nat_Cmp := con_ok xok_nat_Cmp 8 fn_nat_Cmp true [(.arr 4 (.int .u64)), (.arr 4 (.int .u64))] [(.int .i64)] _ (by decide) (fun x => by rw [nat_Cmp_eq]; exact e_nat_Cmp x.1 x.2.1)
noncomputable def c_nat_Len : Con := conV true [(.arr 4 (.int .u64))] [(.int .i64)] fun x => nat_Len x.1
noncomputable def x_nat_Len : Cx := { ti := ti, con := [(70, c_bits_Len64)], fns := [], un := 6 }
theorem xok_nat_Len : CxOk Tryz.prog x_nat_Len := CxOk.of mixed ti_ok (List.forall_mem_cons.2 ⟨con_bits_Len64, List.forall_mem_nil _⟩) (List.forall_mem_nil _)
theorem fn_nat_Len : FnOk Tryz.prog 41 Tryz.f41 [] := ⟨Tryz.func41, Tryz.call41, lps_nil⟩
theorem e_nat_Len (a : (Nat → Int)) : bodyK x_nat_Len [] (denF x_nat_Len 8) Tryz.f41 (domV [(.arr 4 (.int .u64))] (a, ())) [] 0 (kOut [(.int .i64)]) = nat_Len' a := by kernel_rfl
theorem con_nat_Len : ConOk Tryz.prog 41 c_nat_Len := con_ok xok_nat_Len 8 fn_nat_Len true [(.arr 4 (.int .u64))] [(.int .i64)] _ (by decide) (fun x => by rw [nat_Len_eq]; exact e_nat_Len x.1)
abbrev S_nat_Down_0 : Shape := { sl := [(2, (.c ⟨(.ptr (.arr 4 (.int .u64))), (.rf 0 [])⟩)), (4, (.c ⟨(.ptr (.arr 4 (.int .u64))), (.rf 1 [])⟩)), (5, (.c ⟨(.ptr (.arr 4 (.int .u64))), (.rf 2 [])⟩)), (6, (.v (.int .i64))), (7, (.v (.int .i64))), (20, (.v (.int .i64))), (21, (.v (.int .i64)))], ob := [(0, (.v (.arr 4 (.int .u64)))), (1, (.v (.arr 4 (.int .u64)))), (2, (.v (.arr 4 (.int .u64))))], lo := 3, nx := 3 }
abbrev E_nat_Down_0 : List Ex := [(.normal, { sl := [(4, (.c ⟨(.ptr (.arr 4 (.int .u64))), (.rf 1 [])⟩)), (5, (.c ⟨(.ptr (.arr 4 (.int .u64))), (.rf 2 [])⟩))], ob := [(1, (.v (.arr 4 (.int .u64)))), (2, (.v (.arr 4 (.int .u64))))], lo := 3, nx := 3 })]
noncomputable def L_nat_Down_0 : Code := loopIn (bodyOf Tryz.f92) 0
noncomputable def P_nat_Down_0 : Lp := lpOf S_nat_Down_0 E_nat_Down_0 54 R_nat_Down_0
noncomputable def c_nat_Down : Con := conV true [(.arr 4 (.int .u64)), (.int .i64)] [(.arr 4 (.int .u64))] fun x => nat_Down x.1 x.2.1
noncomputable def x_nat_Down : Cx := { ti := ti, con := [], fns := [], un := 6 }
theorem xok_nat_Down : CxOk Tryz.prog x_nat_Down := CxOk.of mixed ti_ok (List.forall_mem_nil _) (List.forall_mem_nil _)
theorem r_nat_Down_0 (x : S_nat_Down_0.X) : denC x_nat_Down [] (denF x_nat_Down 8) L_nat_Down_0 (S_nat_Down_0.mkS 54 x) (kRound 0 S_nat_Down_0 E_nat_Down_0) = R_nat_Down_0 x := by kernel_rfl
theorem l_nat_Down_0 : LpOk Tryz.prog 0 (.loop L_nat_Down_0) P_nat_Down_0 := lpOf_ok xok_nat_Down 8 (lps_nil) S_nat_Down_0 E_nat_Down_0 54 R_nat_Down_0 (by decide) r_nat_Down_0
theorem fn_nat_Down : FnOk Tryz.prog 92 Tryz.f92 [(0, P_nat_Down_0)] := ⟨Tryz.func92, Tryz.call92, lps_of (by kernel_rfl) (lps_one l_nat_Down_0 (by kernel_rfl) (List.forall_mem_nil _))⟩
theorem e_nat_Down (a : (Nat → Int)) (k : Int) : bodyK x_nat_Down [(0, P_nat_Down_0)] (denF x_nat_Down 8) Tryz.f92 (domV [(.arr 4 (.int .u64)), (.int .i64)] (a, k, ())) [] 0 (kOut [(.arr 4 (.int .u64))]) = nat_Down' a k := by kernel_rfl
theorem con_nat_Down : ConOk Tryz.prog 92 c_nat_Down := con_ok xok_nat_Down 8 fn_nat_Down true [(.arr 4 (.int .u64)), (.int .i64)] [(.arr 4 (.int .u64))] _ (by decide) (fun x => by rw [nat_Down_eq]; exact e_nat_Down x.1 x.2.1)
noncomputable def c_nat_Add : Con := conV true [(.arr 4 (.int .u64)), (.arr 4 (.int .u64))] [(.arr 4 (.int .u64)), (.int .i64)] fun x => nat_Add x.1 x.2.1
noncomputable def x_nat_Add : Cx := { ti := ti, con := [(95, c_add64)], fns := [], un := 6 }
theorem xok_nat_Add : CxOk Tryz.prog x_nat_Add := CxOk.of mixed ti_ok (List.forall_mem_cons.2 ⟨con_add64, List.forall_mem_nil _⟩) (List.forall_mem_nil _)
theorem fn_nat_Add : FnOk Tryz.prog 75 Tryz.f75 [] := ⟨Tryz.func75, Tryz.call75, lps_nil⟩
theorem e_nat_Add (a : (Nat → Int)) (b : (Nat → Int)) : bodyK x_nat_Add [] (denF x_nat_Add 8) Tryz.f75 (domV [(.arr 4 (.int .u64)), (.arr 4 (.int .u64))] (a, b, ())) [] 0 (kOut [(.arr 4 (.int .u64)), (.int .i64)]) = nat_Add' a b := by kernel_rfl
theorem con_nat_Add : ConOk Tryz.prog 75 c_nat_Add := con_ok xok_nat_Add 8 fn_nat_Add true [(.arr 4 (.int .u64)), (.arr 4 (.int .u64))] [(.arr 4 (.int .u64)), (.int .i64)] _ (by decide) (fun x => by rw [nat_Add_eq]; exact e_nat_Add x.1 x.2.1)
end Go.Proofs.YtennopklknlecaaGreat

set_option linter.unusedVariables false
set_option linter.unusedSimpArgs false
set_option maxRecDepth 100000
set_option maxHeartbeats 0
namespace Go.Pl
end Go.Pl
open Go Go.Den Go.Pl
namespace Go.Proofs.YtennopklknlecaaGreat
noncomputable def c_wide_short : Con := conV true [(.arr 4 (.int .u64)), (.int .u64), (.int .u64)] [(.arr 4 (.int .u64)), (.arr 4 (.int .u64))] fun x => wide_short x.1 x.2.1 x.2.2.1
noncomputable def x_wide_short : Cx := { ti := ti, con := [(86, c_bits_Div64)], fns := [], un := 6 }
theorem xok_wide_short : CxOk Tryz.prog x_wide_short := CxOk.of mixed ti_ok (List.forall_mem_cons.2 ⟨con_bits_Div64, List.forall_mem_nil _⟩) (List.forall_mem_nil _)
theorem fn_wide_short : FnOk Tryz.prog 102 Tryz.f102 [] := ⟨Tryz.func102, Tryz.call102, lps_nil⟩
theorem e_wide_short (a : (Nat → Int)) (left_ : Int) (m : Int) : bodyK x_wide_short [] (denF x_wide_short 8) Tryz.f102 (domV [(.arr 4 (.int .u64)), (.int .u64), (.int .u64)] (a, left_, m, ())) [] 0 (kOut [(.arr 4 (.int .u64)), (.arr 4 (.int .u64))]) = wide_short' a left_ m := by kernel_rfl
theorem con_wide_short : ConOk Tryz.prog 102 c_wide_short := con_ok xok_wide_short 8 fn_wide_short true [(.arr 4 (.int .u64)), (.int .u64), (.int .u64)] [(.arr 4 (.int .u64)), (.arr 4 (.int .u64))] _ (by decide) (fun x => by rw [wide_short_eq]; exact e_wide_short x.1 x.2.1 x.2.2.1)
abbrev S_wide_parted_0 : Shape := { sl := [(3, (.c ⟨(.ptr (.arr 4 (.int .u64))), (.rf 0 [])⟩)), (4, (.c ⟨(.ptr (.arr 4 (.int .u64))), (.rf 1 [])⟩)), (5, (.c ⟨(.ptr (.arr 4 (.int .u64))), (.rf 2 [])⟩)), (6, (.c ⟨(.ptr (.arr 4 (.int .u64))), (.rf 3 [])⟩)), (7, (.c ⟨(.ptr (.arr 4 (.int .u64))), (.rf 4 [])⟩)), (8, (.c ⟨(.ptr (.arr 4 (.int .u64))), (.rf 5 [])⟩)), (25, (.v (.int .i64)))], ob := [(0, (.v (.arr 4 (.int .u64)))), (1, (.v (.arr 4 (.int .u64)))), (2, (.v (.arr 4 (.int .u64)))), (3, (.v (.arr 4 (.int .u64)))), (4, (.v (.arr 4 (.int .u64)))), (5, (.v (.arr 4 (.int .u64))))], lo := 6, nx := 6 }
abbrev E_wide_parted_0 : List Ex := [(.normal, { sl := [(4, (.c ⟨(.ptr (.arr 4 (.int .u64))), (.rf 1 [])⟩)), (6, (.c ⟨(.ptr (.arr 4 (.int .u64))), (.rf 3 [])⟩)), (7, (.c ⟨(.ptr (.arr 4 (.int .u64))), (.rf 4 [])⟩)), (8, (.c ⟨(.ptr (.arr 4 (.int .u64))), (.rf 5 [])⟩))], ob := [(1, (.v (.arr 4 (.int .u64)))), (3, (.v (.arr 4 (.int .u64)))), (4, (.v (.arr 4 (.int .u64)))), (5, (.v (.arr 4 (.int .u64))))], lo := 6, nx := 6 })]
noncomputable def L_wide_parted_0 : Code := loopIn (bodyOf Tryz.f89) 0
noncomputable def P_wide_parted_0 : Lp := lpOf S_wide_parted_0 E_wide_parted_0 68 R_wide_parted_0
noncomputable def c_wide_parted : Con := conV true [(.arr 4 (.int .u64)), (.arr 4 (.int .u64)), (.arr 4 (.int .u64))] [(.arr 4 (.int .u64)), (.arr 4 (.int .u64))] fun x => wide_parted x.1 x.2.1 x.2.2.1
noncomputable def x_wide_parted : Cx := { ti := ti, con := [(102, c_wide_short), (103, c_nat_Bit), (93, c_nat_Up), (74, c_nat_Sub), (72, c_nat_Cmp)], fns := [], un := 6 }
theorem xok_wide_parted : CxOk Tryz.prog x_wide_parted := CxOk.of mixed ti_ok (List.forall_mem_cons.2 ⟨con_wide_short, List.forall_mem_cons.2 ⟨con_nat_Bit, List.forall_mem_cons.2 ⟨con_nat_Up, List.forall_mem_cons.2 ⟨con_nat_Sub, List.forall_mem_cons.2 ⟨con_nat_Cmp, List.forall_mem_nil _⟩⟩⟩⟩⟩) (List.forall_mem_nil _)
theorem r_wide_parted_0 (x : S_wide_parted_0.X) : denC x_wide_parted [] (denF x_wide_parted 8) L_wide_parted_0 (S_wide_parted_0.mkS 68 x) (kRound 0 S_wide_parted_0 E_wide_parted_0) = R_wide_parted_0 x := by kernel_rfl
theorem l_wide_parted_0 : LpOk Tryz.prog 0 (.loop L_wide_parted_0) P_wide_parted_0 := lpOf_ok xok_wide_parted 8 (lps_nil) S_wide_parted_0 E_wide_parted_0 68 R_wide_parted_0 (by decide) r_wide_parted_0
theorem fn_wide_parted : FnOk Tryz.prog 89 Tryz.f89 [(0, P_wide_parted_0)] := ⟨Tryz.func89, Tryz.call89, lps_of (by kernel_rfl) (lps_one l_wide_parted_0 (by kernel_rfl) (List.forall_mem_nil _))⟩
theorem e_wide_parted (a : (Nat → Int)) (left_ : (Nat → Int)) (m : (Nat → Int)) : bodyK x_wide_parted [(0, P_wide_parted_0)] (denF x_wide_parted 8) Tryz.f89 (domV [(.arr 4 (.int .u64)), (.arr 4 (.int .u64)), (.arr 4 (.int .u64))] (a, left_, m, ())) [] 0 (kOut [(.arr 4 (.int .u64)), (.arr 4 (.int .u64))]) = wide_parted' a left_ m := by kernel_rfl
theorem con_wide_parted : ConOk Tryz.prog 89 c_wide_parted := con_ok xok_wide_parted 8 fn_wide_parted true [(.arr 4 (.int .u64)), (.arr 4 (.int .u64)), (.arr 4 (.int .u64))] [(.arr 4 (.int .u64)), (.arr 4 (.int .u64))] _ (by decide) (fun x => by rw [wide_parted_eq]; exact e_wide_parted x.1 x.2.1 x.2.2.1)
noncomputable def c_wide_Rem : Con := conV true [(.arr 4 (.int .u64)), (.arr 4 (.int .u64)), (.arr 4 (.int .u64))] [(.arr 4 (.int .u64)), (.int .i64)] fun x => wide_Rem x.1 x.2.1 x.2.2.1
noncomputable def x_wide_Rem : Cx := { ti := ti, con := [(89, c_wide_parted)], fns := [], un := 6 }
theorem xok_wide_Rem : CxOk Tryz.prog x_wide_Rem := CxOk.of mixed ti_ok (List.forall_mem_cons.2 ⟨con_wide_parted, List.forall_mem_nil _⟩) (List.forall_mem_nil _)
theorem fn_wide_Rem : FnOk Tryz.prog 68 Tryz.f68 [] := ⟨Tryz.func68, Tryz.call68, lps_nil⟩
theorem e_wide_Rem (low : (Nat → Int)) (high : (Nat → Int)) (m : (Nat → Int)) : bodyK x_wide_Rem [] (denF x_wide_Rem 8) Tryz.f68 (domV [(.arr 4 (.int .u64)), (.arr 4 (.int .u64)), (.arr 4 (.int .u64))] (low, high, m, ())) [] 0 (kOut [(.arr 4 (.int .u64)), (.int .i64)]) = wide_Rem' low high m := by kernel_rfl
theorem con_wide_Rem : ConOk Tryz.prog 68 c_wide_Rem := con_ok xok_wide_Rem 8 fn_wide_Rem true [(.arr 4 (.int .u64)), (.arr 4 (.int .u64)), (.arr 4 (.int .u64))] [(.arr 4 (.int .u64)), (.int .i64)] _ (by decide) (fun x => by rw [wide_Rem_eq]; exact e_wide_Rem x.1 x.2.1 x.2.2.1)
noncomputable def c_wide_Mul : Con := conV true [(.arr 4 (.int .u64)), (.arr 4 (.int .u64))] [(.arr 4 (.int .u64)), (.arr 4 (.int .u64))] fun x => wide_Mul x.1 x.2.1
noncomputable def x_wide_Mul : Cx := { ti := ti, con := [(85, c_bits_Mul64), (95, c_add64)], fns := [(101, Tryz.f101, [])], un := 6 }
theorem xok_wide_Mul : CxOk Tryz.prog x_wide_Mul := CxOk.of mixed ti_ok (List.forall_mem_cons.2 ⟨con_bits_Mul64, List.forall_mem_cons.2 ⟨con_add64, List.forall_mem_nil _⟩⟩) (List.forall_mem_cons.2 ⟨⟨Tryz.func101, Tryz.call101, lps_nil⟩, List.forall_mem_nil _⟩)
theorem fn_wide_Mul : FnOk Tryz.prog 87 Tryz.f87 [] := ⟨Tryz.func87, Tryz.call87, lps_nil⟩
theorem e_wide_Mul (a : (Nat → Int)) (b : (Nat → Int)) : bodyK x_wide_Mul [] (denF x_wide_Mul 8) Tryz.f87 (domV [(.arr 4 (.int .u64)), (.arr 4 (.int .u64))] (a, b, ())) [] 0 (kOut [(.arr 4 (.int .u64)), (.arr 4 (.int .u64))]) = wide_Mul' a b := by kernel_rfl
theorem con_wide_Mul : ConOk Tryz.prog 87 c_wide_Mul := con_ok xok_wide_Mul 8 fn_wide_Mul true [(.arr 4 (.int .u64)), (.arr 4 (.int .u64))] [(.arr 4 (.int .u64)), (.arr 4 (.int .u64))] _ (by decide) (fun x => by rw [wide_Mul_eq]; exact e_wide_Mul x.1 x.2.1)
noncomputable def c_wide_MulMod : Con := conV true [(.arr 4 (.int .u64)), (.arr 4 (.int .u64)), (.arr 4 (.int .u64))] [(.arr 4 (.int .u64)), (.int .i64)] fun x => wide_MulMod x.1 x.2.1 x.2.2.1
noncomputable def x_wide_MulMod : Cx := { ti := ti, con := [(87, c_wide_Mul), (68, c_wide_Rem)], fns := [], un := 6 }
theorem xok_wide_MulMod : CxOk Tryz.prog x_wide_MulMod := CxOk.of mixed ti_ok (List.forall_mem_cons.2 ⟨con_wide_Mul, List.forall_mem_cons.2 ⟨con_wide_Rem, List.forall_mem_nil _⟩⟩) (List.forall_mem_nil _)
theorem fn_wide_MulMod : FnOk Tryz.prog 69 Tryz.f69 [] := ⟨Tryz.func69, Tryz.call69, lps_nil⟩
theorem e_wide_MulMod (a : (Nat → Int)) (b : (Nat → Int)) (m : (Nat → Int)) : bodyK x_wide_MulMod [] (denF x_wide_MulMod 8) Tryz.f69 (domV [(.arr 4 (.int .u64)), (.arr 4 (.int .u64)), (.arr 4 (.int .u64))] (a, b, m, ())) [] 0 (kOut [(.arr 4 (.int .u64)), (.int .i64)]) = wide_MulMod' a b m := by kernel_rfl
theorem con_wide_MulMod : ConOk Tryz.prog 69 c_wide_MulMod := con_ok xok_wide_MulMod 8 fn_wide_MulMod true [(.arr 4 (.int .u64)), (.arr 4 (.int .u64)), (.arr 4 (.int .u64))] [(.arr 4 (.int .u64)), (.int .i64)] _ (by decide) (fun x => by rw [wide_MulMod_eq]; exact e_wide_MulMod x.1 x.2.1 x.2.2.1)
noncomputable def c_wide_Div : Con := conV true [(.arr 4 (.int .u64)), (.arr 4 (.int .u64))] [(.arr 4 (.int .u64)), (.arr 4 (.int .u64)), (.int .i64)] fun x => wide_Div x.1 x.2.1
noncomputable def x_wide_Div : Cx := { ti := ti, con := [(89, c_wide_parted)], fns := [], un := 6 }
theorem xok_wide_Div : CxOk Tryz.prog x_wide_Div := CxOk.of mixed ti_ok (List.forall_mem_cons.2 ⟨con_wide_parted, List.forall_mem_nil _⟩) (List.forall_mem_nil _)
theorem fn_wide_Div : FnOk Tryz.prog 80 Tryz.f80 [] := ⟨Tryz.func80, Tryz.call80, lps_nil⟩
theorem e_wide_Div (a : (Nat → Int)) (b : (Nat → Int)) : bodyK x_wide_Div [] (denF x_wide_Div 8) Tryz.f80 (domV [(.arr 4 (.int .u64)), (.arr 4 (.int .u64))] (a, b, ())) [] 0 (kOut [(.arr 4 (.int .u64)), (.arr 4 (.int .u64)), (.int .i64)]) = wide_Div' a b := by kernel_rfl
theorem con_wide_Div : ConOk Tryz.prog 80 c_wide_Div := con_ok xok_wide_Div 8 fn_wide_Div true [(.arr 4 (.int .u64)), (.arr 4 (.int .u64))] [(.arr 4 (.int .u64)), (.arr 4 (.int .u64)), (.int .i64)] _ (by decide) (fun x => by rw [wide_Div_eq]; exact e_wide_Div x.1 x.2.1)
noncomputable def c_wide_SubMod : Con := conV true [(.arr 4 (.int .u64)), (.arr 4 (.int .u64)), (.arr 4 (.int .u64))] [(.arr 4 (.int .u64)), (.int .i64)] fun x => wide_SubMod x.1 x.2.1 x.2.2.1
noncomputable def x_wide_SubMod : Cx := { ti := ti, con := [(68, c_wide_Rem), (74, c_nat_Sub), (75, c_nat_Add)], fns := [], un := 6 }
theorem xok_wide_SubMod : CxOk Tryz.prog x_wide_SubMod := CxOk.of mixed ti_ok (List.forall_mem_cons.2 ⟨con_wide_Rem, List.forall_mem_cons.2 ⟨con_nat_Sub, List.forall_mem_cons.2 ⟨con_nat_Add, List.forall_mem_nil _⟩⟩⟩) (List.forall_mem_nil _)
theorem fn_wide_SubMod : FnOk Tryz.prog 47 Tryz.f47 [] := ⟨Tryz.func47, Tryz.call47, lps_nil⟩
theorem e_wide_SubMod (a : (Nat → Int)) (b : (Nat → Int)) (m : (Nat → Int)) : bodyK x_wide_SubMod [] (denF x_wide_SubMod 8) Tryz.f47 (domV [(.arr 4 (.int .u64)), (.arr 4 (.int .u64)), (.arr 4 (.int .u64))] (a, b, m, ())) [] 0 (kOut [(.arr 4 (.int .u64)), (.int .i64)]) = wide_SubMod' a b m := by kernel_rfl
theorem con_wide_SubMod : ConOk Tryz.prog 47 c_wide_SubMod := con_ok xok_wide_SubMod 8 fn_wide_SubMod true [(.arr 4 (.int .u64)), (.arr 4 (.int .u64)), (.arr 4 (.int .u64))] [(.arr 4 (.int .u64)), (.int .i64)] _ (by decide) (fun x => by rw [wide_SubMod_eq]; exact e_wide_SubMod x.1 x.2.1 x.2.2.1)
abbrev S_wide_Gcd_0 : Shape := { sl := [(2, (.c ⟨(.ptr (.arr 4 (.int .u64))), (.rf 0 [])⟩)), (3, (.c ⟨(.ptr (.arr 4 (.int .u64))), (.rf 1 [])⟩)), (4, (.c ⟨(.ptr (.arr 4 (.int .u64))), (.rf 2 [])⟩))], ob := [(0, (.v (.arr 4 (.int .u64)))), (1, (.v (.arr 4 (.int .u64)))), (2, (.v (.arr 4 (.int .u64))))], lo := 3, nx := 3 }
abbrev E_wide_Gcd_0 : List Ex := [(.normal, { sl := [(2, (.c ⟨(.ptr (.arr 4 (.int .u64))), (.rf 0 [])⟩)), (4, (.c ⟨(.ptr (.arr 4 (.int .u64))), (.rf 2 [])⟩))], ob := [(0, (.v (.arr 4 (.int .u64)))), (2, (.v (.arr 4 (.int .u64))))], lo := 3, nx := 3 })]
noncomputable def L_wide_Gcd_0 : Code := loopIn (bodyOf Tryz.f88) 0
noncomputable def P_wide_Gcd_0 : Lp := lpOf S_wide_Gcd_0 E_wide_Gcd_0 21 R_wide_Gcd_0
noncomputable def c_wide_Gcd : Con := conV true [(.arr 4 (.int .u64)), (.arr 4 (.int .u64))] [(.arr 4 (.int .u64))] fun x => wide_Gcd x.1 x.2.1
noncomputable def x_wide_Gcd : Cx := { ti := ti, con := [(80, c_wide_Div)], fns := [], un := 6 }
theorem xok_wide_Gcd : CxOk Tryz.prog x_wide_Gcd := CxOk.of mixed ti_ok (List.forall_mem_cons.2 ⟨con_wide_Div, List.forall_mem_nil _⟩) (List.forall_mem_nil _)
theorem r_wide_Gcd_0 (x : S_wide_Gcd_0.X) : denC x_wide_Gcd [] (denF x_wide_Gcd 8) L_wide_Gcd_0 (S_wide_Gcd_0.mkS 21 x) (kRound 0 S_wide_Gcd_0 E_wide_Gcd_0) = R_wide_Gcd_0 x := by kernel_rfl
theorem l_wide_Gcd_0 : LpOk Tryz.prog 0 (.loop L_wide_Gcd_0) P_wide_Gcd_0 := lpOf_ok xok_wide_Gcd 8 (lps_nil) S_wide_Gcd_0 E_wide_Gcd_0 21 R_wide_Gcd_0 (by decide) r_wide_Gcd_0
theorem fn_wide_Gcd : FnOk Tryz.prog 88 Tryz.f88 [(0, P_wide_Gcd_0)] := ⟨Tryz.func88, Tryz.call88, lps_of (by kernel_rfl) (lps_one l_wide_Gcd_0 (by kernel_rfl) (List.forall_mem_nil _))⟩
theorem e_wide_Gcd (a : (Nat → Int)) (b : (Nat → Int)) : bodyK x_wide_Gcd [(0, P_wide_Gcd_0)] (denF x_wide_Gcd 8) Tryz.f88 (domV [(.arr 4 (.int .u64)), (.arr 4 (.int .u64))] (a, b, ())) [] 0 (kOut [(.arr 4 (.int .u64))]) = wide_Gcd' a b := by kernel_rfl
theorem con_wide_Gcd : ConOk Tryz.prog 88 c_wide_Gcd := con_ok xok_wide_Gcd 8 fn_wide_Gcd true [(.arr 4 (.int .u64)), (.arr 4 (.int .u64))] [(.arr 4 (.int .u64))] _ (by decide) (fun x => by rw [wide_Gcd_eq]; exact e_wide_Gcd x.1 x.2.1)
noncomputable def c_wide_AddMod : Con := conV true [(.arr 4 (.int .u64)), (.arr 4 (.int .u64)), (.arr 4 (.int .u64))] [(.arr 4 (.int .u64)), (.int .i64)] fun x => wide_AddMod x.1 x.2.1 x.2.2.1
noncomputable def x_wide_AddMod : Cx := { ti := ti, con := [(75, c_nat_Add), (42, c_nat_Of), (68, c_wide_Rem)], fns := [], un := 6 }
theorem xok_wide_AddMod : CxOk Tryz.prog x_wide_AddMod := CxOk.of mixed ti_ok (List.forall_mem_cons.2 ⟨con_nat_Add, List.forall_mem_cons.2 ⟨con_nat_Of, List.forall_mem_cons.2 ⟨con_wide_Rem, List.forall_mem_nil _⟩⟩⟩) (List.forall_mem_nil _)
theorem fn_wide_AddMod : FnOk Tryz.prog 64 Tryz.f64 [] := ⟨Tryz.func64, Tryz.call64, lps_nil⟩
theorem e_wide_AddMod (a : (Nat → Int)) (b : (Nat → Int)) (m : (Nat → Int)) : bodyK x_wide_AddMod [] (denF x_wide_AddMod 8) Tryz.f64 (domV [(.arr 4 (.int .u64)), (.arr 4 (.int .u64)), (.arr 4 (.int .u64))] (a, b, m, ())) [] 0 (kOut [(.arr 4 (.int .u64)), (.int .i64)]) = wide_AddMod' a b m := by kernel_rfl
theorem con_wide_AddMod : ConOk Tryz.prog 64 c_wide_AddMod := con_ok xok_wide_AddMod 8 fn_wide_AddMod true [(.arr 4 (.int .u64)), (.arr 4 (.int .u64)), (.arr 4 (.int .u64))] [(.arr 4 (.int .u64)), (.int .i64)] _ (by decide) (fun x => by rw [wide_AddMod_eq]; exact e_wide_AddMod x.1 x.2.1 x.2.2.1)
abbrev S_wide_InvMod_0 : Shape := { sl := [(3, (.c ⟨(.ptr (.arr 4 (.int .u64))), (.rf 1 [])⟩)), (4, (.c ⟨(.ptr (.arr 4 (.int .u64))), (.rf 2 [])⟩)), (6, (.c ⟨(.ptr (.arr 4 (.int .u64))), (.rf 3 [])⟩)), (8, (.c ⟨(.ptr (.arr 4 (.int .u64))), (.rf 4 [])⟩)), (9, (.c ⟨(.ptr (.arr 4 (.int .u64))), (.rf 5 [])⟩)), (10, (.c ⟨(.ptr (.arr 4 (.int .u64))), (.rf 6 [])⟩))], ob := [(1, (.v (.arr 4 (.int .u64)))), (2, (.v (.arr 4 (.int .u64)))), (3, (.v (.arr 4 (.int .u64)))), (4, (.v (.arr 4 (.int .u64)))), (5, (.v (.arr 4 (.int .u64)))), (6, (.v (.arr 4 (.int .u64))))], lo := 7, nx := 7 }
abbrev E_wide_InvMod_0 : List Ex := [(.normal, { sl := [(4, (.c ⟨(.ptr (.arr 4 (.int .u64))), (.rf 2 [])⟩)), (8, (.c ⟨(.ptr (.arr 4 (.int .u64))), (.rf 4 [])⟩)), (9, (.c ⟨(.ptr (.arr 4 (.int .u64))), (.rf 5 [])⟩))], ob := [(2, (.v (.arr 4 (.int .u64)))), (4, (.v (.arr 4 (.int .u64)))), (5, (.v (.arr 4 (.int .u64))))], lo := 7, nx := 7 })]
noncomputable def L_wide_InvMod_0 : Code := loopIn (bodyOf Tryz.f54) 0
noncomputable def P_wide_InvMod_0 : Lp := lpOf S_wide_InvMod_0 E_wide_InvMod_0 66 R_wide_InvMod_0
noncomputable def c_wide_InvMod : Con := conV true [(.arr 4 (.int .u64)), (.arr 4 (.int .u64))] [(.arr 4 (.int .u64)), (.int .i64)] fun x => wide_InvMod x.1 x.2.1
noncomputable def x_wide_InvMod : Cx := { ti := ti, con := [(42, c_nat_Of), (72, c_nat_Cmp), (68, c_wide_Rem), (80, c_wide_Div), (69, c_wide_MulMod), (47, c_wide_SubMod)], fns := [], un := 6 }
theorem xok_wide_InvMod : CxOk Tryz.prog x_wide_InvMod := CxOk.of mixed ti_ok (List.forall_mem_cons.2 ⟨con_nat_Of, List.forall_mem_cons.2 ⟨con_nat_Cmp, List.forall_mem_cons.2 ⟨con_wide_Rem, List.forall_mem_cons.2 ⟨con_wide_Div, List.forall_mem_cons.2 ⟨con_wide_MulMod, List.forall_mem_cons.2 ⟨con_wide_SubMod, List.forall_mem_nil _⟩⟩⟩⟩⟩⟩) (List.forall_mem_nil _)
theorem r_wide_InvMod_0 (x : S_wide_InvMod_0.X) : denC x_wide_InvMod [] (denF x_wide_InvMod 8) L_wide_InvMod_0 (S_wide_InvMod_0.mkS 66 x) (kRound 0 S_wide_InvMod_0 E_wide_InvMod_0) = R_wide_InvMod_0 x := by kernel_rfl
theorem l_wide_InvMod_0 : LpOk Tryz.prog 0 (.loop L_wide_InvMod_0) P_wide_InvMod_0 := lpOf_ok xok_wide_InvMod 8 (lps_nil) S_wide_InvMod_0 E_wide_InvMod_0 66 R_wide_InvMod_0 (by decide) r_wide_InvMod_0
theorem fn_wide_InvMod : FnOk Tryz.prog 54 Tryz.f54 [(0, P_wide_InvMod_0)] := ⟨Tryz.func54, Tryz.call54, lps_of (by kernel_rfl) (lps_one l_wide_InvMod_0 (by kernel_rfl) (List.forall_mem_nil _))⟩
theorem e_wide_InvMod (a : (Nat → Int)) (m : (Nat → Int)) : bodyK x_wide_InvMod [(0, P_wide_InvMod_0)] (denF x_wide_InvMod 8) Tryz.f54 (domV [(.arr 4 (.int .u64)), (.arr 4 (.int .u64))] (a, m, ())) [] 0 (kOut [(.arr 4 (.int .u64)), (.int .i64)]) = wide_InvMod' a m := by kernel_rfl
theorem con_wide_InvMod : ConOk Tryz.prog 54 c_wide_InvMod := con_ok xok_wide_InvMod 8 fn_wide_InvMod true [(.arr 4 (.int .u64)), (.arr 4 (.int .u64))] [(.arr 4 (.int .u64)), (.int .i64)] _ (by decide) (fun x => by rw [wide_InvMod_eq]; exact e_wide_InvMod x.1 x.2.1)
end Go.Proofs.YtennopklknlecaaGreat

set_option linter.unusedVariables false
set_option linter.unusedSimpArgs false
set_option maxRecDepth 100000
set_option maxHeartbeats 0
namespace Go.Pl
end Go.Pl
open Go Go.Den Go.Pl
namespace Go.Proofs.YtennopklknlecaaGreat
noncomputable def c_mont_New : Con := conV false [(.arr 4 (.int .u64))] [(.ptr (.pair (.arr 4 (.int .u64)) (.pair (.int .u64) (.pair (.arr 4 (.int .u64)) (.arr 4 (.int .u64)))))), (.int .i64)] fun x => mont_New x.1
noncomputable def x_mont_New : Cx := { ti := ti, con := [(42, c_nat_Of), (68, c_wide_Rem), (69, c_wide_MulMod)], fns := [], un := 6 }
theorem xok_mont_New : CxOk Tryz.prog x_mont_New := CxOk.of mixed ti_ok (List.forall_mem_cons.2 ⟨con_nat_Of, List.forall_mem_cons.2 ⟨con_wide_Rem, List.forall_mem_cons.2 ⟨con_wide_MulMod, List.forall_mem_nil _⟩⟩⟩) (List.forall_mem_nil _)
theorem fn_mont_New : FnOk Tryz.prog 40 Tryz.f40 [] := ⟨Tryz.func40, Tryz.call40, lps_nil⟩
theorem e_mont_New (m : (Nat → Int)) : bodyK x_mont_New [] (denF x_mont_New 8) Tryz.f40 (domV [(.arr 4 (.int .u64))] (m, ())) [] 0 (kOut [(.ptr (.pair (.arr 4 (.int .u64)) (.pair (.int .u64) (.pair (.arr 4 (.int .u64)) (.arr 4 (.int .u64)))))), (.int .i64)]) = mont_New' m := by kernel_rfl
theorem con_mont_New : ConOk Tryz.prog 40 c_mont_New := con_ok xok_mont_New 8 fn_mont_New false [(.arr 4 (.int .u64))] [(.ptr (.pair (.arr 4 (.int .u64)) (.pair (.int .u64) (.pair (.arr 4 (.int .u64)) (.arr 4 (.int .u64)))))), (.int .i64)] _ (by decide) (fun x => by rw [mont_New_eq]; exact e_mont_New x.1)
noncomputable def c_mont_Ring_given : Con := conV true [(.ptr (.pair (.arr 4 (.int .u64)) (.pair (.int .u64) (.pair (.arr 4 (.int .u64)) (.arr 4 (.int .u64))))))] [.bool] fun x => mont_Ring_given x.1
noncomputable def x_mont_Ring_given : Cx := { ti := ti, con := [], fns := [], un := 6 }
theorem xok_mont_Ring_given : CxOk Tryz.prog x_mont_Ring_given := CxOk.of mixed ti_ok (List.forall_mem_nil _) (List.forall_mem_nil _)
theorem fn_mont_Ring_given : FnOk Tryz.prog 71 Tryz.f71 [] := ⟨Tryz.func71, Tryz.call71, lps_nil⟩
theorem e_mont_Ring_given (r : (Option ((Nat → Int) × (Int × ((Nat → Int) × (Nat → Int)))))) : bodyK x_mont_Ring_given [] (denF x_mont_Ring_given 8) Tryz.f71 (domV [(.ptr (.pair (.arr 4 (.int .u64)) (.pair (.int .u64) (.pair (.arr 4 (.int .u64)) (.arr 4 (.int .u64))))))] (r, ())) [] 0 (kOut [.bool]) = mont_Ring_given' r := by cases r <;> kernel_rfl
theorem con_mont_Ring_given : ConOk Tryz.prog 71 c_mont_Ring_given := con_ok xok_mont_Ring_given 8 fn_mont_Ring_given true [(.ptr (.pair (.arr 4 (.int .u64)) (.pair (.int .u64) (.pair (.arr 4 (.int .u64)) (.arr 4 (.int .u64))))))] [.bool] _ (by decide) (fun x => by rw [mont_Ring_given_eq]; exact e_mont_Ring_given x.1)
noncomputable def c_mont_Ring_low : Con := conV true [(.ptr (.pair (.arr 4 (.int .u64)) (.pair (.int .u64) (.pair (.arr 4 (.int .u64)) (.arr 4 (.int .u64)))))), (.arr 4 (.int .u64))] [(.arr 4 (.int .u64))] fun x => mont_Ring_low x.1 x.2.1
noncomputable def x_mont_Ring_low : Cx := { ti := ti, con := [(72, c_nat_Cmp), (68, c_wide_Rem)], fns := [], un := 6 }
theorem xok_mont_Ring_low : CxOk Tryz.prog x_mont_Ring_low := CxOk.of mixed ti_ok (List.forall_mem_cons.2 ⟨con_nat_Cmp, List.forall_mem_cons.2 ⟨con_wide_Rem, List.forall_mem_nil _⟩⟩) (List.forall_mem_nil _)
theorem fn_mont_Ring_low : FnOk Tryz.prog 79 Tryz.f79 [] := ⟨Tryz.func79, Tryz.call79, lps_nil⟩
theorem e_mont_Ring_low (r : (Option ((Nat → Int) × (Int × ((Nat → Int) × (Nat → Int)))))) (a : (Nat → Int)) : bodyK x_mont_Ring_low [] (denF x_mont_Ring_low 8) Tryz.f79 (domV [(.ptr (.pair (.arr 4 (.int .u64)) (.pair (.int .u64) (.pair (.arr 4 (.int .u64)) (.arr 4 (.int .u64)))))), (.arr 4 (.int .u64))] (r, a, ())) [] 0 (kOut [(.arr 4 (.int .u64))]) = mont_Ring_low' r a := by cases r <;> kernel_rfl
theorem con_mont_Ring_low : ConOk Tryz.prog 79 c_mont_Ring_low := con_ok xok_mont_Ring_low 8 fn_mont_Ring_low true [(.ptr (.pair (.arr 4 (.int .u64)) (.pair (.int .u64) (.pair (.arr 4 (.int .u64)) (.arr 4 (.int .u64)))))), (.arr 4 (.int .u64))] [(.arr 4 (.int .u64))] _ (by decide) (fun x => by rw [mont_Ring_low_eq]; exact e_mont_Ring_low x.1 x.2.1)
noncomputable def c_mont_adds : Con := conV true [(.arr 6 (.int .u64)), (.int .u64), (.arr 4 (.int .u64))] [(.arr 6 (.int .u64))] fun x => mont_adds x.1 x.2.1 x.2.2.1
noncomputable def x_mont_adds : Cx := { ti := ti, con := [(85, c_bits_Mul64), (95, c_add64)], fns := [], un := 6 }
theorem xok_mont_adds : CxOk Tryz.prog x_mont_adds := CxOk.of mixed ti_ok (List.forall_mem_cons.2 ⟨con_bits_Mul64, List.forall_mem_cons.2 ⟨con_add64, List.forall_mem_nil _⟩⟩) (List.forall_mem_nil _)
theorem fn_mont_adds : FnOk Tryz.prog 96 Tryz.f96 [] := ⟨Tryz.func96, Tryz.call96, lps_nil⟩
theorem e_mont_adds (t : (Nat → Int)) (x : Int) (b : (Nat → Int)) : bodyK x_mont_adds [] (denF x_mont_adds 8) Tryz.f96 (domV [(.arr 6 (.int .u64)), (.int .u64), (.arr 4 (.int .u64))] (t, x, b, ())) [] 0 (kOut [(.arr 6 (.int .u64))]) = mont_adds' t x b := by kernel_rfl
theorem con_mont_adds : ConOk Tryz.prog 96 c_mont_adds := con_ok xok_mont_adds 8 fn_mont_adds true [(.arr 6 (.int .u64)), (.int .u64), (.arr 4 (.int .u64))] [(.arr 6 (.int .u64))] _ (by decide) (fun x => by rw [mont_adds_eq]; exact e_mont_adds x.1 x.2.1 x.2.2.1)
noncomputable def c_mont_Ring_redc : Con := conV true [(.ptr (.pair (.arr 4 (.int .u64)) (.pair (.int .u64) (.pair (.arr 4 (.int .u64)) (.arr 4 (.int .u64)))))), (.arr 4 (.int .u64)), (.arr 4 (.int .u64))] [(.arr 4 (.int .u64))] fun x => mont_Ring_redc x.1 x.2.1 x.2.2.1
noncomputable def x_mont_Ring_redc : Cx := { ti := ti, con := [(96, c_mont_adds), (74, c_nat_Sub), (72, c_nat_Cmp)], fns := [], un := 6 }
theorem xok_mont_Ring_redc : CxOk Tryz.prog x_mont_Ring_redc := CxOk.of mixed ti_ok (List.forall_mem_cons.2 ⟨con_mont_adds, List.forall_mem_cons.2 ⟨con_nat_Sub, List.forall_mem_cons.2 ⟨con_nat_Cmp, List.forall_mem_nil _⟩⟩⟩) (List.forall_mem_nil _)
theorem fn_mont_Ring_redc : FnOk Tryz.prog 77 Tryz.f77 [] := ⟨Tryz.func77, Tryz.call77, lps_nil⟩
theorem e_mont_Ring_redc (r : (Option ((Nat → Int) × (Int × ((Nat → Int) × (Nat → Int)))))) (a : (Nat → Int)) (b : (Nat → Int)) : bodyK x_mont_Ring_redc [] (denF x_mont_Ring_redc 8) Tryz.f77 (domV [(.ptr (.pair (.arr 4 (.int .u64)) (.pair (.int .u64) (.pair (.arr 4 (.int .u64)) (.arr 4 (.int .u64)))))), (.arr 4 (.int .u64)), (.arr 4 (.int .u64))] (r, a, b, ())) [] 0 (kOut [(.arr 4 (.int .u64))]) = mont_Ring_redc' r a b := by cases r <;> kernel_rfl
theorem con_mont_Ring_redc : ConOk Tryz.prog 77 c_mont_Ring_redc := con_ok xok_mont_Ring_redc 8 fn_mont_Ring_redc true [(.ptr (.pair (.arr 4 (.int .u64)) (.pair (.int .u64) (.pair (.arr 4 (.int .u64)) (.arr 4 (.int .u64)))))), (.arr 4 (.int .u64)), (.arr 4 (.int .u64))] [(.arr 4 (.int .u64))] _ (by decide) (fun x => by rw [mont_Ring_redc_eq]; exact e_mont_Ring_redc x.1 x.2.1 x.2.2.1)
noncomputable def c_mont_Ring_Form : Con := conV true [(.ptr (.pair (.arr 4 (.int .u64)) (.pair (.int .u64) (.pair (.arr 4 (.int .u64)) (.arr 4 (.int .u64)))))), (.arr 4 (.int .u64))] [(.arr 4 (.int .u64))] fun x => mont_Ring_Form x.1 x.2.1
noncomputable def x_mont_Ring_Form : Cx := { ti := ti, con := [(71, c_mont_Ring_given), (79, c_mont_Ring_low), (77, c_mont_Ring_redc)], fns := [], un := 6 }
theorem xok_mont_Ring_Form : CxOk Tryz.prog x_mont_Ring_Form := CxOk.of mixed ti_ok (List.forall_mem_cons.2 ⟨con_mont_Ring_given, List.forall_mem_cons.2 ⟨con_mont_Ring_low, List.forall_mem_cons.2 ⟨con_mont_Ring_redc, List.forall_mem_nil _⟩⟩⟩) (List.forall_mem_nil _)
theorem fn_mont_Ring_Form : FnOk Tryz.prog 78 Tryz.f78 [] := ⟨Tryz.func78, Tryz.call78, lps_nil⟩
theorem e_mont_Ring_Form (r : (Option ((Nat → Int) × (Int × ((Nat → Int) × (Nat → Int)))))) (a : (Nat → Int)) : bodyK x_mont_Ring_Form [] (denF x_mont_Ring_Form 8) Tryz.f78 (domV [(.ptr (.pair (.arr 4 (.int .u64)) (.pair (.int .u64) (.pair (.arr 4 (.int .u64)) (.arr 4 (.int .u64)))))), (.arr 4 (.int .u64))] (r, a, ())) [] 0 (kOut [(.arr 4 (.int .u64))]) = mont_Ring_Form' r a := by cases r <;> kernel_rfl
theorem con_mont_Ring_Form : ConOk Tryz.prog 78 c_mont_Ring_Form := con_ok xok_mont_Ring_Form 8 fn_mont_Ring_Form true [(.ptr (.pair (.arr 4 (.int .u64)) (.pair (.int .u64) (.pair (.arr 4 (.int .u64)) (.arr 4 (.int .u64)))))), (.arr 4 (.int .u64))] [(.arr 4 (.int .u64))] _ (by decide) (fun x => by rw [mont_Ring_Form_eq]; exact e_mont_Ring_Form x.1 x.2.1)
abbrev S_mont_Ring_powers_0 : Shape := { sl := [(0, (.pz (.pair (.arr 4 (.int .u64)) (.pair (.int .u64) (.pair (.arr 4 (.int .u64)) (.arr 4 (.int .u64))))))), (4, (.c ⟨(.ptr (.arr 16 (.arr 4 (.int .u64)))), (.rf 1 [])⟩)), (5, (.c ⟨(.ptr (.arr 16 (.arr 4 (.int .u64)))), (.rf 2 [])⟩)), (6, (.c ⟨(.ptr (.arr 4 (.int .u64))), (.rf 3 [])⟩)), (7, (.v (.int .i64)))], ob := [(1, (.v (.arr 16 (.arr 4 (.int .u64))))), (2, (.v (.arr 16 (.arr 4 (.int .u64))))), (3, (.v (.arr 4 (.int .u64))))], lo := 4, nx := 4 }
abbrev E_mont_Ring_powers_0 : List Ex := [(.normal, { sl := [(4, (.c ⟨(.ptr (.arr 16 (.arr 4 (.int .u64)))), (.rf 1 [])⟩)), (5, (.c ⟨(.ptr (.arr 16 (.arr 4 (.int .u64)))), (.rf 2 [])⟩))], ob := [(1, (.v (.arr 16 (.arr 4 (.int .u64))))), (2, (.v (.arr 16 (.arr 4 (.int .u64)))))], lo := 4, nx := 4 })]
noncomputable def L_mont_Ring_powers_0 : Code := loopIn (bodyOf Tryz.f90) 0
noncomputable def P_mont_Ring_powers_0 : Lp := lpOf S_mont_Ring_powers_0 E_mont_Ring_powers_0 30 R_mont_Ring_powers_0
noncomputable def c_mont_Ring_powers : Con := conV true [(.ptr (.pair (.arr 4 (.int .u64)) (.pair (.int .u64) (.pair (.arr 4 (.int .u64)) (.arr 4 (.int .u64)))))), (.arr 4 (.int .u64))] [(.arr 16 (.arr 4 (.int .u64)))] fun x => mont_Ring_powers x.1 x.2.1
noncomputable def x_mont_Ring_powers : Cx := { ti := ti, con := [(78, c_mont_Ring_Form), (77, c_mont_Ring_redc)], fns := [], un := 6 }
theorem xok_mont_Ring_powers : CxOk Tryz.prog x_mont_Ring_powers := CxOk.of mixed ti_ok (List.forall_mem_cons.2 ⟨con_mont_Ring_Form, List.forall_mem_cons.2 ⟨con_mont_Ring_redc, List.forall_mem_nil _⟩⟩) (List.forall_mem_nil _)
theorem r_mont_Ring_powers_0 (x : S_mont_Ring_powers_0.X) : denC x_mont_Ring_powers [] (denF x_mont_Ring_powers 8) L_mont_Ring_powers_0 (S_mont_Ring_powers_0.mkS 30 x) (kRound 0 S_mont_Ring_powers_0 E_mont_Ring_powers_0) = R_mont_Ring_powers_0 x := by kernel_rfl
theorem l_mont_Ring_powers_0 : LpOk Tryz.prog 0 (.loop L_mont_Ring_powers_0) P_mont_Ring_powers_0 := lpOf_ok xok_mont_Ring_powers 8 (lps_nil) S_mont_Ring_powers_0 E_mont_Ring_powers_0 30 R_mont_Ring_powers_0 (by decide) r_mont_Ring_powers_0
theorem fn_mont_Ring_powers : FnOk Tryz.prog 90 Tryz.f90 [(0, P_mont_Ring_powers_0)] := ⟨Tryz.func90, Tryz.call90, lps_of (by kernel_rfl) (lps_one l_mont_Ring_powers_0 (by kernel_rfl) (List.forall_mem_nil _))⟩
theorem e_mont_Ring_powers (r : (Option ((Nat → Int) × (Int × ((Nat → Int) × (Nat → Int)))))) (a : (Nat → Int)) : bodyK x_mont_Ring_powers [(0, P_mont_Ring_powers_0)] (denF x_mont_Ring_powers 8) Tryz.f90 (domV [(.ptr (.pair (.arr 4 (.int .u64)) (.pair (.int .u64) (.pair (.arr 4 (.int .u64)) (.arr 4 (.int .u64)))))), (.arr 4 (.int .u64))] (r, a, ())) [] 0 (kOut [(.arr 16 (.arr 4 (.int .u64)))]) = mont_Ring_powers' r a := by cases r <;> kernel_rfl
theorem con_mont_Ring_powers : ConOk Tryz.prog 90 c_mont_Ring_powers := con_ok xok_mont_Ring_powers 8 fn_mont_Ring_powers true [(.ptr (.pair (.arr 4 (.int .u64)) (.pair (.int .u64) (.pair (.arr 4 (.int .u64)) (.arr 4 (.int .u64)))))), (.arr 4 (.int .u64))] [(.arr 16 (.arr 4 (.int .u64)))] _ (by decide) (fun x => by rw [mont_Ring_powers_eq]; exact e_mont_Ring_powers x.1 x.2.1)
noncomputable def c_mont_Ring_Prod_1 : Con := conV true [(.arr 4 (.int .u64)), (.int .i64)] [(.int .i64)] fun x => mont_Ring_Prod_1 x.1 x.2.1
noncomputable def x_mont_Ring_Prod_1 : Cx := { ti := ti, con := [(92, c_nat_Down), (93, c_nat_Up), (65, c_nat_Int)], fns := [], un := 6 }
theorem xok_mont_Ring_Prod_1 : CxOk Tryz.prog x_mont_Ring_Prod_1 := CxOk.of mixed ti_ok (List.forall_mem_cons.2 ⟨con_nat_Down, List.forall_mem_cons.2 ⟨con_nat_Up, List.forall_mem_cons.2 ⟨con_nat_Int, List.forall_mem_nil _⟩⟩⟩) (List.forall_mem_nil _)
theorem fn_mont_Ring_Prod_1 : FnOk Tryz.prog 91 Tryz.f91 [] := ⟨Tryz.func91, Tryz.call91, lps_nil⟩
theorem e_mont_Ring_Prod_1 (e : (Nat → Int)) (at_ : Int) : bodyK x_mont_Ring_Prod_1 [] (denF x_mont_Ring_Prod_1 8) Tryz.f91 (domV [(.arr 4 (.int .u64)), (.int .i64)] (e, at_, ())) [] 0 (kOut [(.int .i64)]) = mont_Ring_Prod_1' e at_ := by kernel_rfl
theorem con_mont_Ring_Prod_1 : ConOk Tryz.prog 91 c_mont_Ring_Prod_1 := con_ok xok_mont_Ring_Prod_1 8 fn_mont_Ring_Prod_1 true [(.arr 4 (.int .u64)), (.int .i64)] [(.int .i64)] _ (by decide) (fun x => by rw [mont_Ring_Prod_1_eq]; exact e_mont_Ring_Prod_1 x.1 x.2.1)
abbrev S_mont_Ring_Prod_0 : Shape := { sl := [(0, (.pz (.pair (.arr 4 (.int .u64)) (.pair (.int .u64) (.pair (.arr 4 (.int .u64)) (.arr 4 (.int .u64))))))), (2, (.sz (.arr 4 (.int .u64)))), (6, (.c ⟨(.ptr (.arr 4 (.int .u64))), (.rf 0 [])⟩)), (8, (.w 119 (.arr 16 (.arr 4 (.int .u64))) 1)), (9, (.v (.int .i64))), (33, (.sz (.arr 4 (.int .u64)))), (34, (.v (.int .i64))), (35, (.v (.int .i64)))], ob := [(0, (.v (.arr 4 (.int .u64))))], lo := 1, nx := 2 }
abbrev E_mont_Ring_Prod_0 : List Ex := [(.normal, { sl := [(0, (.pz (.pair (.arr 4 (.int .u64)) (.pair (.int .u64) (.pair (.arr 4 (.int .u64)) (.arr 4 (.int .u64))))))), (2, (.sz (.arr 4 (.int .u64)))), (6, (.c ⟨(.ptr (.arr 4 (.int .u64))), (.rf 0 [])⟩)), (8, (.w 119 (.arr 16 (.arr 4 (.int .u64))) 2)), (9, (.v (.int .i64)))], ob := [(0, (.v (.arr 4 (.int .u64))))], lo := 2, nx := 3 })]
noncomputable def L_mont_Ring_Prod_0 : Code := loopIn (bodyOf Tryz.f73) 0
noncomputable def P_mont_Ring_Prod_0 : Lp := lpOf S_mont_Ring_Prod_0 E_mont_Ring_Prod_0 98 R_mont_Ring_Prod_0
abbrev S_mont_Ring_Prod_6 : Shape := { sl := [(0, (.pz (.pair (.arr 4 (.int .u64)) (.pair (.int .u64) (.pair (.arr 4 (.int .u64)) (.arr 4 (.int .u64))))))), (2, (.sz (.arr 4 (.int .u64)))), (6, (.c ⟨(.ptr (.arr 4 (.int .u64))), (.rf 0 [])⟩)), (8, (.w 119 (.arr 16 (.arr 4 (.int .u64))) 5)), (12, (.c ⟨.fn, (.mk 91 [])⟩)), (13, (.c ⟨(.ptr (.arr 4 (.int .u64))), (.rf 3 [])⟩)), (14, (.v (.int .i64))), (74, (.sz (.arr 4 (.int .u64)))), (75, (.v (.int .i64))), (76, (.v (.int .i64)))], ob := [(0, (.v (.arr 4 (.int .u64)))), (3, (.v (.arr 4 (.int .u64))))], lo := 5, nx := 6 }
abbrev E_mont_Ring_Prod_6 : List Ex := [(.normal, { sl := [(0, (.pz (.pair (.arr 4 (.int .u64)) (.pair (.int .u64) (.pair (.arr 4 (.int .u64)) (.arr 4 (.int .u64))))))), (2, (.sz (.arr 4 (.int .u64)))), (6, (.c ⟨(.ptr (.arr 4 (.int .u64))), (.rf 0 [])⟩)), (8, (.w 119 (.arr 16 (.arr 4 (.int .u64))) 6)), (12, (.c ⟨.fn, (.mk 91 [])⟩)), (13, (.c ⟨(.ptr (.arr 4 (.int .u64))), (.rf 3 [])⟩)), (14, (.v (.int .i64)))], ob := [(0, (.v (.arr 4 (.int .u64)))), (3, (.v (.arr 4 (.int .u64))))], lo := 6, nx := 7 })]
noncomputable def L_mont_Ring_Prod_6 : Code := loopIn (bodyOf Tryz.f73) 6
noncomputable def P_mont_Ring_Prod_6 : Lp := lpOf S_mont_Ring_Prod_6 E_mont_Ring_Prod_6 98 R_mont_Ring_Prod_6
abbrev S_mont_Ring_Prod_2 : Shape := { sl := [(0, (.pz (.pair (.arr 4 (.int .u64)) (.pair (.int .u64) (.pair (.arr 4 (.int .u64)) (.arr 4 (.int .u64))))))), (2, (.sz (.arr 4 (.int .u64)))), (6, (.c ⟨(.ptr (.arr 4 (.int .u64))), (.rf 0 [])⟩)), (8, (.w 119 (.arr 16 (.arr 4 (.int .u64))) 4)), (12, (.c ⟨.fn, (.mk 91 [])⟩)), (13, (.c ⟨(.ptr (.arr 4 (.int .u64))), (.rf 3 [])⟩)), (14, (.v (.int .i64)))], ob := [(0, (.v (.arr 4 (.int .u64)))), (3, (.v (.arr 4 (.int .u64))))], lo := 4, nx := 5 }
abbrev E_mont_Ring_Prod_2 : List Ex := [(.normal, { sl := [(0, (.pz (.pair (.arr 4 (.int .u64)) (.pair (.int .u64) (.pair (.arr 4 (.int .u64)) (.arr 4 (.int .u64))))))), (6, (.c ⟨(.ptr (.arr 4 (.int .u64))), (.rf 0 [])⟩)), (13, (.c ⟨(.ptr (.arr 4 (.int .u64))), (.rf 3 [])⟩))], ob := [(0, (.v (.arr 4 (.int .u64)))), (3, (.v (.arr 4 (.int .u64))))], lo := 5, nx := 5 })]
noncomputable def L_mont_Ring_Prod_2 : Code := loopIn (bodyOf Tryz.f73) 2
noncomputable def P_mont_Ring_Prod_2 : Lp := lpOf S_mont_Ring_Prod_2 E_mont_Ring_Prod_2 98 R_mont_Ring_Prod_2
noncomputable def c_mont_Ring_Prod : Con := conV true [(.ptr (.pair (.arr 4 (.int .u64)) (.pair (.int .u64) (.pair (.arr 4 (.int .u64)) (.arr 4 (.int .u64)))))), (.sl (.arr 4 (.int .u64))), (.sl (.arr 4 (.int .u64)))] [(.arr 4 (.int .u64)), (.int .i64)] fun x => mont_Ring_Prod x.1 x.2.1.1 x.2.1.2 x.2.2.1.1 x.2.2.1.2
noncomputable def x_mont_Ring_Prod : Cx := { ti := ti, con := [(71, c_mont_Ring_given), (90, c_mont_Ring_powers), (41, c_nat_Len), (77, c_mont_Ring_redc), (91, c_mont_Ring_Prod_1), (42, c_nat_Of)], fns := [], un := 6 }
theorem xok_mont_Ring_Prod : CxOk Tryz.prog x_mont_Ring_Prod := CxOk.of mixed ti_ok (List.forall_mem_cons.2 ⟨con_mont_Ring_given, List.forall_mem_cons.2 ⟨con_mont_Ring_powers, List.forall_mem_cons.2 ⟨con_nat_Len, List.forall_mem_cons.2 ⟨con_mont_Ring_redc, List.forall_mem_cons.2 ⟨con_mont_Ring_Prod_1, List.forall_mem_cons.2 ⟨con_nat_Of, List.forall_mem_nil _⟩⟩⟩⟩⟩⟩) (List.forall_mem_nil _)
theorem r_mont_Ring_Prod_0 (x : S_mont_Ring_Prod_0.X) : denC x_mont_Ring_Prod [] (denF x_mont_Ring_Prod 8) L_mont_Ring_Prod_0 (S_mont_Ring_Prod_0.mkS 98 x) (kRound 0 S_mont_Ring_Prod_0 E_mont_Ring_Prod_0) = R_mont_Ring_Prod_0 x := by kernel_rfl
theorem l_mont_Ring_Prod_0 : LpOk Tryz.prog 0 (.loop L_mont_Ring_Prod_0) P_mont_Ring_Prod_0 := lpOf_ok xok_mont_Ring_Prod 8 (lps_nil) S_mont_Ring_Prod_0 E_mont_Ring_Prod_0 98 R_mont_Ring_Prod_0 (by decide) r_mont_Ring_Prod_0
theorem r_mont_Ring_Prod_6 (x : S_mont_Ring_Prod_6.X) : denC x_mont_Ring_Prod [] (denF x_mont_Ring_Prod 8) L_mont_Ring_Prod_6 (S_mont_Ring_Prod_6.mkS 98 x) (kRound 6 S_mont_Ring_Prod_6 E_mont_Ring_Prod_6) = R_mont_Ring_Prod_6 x := by kernel_rfl
theorem l_mont_Ring_Prod_6 : LpOk Tryz.prog 6 (.loop L_mont_Ring_Prod_6) P_mont_Ring_Prod_6 := lpOf_ok xok_mont_Ring_Prod 8 (lps_nil) S_mont_Ring_Prod_6 E_mont_Ring_Prod_6 98 R_mont_Ring_Prod_6 (by decide) r_mont_Ring_Prod_6
theorem r_mont_Ring_Prod_2 (x : S_mont_Ring_Prod_2.X) : denC x_mont_Ring_Prod [(6, P_mont_Ring_Prod_6)] (denF x_mont_Ring_Prod 8) L_mont_Ring_Prod_2 (S_mont_Ring_Prod_2.mkS 98 x) (kRound 2 S_mont_Ring_Prod_2 E_mont_Ring_Prod_2) = R_mont_Ring_Prod_2 x := by kernel_rfl
theorem l_mont_Ring_Prod_2 : LpOk Tryz.prog 2 (.loop L_mont_Ring_Prod_2) P_mont_Ring_Prod_2 := lpOf_ok xok_mont_Ring_Prod 8 (lps_of (by kernel_rfl) (lps_one l_mont_Ring_Prod_6 (by kernel_rfl) (List.forall_mem_nil _))) S_mont_Ring_Prod_2 E_mont_Ring_Prod_2 98 R_mont_Ring_Prod_2 (by decide) r_mont_Ring_Prod_2
theorem fn_mont_Ring_Prod : FnOk Tryz.prog 73 Tryz.f73 [(0, P_mont_Ring_Prod_0), (6, P_mont_Ring_Prod_6), (2, P_mont_Ring_Prod_2)] := ⟨Tryz.func73, Tryz.call73, lps_of (by kernel_rfl) (lps_one l_mont_Ring_Prod_0 (by kernel_rfl) (lps_one l_mont_Ring_Prod_6 (by kernel_rfl) (lps_one l_mont_Ring_Prod_2 (by kernel_rfl) (List.forall_mem_nil _))))⟩
theorem e_mont_Ring_Prod (r : (Option ((Nat → Int) × (Int × ((Nat → Int) × (Nat → Int)))))) (nbases : Nat) (bases : Nat → (Nat → Int)) (nexps : Nat) (exps : Nat → (Nat → Int)) : bodyK x_mont_Ring_Prod [(0, P_mont_Ring_Prod_0), (6, P_mont_Ring_Prod_6), (2, P_mont_Ring_Prod_2)] (denF x_mont_Ring_Prod 8) Tryz.f73 (domV [(.ptr (.pair (.arr 4 (.int .u64)) (.pair (.int .u64) (.pair (.arr 4 (.int .u64)) (.arr 4 (.int .u64)))))), (.sl (.arr 4 (.int .u64))), (.sl (.arr 4 (.int .u64)))] (r, (nbases, bases), (nexps, exps), ())) [] 0 (kOut [(.arr 4 (.int .u64)), (.int .i64)]) = mont_Ring_Prod' r nbases bases nexps exps := by cases r <;> kernel_rfl
theorem con_mont_Ring_Prod : ConOk Tryz.prog 73 c_mont_Ring_Prod := con_ok xok_mont_Ring_Prod 8 fn_mont_Ring_Prod true [(.ptr (.pair (.arr 4 (.int .u64)) (.pair (.int .u64) (.pair (.arr 4 (.int .u64)) (.arr 4 (.int .u64)))))), (.sl (.arr 4 (.int .u64))), (.sl (.arr 4 (.int .u64)))] [(.arr 4 (.int .u64)), (.int .i64)] _ (by decide) (fun x => by rw [mont_Ring_Prod_eq]; exact e_mont_Ring_Prod x.1 x.2.1.1 x.2.1.2 x.2.2.1.1 x.2.2.1.2)
noncomputable def c_mont_Ring_Exp : Con := conV true [(.ptr (.pair (.arr 4 (.int .u64)) (.pair (.int .u64) (.pair (.arr 4 (.int .u64)) (.arr 4 (.int .u64)))))), (.arr 4 (.int .u64)), (.arr 4 (.int .u64))] [(.arr 4 (.int .u64))] fun x => mont_Ring_Exp x.1 x.2.1 x.2.2.1
noncomputable def x_mont_Ring_Exp : Cx := { ti := ti, con := [(73, c_mont_Ring_Prod)], fns := [], un := 6 }
theorem xok_mont_Ring_Exp : CxOk Tryz.prog x_mont_Ring_Exp := CxOk.of mixed ti_ok (List.forall_mem_cons.2 ⟨con_mont_Ring_Prod, List.forall_mem_nil _⟩) (List.forall_mem_nil _)
theorem fn_mont_Ring_Exp : FnOk Tryz.prog 44 Tryz.f44 [] := ⟨Tryz.func44, Tryz.call44, lps_nil⟩
theorem e_mont_Ring_Exp (r : (Option ((Nat → Int) × (Int × ((Nat → Int) × (Nat → Int)))))) (a : (Nat → Int)) (e : (Nat → Int)) : bodyK x_mont_Ring_Exp [] (denF x_mont_Ring_Exp 8) Tryz.f44 (domV [(.ptr (.pair (.arr 4 (.int .u64)) (.pair (.int .u64) (.pair (.arr 4 (.int .u64)) (.arr 4 (.int .u64)))))), (.arr 4 (.int .u64)), (.arr 4 (.int .u64))] (r, a, e, ())) [] 0 (kOut [(.arr 4 (.int .u64))]) = mont_Ring_Exp' r a e := by cases r <;> kernel_rfl
theorem con_mont_Ring_Exp : ConOk Tryz.prog 44 c_mont_Ring_Exp := con_ok xok_mont_Ring_Exp 8 fn_mont_Ring_Exp true [(.ptr (.pair (.arr 4 (.int .u64)) (.pair (.int .u64) (.pair (.arr 4 (.int .u64)) (.arr 4 (.int .u64)))))), (.arr 4 (.int .u64)), (.arr 4 (.int .u64))] [(.arr 4 (.int .u64))] _ (by decide) (fun x => by rw [mont_Ring_Exp_eq]; exact e_mont_Ring_Exp x.1 x.2.1 x.2.2.1)
noncomputable def c_mont_Ring_In : Con := conV true [(.ptr (.pair (.arr 4 (.int .u64)) (.pair (.int .u64) (.pair (.arr 4 (.int .u64)) (.arr 4 (.int .u64)))))), (.arr 4 (.int .u64))] [.bool] fun x => mont_Ring_In x.1 x.2.1
noncomputable def x_mont_Ring_In : Cx := { ti := ti, con := [(71, c_mont_Ring_given), (72, c_nat_Cmp)], fns := [], un := 6 }
theorem xok_mont_Ring_In : CxOk Tryz.prog x_mont_Ring_In := CxOk.of mixed ti_ok (List.forall_mem_cons.2 ⟨con_mont_Ring_given, List.forall_mem_cons.2 ⟨con_nat_Cmp, List.forall_mem_nil _⟩⟩) (List.forall_mem_nil _)
theorem fn_mont_Ring_In : FnOk Tryz.prog 43 Tryz.f43 [] := ⟨Tryz.func43, Tryz.call43, lps_nil⟩
theorem e_mont_Ring_In (r : (Option ((Nat → Int) × (Int × ((Nat → Int) × (Nat → Int)))))) (a : (Nat → Int)) : bodyK x_mont_Ring_In [] (denF x_mont_Ring_In 8) Tryz.f43 (domV [(.ptr (.pair (.arr 4 (.int .u64)) (.pair (.int .u64) (.pair (.arr 4 (.int .u64)) (.arr 4 (.int .u64)))))), (.arr 4 (.int .u64))] (r, a, ())) [] 0 (kOut [.bool]) = mont_Ring_In' r a := by cases r <;> kernel_rfl
theorem con_mont_Ring_In : ConOk Tryz.prog 43 c_mont_Ring_In := con_ok xok_mont_Ring_In 8 fn_mont_Ring_In true [(.ptr (.pair (.arr 4 (.int .u64)) (.pair (.int .u64) (.pair (.arr 4 (.int .u64)) (.arr 4 (.int .u64)))))), (.arr 4 (.int .u64))] [.bool] _ (by decide) (fun x => by rw [mont_Ring_In_eq]; exact e_mont_Ring_In x.1 x.2.1)
noncomputable def c_mont_Ring_Mul : Con := conV true [(.ptr (.pair (.arr 4 (.int .u64)) (.pair (.int .u64) (.pair (.arr 4 (.int .u64)) (.arr 4 (.int .u64)))))), (.arr 4 (.int .u64)), (.arr 4 (.int .u64))] [(.arr 4 (.int .u64))] fun x => mont_Ring_Mul x.1 x.2.1 x.2.2.1
noncomputable def x_mont_Ring_Mul : Cx := { ti := ti, con := [(71, c_mont_Ring_given), (78, c_mont_Ring_Form), (79, c_mont_Ring_low), (77, c_mont_Ring_redc)], fns := [], un := 6 }
theorem xok_mont_Ring_Mul : CxOk Tryz.prog x_mont_Ring_Mul := CxOk.of mixed ti_ok (List.forall_mem_cons.2 ⟨con_mont_Ring_given, List.forall_mem_cons.2 ⟨con_mont_Ring_Form, List.forall_mem_cons.2 ⟨con_mont_Ring_low, List.forall_mem_cons.2 ⟨con_mont_Ring_redc, List.forall_mem_nil _⟩⟩⟩⟩) (List.forall_mem_nil _)
theorem fn_mont_Ring_Mul : FnOk Tryz.prog 53 Tryz.f53 [] := ⟨Tryz.func53, Tryz.call53, lps_nil⟩
theorem e_mont_Ring_Mul (r : (Option ((Nat → Int) × (Int × ((Nat → Int) × (Nat → Int)))))) (a : (Nat → Int)) (b : (Nat → Int)) : bodyK x_mont_Ring_Mul [] (denF x_mont_Ring_Mul 8) Tryz.f53 (domV [(.ptr (.pair (.arr 4 (.int .u64)) (.pair (.int .u64) (.pair (.arr 4 (.int .u64)) (.arr 4 (.int .u64)))))), (.arr 4 (.int .u64)), (.arr 4 (.int .u64))] (r, a, b, ())) [] 0 (kOut [(.arr 4 (.int .u64))]) = mont_Ring_Mul' r a b := by cases r <;> kernel_rfl
theorem con_mont_Ring_Mul : ConOk Tryz.prog 53 c_mont_Ring_Mul := con_ok xok_mont_Ring_Mul 8 fn_mont_Ring_Mul true [(.ptr (.pair (.arr 4 (.int .u64)) (.pair (.int .u64) (.pair (.arr 4 (.int .u64)) (.arr 4 (.int .u64)))))), (.arr 4 (.int .u64)), (.arr 4 (.int .u64))] [(.arr 4 (.int .u64))] _ (by decide) (fun x => by rw [mont_Ring_Mul_eq]; exact e_mont_Ring_Mul x.1 x.2.1 x.2.2.1)
noncomputable def c_mont_Ring_M : Con := conV true [(.ptr (.pair (.arr 4 (.int .u64)) (.pair (.int .u64) (.pair (.arr 4 (.int .u64)) (.arr 4 (.int .u64))))))] [(.arr 4 (.int .u64))] fun x => mont_Ring_M x.1
noncomputable def x_mont_Ring_M : Cx := { ti := ti, con := [(71, c_mont_Ring_given)], fns := [], un := 6 }
theorem xok_mont_Ring_M : CxOk Tryz.prog x_mont_Ring_M := CxOk.of mixed ti_ok (List.forall_mem_cons.2 ⟨con_mont_Ring_given, List.forall_mem_nil _⟩) (List.forall_mem_nil _)
theorem fn_mont_Ring_M : FnOk Tryz.prog 76 Tryz.f76 [] := ⟨Tryz.func76, Tryz.call76, lps_nil⟩
theorem e_mont_Ring_M (r : (Option ((Nat → Int) × (Int × ((Nat → Int) × (Nat → Int)))))) : bodyK x_mont_Ring_M [] (denF x_mont_Ring_M 8) Tryz.f76 (domV [(.ptr (.pair (.arr 4 (.int .u64)) (.pair (.int .u64) (.pair (.arr 4 (.int .u64)) (.arr 4 (.int .u64))))))] (r, ())) [] 0 (kOut [(.arr 4 (.int .u64))]) = mont_Ring_M' r := by cases r <;> kernel_rfl
theorem con_mont_Ring_M : ConOk Tryz.prog 76 c_mont_Ring_M := con_ok xok_mont_Ring_M 8 fn_mont_Ring_M true [(.ptr (.pair (.arr 4 (.int .u64)) (.pair (.int .u64) (.pair (.arr 4 (.int .u64)) (.arr 4 (.int .u64))))))] [(.arr 4 (.int .u64))] _ (by decide) (fun x => by rw [mont_Ring_M_eq]; exact e_mont_Ring_M x.1)
end Go.Proofs.YtennopklknlecaaGreat

set_option linter.unusedVariables false
set_option linter.unusedSimpArgs false
set_option maxRecDepth 100000
set_option maxHeartbeats 0
namespace Go.Pl
end Go.Pl
open Go Go.Den Go.Pl
namespace Go.Proofs.YtennopklknlecaaGreat
abbrev S_prime_Small_0 : Shape := { sl := [(0, (.v (.int .i64))), (3, (.v .bool)), (11, (.v (.int .i64))), (12, (.v (.int .i64)))], ob := [], lo := 0, nx := 0 }
abbrev E_prime_Small_0 : List Ex := [(.normal, { sl := [(3, (.v .bool))], ob := [], lo := 0, nx := 0 })]
noncomputable def L_prime_Small_0 : Code := loopIn (bodyOf Tryz.f66) 0
noncomputable def P_prime_Small_0 : Lp := lpOf S_prime_Small_0 E_prime_Small_0 31 R_prime_Small_0
noncomputable def c_prime_Small : Con := conV true [(.int .i64)] [.bool] fun x => prime_Small x.1
noncomputable def x_prime_Small : Cx := { ti := ti, con := [], fns := [], un := 6 }
theorem xok_prime_Small : CxOk Tryz.prog x_prime_Small := CxOk.of mixed ti_ok (List.forall_mem_nil _) (List.forall_mem_nil _)
theorem r_prime_Small_0 (x : S_prime_Small_0.X) : denC x_prime_Small [] (denF x_prime_Small 8) L_prime_Small_0 (S_prime_Small_0.mkS 31 x) (kRound 0 S_prime_Small_0 E_prime_Small_0) = R_prime_Small_0 x := by kernel_rfl
theorem l_prime_Small_0 : LpOk Tryz.prog 0 (.loop L_prime_Small_0) P_prime_Small_0 := lpOf_ok xok_prime_Small 8 (lps_nil) S_prime_Small_0 E_prime_Small_0 31 R_prime_Small_0 (by decide) r_prime_Small_0
theorem fn_prime_Small : FnOk Tryz.prog 66 Tryz.f66 [(0, P_prime_Small_0)] := ⟨Tryz.func66, Tryz.call66, lps_of (by kernel_rfl) (lps_one l_prime_Small_0 (by kernel_rfl) (List.forall_mem_nil _))⟩
theorem e_prime_Small (n : Int) : bodyK x_prime_Small [(0, P_prime_Small_0)] (denF x_prime_Small 8) Tryz.f66 (domV [(.int .i64)] (n, ())) [] 0 (kOut [.bool]) = prime_Small' n := by kernel_rfl
theorem con_prime_Small : ConOk Tryz.prog 66 c_prime_Small := con_ok xok_prime_Small 8 fn_prime_Small true [(.int .i64)] [.bool] _ (by decide) (fun x => by rw [prime_Small_eq]; exact e_prime_Small x.1)
noncomputable def c_prime_Step : Con := conV true [(.arr 4 (.int .u64)), (.arr 4 (.int .u64)), (.int .i64)] [.bool] fun x => prime_Step x.1 x.2.1 x.2.2.1
noncomputable def x_prime_Step : Cx := { ti := ti, con := [(40, c_mont_New), (42, c_nat_Of), (74, c_nat_Sub), (80, c_wide_Div), (87, c_wide_Mul), (72, c_nat_Cmp), (44, c_mont_Ring_Exp), (47, c_wide_SubMod), (88, c_wide_Gcd)], fns := [], un := 6 }
theorem xok_prime_Step : CxOk Tryz.prog x_prime_Step := CxOk.of mixed ti_ok (List.forall_mem_cons.2 ⟨con_mont_New, List.forall_mem_cons.2 ⟨con_nat_Of, List.forall_mem_cons.2 ⟨con_nat_Sub, List.forall_mem_cons.2 ⟨con_wide_Div, List.forall_mem_cons.2 ⟨con_wide_Mul, List.forall_mem_cons.2 ⟨con_nat_Cmp, List.forall_mem_cons.2 ⟨con_mont_Ring_Exp, List.forall_mem_cons.2 ⟨con_wide_SubMod, List.forall_mem_cons.2 ⟨con_wide_Gcd, List.forall_mem_nil _⟩⟩⟩⟩⟩⟩⟩⟩⟩) (List.forall_mem_nil _)
theorem fn_prime_Step : FnOk Tryz.prog 67 Tryz.f67 [] := ⟨Tryz.func67, Tryz.call67, lps_nil⟩
theorem e_prime_Step (n : (Nat → Int)) (factor : (Nat → Int)) (witness : Int) : bodyK x_prime_Step [] (denF x_prime_Step 8) Tryz.f67 (domV [(.arr 4 (.int .u64)), (.arr 4 (.int .u64)), (.int .i64)] (n, factor, witness, ())) [] 0 (kOut [.bool]) = prime_Step' n factor witness := by kernel_rfl
theorem con_prime_Step : ConOk Tryz.prog 67 c_prime_Step := con_ok xok_prime_Step 8 fn_prime_Step true [(.arr 4 (.int .u64)), (.arr 4 (.int .u64)), (.int .i64)] [.bool] _ (by decide) (fun x => by rw [prime_Step_eq]; exact e_prime_Step x.1 x.2.1 x.2.2.1)
abbrev S_prime_Check_0 : Shape := { sl := [(0, (.sz (.pair (.arr 4 (.int .u64)) (.int .i64)))), (5, (.v (.int .i64)))], ob := [], lo := 0, nx := 0 }
abbrev E_prime_Check_0 : List Ex := [(.ret, { sl := [(2, (.v (.int .i64)))], ob := [], lo := 0, nx := 0 }), (.normal, { sl := [], ob := [], lo := 0, nx := 0 })]
noncomputable def L_prime_Check_0 : Code := loopIn (bodyOf Tryz.f39) 0
noncomputable def P_prime_Check_0 : Lp := lpOf S_prime_Check_0 E_prime_Check_0 60 R_prime_Check_0
noncomputable def c_prime_Check : Con := conV true [(.sl (.pair (.arr 4 (.int .u64)) (.int .i64)))] [(.int .i64)] fun x => prime_Check x.1.1 x.1.2
noncomputable def x_prime_Check : Cx := { ti := ti, con := [(65, c_nat_Int), (66, c_prime_Small), (67, c_prime_Step)], fns := [], un := 6 }
theorem xok_prime_Check : CxOk Tryz.prog x_prime_Check := CxOk.of mixed ti_ok (List.forall_mem_cons.2 ⟨con_nat_Int, List.forall_mem_cons.2 ⟨con_prime_Small, List.forall_mem_cons.2 ⟨con_prime_Step, List.forall_mem_nil _⟩⟩⟩) (List.forall_mem_nil _)
theorem r_prime_Check_0 (x : S_prime_Check_0.X) : denC x_prime_Check [] (denF x_prime_Check 8) L_prime_Check_0 (S_prime_Check_0.mkS 60 x) (kRound 0 S_prime_Check_0 E_prime_Check_0) = R_prime_Check_0 x := by kernel_rfl
theorem l_prime_Check_0 : LpOk Tryz.prog 0 (.loop L_prime_Check_0) P_prime_Check_0 := lpOf_ok xok_prime_Check 8 (lps_nil) S_prime_Check_0 E_prime_Check_0 60 R_prime_Check_0 (by decide) r_prime_Check_0
theorem fn_prime_Check : FnOk Tryz.prog 39 Tryz.f39 [(0, P_prime_Check_0)] := ⟨Tryz.func39, Tryz.call39, lps_of (by kernel_rfl) (lps_one l_prime_Check_0 (by kernel_rfl) (List.forall_mem_nil _))⟩
theorem e_prime_Check (nl : Nat) (l : Nat → ((Nat → Int) × Int)) : bodyK x_prime_Check [(0, P_prime_Check_0)] (denF x_prime_Check 8) Tryz.f39 (domV [(.sl (.pair (.arr 4 (.int .u64)) (.int .i64)))] ((nl, l), ())) [] 0 (kOut [(.int .i64)]) = prime_Check' nl l := by kernel_rfl
theorem con_prime_Check : ConOk Tryz.prog 39 c_prime_Check := con_ok xok_prime_Check 8 fn_prime_Check true [(.sl (.pair (.arr 4 (.int .u64)) (.int .i64)))] [(.int .i64)] _ (by decide) (fun x => by rw [prime_Check_eq]; exact e_prime_Check x.1.1 x.1.2)
end Go.Proofs.YtennopklknlecaaGreat

set_option linter.unusedVariables false
set_option linter.unusedSimpArgs false
set_option maxRecDepth 100000
set_option maxHeartbeats 0
namespace Go.Pl
end Go.Pl
open Go Go.Den Go.Pl
namespace Go.Proofs.YtennopklknlecaaGreat
noncomputable def c_group_New : Con := conV false [(.pair (.sl (.pair (.arr 4 (.int .u64)) (.int .i64))) (.arr 4 (.int .u64)))] [(.ptr (.pair (.pair (.ptr (.pair (.arr 4 (.int .u64)) (.pair (.int .u64) (.pair (.arr 4 (.int .u64)) (.arr 4 (.int .u64)))))) (.ptr (.pair (.arr 4 (.int .u64)) (.pair (.int .u64) (.pair (.arr 4 (.int .u64)) (.arr 4 (.int .u64))))))) (.arr 4 (.int .u64)))), (.int .i64)] fun x => group_New x.1
noncomputable def x_group_New : Cx := { ti := ti, con := [(39, c_prime_Check), (40, c_mont_New), (41, c_nat_Len), (42, c_nat_Of), (43, c_mont_Ring_In), (44, c_mont_Ring_Exp)], fns := [], un := 6 }
theorem xok_group_New : CxOk Tryz.prog x_group_New := CxOk.of mixed ti_ok (List.forall_mem_cons.2 ⟨con_prime_Check, List.forall_mem_cons.2 ⟨con_mont_New, List.forall_mem_cons.2 ⟨con_nat_Len, List.forall_mem_cons.2 ⟨con_nat_Of, List.forall_mem_cons.2 ⟨con_mont_Ring_In, List.forall_mem_cons.2 ⟨con_mont_Ring_Exp, List.forall_mem_nil _⟩⟩⟩⟩⟩⟩) (List.forall_mem_nil _)
theorem fn_group_New : FnOk Tryz.prog 15 Tryz.f15 [] := ⟨Tryz.func15, Tryz.call15, lps_nil⟩
theorem e_group_New (p : ((Nat × (Nat → ((Nat → Int) × Int))) × (Nat → Int))) : bodyK x_group_New [] (denF x_group_New 8) Tryz.f15 (domV [(.pair (.sl (.pair (.arr 4 (.int .u64)) (.int .i64))) (.arr 4 (.int .u64)))] (p, ())) [] 0 (kOut [(.ptr (.pair (.pair (.ptr (.pair (.arr 4 (.int .u64)) (.pair (.int .u64) (.pair (.arr 4 (.int .u64)) (.arr 4 (.int .u64)))))) (.ptr (.pair (.arr 4 (.int .u64)) (.pair (.int .u64) (.pair (.arr 4 (.int .u64)) (.arr 4 (.int .u64))))))) (.arr 4 (.int .u64)))), (.int .i64)]) = group_New' p := by kernel_rfl
theorem con_group_New : ConOk Tryz.prog 15 c_group_New := con_ok xok_group_New 8 fn_group_New false [(.pair (.sl (.pair (.arr 4 (.int .u64)) (.int .i64))) (.arr 4 (.int .u64)))] [(.ptr (.pair (.pair (.ptr (.pair (.arr 4 (.int .u64)) (.pair (.int .u64) (.pair (.arr 4 (.int .u64)) (.arr 4 (.int .u64)))))) (.ptr (.pair (.arr 4 (.int .u64)) (.pair (.int .u64) (.pair (.arr 4 (.int .u64)) (.arr 4 (.int .u64))))))) (.arr 4 (.int .u64)))), (.int .i64)] _ (by decide) (fun x => by rw [group_New_eq]; exact e_group_New x.1)
noncomputable def c_group_Group_Field : Con := conV false [(.ptr (.pair (.pair (.ptr (.pair (.arr 4 (.int .u64)) (.pair (.int .u64) (.pair (.arr 4 (.int .u64)) (.arr 4 (.int .u64)))))) (.ptr (.pair (.arr 4 (.int .u64)) (.pair (.int .u64) (.pair (.arr 4 (.int .u64)) (.arr 4 (.int .u64))))))) (.arr 4 (.int .u64))))] [(.ptr (.pair (.arr 4 (.int .u64)) (.pair (.int .u64) (.pair (.arr 4 (.int .u64)) (.arr 4 (.int .u64))))))] fun x => group_Group_Field x.1
noncomputable def x_group_Group_Field : Cx := { ti := ti, con := [], fns := [], un := 6 }
theorem xok_group_Group_Field : CxOk Tryz.prog x_group_Group_Field := CxOk.of mixed ti_ok (List.forall_mem_nil _) (List.forall_mem_nil _)
theorem fn_group_Group_Field : FnOk Tryz.prog 18 Tryz.f18 [] := ⟨Tryz.func18, Tryz.call18, lps_nil⟩
theorem e_group_Group_Field (g : (Option (((PtrV ((Nat → Int) × (Int × ((Nat → Int) × (Nat → Int))))) × (PtrV ((Nat → Int) × (Int × ((Nat → Int) × (Nat → Int)))))) × (Nat → Int)))) : bodyK x_group_Group_Field [] (denF x_group_Group_Field 8) Tryz.f18 (domV [(.ptr (.pair (.pair (.ptr (.pair (.arr 4 (.int .u64)) (.pair (.int .u64) (.pair (.arr 4 (.int .u64)) (.arr 4 (.int .u64)))))) (.ptr (.pair (.arr 4 (.int .u64)) (.pair (.int .u64) (.pair (.arr 4 (.int .u64)) (.arr 4 (.int .u64))))))) (.arr 4 (.int .u64))))] (g, ())) [] 0 (kOut [(.ptr (.pair (.arr 4 (.int .u64)) (.pair (.int .u64) (.pair (.arr 4 (.int .u64)) (.arr 4 (.int .u64))))))]) = group_Group_Field' g := by cases g <;> kernel_rfl
theorem con_group_Group_Field : ConOk Tryz.prog 18 c_group_Group_Field := con_ok xok_group_Group_Field 8 fn_group_Group_Field false [(.ptr (.pair (.pair (.ptr (.pair (.arr 4 (.int .u64)) (.pair (.int .u64) (.pair (.arr 4 (.int .u64)) (.arr 4 (.int .u64)))))) (.ptr (.pair (.arr 4 (.int .u64)) (.pair (.int .u64) (.pair (.arr 4 (.int .u64)) (.arr 4 (.int .u64))))))) (.arr 4 (.int .u64))))] [(.ptr (.pair (.arr 4 (.int .u64)) (.pair (.int .u64) (.pair (.arr 4 (.int .u64)) (.arr 4 (.int .u64))))))] _ (by decide) (fun x => by rw [group_Group_Field_eq]; exact e_group_Group_Field x.1)
noncomputable def c_group_Group_Q : Con := conV true [(.ptr (.pair (.pair (.ptr (.pair (.arr 4 (.int .u64)) (.pair (.int .u64) (.pair (.arr 4 (.int .u64)) (.arr 4 (.int .u64)))))) (.ptr (.pair (.arr 4 (.int .u64)) (.pair (.int .u64) (.pair (.arr 4 (.int .u64)) (.arr 4 (.int .u64))))))) (.arr 4 (.int .u64))))] [(.arr 4 (.int .u64))] fun x => group_Group_Q x.1
noncomputable def x_group_Group_Q : Cx := { ti := ti, con := [(18, c_group_Group_Field), (76, c_mont_Ring_M)], fns := [], un := 6 }
theorem xok_group_Group_Q : CxOk Tryz.prog x_group_Group_Q := CxOk.of mixed ti_ok (List.forall_mem_cons.2 ⟨con_group_Group_Field, List.forall_mem_cons.2 ⟨con_mont_Ring_M, List.forall_mem_nil _⟩⟩) (List.forall_mem_nil _)
theorem fn_group_Group_Q : FnOk Tryz.prog 48 Tryz.f48 [] := ⟨Tryz.func48, Tryz.call48, lps_nil⟩
theorem e_group_Group_Q (g : (Option (((PtrV ((Nat → Int) × (Int × ((Nat → Int) × (Nat → Int))))) × (PtrV ((Nat → Int) × (Int × ((Nat → Int) × (Nat → Int)))))) × (Nat → Int)))) : bodyK x_group_Group_Q [] (denF x_group_Group_Q 8) Tryz.f48 (domV [(.ptr (.pair (.pair (.ptr (.pair (.arr 4 (.int .u64)) (.pair (.int .u64) (.pair (.arr 4 (.int .u64)) (.arr 4 (.int .u64)))))) (.ptr (.pair (.arr 4 (.int .u64)) (.pair (.int .u64) (.pair (.arr 4 (.int .u64)) (.arr 4 (.int .u64))))))) (.arr 4 (.int .u64))))] (g, ())) [] 0 (kOut [(.arr 4 (.int .u64))]) = group_Group_Q' g := by cases g <;> kernel_rfl
theorem con_group_Group_Q : ConOk Tryz.prog 48 c_group_Group_Q := con_ok xok_group_Group_Q 8 fn_group_Group_Q true [(.ptr (.pair (.pair (.ptr (.pair (.arr 4 (.int .u64)) (.pair (.int .u64) (.pair (.arr 4 (.int .u64)) (.arr 4 (.int .u64)))))) (.ptr (.pair (.arr 4 (.int .u64)) (.pair (.int .u64) (.pair (.arr 4 (.int .u64)) (.arr 4 (.int .u64))))))) (.arr 4 (.int .u64))))] [(.arr 4 (.int .u64))] _ (by decide) (fun x => by rw [group_Group_Q_eq]; exact e_group_Group_Q x.1)
end Go.Proofs.YtennopklknlecaaGreat

set_option linter.unusedVariables false
set_option linter.unusedSimpArgs false
set_option maxRecDepth 100000
set_option maxHeartbeats 0
namespace Go.Pl
end Go.Pl
open Go Go.Den Go.Pl
namespace Go.Proofs.YtennopklknlecaaGreat
abbrev S_r01_Of_0 : Shape := { sl := [(1, (.c ⟨(.ptr (.arr 4 (.int .u64))), (.rf 0 [])⟩)), (2, (.c ⟨(.ptr (.arr 256 .bool)), (.rf 1 [])⟩)), (3, (.c ⟨(.ptr (.arr 256 .bool)), (.rf 2 [])⟩)), (4, (.v (.int .i64)))], ob := [(0, (.v (.arr 4 (.int .u64)))), (1, (.v (.arr 256 .bool))), (2, (.v (.arr 256 .bool)))], lo := 3, nx := 3 }
abbrev E_r01_Of_0 : List Ex := [(.normal, { sl := [(2, (.c ⟨(.ptr (.arr 256 .bool)), (.rf 1 [])⟩)), (3, (.c ⟨(.ptr (.arr 256 .bool)), (.rf 2 [])⟩))], ob := [(1, (.v (.arr 256 .bool))), (2, (.v (.arr 256 .bool)))], lo := 3, nx := 3 })]
noncomputable def L_r01_Of_0 : Code := loopIn (bodyOf Tryz.f46) 0
noncomputable def P_r01_Of_0 : Lp := lpOf S_r01_Of_0 E_r01_Of_0 22 R_r01_Of_0
noncomputable def c_r01_Of : Con := conV true [(.arr 4 (.int .u64))] [(.arr 256 .bool)] fun x => r01_Of x.1
noncomputable def x_r01_Of : Cx := { ti := ti, con := [], fns := [], un := 6 }
theorem xok_r01_Of : CxOk Tryz.prog x_r01_Of := CxOk.of mixed ti_ok (List.forall_mem_nil _) (List.forall_mem_nil _)
theorem r_r01_Of_0 (x : S_r01_Of_0.X) : denC x_r01_Of [] (denF x_r01_Of 8) L_r01_Of_0 (S_r01_Of_0.mkS 22 x) (kRound 0 S_r01_Of_0 E_r01_Of_0) = R_r01_Of_0 x := by kernel_rfl
theorem l_r01_Of_0 : LpOk Tryz.prog 0 (.loop L_r01_Of_0) P_r01_Of_0 := lpOf_ok xok_r01_Of 8 (lps_nil) S_r01_Of_0 E_r01_Of_0 22 R_r01_Of_0 (by decide) r_r01_Of_0
theorem fn_r01_Of : FnOk Tryz.prog 46 Tryz.f46 [(0, P_r01_Of_0)] := ⟨Tryz.func46, Tryz.call46, lps_of (by kernel_rfl) (lps_one l_r01_Of_0 (by kernel_rfl) (List.forall_mem_nil _))⟩
theorem e_r01_Of (a : (Nat → Int)) : bodyK x_r01_Of [(0, P_r01_Of_0)] (denF x_r01_Of 8) Tryz.f46 (domV [(.arr 4 (.int .u64))] (a, ())) [] 0 (kOut [(.arr 256 .bool)]) = r01_Of' a := by kernel_rfl
theorem con_r01_Of : ConOk Tryz.prog 46 c_r01_Of := con_ok xok_r01_Of 8 fn_r01_Of true [(.arr 4 (.int .u64))] [(.arr 256 .bool)] _ (by decide) (fun x => by rw [r01_Of_eq]; exact e_r01_Of x.1)
abbrev S_r01_Len_0 : Shape := { sl := [(3, (.c ⟨(.ptr (.arr 256 .bool)), (.rf 1 [])⟩)), (4, (.v (.int .i64)))], ob := [(1, (.v (.arr 256 .bool)))], lo := 2, nx := 2 }
abbrev E_r01_Len_0 : List Ex := [(.ret, { sl := [(2, (.v (.int .i64)))], ob := [], lo := 2, nx := 2 }), (.normal, { sl := [], ob := [], lo := 2, nx := 2 })]
noncomputable def L_r01_Len_0 : Code := loopIn (bodyOf Tryz.f45) 0
noncomputable def P_r01_Len_0 : Lp := lpOf S_r01_Len_0 E_r01_Len_0 16 R_r01_Len_0
noncomputable def c_r01_Len : Con := conV true [(.arr 4 (.int .u64))] [(.int .i64)] fun x => r01_Len x.1
noncomputable def x_r01_Len : Cx := { ti := ti, con := [(46, c_r01_Of)], fns := [], un := 6 }
theorem xok_r01_Len : CxOk Tryz.prog x_r01_Len := CxOk.of mixed ti_ok (List.forall_mem_cons.2 ⟨con_r01_Of, List.forall_mem_nil _⟩) (List.forall_mem_nil _)
theorem r_r01_Len_0 (x : S_r01_Len_0.X) : denC x_r01_Len [] (denF x_r01_Len 8) L_r01_Len_0 (S_r01_Len_0.mkS 16 x) (kRound 0 S_r01_Len_0 E_r01_Len_0) = R_r01_Len_0 x := by kernel_rfl
theorem l_r01_Len_0 : LpOk Tryz.prog 0 (.loop L_r01_Len_0) P_r01_Len_0 := lpOf_ok xok_r01_Len 8 (lps_nil) S_r01_Len_0 E_r01_Len_0 16 R_r01_Len_0 (by decide) r_r01_Len_0
theorem fn_r01_Len : FnOk Tryz.prog 45 Tryz.f45 [(0, P_r01_Len_0)] := ⟨Tryz.func45, Tryz.call45, lps_of (by kernel_rfl) (lps_one l_r01_Len_0 (by kernel_rfl) (List.forall_mem_nil _))⟩
theorem e_r01_Len (a : (Nat → Int)) : bodyK x_r01_Len [(0, P_r01_Len_0)] (denF x_r01_Len 8) Tryz.f45 (domV [(.arr 4 (.int .u64))] (a, ())) [] 0 (kOut [(.int .i64)]) = r01_Len' a := by kernel_rfl
theorem con_r01_Len : ConOk Tryz.prog 45 c_r01_Len := con_ok xok_r01_Len 8 fn_r01_Len true [(.arr 4 (.int .u64))] [(.int .i64)] _ (by decide) (fun x => by rw [r01_Len_eq]; exact e_r01_Len x.1)
abbrev S_r01_Low_0 : Shape := { sl := [(4, (.v (.int .i64))), (5, (.c ⟨(.ptr (.arr 256 .bool)), (.rf 1 [])⟩)), (6, (.v (.int .i64)))], ob := [(1, (.v (.arr 256 .bool)))], lo := 2, nx := 2 }
abbrev E_r01_Low_0 : List Ex := [(.normal, { sl := [(4, (.v (.int .i64)))], ob := [], lo := 2, nx := 2 })]
noncomputable def L_r01_Low_0 : Code := loopIn (bodyOf Tryz.f16) 0
noncomputable def P_r01_Low_0 : Lp := lpOf S_r01_Low_0 E_r01_Low_0 24 R_r01_Low_0
noncomputable def c_r01_Low : Con := conV true [(.arr 4 (.int .u64))] [(.int .i64), .bool] fun x => r01_Low x.1
noncomputable def x_r01_Low : Cx := { ti := ti, con := [(45, c_r01_Len), (46, c_r01_Of)], fns := [], un := 6 }
theorem xok_r01_Low : CxOk Tryz.prog x_r01_Low := CxOk.of mixed ti_ok (List.forall_mem_cons.2 ⟨con_r01_Len, List.forall_mem_cons.2 ⟨con_r01_Of, List.forall_mem_nil _⟩⟩) (List.forall_mem_nil _)
theorem r_r01_Low_0 (x : S_r01_Low_0.X) : denC x_r01_Low [] (denF x_r01_Low 8) L_r01_Low_0 (S_r01_Low_0.mkS 24 x) (kRound 0 S_r01_Low_0 E_r01_Low_0) = R_r01_Low_0 x := by kernel_rfl
theorem l_r01_Low_0 : LpOk Tryz.prog 0 (.loop L_r01_Low_0) P_r01_Low_0 := lpOf_ok xok_r01_Low 8 (lps_nil) S_r01_Low_0 E_r01_Low_0 24 R_r01_Low_0 (by decide) r_r01_Low_0
theorem fn_r01_Low : FnOk Tryz.prog 16 Tryz.f16 [(0, P_r01_Low_0)] := ⟨Tryz.func16, Tryz.call16, lps_of (by kernel_rfl) (lps_one l_r01_Low_0 (by kernel_rfl) (List.forall_mem_nil _))⟩
theorem e_r01_Low (a : (Nat → Int)) : bodyK x_r01_Low [(0, P_r01_Low_0)] (denF x_r01_Low 8) Tryz.f16 (domV [(.arr 4 (.int .u64))] (a, ())) [] 0 (kOut [(.int .i64), .bool]) = r01_Low' a := by kernel_rfl
theorem con_r01_Low : ConOk Tryz.prog 16 c_r01_Low := con_ok xok_r01_Low 8 fn_r01_Low true [(.arr 4 (.int .u64))] [(.int .i64), .bool] _ (by decide) (fun x => by rw [r01_Low_eq]; exact e_r01_Low x.1)
abbrev S_r01_Nat_0 : Shape := { sl := [(1, (.c ⟨(.ptr (.arr 256 .bool)), (.rf 0 [])⟩)), (2, (.c ⟨(.ptr (.arr 4 (.int .u64))), (.rf 1 [])⟩)), (3, (.c ⟨(.ptr (.arr 4 (.int .u64))), (.rf 2 [])⟩)), (4, (.v (.int .i64)))], ob := [(0, (.v (.arr 256 .bool))), (1, (.v (.arr 4 (.int .u64)))), (2, (.v (.arr 4 (.int .u64))))], lo := 3, nx := 3 }
abbrev E_r01_Nat_0 : List Ex := [(.normal, { sl := [(2, (.c ⟨(.ptr (.arr 4 (.int .u64))), (.rf 1 [])⟩)), (3, (.c ⟨(.ptr (.arr 4 (.int .u64))), (.rf 2 [])⟩))], ob := [(1, (.v (.arr 4 (.int .u64)))), (2, (.v (.arr 4 (.int .u64))))], lo := 3, nx := 3 })]
noncomputable def L_r01_Nat_0 : Code := loopIn (bodyOf Tryz.f62) 0
noncomputable def P_r01_Nat_0 : Lp := lpOf S_r01_Nat_0 E_r01_Nat_0 25 R_r01_Nat_0
noncomputable def c_r01_Nat : Con := conV true [(.arr 256 .bool)] [(.arr 4 (.int .u64))] fun x => r01_Nat x.1
noncomputable def x_r01_Nat : Cx := { ti := ti, con := [], fns := [], un := 6 }
theorem xok_r01_Nat : CxOk Tryz.prog x_r01_Nat := CxOk.of mixed ti_ok (List.forall_mem_nil _) (List.forall_mem_nil _)
theorem r_r01_Nat_0 (x : S_r01_Nat_0.X) : denC x_r01_Nat [] (denF x_r01_Nat 8) L_r01_Nat_0 (S_r01_Nat_0.mkS 25 x) (kRound 0 S_r01_Nat_0 E_r01_Nat_0) = R_r01_Nat_0 x := by kernel_rfl
theorem l_r01_Nat_0 : LpOk Tryz.prog 0 (.loop L_r01_Nat_0) P_r01_Nat_0 := lpOf_ok xok_r01_Nat 8 (lps_nil) S_r01_Nat_0 E_r01_Nat_0 25 R_r01_Nat_0 (by decide) r_r01_Nat_0
theorem fn_r01_Nat : FnOk Tryz.prog 62 Tryz.f62 [(0, P_r01_Nat_0)] := ⟨Tryz.func62, Tryz.call62, lps_of (by kernel_rfl) (lps_one l_r01_Nat_0 (by kernel_rfl) (List.forall_mem_nil _))⟩
theorem e_r01_Nat (b : (Nat → Bool)) : bodyK x_r01_Nat [(0, P_r01_Nat_0)] (denF x_r01_Nat 8) Tryz.f62 (domV [(.arr 256 .bool)] (b, ())) [] 0 (kOut [(.arr 4 (.int .u64))]) = r01_Nat' b := by kernel_rfl
theorem con_r01_Nat : ConOk Tryz.prog 62 c_r01_Nat := con_ok xok_r01_Nat 8 fn_r01_Nat true [(.arr 256 .bool)] [(.arr 4 (.int .u64))] _ (by decide) (fun x => by rw [r01_Nat_eq]; exact e_r01_Nat x.1)
abbrev S_r01_Int_0 : Shape := { sl := [(0, (.v (.int .i64))), (2, (.c ⟨(.ptr (.arr 4 (.int .u64))), (.rf 0 [])⟩)), (3, (.c ⟨(.ptr (.arr 256 .bool)), (.rf 1 [])⟩)), (4, (.v (.int .i64)))], ob := [(0, (.v (.arr 4 (.int .u64)))), (1, (.v (.arr 256 .bool)))], lo := 2, nx := 2 }
abbrev E_r01_Int_0 : List Ex := [(.normal, { sl := [(2, (.c ⟨(.ptr (.arr 4 (.int .u64))), (.rf 0 [])⟩)), (3, (.c ⟨(.ptr (.arr 256 .bool)), (.rf 1 [])⟩))], ob := [(0, (.v (.arr 4 (.int .u64)))), (1, (.v (.arr 256 .bool)))], lo := 2, nx := 2 })]
noncomputable def L_r01_Int_0 : Code := loopIn (bodyOf Tryz.f33) 0
noncomputable def P_r01_Int_0 : Lp := lpOf S_r01_Int_0 E_r01_Int_0 23 R_r01_Int_0
noncomputable def c_r01_Int : Con := conV true [(.int .i64)] [(.arr 4 (.int .u64))] fun x => r01_Int x.1
noncomputable def x_r01_Int : Cx := { ti := ti, con := [(62, c_r01_Nat)], fns := [], un := 6 }
theorem xok_r01_Int : CxOk Tryz.prog x_r01_Int := CxOk.of mixed ti_ok (List.forall_mem_cons.2 ⟨con_r01_Nat, List.forall_mem_nil _⟩) (List.forall_mem_nil _)
theorem r_r01_Int_0 (x : S_r01_Int_0.X) : denC x_r01_Int [] (denF x_r01_Int 8) L_r01_Int_0 (S_r01_Int_0.mkS 23 x) (kRound 0 S_r01_Int_0 E_r01_Int_0) = R_r01_Int_0 x := by kernel_rfl
theorem l_r01_Int_0 : LpOk Tryz.prog 0 (.loop L_r01_Int_0) P_r01_Int_0 := lpOf_ok xok_r01_Int 8 (lps_nil) S_r01_Int_0 E_r01_Int_0 23 R_r01_Int_0 (by decide) r_r01_Int_0
theorem fn_r01_Int : FnOk Tryz.prog 33 Tryz.f33 [(0, P_r01_Int_0)] := ⟨Tryz.func33, Tryz.call33, lps_of (by kernel_rfl) (lps_one l_r01_Int_0 (by kernel_rfl) (List.forall_mem_nil _))⟩
theorem e_r01_Int (n : Int) : bodyK x_r01_Int [(0, P_r01_Int_0)] (denF x_r01_Int 8) Tryz.f33 (domV [(.int .i64)] (n, ())) [] 0 (kOut [(.arr 4 (.int .u64))]) = r01_Int' n := by kernel_rfl
theorem con_r01_Int : ConOk Tryz.prog 33 c_r01_Int := con_ok xok_r01_Int 8 fn_r01_Int true [(.int .i64)] [(.arr 4 (.int .u64))] _ (by decide) (fun x => by rw [r01_Int_eq]; exact e_r01_Int x.1)
noncomputable def c_r01_Bit : Con := conV true [(.arr 4 (.int .u64)), (.int .i64)] [(.int .i64)] fun x => r01_Bit x.1 x.2.1
noncomputable def x_r01_Bit : Cx := { ti := ti, con := [(46, c_r01_Of)], fns := [], un := 6 }
theorem xok_r01_Bit : CxOk Tryz.prog x_r01_Bit := CxOk.of mixed ti_ok (List.forall_mem_cons.2 ⟨con_r01_Of, List.forall_mem_nil _⟩) (List.forall_mem_nil _)
theorem fn_r01_Bit : FnOk Tryz.prog 84 Tryz.f84 [] := ⟨Tryz.func84, Tryz.call84, lps_nil⟩
theorem e_r01_Bit (a : (Nat → Int)) (k : Int) : bodyK x_r01_Bit [] (denF x_r01_Bit 8) Tryz.f84 (domV [(.arr 4 (.int .u64)), (.int .i64)] (a, k, ())) [] 0 (kOut [(.int .i64)]) = r01_Bit' a k := by kernel_rfl
theorem con_r01_Bit : ConOk Tryz.prog 84 c_r01_Bit := con_ok xok_r01_Bit 8 fn_r01_Bit true [(.arr 4 (.int .u64)), (.int .i64)] [(.int .i64)] _ (by decide) (fun x => by rw [r01_Bit_eq]; exact e_r01_Bit x.1 x.2.1)
end Go.Proofs.YtennopklknlecaaGreat

set_option linter.unusedVariables false
set_option linter.unusedSimpArgs false
set_option maxRecDepth 100000
set_option maxHeartbeats 0
namespace Go.Pl
end Go.Pl
open Go Go.Den Go.Pl
namespace Go.Proofs.YtennopklknlecaaGreat
abbrev S_r02_Of_0 : Shape := { sl := [(2, (.c ⟨(.ptr (.arr 4 (.int .u64))), (.rf 0 [])⟩)), (3, (.c ⟨(.ptr (.arr 4 (.int .u64))), (.rf 1 [])⟩)), (4, (.c ⟨(.ptr (.arr 32 (.int .i64))), (.rf 2 [])⟩)), (5, (.c ⟨(.ptr (.arr 32 (.int .i64))), (.rf 3 [])⟩)), (6, (.v (.int .i64)))], ob := [(0, (.v (.arr 4 (.int .u64)))), (1, (.v (.arr 4 (.int .u64)))), (2, (.v (.arr 32 (.int .i64)))), (3, (.v (.arr 32 (.int .i64))))], lo := 4, nx := 4 }
abbrev E_r02_Of_0 : List Ex := [(.normal, { sl := [(4, (.c ⟨(.ptr (.arr 32 (.int .i64))), (.rf 2 [])⟩)), (5, (.c ⟨(.ptr (.arr 32 (.int .i64))), (.rf 3 [])⟩))], ob := [(2, (.v (.arr 32 (.int .i64)))), (3, (.v (.arr 32 (.int .i64))))], lo := 4, nx := 4 })]
noncomputable def L_r02_Of_0 : Code := loopIn (bodyOf Tryz.f82) 0
noncomputable def P_r02_Of_0 : Lp := lpOf S_r02_Of_0 E_r02_Of_0 38 R_r02_Of_0
noncomputable def c_r02_Of : Con := conV true [(.arr 4 (.int .u64)), (.arr 4 (.int .u64))] [(.arr 32 (.int .i64))] fun x => r02_Of x.1 x.2.1
noncomputable def x_r02_Of : Cx := { ti := ti, con := [], fns := [], un := 6 }
theorem xok_r02_Of : CxOk Tryz.prog x_r02_Of := CxOk.of mixed ti_ok (List.forall_mem_nil _) (List.forall_mem_nil _)
theorem r_r02_Of_0 (x : S_r02_Of_0.X) : denC x_r02_Of [] (denF x_r02_Of 8) L_r02_Of_0 (S_r02_Of_0.mkS 38 x) (kRound 0 S_r02_Of_0 E_r02_Of_0) = R_r02_Of_0 x := by kernel_rfl
theorem l_r02_Of_0 : LpOk Tryz.prog 0 (.loop L_r02_Of_0) P_r02_Of_0 := lpOf_ok xok_r02_Of 8 (lps_nil) S_r02_Of_0 E_r02_Of_0 38 R_r02_Of_0 (by decide) r_r02_Of_0
theorem fn_r02_Of : FnOk Tryz.prog 82 Tryz.f82 [(0, P_r02_Of_0)] := ⟨Tryz.func82, Tryz.call82, lps_of (by kernel_rfl) (lps_one l_r02_Of_0 (by kernel_rfl) (List.forall_mem_nil _))⟩
theorem e_r02_Of (low : (Nat → Int)) (high : (Nat → Int)) : bodyK x_r02_Of [(0, P_r02_Of_0)] (denF x_r02_Of 8) Tryz.f82 (domV [(.arr 4 (.int .u64)), (.arr 4 (.int .u64))] (low, high, ())) [] 0 (kOut [(.arr 32 (.int .i64))]) = r02_Of' low high := by kernel_rfl
theorem con_r02_Of : ConOk Tryz.prog 82 c_r02_Of := con_ok xok_r02_Of 8 fn_r02_Of true [(.arr 4 (.int .u64)), (.arr 4 (.int .u64))] [(.arr 32 (.int .i64))] _ (by decide) (fun x => by rw [r02_Of_eq]; exact e_r02_Of x.1 x.2.1)
abbrev S_r02_twice_0 : Shape := { sl := [(2, (.c ⟨(.ptr (.arr 32 (.int .i64))), (.rf 0 [])⟩)), (4, (.c ⟨(.ptr (.arr 32 (.int .i64))), (.rf 1 [])⟩)), (5, (.c ⟨(.ptr (.arr 32 (.int .i64))), (.rf 2 [])⟩)), (6, (.v (.int .i64))), (7, (.v (.int .i64)))], ob := [(0, (.v (.arr 32 (.int .i64)))), (1, (.v (.arr 32 (.int .i64)))), (2, (.v (.arr 32 (.int .i64))))], lo := 3, nx := 3 }
abbrev E_r02_twice_0 : List Ex := [(.normal, { sl := [(4, (.c ⟨(.ptr (.arr 32 (.int .i64))), (.rf 1 [])⟩)), (5, (.c ⟨(.ptr (.arr 32 (.int .i64))), (.rf 2 [])⟩))], ob := [(1, (.v (.arr 32 (.int .i64)))), (2, (.v (.arr 32 (.int .i64))))], lo := 3, nx := 3 })]
noncomputable def L_r02_twice_0 : Code := loopIn (bodyOf Tryz.f97) 0
noncomputable def P_r02_twice_0 : Lp := lpOf S_r02_twice_0 E_r02_twice_0 28 R_r02_twice_0
noncomputable def c_r02_twice : Con := conV true [(.arr 32 (.int .i64)), (.int .i64)] [(.arr 32 (.int .i64))] fun x => r02_twice x.1 x.2.1
noncomputable def x_r02_twice : Cx := { ti := ti, con := [], fns := [], un := 6 }
theorem xok_r02_twice : CxOk Tryz.prog x_r02_twice := CxOk.of mixed ti_ok (List.forall_mem_nil _) (List.forall_mem_nil _)
theorem r_r02_twice_0 (x : S_r02_twice_0.X) : denC x_r02_twice [] (denF x_r02_twice 8) L_r02_twice_0 (S_r02_twice_0.mkS 28 x) (kRound 0 S_r02_twice_0 E_r02_twice_0) = R_r02_twice_0 x := by kernel_rfl
theorem l_r02_twice_0 : LpOk Tryz.prog 0 (.loop L_r02_twice_0) P_r02_twice_0 := lpOf_ok xok_r02_twice 8 (lps_nil) S_r02_twice_0 E_r02_twice_0 28 R_r02_twice_0 (by decide) r_r02_twice_0
theorem fn_r02_twice : FnOk Tryz.prog 97 Tryz.f97 [(0, P_r02_twice_0)] := ⟨Tryz.func97, Tryz.call97, lps_of (by kernel_rfl) (lps_one l_r02_twice_0 (by kernel_rfl) (List.forall_mem_nil _))⟩
theorem e_r02_twice (a : (Nat → Int)) (one : Int) : bodyK x_r02_twice [(0, P_r02_twice_0)] (denF x_r02_twice 8) Tryz.f97 (domV [(.arr 32 (.int .i64)), (.int .i64)] (a, one, ())) [] 0 (kOut [(.arr 32 (.int .i64))]) = r02_twice' a one := by kernel_rfl
theorem con_r02_twice : ConOk Tryz.prog 97 c_r02_twice := con_ok xok_r02_twice 8 fn_r02_twice true [(.arr 32 (.int .i64)), (.int .i64)] [(.arr 32 (.int .i64))] _ (by decide) (fun x => by rw [r02_twice_eq]; exact e_r02_twice x.1 x.2.1)
abbrev S_r02_below_0 : Shape := { sl := [(2, (.c ⟨(.ptr (.arr 32 (.int .i64))), (.rf 0 [])⟩)), (3, (.c ⟨(.ptr (.arr 32 (.int .i64))), (.rf 1 [])⟩)), (5, (.v (.int .i64)))], ob := [(0, (.v (.arr 32 (.int .i64)))), (1, (.v (.arr 32 (.int .i64))))], lo := 2, nx := 2 }
abbrev E_r02_below_0 : List Ex := [(.ret, { sl := [(4, (.v .bool))], ob := [], lo := 2, nx := 2 }), (.normal, { sl := [], ob := [], lo := 2, nx := 2 })]
noncomputable def L_r02_below_0 : Code := loopIn (bodyOf Tryz.f98) 0
noncomputable def P_r02_below_0 : Lp := lpOf S_r02_below_0 E_r02_below_0 24 R_r02_below_0
noncomputable def c_r02_below : Con := conV true [(.arr 32 (.int .i64)), (.arr 32 (.int .i64))] [.bool] fun x => r02_below x.1 x.2.1
noncomputable def x_r02_below : Cx := { ti := ti, con := [], fns := [], un := 6 }
theorem xok_r02_below : CxOk Tryz.prog x_r02_below := CxOk.of mixed ti_ok (List.forall_mem_nil _) (List.forall_mem_nil _)
theorem r_r02_below_0 (x : S_r02_below_0.X) : denC x_r02_below [] (denF x_r02_below 8) L_r02_below_0 (S_r02_below_0.mkS 24 x) (kRound 0 S_r02_below_0 E_r02_below_0) = R_r02_below_0 x := by kernel_rfl
theorem l_r02_below_0 : LpOk Tryz.prog 0 (.loop L_r02_below_0) P_r02_below_0 := lpOf_ok xok_r02_below 8 (lps_nil) S_r02_below_0 E_r02_below_0 24 R_r02_below_0 (by decide) r_r02_below_0
theorem fn_r02_below : FnOk Tryz.prog 98 Tryz.f98 [(0, P_r02_below_0)] := ⟨Tryz.func98, Tryz.call98, lps_of (by kernel_rfl) (lps_one l_r02_below_0 (by kernel_rfl) (List.forall_mem_nil _))⟩
theorem e_r02_below (a : (Nat → Int)) (b : (Nat → Int)) : bodyK x_r02_below [(0, P_r02_below_0)] (denF x_r02_below 8) Tryz.f98 (domV [(.arr 32 (.int .i64)), (.arr 32 (.int .i64))] (a, b, ())) [] 0 (kOut [.bool]) = r02_below' a b := by kernel_rfl
theorem con_r02_below : ConOk Tryz.prog 98 c_r02_below := con_ok xok_r02_below 8 fn_r02_below true [(.arr 32 (.int .i64)), (.arr 32 (.int .i64))] [.bool] _ (by decide) (fun x => by rw [r02_below_eq]; exact e_r02_below x.1 x.2.1)
abbrev S_r02_less_0 : Shape := { sl := [(2, (.c ⟨(.ptr (.arr 32 (.int .i64))), (.rf 0 [])⟩)), (3, (.c ⟨(.ptr (.arr 32 (.int .i64))), (.rf 1 [])⟩)), (4, (.c ⟨(.ptr (.arr 32 (.int .i64))), (.rf 2 [])⟩)), (5, (.v (.int .i64))), (6, (.c ⟨(.ptr (.arr 32 (.int .i64))), (.rf 3 [])⟩)), (7, (.v (.int .i64)))], ob := [(0, (.v (.arr 32 (.int .i64)))), (1, (.v (.arr 32 (.int .i64)))), (2, (.v (.arr 32 (.int .i64)))), (3, (.v (.arr 32 (.int .i64))))], lo := 4, nx := 4 }
abbrev E_r02_less_0 : List Ex := [(.normal, { sl := [(4, (.c ⟨(.ptr (.arr 32 (.int .i64))), (.rf 2 [])⟩)), (6, (.c ⟨(.ptr (.arr 32 (.int .i64))), (.rf 3 [])⟩))], ob := [(2, (.v (.arr 32 (.int .i64)))), (3, (.v (.arr 32 (.int .i64))))], lo := 4, nx := 4 })]
noncomputable def L_r02_less_0 : Code := loopIn (bodyOf Tryz.f99) 0
noncomputable def P_r02_less_0 : Lp := lpOf S_r02_less_0 E_r02_less_0 31 R_r02_less_0
noncomputable def c_r02_less : Con := conV true [(.arr 32 (.int .i64)), (.arr 32 (.int .i64))] [(.arr 32 (.int .i64))] fun x => r02_less x.1 x.2.1
noncomputable def x_r02_less : Cx := { ti := ti, con := [], fns := [], un := 6 }
theorem xok_r02_less : CxOk Tryz.prog x_r02_less := CxOk.of mixed ti_ok (List.forall_mem_nil _) (List.forall_mem_nil _)
theorem r_r02_less_0 (x : S_r02_less_0.X) : denC x_r02_less [] (denF x_r02_less 8) L_r02_less_0 (S_r02_less_0.mkS 31 x) (kRound 0 S_r02_less_0 E_r02_less_0) = R_r02_less_0 x := by kernel_rfl
theorem l_r02_less_0 : LpOk Tryz.prog 0 (.loop L_r02_less_0) P_r02_less_0 := lpOf_ok xok_r02_less 8 (lps_nil) S_r02_less_0 E_r02_less_0 31 R_r02_less_0 (by decide) r_r02_less_0
theorem fn_r02_less : FnOk Tryz.prog 99 Tryz.f99 [(0, P_r02_less_0)] := ⟨Tryz.func99, Tryz.call99, lps_of (by kernel_rfl) (lps_one l_r02_less_0 (by kernel_rfl) (List.forall_mem_nil _))⟩
theorem e_r02_less (a : (Nat → Int)) (b : (Nat → Int)) : bodyK x_r02_less [(0, P_r02_less_0)] (denF x_r02_less 8) Tryz.f99 (domV [(.arr 32 (.int .i64)), (.arr 32 (.int .i64))] (a, b, ())) [] 0 (kOut [(.arr 32 (.int .i64))]) = r02_less' a b := by kernel_rfl
theorem con_r02_less : ConOk Tryz.prog 99 c_r02_less := con_ok xok_r02_less 8 fn_r02_less true [(.arr 32 (.int .i64)), (.arr 32 (.int .i64))] [(.arr 32 (.int .i64))] _ (by decide) (fun x => by rw [r02_less_eq]; exact e_r02_less x.1 x.2.1)
abbrev S_r02_parted_0 : Shape := { sl := [(2, (.c ⟨(.ptr (.arr 32 (.int .i64))), (.rf 0 [])⟩)), (3, (.c ⟨(.ptr (.arr 32 (.int .i64))), (.rf 1 [])⟩)), (4, (.c ⟨(.ptr (.arr 32 (.int .i64))), (.rf 2 [])⟩)), (5, (.c ⟨(.ptr (.arr 32 (.int .i64))), (.rf 3 [])⟩)), (6, (.c ⟨(.ptr (.arr 32 (.int .i64))), (.rf 4 [])⟩)), (7, (.c ⟨(.ptr (.arr 32 (.int .i64))), (.rf 5 [])⟩)), (8, (.v (.int .i64)))], ob := [(0, (.v (.arr 32 (.int .i64)))), (1, (.v (.arr 32 (.int .i64)))), (2, (.v (.arr 32 (.int .i64)))), (3, (.v (.arr 32 (.int .i64)))), (4, (.v (.arr 32 (.int .i64)))), (5, (.v (.arr 32 (.int .i64))))], lo := 6, nx := 6 }
abbrev E_r02_parted_0 : List Ex := [(.normal, { sl := [(4, (.c ⟨(.ptr (.arr 32 (.int .i64))), (.rf 2 [])⟩)), (5, (.c ⟨(.ptr (.arr 32 (.int .i64))), (.rf 3 [])⟩)), (6, (.c ⟨(.ptr (.arr 32 (.int .i64))), (.rf 4 [])⟩)), (7, (.c ⟨(.ptr (.arr 32 (.int .i64))), (.rf 5 [])⟩))], ob := [(2, (.v (.arr 32 (.int .i64)))), (3, (.v (.arr 32 (.int .i64)))), (4, (.v (.arr 32 (.int .i64)))), (5, (.v (.arr 32 (.int .i64))))], lo := 6, nx := 6 })]
noncomputable def L_r02_parted_0 : Code := loopIn (bodyOf Tryz.f81) 0
noncomputable def P_r02_parted_0 : Lp := lpOf S_r02_parted_0 E_r02_parted_0 45 R_r02_parted_0
noncomputable def c_r02_parted : Con := conV true [(.arr 32 (.int .i64)), (.arr 32 (.int .i64))] [(.arr 32 (.int .i64)), (.arr 32 (.int .i64))] fun x => r02_parted x.1 x.2.1
noncomputable def x_r02_parted : Cx := { ti := ti, con := [(97, c_r02_twice), (98, c_r02_below), (99, c_r02_less)], fns := [], un := 6 }
theorem xok_r02_parted : CxOk Tryz.prog x_r02_parted := CxOk.of mixed ti_ok (List.forall_mem_cons.2 ⟨con_r02_twice, List.forall_mem_cons.2 ⟨con_r02_below, List.forall_mem_cons.2 ⟨con_r02_less, List.forall_mem_nil _⟩⟩⟩) (List.forall_mem_nil _)
theorem r_r02_parted_0 (x : S_r02_parted_0.X) : denC x_r02_parted [] (denF x_r02_parted 8) L_r02_parted_0 (S_r02_parted_0.mkS 45 x) (kRound 0 S_r02_parted_0 E_r02_parted_0) = R_r02_parted_0 x := by kernel_rfl
theorem l_r02_parted_0 : LpOk Tryz.prog 0 (.loop L_r02_parted_0) P_r02_parted_0 := lpOf_ok xok_r02_parted 8 (lps_nil) S_r02_parted_0 E_r02_parted_0 45 R_r02_parted_0 (by decide) r_r02_parted_0
theorem fn_r02_parted : FnOk Tryz.prog 81 Tryz.f81 [(0, P_r02_parted_0)] := ⟨Tryz.func81, Tryz.call81, lps_of (by kernel_rfl) (lps_one l_r02_parted_0 (by kernel_rfl) (List.forall_mem_nil _))⟩
theorem e_r02_parted (a : (Nat → Int)) (m : (Nat → Int)) : bodyK x_r02_parted [(0, P_r02_parted_0)] (denF x_r02_parted 8) Tryz.f81 (domV [(.arr 32 (.int .i64)), (.arr 32 (.int .i64))] (a, m, ())) [] 0 (kOut [(.arr 32 (.int .i64)), (.arr 32 (.int .i64))]) = r02_parted' a m := by kernel_rfl
theorem con_r02_parted : ConOk Tryz.prog 81 c_r02_parted := con_ok xok_r02_parted 8 fn_r02_parted true [(.arr 32 (.int .i64)), (.arr 32 (.int .i64))] [(.arr 32 (.int .i64)), (.arr 32 (.int .i64))] _ (by decide) (fun x => by rw [r02_parted_eq]; exact e_r02_parted x.1 x.2.1)
abbrev S_r02_Nats_0 : Shape := { sl := [(1, (.c ⟨(.ptr (.arr 32 (.int .i64))), (.rf 0 [])⟩)), (2, (.c ⟨(.ptr (.arr 4 (.int .u64))), (.rf 1 [])⟩)), (3, (.c ⟨(.ptr (.arr 4 (.int .u64))), (.rf 2 [])⟩)), (4, (.c ⟨(.ptr (.arr 4 (.int .u64))), (.rf 3 [])⟩)), (5, (.c ⟨(.ptr (.arr 4 (.int .u64))), (.rf 4 [])⟩)), (6, (.v (.int .i64)))], ob := [(0, (.v (.arr 32 (.int .i64)))), (1, (.v (.arr 4 (.int .u64)))), (2, (.v (.arr 4 (.int .u64)))), (3, (.v (.arr 4 (.int .u64)))), (4, (.v (.arr 4 (.int .u64))))], lo := 5, nx := 5 }
abbrev E_r02_Nats_0 : List Ex := [(.normal, { sl := [(2, (.c ⟨(.ptr (.arr 4 (.int .u64))), (.rf 1 [])⟩)), (3, (.c ⟨(.ptr (.arr 4 (.int .u64))), (.rf 2 [])⟩)), (4, (.c ⟨(.ptr (.arr 4 (.int .u64))), (.rf 3 [])⟩)), (5, (.c ⟨(.ptr (.arr 4 (.int .u64))), (.rf 4 [])⟩))], ob := [(1, (.v (.arr 4 (.int .u64)))), (2, (.v (.arr 4 (.int .u64)))), (3, (.v (.arr 4 (.int .u64)))), (4, (.v (.arr 4 (.int .u64))))], lo := 5, nx := 5 })]
noncomputable def L_r02_Nats_0 : Code := loopIn (bodyOf Tryz.f83) 0
noncomputable def P_r02_Nats_0 : Lp := lpOf S_r02_Nats_0 E_r02_Nats_0 48 R_r02_Nats_0
noncomputable def c_r02_Nats : Con := conV true [(.arr 32 (.int .i64))] [(.arr 4 (.int .u64)), (.arr 4 (.int .u64))] fun x => r02_Nats x.1
noncomputable def x_r02_Nats : Cx := { ti := ti, con := [], fns := [], un := 6 }
theorem xok_r02_Nats : CxOk Tryz.prog x_r02_Nats := CxOk.of mixed ti_ok (List.forall_mem_nil _) (List.forall_mem_nil _)
theorem r_r02_Nats_0 (x : S_r02_Nats_0.X) : denC x_r02_Nats [] (denF x_r02_Nats 8) L_r02_Nats_0 (S_r02_Nats_0.mkS 48 x) (kRound 0 S_r02_Nats_0 E_r02_Nats_0) = R_r02_Nats_0 x := by kernel_rfl
theorem l_r02_Nats_0 : LpOk Tryz.prog 0 (.loop L_r02_Nats_0) P_r02_Nats_0 := lpOf_ok xok_r02_Nats 8 (lps_nil) S_r02_Nats_0 E_r02_Nats_0 48 R_r02_Nats_0 (by decide) r_r02_Nats_0
theorem fn_r02_Nats : FnOk Tryz.prog 83 Tryz.f83 [(0, P_r02_Nats_0)] := ⟨Tryz.func83, Tryz.call83, lps_of (by kernel_rfl) (lps_one l_r02_Nats_0 (by kernel_rfl) (List.forall_mem_nil _))⟩
theorem e_r02_Nats (d : (Nat → Int)) : bodyK x_r02_Nats [(0, P_r02_Nats_0)] (denF x_r02_Nats 8) Tryz.f83 (domV [(.arr 32 (.int .i64))] (d, ())) [] 0 (kOut [(.arr 4 (.int .u64)), (.arr 4 (.int .u64))]) = r02_Nats' d := by kernel_rfl
theorem con_r02_Nats : ConOk Tryz.prog 83 c_r02_Nats := con_ok xok_r02_Nats 8 fn_r02_Nats true [(.arr 32 (.int .i64))] [(.arr 4 (.int .u64)), (.arr 4 (.int .u64))] _ (by decide) (fun x => by rw [r02_Nats_eq]; exact e_r02_Nats x.1)
noncomputable def c_r02_Rem : Con := conV true [(.arr 4 (.int .u64)), (.arr 4 (.int .u64)), (.arr 4 (.int .u64))] [(.arr 4 (.int .u64)), (.int .i64)] fun x => r02_Rem x.1 x.2.1 x.2.2.1
noncomputable def x_r02_Rem : Cx := { ti := ti, con := [(82, c_r02_Of), (81, c_r02_parted), (83, c_r02_Nats)], fns := [], un := 6 }
theorem xok_r02_Rem : CxOk Tryz.prog x_r02_Rem := CxOk.of mixed ti_ok (List.forall_mem_cons.2 ⟨con_r02_Of, List.forall_mem_cons.2 ⟨con_r02_parted, List.forall_mem_cons.2 ⟨con_r02_Nats, List.forall_mem_nil _⟩⟩⟩) (List.forall_mem_nil _)
theorem fn_r02_Rem : FnOk Tryz.prog 56 Tryz.f56 [] := ⟨Tryz.func56, Tryz.call56, lps_nil⟩
theorem e_r02_Rem (low : (Nat → Int)) (high : (Nat → Int)) (m : (Nat → Int)) : bodyK x_r02_Rem [] (denF x_r02_Rem 8) Tryz.f56 (domV [(.arr 4 (.int .u64)), (.arr 4 (.int .u64)), (.arr 4 (.int .u64))] (low, high, m, ())) [] 0 (kOut [(.arr 4 (.int .u64)), (.int .i64)]) = r02_Rem' low high m := by kernel_rfl
theorem con_r02_Rem : ConOk Tryz.prog 56 c_r02_Rem := con_ok xok_r02_Rem 8 fn_r02_Rem true [(.arr 4 (.int .u64)), (.arr 4 (.int .u64)), (.arr 4 (.int .u64))] [(.arr 4 (.int .u64)), (.int .i64)] _ (by decide) (fun x => by rw [r02_Rem_eq]; exact e_r02_Rem x.1 x.2.1 x.2.2.1)
end Go.Proofs.YtennopklknlecaaGreat

set_option linter.unusedVariables false
set_option linter.unusedSimpArgs false
set_option maxRecDepth 100000
set_option maxHeartbeats 0
namespace Go.Pl
end Go.Pl
open Go Go.Den Go.Pl
namespace Go.Proofs.YtennopklknlecaaGreat
noncomputable def c_r03_Times : Con := conV true [(.int .i64), (.int .i64), (.int .i64)] [(.int .i64)] fun x => r03_Times x.1 x.2.1 x.2.2.1
noncomputable def x_r03_Times : Cx := { ti := ti, con := [(85, c_bits_Mul64), (86, c_bits_Div64)], fns := [], un := 6 }
theorem xok_r03_Times : CxOk Tryz.prog x_r03_Times := CxOk.of mixed ti_ok (List.forall_mem_cons.2 ⟨con_bits_Mul64, List.forall_mem_cons.2 ⟨con_bits_Div64, List.forall_mem_nil _⟩⟩) (List.forall_mem_nil _)
theorem fn_r03_Times : FnOk Tryz.prog 60 Tryz.f60 [] := ⟨Tryz.func60, Tryz.call60, lps_nil⟩
theorem e_r03_Times (a : Int) (b : Int) (m : Int) : bodyK x_r03_Times [] (denF x_r03_Times 8) Tryz.f60 (domV [(.int .i64), (.int .i64), (.int .i64)] (a, b, m, ())) [] 0 (kOut [(.int .i64)]) = r03_Times' a b m := by kernel_rfl
theorem con_r03_Times : ConOk Tryz.prog 60 c_r03_Times := con_ok xok_r03_Times 8 fn_r03_Times true [(.int .i64), (.int .i64), (.int .i64)] [(.int .i64)] _ (by decide) (fun x => by rw [r03_Times_eq]; exact e_r03_Times x.1 x.2.1 x.2.2.1)
abbrev S_r03_Power_0 : Shape := { sl := [(0, (.v (.int .i64))), (2, (.v (.int .i64))), (4, (.c ⟨(.ptr (.arr 4 (.int .u64))), (.rf 0 [])⟩)), (7, (.v (.int .i64))), (8, (.v (.int .i64)))], ob := [(0, (.v (.arr 4 (.int .u64))))], lo := 1, nx := 1 }
abbrev E_r03_Power_0 : List Ex := [(.normal, { sl := [(7, (.v (.int .i64)))], ob := [], lo := 1, nx := 1 })]
noncomputable def L_r03_Power_0 : Code := loopIn (bodyOf Tryz.f57) 0
noncomputable def P_r03_Power_0 : Lp := lpOf S_r03_Power_0 E_r03_Power_0 31 R_r03_Power_0
noncomputable def c_r03_Power : Con := conV true [(.int .i64), (.arr 4 (.int .u64)), (.int .i64)] [(.int .i64)] fun x => r03_Power x.1 x.2.1 x.2.2.1
noncomputable def x_r03_Power : Cx := { ti := ti, con := [(45, c_r01_Len), (60, c_r03_Times), (84, c_r01_Bit)], fns := [], un := 6 }
theorem xok_r03_Power : CxOk Tryz.prog x_r03_Power := CxOk.of mixed ti_ok (List.forall_mem_cons.2 ⟨con_r01_Len, List.forall_mem_cons.2 ⟨con_r03_Times, List.forall_mem_cons.2 ⟨con_r01_Bit, List.forall_mem_nil _⟩⟩⟩) (List.forall_mem_nil _)
theorem r_r03_Power_0 (x : S_r03_Power_0.X) : denC x_r03_Power [] (denF x_r03_Power 8) L_r03_Power_0 (S_r03_Power_0.mkS 31 x) (kRound 0 S_r03_Power_0 E_r03_Power_0) = R_r03_Power_0 x := by kernel_rfl
theorem l_r03_Power_0 : LpOk Tryz.prog 0 (.loop L_r03_Power_0) P_r03_Power_0 := lpOf_ok xok_r03_Power 8 (lps_nil) S_r03_Power_0 E_r03_Power_0 31 R_r03_Power_0 (by decide) r_r03_Power_0
theorem fn_r03_Power : FnOk Tryz.prog 57 Tryz.f57 [(0, P_r03_Power_0)] := ⟨Tryz.func57, Tryz.call57, lps_of (by kernel_rfl) (lps_one l_r03_Power_0 (by kernel_rfl) (List.forall_mem_nil _))⟩
theorem e_r03_Power (a : Int) (e : (Nat → Int)) (m : Int) : bodyK x_r03_Power [(0, P_r03_Power_0)] (denF x_r03_Power 8) Tryz.f57 (domV [(.int .i64), (.arr 4 (.int .u64)), (.int .i64)] (a, e, m, ())) [] 0 (kOut [(.int .i64)]) = r03_Power' a e m := by kernel_rfl
theorem con_r03_Power : ConOk Tryz.prog 57 c_r03_Power := con_ok xok_r03_Power 8 fn_r03_Power true [(.int .i64), (.arr 4 (.int .u64)), (.int .i64)] [(.int .i64)] _ (by decide) (fun x => by rw [r03_Power_eq]; exact e_r03_Power x.1 x.2.1 x.2.2.1)
end Go.Proofs.YtennopklknlecaaGreat

set_option linter.unusedVariables false
set_option linter.unusedSimpArgs false
set_option maxRecDepth 100000
set_option maxHeartbeats 0
namespace Go.Pl
end Go.Pl
open Go Go.Den Go.Pl
namespace Go.Proofs.YtennopklknlecaaGreat
noncomputable def c_r07_Other : Con := conV false [] [(.pair (.sl (.pair (.arr 4 (.int .u64)) (.int .i64))) (.arr 4 (.int .u64)))] fun x => r07_Other 
noncomputable def x_r07_Other : Cx := { ti := ti, con := [], fns := [], un := 6 }
theorem xok_r07_Other : CxOk Tryz.prog x_r07_Other := CxOk.of mixed ti_ok (List.forall_mem_nil _) (List.forall_mem_nil _)
theorem fn_r07_Other : FnOk Tryz.prog 37 Tryz.f37 [] := ⟨Tryz.func37, Tryz.call37, lps_nil⟩
theorem e_r07_Other  : bodyK x_r07_Other [] (denF x_r07_Other 8) Tryz.f37 (domV [] (())) [] 0 (kOut [(.pair (.sl (.pair (.arr 4 (.int .u64)) (.int .i64))) (.arr 4 (.int .u64)))]) = r07_Other'  := by kernel_rfl
theorem con_r07_Other : ConOk Tryz.prog 37 c_r07_Other := con_ok xok_r07_Other 8 fn_r07_Other false [] [(.pair (.sl (.pair (.arr 4 (.int .u64)) (.int .i64))) (.arr 4 (.int .u64)))] _ (by decide) (fun x => by rw [r07_Other_eq]; exact e_r07_Other )
noncomputable def c_r07_Least : Con := conV false [] [(.pair (.sl (.pair (.arr 4 (.int .u64)) (.int .i64))) (.arr 4 (.int .u64)))] fun x => r07_Least 
noncomputable def x_r07_Least : Cx := { ti := ti, con := [], fns := [], un := 6 }
theorem xok_r07_Least : CxOk Tryz.prog x_r07_Least := CxOk.of mixed ti_ok (List.forall_mem_nil _) (List.forall_mem_nil _)
theorem fn_r07_Least : FnOk Tryz.prog 38 Tryz.f38 [] := ⟨Tryz.func38, Tryz.call38, lps_nil⟩
theorem e_r07_Least  : bodyK x_r07_Least [] (denF x_r07_Least 8) Tryz.f38 (domV [] (())) [] 0 (kOut [(.pair (.sl (.pair (.arr 4 (.int .u64)) (.int .i64))) (.arr 4 (.int .u64)))]) = r07_Least'  := by kernel_rfl
theorem con_r07_Least : ConOk Tryz.prog 38 c_r07_Least := con_ok xok_r07_Least 8 fn_r07_Least false [] [(.pair (.sl (.pair (.arr 4 (.int .u64)) (.int .i64))) (.arr 4 (.int .u64)))] _ (by decide) (fun x => by rw [r07_Least_eq]; exact e_r07_Least )
noncomputable def c_r07_Pick : Con := conV false [(.int .i64)] [(.pair (.sl (.pair (.arr 4 (.int .u64)) (.int .i64))) (.arr 4 (.int .u64)))] fun x => r07_Pick x.1
noncomputable def x_r07_Pick : Cx := { ti := ti, con := [(37, c_r07_Other), (38, c_r07_Least)], fns := [], un := 6 }
theorem xok_r07_Pick : CxOk Tryz.prog x_r07_Pick := CxOk.of mixed ti_ok (List.forall_mem_cons.2 ⟨con_r07_Other, List.forall_mem_cons.2 ⟨con_r07_Least, List.forall_mem_nil _⟩⟩) (List.forall_mem_nil _)
theorem fn_r07_Pick : FnOk Tryz.prog 14 Tryz.f14 [] := ⟨Tryz.func14, Tryz.call14, lps_nil⟩
theorem e_r07_Pick (which : Int) : bodyK x_r07_Pick [] (denF x_r07_Pick 8) Tryz.f14 (domV [(.int .i64)] (which, ())) [] 0 (kOut [(.pair (.sl (.pair (.arr 4 (.int .u64)) (.int .i64))) (.arr 4 (.int .u64)))]) = r07_Pick' which := by kernel_rfl
theorem con_r07_Pick : ConOk Tryz.prog 14 c_r07_Pick := con_ok xok_r07_Pick 8 fn_r07_Pick false [(.int .i64)] [(.pair (.sl (.pair (.arr 4 (.int .u64)) (.int .i64))) (.arr 4 (.int .u64)))] _ (by decide) (fun x => by rw [r07_Pick_eq]; exact e_r07_Pick x.1)
noncomputable def c_r07_Q : Con := conV true [(.pair (.sl (.pair (.arr 4 (.int .u64)) (.int .i64))) (.arr 4 (.int .u64)))] [(.arr 4 (.int .u64))] fun x => r07_Q x.1
noncomputable def x_r07_Q : Cx := { ti := ti, con := [], fns := [], un := 6 }
theorem xok_r07_Q : CxOk Tryz.prog x_r07_Q := CxOk.of mixed ti_ok (List.forall_mem_nil _) (List.forall_mem_nil _)
theorem fn_r07_Q : FnOk Tryz.prog 17 Tryz.f17 [] := ⟨Tryz.func17, Tryz.call17, lps_nil⟩
theorem e_r07_Q (p : ((Nat × (Nat → ((Nat → Int) × Int))) × (Nat → Int))) : bodyK x_r07_Q [] (denF x_r07_Q 8) Tryz.f17 (domV [(.pair (.sl (.pair (.arr 4 (.int .u64)) (.int .i64))) (.arr 4 (.int .u64)))] (p, ())) [] 0 (kOut [(.arr 4 (.int .u64))]) = r07_Q' p := by kernel_rfl
theorem con_r07_Q : ConOk Tryz.prog 17 c_r07_Q := con_ok xok_r07_Q 8 fn_r07_Q true [(.pair (.sl (.pair (.arr 4 (.int .u64)) (.int .i64))) (.arr 4 (.int .u64)))] [(.arr 4 (.int .u64))] _ (by decide) (fun x => by rw [r07_Q_eq]; exact e_r07_Q x.1)
end Go.Proofs.YtennopklknlecaaGreat

set_option linter.unusedVariables false
set_option linter.unusedSimpArgs false
set_option maxRecDepth 100000
set_option maxHeartbeats 0
namespace Go.Pl
end Go.Pl
open Go Go.Den Go.Pl
namespace Go.Proofs.YtennopklknlecaaGreat
abbrev S_r08_Same_0 : Shape := { sl := [(0, (.sz (.arr 4 (.int .u64)))), (1, (.sz (.arr 4 (.int .u64)))), (5, (.v (.int .i64)))], ob := [], lo := 0, nx := 0 }
abbrev E_r08_Same_0 : List Ex := [(.ret, { sl := [(4, (.v .bool))], ob := [], lo := 0, nx := 0 }), (.normal, { sl := [], ob := [], lo := 0, nx := 0 })]
noncomputable def L_r08_Same_0 : Code := loopIn (bodyOf Tryz.f12) 0
noncomputable def P_r08_Same_0 : Lp := lpOf S_r08_Same_0 E_r08_Same_0 26 R_r08_Same_0
noncomputable def c_r08_Same : Con := conV true [(.sl (.arr 4 (.int .u64))), (.sl (.arr 4 (.int .u64)))] [.bool] fun x => r08_Same x.1.1 x.1.2 x.2.1.1 x.2.1.2
noncomputable def x_r08_Same : Cx := { ti := ti, con := [], fns := [], un := 6 }
theorem xok_r08_Same : CxOk Tryz.prog x_r08_Same := CxOk.of mixed ti_ok (List.forall_mem_nil _) (List.forall_mem_nil _)
theorem r_r08_Same_0 (x : S_r08_Same_0.X) : denC x_r08_Same [] (denF x_r08_Same 8) L_r08_Same_0 (S_r08_Same_0.mkS 26 x) (kRound 0 S_r08_Same_0 E_r08_Same_0) = R_r08_Same_0 x := by kernel_rfl
theorem l_r08_Same_0 : LpOk Tryz.prog 0 (.loop L_r08_Same_0) P_r08_Same_0 := lpOf_ok xok_r08_Same 8 (lps_nil) S_r08_Same_0 E_r08_Same_0 26 R_r08_Same_0 (by decide) r_r08_Same_0
theorem fn_r08_Same : FnOk Tryz.prog 12 Tryz.f12 [(0, P_r08_Same_0)] := ⟨Tryz.func12, Tryz.call12, lps_of (by kernel_rfl) (lps_one l_r08_Same_0 (by kernel_rfl) (List.forall_mem_nil _))⟩
theorem e_r08_Same (na : Nat) (a : Nat → (Nat → Int)) (nb : Nat) (b : Nat → (Nat → Int)) : bodyK x_r08_Same [(0, P_r08_Same_0)] (denF x_r08_Same 8) Tryz.f12 (domV [(.sl (.arr 4 (.int .u64))), (.sl (.arr 4 (.int .u64)))] ((na, a), (nb, b), ())) [] 0 (kOut [.bool]) = r08_Same' na a nb b := by kernel_rfl
theorem con_r08_Same : ConOk Tryz.prog 12 c_r08_Same := con_ok xok_r08_Same 8 fn_r08_Same true [(.sl (.arr 4 (.int .u64))), (.sl (.arr 4 (.int .u64)))] [.bool] _ (by decide) (fun x => by rw [r08_Same_eq]; exact e_r08_Same x.1.1 x.1.2 x.2.1.1 x.2.1.2)
noncomputable def c_r08_By : Con := conV true [(.arr 4 (.int .u64)), (.int .i64)] [(.int .i64)] fun x => r08_By x.1 x.2.1
noncomputable def x_r08_By : Cx := { ti := ti, con := [(33, c_r01_Int), (56, c_r02_Rem), (16, c_r01_Low)], fns := [], un := 6 }
theorem xok_r08_By : CxOk Tryz.prog x_r08_By := CxOk.of mixed ti_ok (List.forall_mem_cons.2 ⟨con_r01_Int, List.forall_mem_cons.2 ⟨con_r02_Rem, List.forall_mem_cons.2 ⟨con_r01_Low, List.forall_mem_nil _⟩⟩⟩) (List.forall_mem_nil _)
theorem fn_r08_By : FnOk Tryz.prog 26 Tryz.f26 [] := ⟨Tryz.func26, Tryz.call26, lps_nil⟩
theorem e_r08_By (a : (Nat → Int)) (q : Int) : bodyK x_r08_By [] (denF x_r08_By 8) Tryz.f26 (domV [(.arr 4 (.int .u64)), (.int .i64)] (a, q, ())) [] 0 (kOut [(.int .i64)]) = r08_By' a q := by kernel_rfl
theorem con_r08_By : ConOk Tryz.prog 26 c_r08_By := con_ok xok_r08_By 8 fn_r08_By true [(.arr 4 (.int .u64)), (.int .i64)] [(.int .i64)] _ (by decide) (fun x => by rw [r08_By_eq]; exact e_r08_By x.1 x.2.1)
abbrev S_r08_All_0 : Shape := { sl := [(0, (.sz (.arr 4 (.int .u64)))), (1, (.v (.int .i64))), (5, (.w 3 (.int .i64) 0)), (6, (.v (.int .i64)))], ob := [], lo := 0, nx := 1 }
abbrev E_r08_All_0 : List Ex := [(.normal, { sl := [(5, (.w 3 (.int .i64) 1))], ob := [], lo := 1, nx := 2 })]
noncomputable def L_r08_All_0 : Code := loopIn (bodyOf Tryz.f7) 0
noncomputable def P_r08_All_0 : Lp := lpOf S_r08_All_0 E_r08_All_0 23 R_r08_All_0
noncomputable def c_r08_All : Con := conV false [(.sl (.arr 4 (.int .u64))), (.int .i64)] [(.sl (.int .i64))] fun x => r08_All x.1.1 x.1.2 x.2.1
noncomputable def x_r08_All : Cx := { ti := ti, con := [(26, c_r08_By)], fns := [], un := 6 }
theorem xok_r08_All : CxOk Tryz.prog x_r08_All := CxOk.of mixed ti_ok (List.forall_mem_cons.2 ⟨con_r08_By, List.forall_mem_nil _⟩) (List.forall_mem_nil _)
theorem r_r08_All_0 (x : S_r08_All_0.X) : denC x_r08_All [] (denF x_r08_All 8) L_r08_All_0 (S_r08_All_0.mkS 23 x) (kRound 0 S_r08_All_0 E_r08_All_0) = R_r08_All_0 x := by kernel_rfl
theorem l_r08_All_0 : LpOk Tryz.prog 0 (.loop L_r08_All_0) P_r08_All_0 := lpOf_ok xok_r08_All 8 (lps_nil) S_r08_All_0 E_r08_All_0 23 R_r08_All_0 (by decide) r_r08_All_0
theorem fn_r08_All : FnOk Tryz.prog 7 Tryz.f7 [(0, P_r08_All_0)] := ⟨Tryz.func7, Tryz.call7, lps_of (by kernel_rfl) (lps_one l_r08_All_0 (by kernel_rfl) (List.forall_mem_nil _))⟩
theorem e_r08_All (nl : Nat) (l : Nat → (Nat → Int)) (q : Int) : bodyK x_r08_All [(0, P_r08_All_0)] (denF x_r08_All 8) Tryz.f7 (domV [(.sl (.arr 4 (.int .u64))), (.int .i64)] ((nl, l), q, ())) [] 0 (kOut [(.sl (.int .i64))]) = r08_All' nl l q := by kernel_rfl
theorem con_r08_All : ConOk Tryz.prog 7 c_r08_All := con_ok xok_r08_All 8 fn_r08_All false [(.sl (.arr 4 (.int .u64))), (.int .i64)] [(.sl (.int .i64))] _ (by decide) (fun x => by rw [r08_All_eq]; exact e_r08_All x.1.1 x.1.2 x.2.1)
noncomputable def c_r08_Sub : Con := conV true [(.int .i64), (.int .i64), (.int .i64)] [(.int .i64)] fun x => r08_Sub x.1 x.2.1 x.2.2.1
noncomputable def x_r08_Sub : Cx := { ti := ti, con := [], fns := [], un := 6 }
theorem xok_r08_Sub : CxOk Tryz.prog x_r08_Sub := CxOk.of mixed ti_ok (List.forall_mem_nil _) (List.forall_mem_nil _)
theorem fn_r08_Sub : FnOk Tryz.prog 29 Tryz.f29 [] := ⟨Tryz.func29, Tryz.call29, lps_nil⟩
theorem e_r08_Sub (a : Int) (b : Int) (q : Int) : bodyK x_r08_Sub [] (denF x_r08_Sub 8) Tryz.f29 (domV [(.int .i64), (.int .i64), (.int .i64)] (a, b, q, ())) [] 0 (kOut [(.int .i64)]) = r08_Sub' a b q := by kernel_rfl
theorem con_r08_Sub : ConOk Tryz.prog 29 c_r08_Sub := con_ok xok_r08_Sub 8 fn_r08_Sub true [(.int .i64), (.int .i64), (.int .i64)] [(.int .i64)] _ (by decide) (fun x => by rw [r08_Sub_eq]; exact e_r08_Sub x.1 x.2.1 x.2.2.1)
noncomputable def c_r08_Inv : Con := conV true [(.int .i64), (.int .i64)] [(.int .i64)] fun x => r08_Inv x.1 x.2.1
noncomputable def x_r08_Inv : Cx := { ti := ti, con := [(33, c_r01_Int), (57, c_r03_Power)], fns := [], un := 6 }
theorem xok_r08_Inv : CxOk Tryz.prog x_r08_Inv := CxOk.of mixed ti_ok (List.forall_mem_cons.2 ⟨con_r01_Int, List.forall_mem_cons.2 ⟨con_r03_Power, List.forall_mem_nil _⟩⟩) (List.forall_mem_nil _)
theorem fn_r08_Inv : FnOk Tryz.prog 28 Tryz.f28 [] := ⟨Tryz.func28, Tryz.call28, lps_nil⟩
theorem e_r08_Inv (a : Int) (q : Int) : bodyK x_r08_Inv [] (denF x_r08_Inv 8) Tryz.f28 (domV [(.int .i64), (.int .i64)] (a, q, ())) [] 0 (kOut [(.int .i64)]) = r08_Inv' a q := by kernel_rfl
theorem con_r08_Inv : ConOk Tryz.prog 28 c_r08_Inv := con_ok xok_r08_Inv 8 fn_r08_Inv true [(.int .i64), (.int .i64)] [(.int .i64)] _ (by decide) (fun x => by rw [r08_Inv_eq]; exact e_r08_Inv x.1 x.2.1)
noncomputable def c_r08_Mul : Con := conV true [(.int .i64), (.int .i64), (.int .i64)] [(.int .i64)] fun x => r08_Mul x.1 x.2.1 x.2.2.1
noncomputable def x_r08_Mul : Cx := { ti := ti, con := [(60, c_r03_Times)], fns := [], un := 6 }
theorem xok_r08_Mul : CxOk Tryz.prog x_r08_Mul := CxOk.of mixed ti_ok (List.forall_mem_cons.2 ⟨con_r03_Times, List.forall_mem_nil _⟩) (List.forall_mem_nil _)
theorem fn_r08_Mul : FnOk Tryz.prog 31 Tryz.f31 [] := ⟨Tryz.func31, Tryz.call31, lps_nil⟩
theorem e_r08_Mul (a : Int) (b : Int) (q : Int) : bodyK x_r08_Mul [] (denF x_r08_Mul 8) Tryz.f31 (domV [(.int .i64), (.int .i64), (.int .i64)] (a, b, q, ())) [] 0 (kOut [(.int .i64)]) = r08_Mul' a b q := by kernel_rfl
theorem con_r08_Mul : ConOk Tryz.prog 31 c_r08_Mul := con_ok xok_r08_Mul 8 fn_r08_Mul true [(.int .i64), (.int .i64), (.int .i64)] [(.int .i64)] _ (by decide) (fun x => by rw [r08_Mul_eq]; exact e_r08_Mul x.1 x.2.1 x.2.2.1)
noncomputable def c_r08_Add : Con := conV true [(.int .i64), (.int .i64), (.int .i64)] [(.int .i64)] fun x => r08_Add x.1 x.2.1 x.2.2.1
noncomputable def x_r08_Add : Cx := { ti := ti, con := [], fns := [], un := 6 }
theorem xok_r08_Add : CxOk Tryz.prog x_r08_Add := CxOk.of mixed ti_ok (List.forall_mem_nil _) (List.forall_mem_nil _)
theorem fn_r08_Add : FnOk Tryz.prog 58 Tryz.f58 [] := ⟨Tryz.func58, Tryz.call58, lps_nil⟩
theorem e_r08_Add (a : Int) (b : Int) (q : Int) : bodyK x_r08_Add [] (denF x_r08_Add 8) Tryz.f58 (domV [(.int .i64), (.int .i64), (.int .i64)] (a, b, q, ())) [] 0 (kOut [(.int .i64)]) = r08_Add' a b q := by kernel_rfl
theorem con_r08_Add : ConOk Tryz.prog 58 c_r08_Add := con_ok xok_r08_Add 8 fn_r08_Add true [(.int .i64), (.int .i64), (.int .i64)] [(.int .i64)] _ (by decide) (fun x => by rw [r08_Add_eq]; exact e_r08_Add x.1 x.2.1 x.2.2.1)
abbrev S_r08_Nats_0 : Shape := { sl := [(0, (.sz (.int .i64))), (3, (.w 37 (.arr 4 (.int .u64)) 0)), (4, (.v (.int .i64)))], ob := [], lo := 0, nx := 1 }
abbrev E_r08_Nats_0 : List Ex := [(.normal, { sl := [(3, (.w 37 (.arr 4 (.int .u64)) 1))], ob := [], lo := 1, nx := 2 })]
noncomputable def L_r08_Nats_0 : Code := loopIn (bodyOf Tryz.f27) 0
noncomputable def P_r08_Nats_0 : Lp := lpOf S_r08_Nats_0 E_r08_Nats_0 20 R_r08_Nats_0
noncomputable def c_r08_Nats : Con := conV false [(.sl (.int .i64))] [(.sl (.arr 4 (.int .u64)))] fun x => r08_Nats x.1.1 x.1.2
noncomputable def x_r08_Nats : Cx := { ti := ti, con := [(33, c_r01_Int)], fns := [], un := 6 }
theorem xok_r08_Nats : CxOk Tryz.prog x_r08_Nats := CxOk.of mixed ti_ok (List.forall_mem_cons.2 ⟨con_r01_Int, List.forall_mem_nil _⟩) (List.forall_mem_nil _)
theorem r_r08_Nats_0 (x : S_r08_Nats_0.X) : denC x_r08_Nats [] (denF x_r08_Nats 8) L_r08_Nats_0 (S_r08_Nats_0.mkS 20 x) (kRound 0 S_r08_Nats_0 E_r08_Nats_0) = R_r08_Nats_0 x := by kernel_rfl
theorem l_r08_Nats_0 : LpOk Tryz.prog 0 (.loop L_r08_Nats_0) P_r08_Nats_0 := lpOf_ok xok_r08_Nats 8 (lps_nil) S_r08_Nats_0 E_r08_Nats_0 20 R_r08_Nats_0 (by decide) r_r08_Nats_0
theorem fn_r08_Nats : FnOk Tryz.prog 27 Tryz.f27 [(0, P_r08_Nats_0)] := ⟨Tryz.func27, Tryz.call27, lps_of (by kernel_rfl) (lps_one l_r08_Nats_0 (by kernel_rfl) (List.forall_mem_nil _))⟩
theorem e_r08_Nats (nl : Nat) (l : Nat → Int) : bodyK x_r08_Nats [(0, P_r08_Nats_0)] (denF x_r08_Nats 8) Tryz.f27 (domV [(.sl (.int .i64))] ((nl, l), ())) [] 0 (kOut [(.sl (.arr 4 (.int .u64)))]) = r08_Nats' nl l := by kernel_rfl
theorem con_r08_Nats : ConOk Tryz.prog 27 c_r08_Nats := con_ok xok_r08_Nats 8 fn_r08_Nats false [(.sl (.int .i64))] [(.sl (.arr 4 (.int .u64)))] _ (by decide) (fun x => by rw [r08_Nats_eq]; exact e_r08_Nats x.1.1 x.1.2)
end Go.Proofs.YtennopklknlecaaGreat

set_option linter.unusedVariables false
set_option linter.unusedSimpArgs false
set_option maxRecDepth 100000
set_option maxHeartbeats 0
namespace Go.Pl
end Go.Pl
open Go Go.Den Go.Pl
namespace Go.Proofs.YtennopklknlecaaGreat
noncomputable def c_field_Mul : Con := conV true [(.ptr (.pair (.pair (.ptr (.pair (.arr 4 (.int .u64)) (.pair (.int .u64) (.pair (.arr 4 (.int .u64)) (.arr 4 (.int .u64)))))) (.ptr (.pair (.arr 4 (.int .u64)) (.pair (.int .u64) (.pair (.arr 4 (.int .u64)) (.arr 4 (.int .u64))))))) (.arr 4 (.int .u64)))), (.arr 4 (.int .u64)), (.arr 4 (.int .u64))] [(.arr 4 (.int .u64))] fun x => field_Mul x.1 x.2.1 x.2.2.1
noncomputable def x_field_Mul : Cx := { ti := ti, con := [(18, c_group_Group_Field), (53, c_mont_Ring_Mul)], fns := [], un := 6 }
theorem xok_field_Mul : CxOk Tryz.prog x_field_Mul := CxOk.of mixed ti_ok (List.forall_mem_cons.2 ⟨con_group_Group_Field, List.forall_mem_cons.2 ⟨con_mont_Ring_Mul, List.forall_mem_nil _⟩⟩) (List.forall_mem_nil _)
theorem fn_field_Mul : FnOk Tryz.prog 23 Tryz.f23 [] := ⟨Tryz.func23, Tryz.call23, lps_nil⟩
theorem e_field_Mul (g : (Option (((PtrV ((Nat → Int) × (Int × ((Nat → Int) × (Nat → Int))))) × (PtrV ((Nat → Int) × (Int × ((Nat → Int) × (Nat → Int)))))) × (Nat → Int)))) (a : (Nat → Int)) (b : (Nat → Int)) : bodyK x_field_Mul [] (denF x_field_Mul 8) Tryz.f23 (domV [(.ptr (.pair (.pair (.ptr (.pair (.arr 4 (.int .u64)) (.pair (.int .u64) (.pair (.arr 4 (.int .u64)) (.arr 4 (.int .u64)))))) (.ptr (.pair (.arr 4 (.int .u64)) (.pair (.int .u64) (.pair (.arr 4 (.int .u64)) (.arr 4 (.int .u64))))))) (.arr 4 (.int .u64)))), (.arr 4 (.int .u64)), (.arr 4 (.int .u64))] (g, a, b, ())) [] 0 (kOut [(.arr 4 (.int .u64))]) = field_Mul' g a b := by cases g <;> kernel_rfl
theorem con_field_Mul : ConOk Tryz.prog 23 c_field_Mul := con_ok xok_field_Mul 8 fn_field_Mul true [(.ptr (.pair (.pair (.ptr (.pair (.arr 4 (.int .u64)) (.pair (.int .u64) (.pair (.arr 4 (.int .u64)) (.arr 4 (.int .u64)))))) (.ptr (.pair (.arr 4 (.int .u64)) (.pair (.int .u64) (.pair (.arr 4 (.int .u64)) (.arr 4 (.int .u64))))))) (.arr 4 (.int .u64)))), (.arr 4 (.int .u64)), (.arr 4 (.int .u64))] [(.arr 4 (.int .u64))] _ (by decide) (fun x => by rw [field_Mul_eq]; exact e_field_Mul x.1 x.2.1 x.2.2.1)
noncomputable def c_field_Add : Con := conV true [(.ptr (.pair (.pair (.ptr (.pair (.arr 4 (.int .u64)) (.pair (.int .u64) (.pair (.arr 4 (.int .u64)) (.arr 4 (.int .u64)))))) (.ptr (.pair (.arr 4 (.int .u64)) (.pair (.int .u64) (.pair (.arr 4 (.int .u64)) (.arr 4 (.int .u64))))))) (.arr 4 (.int .u64)))), (.arr 4 (.int .u64)), (.arr 4 (.int .u64))] [(.arr 4 (.int .u64))] fun x => field_Add x.1 x.2.1 x.2.2.1
noncomputable def x_field_Add : Cx := { ti := ti, con := [(48, c_group_Group_Q), (64, c_wide_AddMod)], fns := [], un := 6 }
theorem xok_field_Add : CxOk Tryz.prog x_field_Add := CxOk.of mixed ti_ok (List.forall_mem_cons.2 ⟨con_group_Group_Q, List.forall_mem_cons.2 ⟨con_wide_AddMod, List.forall_mem_nil _⟩⟩) (List.forall_mem_nil _)
theorem fn_field_Add : FnOk Tryz.prog 36 Tryz.f36 [] := ⟨Tryz.func36, Tryz.call36, lps_nil⟩
theorem e_field_Add (g : (Option (((PtrV ((Nat → Int) × (Int × ((Nat → Int) × (Nat → Int))))) × (PtrV ((Nat → Int) × (Int × ((Nat → Int) × (Nat → Int)))))) × (Nat → Int)))) (a : (Nat → Int)) (b : (Nat → Int)) : bodyK x_field_Add [] (denF x_field_Add 8) Tryz.f36 (domV [(.ptr (.pair (.pair (.ptr (.pair (.arr 4 (.int .u64)) (.pair (.int .u64) (.pair (.arr 4 (.int .u64)) (.arr 4 (.int .u64)))))) (.ptr (.pair (.arr 4 (.int .u64)) (.pair (.int .u64) (.pair (.arr 4 (.int .u64)) (.arr 4 (.int .u64))))))) (.arr 4 (.int .u64)))), (.arr 4 (.int .u64)), (.arr 4 (.int .u64))] (g, a, b, ())) [] 0 (kOut [(.arr 4 (.int .u64))]) = field_Add' g a b := by cases g <;> kernel_rfl
theorem con_field_Add : ConOk Tryz.prog 36 c_field_Add := con_ok xok_field_Add 8 fn_field_Add true [(.ptr (.pair (.pair (.ptr (.pair (.arr 4 (.int .u64)) (.pair (.int .u64) (.pair (.arr 4 (.int .u64)) (.arr 4 (.int .u64)))))) (.ptr (.pair (.arr 4 (.int .u64)) (.pair (.int .u64) (.pair (.arr 4 (.int .u64)) (.arr 4 (.int .u64))))))) (.arr 4 (.int .u64)))), (.arr 4 (.int .u64)), (.arr 4 (.int .u64))] [(.arr 4 (.int .u64))] _ (by decide) (fun x => by rw [field_Add_eq]; exact e_field_Add x.1 x.2.1 x.2.2.1)
noncomputable def c_field_Sub : Con := conV true [(.ptr (.pair (.pair (.ptr (.pair (.arr 4 (.int .u64)) (.pair (.int .u64) (.pair (.arr 4 (.int .u64)) (.arr 4 (.int .u64)))))) (.ptr (.pair (.arr 4 (.int .u64)) (.pair (.int .u64) (.pair (.arr 4 (.int .u64)) (.arr 4 (.int .u64))))))) (.arr 4 (.int .u64)))), (.arr 4 (.int .u64)), (.arr 4 (.int .u64))] [(.arr 4 (.int .u64))] fun x => field_Sub x.1 x.2.1 x.2.2.1
noncomputable def x_field_Sub : Cx := { ti := ti, con := [(48, c_group_Group_Q), (47, c_wide_SubMod)], fns := [], un := 6 }
theorem xok_field_Sub : CxOk Tryz.prog x_field_Sub := CxOk.of mixed ti_ok (List.forall_mem_cons.2 ⟨con_group_Group_Q, List.forall_mem_cons.2 ⟨con_wide_SubMod, List.forall_mem_nil _⟩⟩) (List.forall_mem_nil _)
theorem fn_field_Sub : FnOk Tryz.prog 20 Tryz.f20 [] := ⟨Tryz.func20, Tryz.call20, lps_nil⟩
theorem e_field_Sub (g : (Option (((PtrV ((Nat → Int) × (Int × ((Nat → Int) × (Nat → Int))))) × (PtrV ((Nat → Int) × (Int × ((Nat → Int) × (Nat → Int)))))) × (Nat → Int)))) (a : (Nat → Int)) (b : (Nat → Int)) : bodyK x_field_Sub [] (denF x_field_Sub 8) Tryz.f20 (domV [(.ptr (.pair (.pair (.ptr (.pair (.arr 4 (.int .u64)) (.pair (.int .u64) (.pair (.arr 4 (.int .u64)) (.arr 4 (.int .u64)))))) (.ptr (.pair (.arr 4 (.int .u64)) (.pair (.int .u64) (.pair (.arr 4 (.int .u64)) (.arr 4 (.int .u64))))))) (.arr 4 (.int .u64)))), (.arr 4 (.int .u64)), (.arr 4 (.int .u64))] (g, a, b, ())) [] 0 (kOut [(.arr 4 (.int .u64))]) = field_Sub' g a b := by cases g <;> kernel_rfl
theorem con_field_Sub : ConOk Tryz.prog 20 c_field_Sub := con_ok xok_field_Sub 8 fn_field_Sub true [(.ptr (.pair (.pair (.ptr (.pair (.arr 4 (.int .u64)) (.pair (.int .u64) (.pair (.arr 4 (.int .u64)) (.arr 4 (.int .u64)))))) (.ptr (.pair (.arr 4 (.int .u64)) (.pair (.int .u64) (.pair (.arr 4 (.int .u64)) (.arr 4 (.int .u64))))))) (.arr 4 (.int .u64)))), (.arr 4 (.int .u64)), (.arr 4 (.int .u64))] [(.arr 4 (.int .u64))] _ (by decide) (fun x => by rw [field_Sub_eq]; exact e_field_Sub x.1 x.2.1 x.2.2.1)
noncomputable def c_field_Inv : Con := conV true [(.ptr (.pair (.pair (.ptr (.pair (.arr 4 (.int .u64)) (.pair (.int .u64) (.pair (.arr 4 (.int .u64)) (.arr 4 (.int .u64)))))) (.ptr (.pair (.arr 4 (.int .u64)) (.pair (.int .u64) (.pair (.arr 4 (.int .u64)) (.arr 4 (.int .u64))))))) (.arr 4 (.int .u64)))), (.arr 4 (.int .u64))] [(.arr 4 (.int .u64))] fun x => field_Inv x.1 x.2.1
noncomputable def x_field_Inv : Cx := { ti := ti, con := [(48, c_group_Group_Q), (54, c_wide_InvMod)], fns := [], un := 6 }
theorem xok_field_Inv : CxOk Tryz.prog x_field_Inv := CxOk.of mixed ti_ok (List.forall_mem_cons.2 ⟨con_group_Group_Q, List.forall_mem_cons.2 ⟨con_wide_InvMod, List.forall_mem_nil _⟩⟩) (List.forall_mem_nil _)
theorem fn_field_Inv : FnOk Tryz.prog 24 Tryz.f24 [] := ⟨Tryz.func24, Tryz.call24, lps_nil⟩
theorem e_field_Inv (g : (Option (((PtrV ((Nat → Int) × (Int × ((Nat → Int) × (Nat → Int))))) × (PtrV ((Nat → Int) × (Int × ((Nat → Int) × (Nat → Int)))))) × (Nat → Int)))) (a : (Nat → Int)) : bodyK x_field_Inv [] (denF x_field_Inv 8) Tryz.f24 (domV [(.ptr (.pair (.pair (.ptr (.pair (.arr 4 (.int .u64)) (.pair (.int .u64) (.pair (.arr 4 (.int .u64)) (.arr 4 (.int .u64)))))) (.ptr (.pair (.arr 4 (.int .u64)) (.pair (.int .u64) (.pair (.arr 4 (.int .u64)) (.arr 4 (.int .u64))))))) (.arr 4 (.int .u64)))), (.arr 4 (.int .u64))] (g, a, ())) [] 0 (kOut [(.arr 4 (.int .u64))]) = field_Inv' g a := by cases g <;> kernel_rfl
theorem con_field_Inv : ConOk Tryz.prog 24 c_field_Inv := con_ok xok_field_Inv 8 fn_field_Inv true [(.ptr (.pair (.pair (.ptr (.pair (.arr 4 (.int .u64)) (.pair (.int .u64) (.pair (.arr 4 (.int .u64)) (.arr 4 (.int .u64)))))) (.ptr (.pair (.arr 4 (.int .u64)) (.pair (.int .u64) (.pair (.arr 4 (.int .u64)) (.arr 4 (.int .u64))))))) (.arr 4 (.int .u64)))), (.arr 4 (.int .u64))] [(.arr 4 (.int .u64))] _ (by decide) (fun x => by rw [field_Inv_eq]; exact e_field_Inv x.1 x.2.1)
end Go.Proofs.YtennopklknlecaaGreat
