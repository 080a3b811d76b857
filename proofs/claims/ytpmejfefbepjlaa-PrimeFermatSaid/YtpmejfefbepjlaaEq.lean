/-
  The functions of the program are the plain ones.
-/
import Derived.Test.YtpmejfefbepjlaaProg
import Derived.Test.YtpmejfefbepjlaaDenD
import Derived.KernelRfl
import Derived.Test.YtpmejfefbepjlaaPl
set_option linter.unusedVariables false
set_option linter.unusedSimpArgs false
set_option maxRecDepth 100000
set_option maxHeartbeats 0
namespace Go.Pl
end Go.Pl
open Go Go.Den Go.Pl
namespace Go.Proofs.Ytpmejfefbepjlaa
noncomputable def ti : List (Nat × TI) := [
  (3, ⟨(TypeDesc.int IntKind.i64), (.int .i64), 8⟩),
  (4, ⟨TypeDesc.bool, .bool, 1⟩),
  (5, ⟨(TypeDesc.int IntKind.u8), (.int .u8), 1⟩),
  (9, ⟨TypeDesc.string, .str, 16⟩),
  (22, ⟨(TypeDesc.int IntKind.u64), (.int .u64), 8⟩),
  (24, ⟨(TypeDesc.array 4 22), (.arr 4 (.int .u64)), 32⟩),
  (27, ⟨(TypeDesc.int IntKind.i64), (.int .i64), 8⟩),
  (41, ⟨(TypeDesc.pointer 57), (.ptr (.pair (.arr 4 (.int .u64)) (.pair (.int .u64) (.pair (.arr 4 (.int .u64)) (.arr 4 (.int .u64)))))), 8⟩),
  (47, ⟨(TypeDesc.array 2 22), (.arr 2 (.int .u64)), 16⟩),
  (48, ⟨(TypeDesc.array 2 47), (.arr 2 (.arr 2 (.int .u64))), 32⟩),
  (49, ⟨(TypeDesc.int IntKind.u64), (.int .u64), 8⟩),
  (51, ⟨(TypeDesc.slice 24), (.sl (.arr 4 (.int .u64))), 24⟩),
  (57, ⟨(TypeDesc.struct #[{ name := "m", type := 24, offset := 0, embedded := false, tag := "", pkgPath := "sacristy/mont", byteOffset := 0 }, { name := "inv", type := 22, offset := 4, embedded := false, tag := "", pkgPath := "sacristy/mont", byteOffset := 32 }, { name := "one", type := 24, offset := 5, embedded := false, tag := "", pkgPath := "sacristy/mont", byteOffset := 40 }, { name := "square", type := 24, offset := 9, embedded := false, tag := "", pkgPath := "sacristy/mont", byteOffset := 72 }]), (.pair (.arr 4 (.int .u64)) (.pair (.int .u64) (.pair (.arr 4 (.int .u64)) (.arr 4 (.int .u64))))), 104⟩),
  (58, ⟨(TypeDesc.slice 41), (.sl (.ptr (.pair (.arr 4 (.int .u64)) (.pair (.int .u64) (.pair (.arr 4 (.int .u64)) (.arr 4 (.int .u64))))))), 24⟩),
  (60, ⟨(TypeDesc.int IntKind.u32), (.int .u32), 4⟩),
  (64, ⟨(TypeDesc.slice 67), (.sl (.pair (.arr 4 (.int .u64)) (.int .i64))), 24⟩),
  (67, ⟨(TypeDesc.struct #[{ name := "N", type := 24, offset := 0, embedded := false, tag := "", pkgPath := "", byteOffset := 0 }, { name := "A", type := 3, offset := 4, embedded := false, tag := "", pkgPath := "", byteOffset := 32 }]), (.pair (.arr 4 (.int .u64)) (.int .i64)), 40⟩),
  (74, ⟨(TypeDesc.array 8 22), (.arr 8 (.int .u64)), 64⟩),
  (79, ⟨(TypeDesc.slice 22), (.sl (.int .u64)), 24⟩),
  (81, ⟨(TypeDesc.array 32 3), (.arr 32 (.int .i64)), 256⟩),
  (88, ⟨(TypeDesc.array 256 4), (.arr 256 .bool), 256⟩),
  (93, ⟨(TypeDesc.slice 94), (.sl (.arr 16 (.arr 4 (.int .u64)))), 24⟩),
  (94, ⟨(TypeDesc.array 16 24), (.arr 16 (.arr 4 (.int .u64))), 512⟩),
  (103, ⟨(TypeDesc.array 6 22), (.arr 6 (.int .u64)), 48⟩)]
theorem ti3 : TI1 Try.prog ti (3, ⟨(TypeDesc.int IntKind.i64), (.int .i64), 8⟩) where
  under := Try.underlying3
  info := by kernel_rfl
  zero := by kernel_rfl
  shape := rfl
  eq := fun h => absurd h (by decide)
theorem ti4 : TI1 Try.prog ti (4, ⟨TypeDesc.bool, .bool, 1⟩) where
  under := Try.underlying4
  info := by kernel_rfl
  zero := by kernel_rfl
  shape := rfl
  eq := fun h => absurd h (by decide)
theorem ti5 : TI1 Try.prog ti (5, ⟨(TypeDesc.int IntKind.u8), (.int .u8), 1⟩) where
  under := Try.underlying5
  info := by kernel_rfl
  zero := by kernel_rfl
  shape := rfl
  eq := fun h => absurd h (by decide)
theorem ti9 : TI1 Try.prog ti (9, ⟨TypeDesc.string, .str, 16⟩) where
  under := Try.underlying9
  info := by kernel_rfl
  zero := by kernel_rfl
  shape := rfl
  eq := fun h => absurd h (by decide)
theorem ti22 : TI1 Try.prog ti (22, ⟨(TypeDesc.int IntKind.u64), (.int .u64), 8⟩) where
  under := Try.underlying22
  info := by kernel_rfl
  zero := by kernel_rfl
  shape := rfl
  eq := fun h => absurd h (by decide)
theorem ti24 : TI1 Try.prog ti (24, ⟨(TypeDesc.array 4 22), (.arr 4 (.int .u64)), 32⟩) where
  under := Try.underlying24
  info := by kernel_rfl
  zero := by kernel_rfl
  shape := ⟨_, rfl, rfl, by decide, by decide⟩
  eq := fun _ _ => ⟨by kernel_rfl, by kernel_rfl, (by intro fs h; cases h <;> decide), by decide⟩
theorem ti27 : TI1 Try.prog ti (27, ⟨(TypeDesc.int IntKind.i64), (.int .i64), 8⟩) where
  under := Try.underlying27
  info := by kernel_rfl
  zero := by kernel_rfl
  shape := rfl
  eq := fun h => absurd h (by decide)
theorem ti41 : TI1 Try.prog ti (41, ⟨(TypeDesc.pointer 57), (.ptr (.pair (.arr 4 (.int .u64)) (.pair (.int .u64) (.pair (.arr 4 (.int .u64)) (.arr 4 (.int .u64)))))), 8⟩) where
  under := Try.underlying41
  info := by kernel_rfl
  zero := by kernel_rfl
  shape := ⟨_, rfl⟩
  eq := fun h => absurd h (by decide)
theorem ti47 : TI1 Try.prog ti (47, ⟨(TypeDesc.array 2 22), (.arr 2 (.int .u64)), 16⟩) where
  under := Try.underlying47
  info := by kernel_rfl
  zero := by kernel_rfl
  shape := ⟨_, rfl, rfl, by decide, by decide⟩
  eq := fun _ _ => ⟨by kernel_rfl, by kernel_rfl, (by intro fs h; cases h <;> decide), by decide⟩
theorem ti48 : TI1 Try.prog ti (48, ⟨(TypeDesc.array 2 47), (.arr 2 (.arr 2 (.int .u64))), 32⟩) where
  under := Try.underlying48
  info := by kernel_rfl
  zero := by kernel_rfl
  shape := ⟨_, rfl, rfl, by decide, by decide⟩
  eq := fun _ _ => ⟨by kernel_rfl, by kernel_rfl, (by intro fs h; cases h <;> decide), by decide⟩
theorem ti49 : TI1 Try.prog ti (49, ⟨(TypeDesc.int IntKind.u64), (.int .u64), 8⟩) where
  under := Try.underlying49
  info := by kernel_rfl
  zero := by kernel_rfl
  shape := rfl
  eq := fun h => absurd h (by decide)
theorem ti51 : TI1 Try.prog ti (51, ⟨(TypeDesc.slice 24), (.sl (.arr 4 (.int .u64))), 24⟩) where
  under := Try.underlying51
  info := by kernel_rfl
  zero := by kernel_rfl
  shape := ⟨_, rfl, rfl, by decide⟩
  eq := fun h => absurd h (by decide)
theorem ti57 : TI1 Try.prog ti (57, ⟨(TypeDesc.struct #[{ name := "m", type := 24, offset := 0, embedded := false, tag := "", pkgPath := "sacristy/mont", byteOffset := 0 }, { name := "inv", type := 22, offset := 4, embedded := false, tag := "", pkgPath := "sacristy/mont", byteOffset := 32 }, { name := "one", type := 24, offset := 5, embedded := false, tag := "", pkgPath := "sacristy/mont", byteOffset := 40 }, { name := "square", type := 24, offset := 9, embedded := false, tag := "", pkgPath := "sacristy/mont", byteOffset := 72 }]), (.pair (.arr 4 (.int .u64)) (.pair (.int .u64) (.pair (.arr 4 (.int .u64)) (.arr 4 (.int .u64))))), 104⟩) where
  under := Try.underlying57
  info := by kernel_rfl
  zero := by kernel_rfl
  shape := ⟨rfl, ⟨rfl, by decide, ⟨_, rfl, rfl, by decide⟩, ⟨rfl, by decide, ⟨_, rfl, rfl, by decide⟩, ⟨rfl, by decide, ⟨_, rfl, rfl, by decide⟩, ⟨rfl, by decide, _, rfl, rfl, by decide⟩⟩⟩⟩⟩
  eq := fun _ _ => ⟨by kernel_rfl, by kernel_rfl, (by intro fs h; cases h <;> decide), by decide⟩
theorem ti58 : TI1 Try.prog ti (58, ⟨(TypeDesc.slice 41), (.sl (.ptr (.pair (.arr 4 (.int .u64)) (.pair (.int .u64) (.pair (.arr 4 (.int .u64)) (.arr 4 (.int .u64))))))), 24⟩) where
  under := Try.underlying58
  info := by kernel_rfl
  zero := by kernel_rfl
  shape := ⟨_, rfl, rfl, by decide⟩
  eq := fun h => absurd h (by decide)
theorem ti60 : TI1 Try.prog ti (60, ⟨(TypeDesc.int IntKind.u32), (.int .u32), 4⟩) where
  under := Try.underlying60
  info := by kernel_rfl
  zero := by kernel_rfl
  shape := rfl
  eq := fun h => absurd h (by decide)
theorem ti64 : TI1 Try.prog ti (64, ⟨(TypeDesc.slice 67), (.sl (.pair (.arr 4 (.int .u64)) (.int .i64))), 24⟩) where
  under := Try.underlying64
  info := by kernel_rfl
  zero := by kernel_rfl
  shape := ⟨_, rfl, rfl, by decide⟩
  eq := fun h => absurd h (by decide)
theorem ti67 : TI1 Try.prog ti (67, ⟨(TypeDesc.struct #[{ name := "N", type := 24, offset := 0, embedded := false, tag := "", pkgPath := "", byteOffset := 0 }, { name := "A", type := 3, offset := 4, embedded := false, tag := "", pkgPath := "", byteOffset := 32 }]), (.pair (.arr 4 (.int .u64)) (.int .i64)), 40⟩) where
  under := Try.underlying67
  info := by kernel_rfl
  zero := by kernel_rfl
  shape := ⟨rfl, ⟨rfl, by decide, ⟨_, rfl, rfl, by decide⟩, ⟨rfl, by decide, _, rfl, rfl, by decide⟩⟩⟩
  eq := fun _ _ => ⟨by kernel_rfl, by kernel_rfl, (by intro fs h; cases h <;> decide), by decide⟩
theorem ti74 : TI1 Try.prog ti (74, ⟨(TypeDesc.array 8 22), (.arr 8 (.int .u64)), 64⟩) where
  under := Try.underlying74
  info := by kernel_rfl
  zero := by kernel_rfl
  shape := ⟨_, rfl, rfl, by decide, by decide⟩
  eq := fun _ _ => ⟨by kernel_rfl, by kernel_rfl, (by intro fs h; cases h <;> decide), by decide⟩
theorem ti79 : TI1 Try.prog ti (79, ⟨(TypeDesc.slice 22), (.sl (.int .u64)), 24⟩) where
  under := Try.underlying79
  info := by kernel_rfl
  zero := by kernel_rfl
  shape := ⟨_, rfl, rfl, by decide⟩
  eq := fun h => absurd h (by decide)
theorem ti81 : TI1 Try.prog ti (81, ⟨(TypeDesc.array 32 3), (.arr 32 (.int .i64)), 256⟩) where
  under := Try.underlying81
  info := by kernel_rfl
  zero := by kernel_rfl
  shape := ⟨_, rfl, rfl, by decide, by decide⟩
  eq := fun _ _ => ⟨by kernel_rfl, by kernel_rfl, (by intro fs h; cases h <;> decide), by decide⟩
theorem ti88 : TI1 Try.prog ti (88, ⟨(TypeDesc.array 256 4), (.arr 256 .bool), 256⟩) where
  under := Try.underlying88
  info := by kernel_rfl
  zero := by kernel_rfl
  shape := ⟨_, rfl, rfl, by decide, by decide⟩
  eq := fun _ _ => ⟨by kernel_rfl, by kernel_rfl, (by intro fs h; cases h <;> decide), by decide⟩
theorem ti93 : TI1 Try.prog ti (93, ⟨(TypeDesc.slice 94), (.sl (.arr 16 (.arr 4 (.int .u64)))), 24⟩) where
  under := Try.underlying93
  info := by kernel_rfl
  zero := by kernel_rfl
  shape := ⟨_, rfl, rfl, by decide⟩
  eq := fun h => absurd h (by decide)
theorem ti94 : TI1 Try.prog ti (94, ⟨(TypeDesc.array 16 24), (.arr 16 (.arr 4 (.int .u64))), 512⟩) where
  under := Try.underlying94
  info := by kernel_rfl
  zero := by kernel_rfl
  shape := ⟨_, rfl, rfl, by decide, by decide⟩
  eq := fun _ _ => ⟨by kernel_rfl, by kernel_rfl, (by intro fs h; cases h <;> decide), by decide⟩
theorem ti103 : TI1 Try.prog ti (103, ⟨(TypeDesc.array 6 22), (.arr 6 (.int .u64)), 48⟩) where
  under := Try.underlying103
  info := by kernel_rfl
  zero := by kernel_rfl
  shape := ⟨_, rfl, rfl, by decide, by decide⟩
  eq := fun _ _ => ⟨by kernel_rfl, by kernel_rfl, (by intro fs h; cases h <;> decide), by decide⟩
theorem ti_ok : TIok Try.prog ti := TIok.of (List.forall_mem_cons.2 ⟨ti3, List.forall_mem_cons.2 ⟨ti4, List.forall_mem_cons.2 ⟨ti5, List.forall_mem_cons.2 ⟨ti9, List.forall_mem_cons.2 ⟨ti22, List.forall_mem_cons.2 ⟨ti24, List.forall_mem_cons.2 ⟨ti27, List.forall_mem_cons.2 ⟨ti41, List.forall_mem_cons.2 ⟨ti47, List.forall_mem_cons.2 ⟨ti48, List.forall_mem_cons.2 ⟨ti49, List.forall_mem_cons.2 ⟨ti51, List.forall_mem_cons.2 ⟨ti57, List.forall_mem_cons.2 ⟨ti58, List.forall_mem_cons.2 ⟨ti60, List.forall_mem_cons.2 ⟨ti64, List.forall_mem_cons.2 ⟨ti67, List.forall_mem_cons.2 ⟨ti74, List.forall_mem_cons.2 ⟨ti79, List.forall_mem_cons.2 ⟨ti81, List.forall_mem_cons.2 ⟨ti88, List.forall_mem_cons.2 ⟨ti93, List.forall_mem_cons.2 ⟨ti94, List.forall_mem_cons.2 ⟨ti103, List.forall_mem_nil _⟩⟩⟩⟩⟩⟩⟩⟩⟩⟩⟩⟩⟩⟩⟩⟩⟩⟩⟩⟩⟩⟩⟩⟩)
theorem mixed : Try.prog.follows .mixedOrders = true := by kernel_rfl
noncomputable def c_add64 : Con := conV false [u64, u64, u64] [u64, u64] fun x => add64 x.1 x.2.1 x.2.2.1
theorem con_add64 : ConOk Try.prog 66 c_add64 := add64_ok Try.func66 (by kernel_rfl) (by kernel_rfl) (by kernel_rfl) (by kernel_rfl)
noncomputable def c_sub64 : Con := conV false [u64, u64, u64] [u64, u64] fun x => sub64 x.1 x.2.1 x.2.2.1
theorem con_sub64 : ConOk Try.prog 96 c_sub64 := sub64_ok Try.func96 (by kernel_rfl) (by kernel_rfl) (by kernel_rfl) (by kernel_rfl)
end Go.Proofs.Ytpmejfefbepjlaa

set_option linter.unusedVariables false
set_option linter.unusedSimpArgs false
set_option maxRecDepth 100000
set_option maxHeartbeats 0
namespace Go.Pl
end Go.Pl
open Go Go.Den Go.Pl
namespace Go.Proofs.Ytpmejfefbepjlaa
noncomputable def c_bits_Mul64 : Con := conV true [(.int .u64), (.int .u64)] [(.int .u64), (.int .u64)] fun x => bits_Mul64 x.1 x.2.1
noncomputable def x_bits_Mul64 : Cx := { ti := ti, con := [], fns := [], un := 6 }
theorem xok_bits_Mul64 : CxOk Try.prog x_bits_Mul64 := CxOk.of mixed ti_ok (List.forall_mem_nil _) (List.forall_mem_nil _)
theorem fn_bits_Mul64 : FnOk Try.prog 65 Try.f65 [] := ⟨Try.func65, Try.call65, lps_nil⟩
theorem e_bits_Mul64 (x : Int) (y : Int) : bodyK x_bits_Mul64 [] (denF x_bits_Mul64 8) Try.f65 (domV [(.int .u64), (.int .u64)] (x, y, ())) [] 0 (kOut [(.int .u64), (.int .u64)]) = bits_Mul64' x y := by kernel_rfl
theorem con_bits_Mul64 : ConOk Try.prog 65 c_bits_Mul64 := con_ok xok_bits_Mul64 8 fn_bits_Mul64 true [(.int .u64), (.int .u64)] [(.int .u64), (.int .u64)] _ (by decide) (fun x => by rw [bits_Mul64_eq]; exact e_bits_Mul64 x.1 x.2.1)
noncomputable def c_bits_Len64 : Con := conV true [(.int .u64)] [(.int .i64)] fun x => bits_Len64 x.1
noncomputable def x_bits_Len64 : Cx := { ti := ti, con := [], fns := [], un := 6 }
theorem xok_bits_Len64 : CxOk Try.prog x_bits_Len64 := CxOk.of mixed ti_ok (List.forall_mem_nil _) (List.forall_mem_nil _)
theorem fn_bits_Len64 : FnOk Try.prog 99 Try.f99 [] := ⟨Try.func99, Try.call99, lps_nil⟩
theorem e_bits_Len64 (x : Int) : bodyK x_bits_Len64 [] (denF x_bits_Len64 8) Try.f99 (domV [(.int .u64)] (x, ())) [] 0 (kOut [(.int .i64)]) = bits_Len64' x := by kernel_rfl
theorem con_bits_Len64 : ConOk Try.prog 99 c_bits_Len64 := con_ok xok_bits_Len64 8 fn_bits_Len64 true [(.int .u64)] [(.int .i64)] _ (by decide) (fun x => by rw [bits_Len64_eq]; exact e_bits_Len64 x.1)
noncomputable def c_bits_LeadingZeros64 : Con := conV true [(.int .u64)] [(.int .i64)] fun x => bits_LeadingZeros64 x.1
noncomputable def x_bits_LeadingZeros64 : Cx := { ti := ti, con := [(99, c_bits_Len64)], fns := [], un := 6 }
theorem xok_bits_LeadingZeros64 : CxOk Try.prog x_bits_LeadingZeros64 := CxOk.of mixed ti_ok (List.forall_mem_cons.2 ⟨con_bits_Len64, List.forall_mem_nil _⟩) (List.forall_mem_nil _)
theorem fn_bits_LeadingZeros64 : FnOk Try.prog 101 Try.f101 [] := ⟨Try.func101, Try.call101, lps_nil⟩
theorem e_bits_LeadingZeros64 (x : Int) : bodyK x_bits_LeadingZeros64 [] (denF x_bits_LeadingZeros64 8) Try.f101 (domV [(.int .u64)] (x, ())) [] 0 (kOut [(.int .i64)]) = bits_LeadingZeros64' x := by kernel_rfl
theorem con_bits_LeadingZeros64 : ConOk Try.prog 101 c_bits_LeadingZeros64 := con_ok xok_bits_LeadingZeros64 8 fn_bits_LeadingZeros64 true [(.int .u64)] [(.int .i64)] _ (by decide) (fun x => by rw [bits_LeadingZeros64_eq]; exact e_bits_LeadingZeros64 x.1)
abbrev S_bits_Div64_0 : Shape := { sl := [(2, (.v (.int .u64))), (8, (.v (.int .u64))), (9, (.v (.int .u64))), (10, (.v (.int .u64))), (11, (.v (.int .u64))), (13, (.v (.int .u64))), (14, (.v (.int .u64))), (15, (.v (.int .u64))), (16, (.v (.int .u64)))], ob := [], lo := 0, nx := 0 }
abbrev E_bits_Div64_0 : List Ex := [(.normal, { sl := [(2, (.v (.int .u64))), (8, (.v (.int .u64))), (9, (.v (.int .u64))), (10, (.v (.int .u64))), (11, (.v (.int .u64))), (13, (.v (.int .u64))), (14, (.v (.int .u64))), (15, (.v (.int .u64)))], ob := [], lo := 0, nx := 0 })]
noncomputable def L_bits_Div64_0 : Code := loopIn (bodyOf Try.f100) 0
noncomputable def P_bits_Div64_0 : Lp := lpOf S_bits_Div64_0 E_bits_Div64_0 135 R_bits_Div64_0
abbrev S_bits_Div64_2 : Shape := { sl := [(2, (.v (.int .u64))), (8, (.v (.int .u64))), (9, (.v (.int .u64))), (10, (.v (.int .u64))), (14, (.v (.int .u64))), (15, (.v (.int .u64))), (16, (.v (.int .u64))), (17, (.v (.int .u64))), (18, (.v (.int .u64)))], ob := [], lo := 0, nx := 0 }
abbrev E_bits_Div64_2 : List Ex := [(.normal, { sl := [(2, (.v (.int .u64))), (8, (.v (.int .u64))), (14, (.v (.int .u64))), (15, (.v (.int .u64))), (17, (.v (.int .u64))), (18, (.v (.int .u64)))], ob := [], lo := 0, nx := 0 })]
noncomputable def L_bits_Div64_2 : Code := loopIn (bodyOf Try.f100) 2
noncomputable def P_bits_Div64_2 : Lp := lpOf S_bits_Div64_2 E_bits_Div64_2 135 R_bits_Div64_2
noncomputable def c_bits_Div64 : Con := conV true [(.int .u64), (.int .u64), (.int .u64)] [(.int .u64), (.int .u64)] fun x => bits_Div64 x.1 x.2.1 x.2.2.1
noncomputable def x_bits_Div64 : Cx := { ti := ti, con := [(101, c_bits_LeadingZeros64)], fns := [], un := 6 }
theorem xok_bits_Div64 : CxOk Try.prog x_bits_Div64 := CxOk.of mixed ti_ok (List.forall_mem_cons.2 ⟨con_bits_LeadingZeros64, List.forall_mem_nil _⟩) (List.forall_mem_nil _)
theorem r_bits_Div64_0 (x : S_bits_Div64_0.X) : denC x_bits_Div64 [] (denF x_bits_Div64 8) L_bits_Div64_0 (S_bits_Div64_0.mkS 135 x) (kRound 0 S_bits_Div64_0 E_bits_Div64_0) = R_bits_Div64_0 x := by kernel_rfl
theorem l_bits_Div64_0 : LpOk Try.prog 0 (.loop L_bits_Div64_0) P_bits_Div64_0 := lpOf_ok xok_bits_Div64 8 (lps_nil) S_bits_Div64_0 E_bits_Div64_0 135 R_bits_Div64_0 (by decide) r_bits_Div64_0
theorem r_bits_Div64_2 (x : S_bits_Div64_2.X) : denC x_bits_Div64 [] (denF x_bits_Div64 8) L_bits_Div64_2 (S_bits_Div64_2.mkS 135 x) (kRound 2 S_bits_Div64_2 E_bits_Div64_2) = R_bits_Div64_2 x := by kernel_rfl
theorem l_bits_Div64_2 : LpOk Try.prog 2 (.loop L_bits_Div64_2) P_bits_Div64_2 := lpOf_ok xok_bits_Div64 8 (lps_nil) S_bits_Div64_2 E_bits_Div64_2 135 R_bits_Div64_2 (by decide) r_bits_Div64_2
theorem fn_bits_Div64 : FnOk Try.prog 100 Try.f100 [(0, P_bits_Div64_0), (2, P_bits_Div64_2)] := ⟨Try.func100, Try.call100, lps_of (by kernel_rfl) (lps_one l_bits_Div64_0 (by kernel_rfl) (lps_one l_bits_Div64_2 (by kernel_rfl) (List.forall_mem_nil _)))⟩
theorem e_bits_Div64 (hi : Int) (lo : Int) (y : Int) : bodyK x_bits_Div64 [(0, P_bits_Div64_0), (2, P_bits_Div64_2)] (denF x_bits_Div64 8) Try.f100 (domV [(.int .u64), (.int .u64), (.int .u64)] (hi, lo, y, ())) [] 0 (kOut [(.int .u64), (.int .u64)]) = bits_Div64' hi lo y := by kernel_rfl
theorem con_bits_Div64 : ConOk Try.prog 100 c_bits_Div64 := con_ok xok_bits_Div64 8 fn_bits_Div64 true [(.int .u64), (.int .u64), (.int .u64)] [(.int .u64), (.int .u64)] _ (by decide) (fun x => by rw [bits_Div64_eq]; exact e_bits_Div64 x.1 x.2.1 x.2.2.1)
end Go.Proofs.Ytpmejfefbepjlaa

set_option linter.unusedVariables false
set_option linter.unusedSimpArgs false
set_option maxRecDepth 100000
set_option maxHeartbeats 0
namespace Go.Pl
end Go.Pl
open Go Go.Den Go.Pl
namespace Go.Proofs.Ytpmejfefbepjlaa
noncomputable def c_nat_Bit : Con := conV true [(.arr 4 (.int .u64)), (.int .i64)] [(.int .i64)] fun x => nat_Bit x.1 x.2.1
noncomputable def x_nat_Bit : Cx := { ti := ti, con := [], fns := [], un := 6 }
theorem xok_nat_Bit : CxOk Try.prog x_nat_Bit := CxOk.of mixed ti_ok (List.forall_mem_nil _) (List.forall_mem_nil _)
theorem fn_nat_Bit : FnOk Try.prog 92 Try.f92 [] := ⟨Try.func92, Try.call92, lps_nil⟩
theorem e_nat_Bit (a : (Nat → Int)) (k : Int) : bodyK x_nat_Bit [] (denF x_nat_Bit 8) Try.f92 (domV [(.arr 4 (.int .u64)), (.int .i64)] (a, k, ())) [] 0 (kOut [(.int .i64)]) = nat_Bit' a k := by kernel_rfl
theorem con_nat_Bit : ConOk Try.prog 92 c_nat_Bit := con_ok xok_nat_Bit 8 fn_nat_Bit true [(.arr 4 (.int .u64)), (.int .i64)] [(.int .i64)] _ (by decide) (fun x => by rw [nat_Bit_eq]; exact e_nat_Bit x.1 x.2.1)
abbrev S_nat_Up_0 : Shape := { sl := [(2, (.c ⟨(.ptr (.arr 4 (.int .u64))), (.rf 0 [])⟩)), (4, (.c ⟨(.ptr (.arr 4 (.int .u64))), (.rf 1 [])⟩)), (5, (.c ⟨(.ptr (.arr 4 (.int .u64))), (.rf 2 [])⟩)), (6, (.v (.int .i64))), (7, (.v (.int .i64))), (8, (.v (.int .i64)))], ob := [(0, (.v (.arr 4 (.int .u64)))), (1, (.v (.arr 4 (.int .u64)))), (2, (.v (.arr 4 (.int .u64))))], lo := 3, nx := 3 }
abbrev E_nat_Up_0 : List Ex := [(.normal, { sl := [(4, (.c ⟨(.ptr (.arr 4 (.int .u64))), (.rf 1 [])⟩)), (5, (.c ⟨(.ptr (.arr 4 (.int .u64))), (.rf 2 [])⟩))], ob := [(1, (.v (.arr 4 (.int .u64)))), (2, (.v (.arr 4 (.int .u64))))], lo := 3, nx := 3 })]
noncomputable def L_nat_Up_0 : Code := loopIn (bodyOf Try.f88) 0
noncomputable def P_nat_Up_0 : Lp := lpOf S_nat_Up_0 E_nat_Up_0 51 R_nat_Up_0
noncomputable def c_nat_Up : Con := conV true [(.arr 4 (.int .u64)), (.int .i64)] [(.arr 4 (.int .u64))] fun x => nat_Up x.1 x.2.1
noncomputable def x_nat_Up : Cx := { ti := ti, con := [], fns := [], un := 6 }
theorem xok_nat_Up : CxOk Try.prog x_nat_Up := CxOk.of mixed ti_ok (List.forall_mem_nil _) (List.forall_mem_nil _)
theorem r_nat_Up_0 (x : S_nat_Up_0.X) : denC x_nat_Up [] (denF x_nat_Up 8) L_nat_Up_0 (S_nat_Up_0.mkS 51 x) (kRound 0 S_nat_Up_0 E_nat_Up_0) = R_nat_Up_0 x := by kernel_rfl
theorem l_nat_Up_0 : LpOk Try.prog 0 (.loop L_nat_Up_0) P_nat_Up_0 := lpOf_ok xok_nat_Up 8 (lps_nil) S_nat_Up_0 E_nat_Up_0 51 R_nat_Up_0 (by decide) r_nat_Up_0
theorem fn_nat_Up : FnOk Try.prog 88 Try.f88 [(0, P_nat_Up_0)] := ⟨Try.func88, Try.call88, lps_of (by kernel_rfl) (lps_one l_nat_Up_0 (by kernel_rfl) (List.forall_mem_nil _))⟩
theorem e_nat_Up (a : (Nat → Int)) (k : Int) : bodyK x_nat_Up [(0, P_nat_Up_0)] (denF x_nat_Up 8) Try.f88 (domV [(.arr 4 (.int .u64)), (.int .i64)] (a, k, ())) [] 0 (kOut [(.arr 4 (.int .u64))]) = nat_Up' a k := by kernel_rfl
theorem con_nat_Up : ConOk Try.prog 88 c_nat_Up := con_ok xok_nat_Up 8 fn_nat_Up true [(.arr 4 (.int .u64)), (.int .i64)] [(.arr 4 (.int .u64))] _ (by decide) (fun x => by rw [nat_Up_eq]; exact e_nat_Up x.1 x.2.1)
noncomputable def c_nat_Sub : Con := conV true [(.arr 4 (.int .u64)), (.arr 4 (.int .u64))] [(.arr 4 (.int .u64)), (.int .i64)] fun x => nat_Sub x.1 x.2.1
noncomputable def x_nat_Sub : Cx := { ti := ti, con := [(96, c_sub64)], fns := [], un := 6 }
theorem xok_nat_Sub : CxOk Try.prog x_nat_Sub := CxOk.of mixed ti_ok (List.forall_mem_cons.2 ⟨con_sub64, List.forall_mem_nil _⟩) (List.forall_mem_nil _)
theorem fn_nat_Sub : FnOk Try.prog 77 Try.f77 [] := ⟨Try.func77, Try.call77, lps_nil⟩
theorem e_nat_Sub (a : (Nat → Int)) (b : (Nat → Int)) : bodyK x_nat_Sub [] (denF x_nat_Sub 8) Try.f77 (domV [(.arr 4 (.int .u64)), (.arr 4 (.int .u64))] (a, b, ())) [] 0 (kOut [(.arr 4 (.int .u64)), (.int .i64)]) = nat_Sub' a b := by kernel_rfl
theorem con_nat_Sub : ConOk Try.prog 77 c_nat_Sub := con_ok xok_nat_Sub 8 fn_nat_Sub true [(.arr 4 (.int .u64)), (.arr 4 (.int .u64))] [(.arr 4 (.int .u64)), (.int .i64)] _ (by decide) (fun x => by rw [nat_Sub_eq]; exact e_nat_Sub x.1 x.2.1)
noncomputable def c_nat_Cmp : Con := conV true [(.arr 4 (.int .u64)), (.arr 4 (.int .u64))] [(.int .i64)] fun x => nat_Cmp x.1 x.2.1
noncomputable def x_nat_Cmp : Cx := { ti := ti, con := [], fns := [], un := 6 }
theorem xok_nat_Cmp : CxOk Try.prog x_nat_Cmp := CxOk.of mixed ti_ok (List.forall_mem_nil _) (List.forall_mem_nil _)
theorem fn_nat_Cmp : FnOk Try.prog 73 Try.f73 [] := ⟨Try.func73, Try.call73, lps_nil⟩
theorem e_nat_Cmp (a : (Nat → Int)) (b : (Nat → Int)) : bodyK x_nat_Cmp [] (denF x_nat_Cmp 8) Try.f73 (domV [(.arr 4 (.int .u64)), (.arr 4 (.int .u64))] (a, b, ())) [] 0 (kOut [(.int .i64)]) = nat_Cmp' a b := by kernel_rfl
theorem con_nat_Cmp : ConOk Try.prog 73 c_nat_Cmp := con_ok xok_nat_Cmp 8 fn_nat_Cmp true [(.arr 4 (.int .u64)), (.arr 4 (.int .u64))] [(.int .i64)] _ (by decide) (fun x => by rw [nat_Cmp_eq]; exact e_nat_Cmp x.1 x.2.1)
noncomputable def c_nat_Of : Con := conV true [(.int .i64)] [(.arr 4 (.int .u64))] fun x => nat_Of x.1
noncomputable def x_nat_Of : Cx := { ti := ti, con := [], fns := [], un := 6 }
theorem xok_nat_Of : CxOk Try.prog x_nat_Of := CxOk.of mixed ti_ok (List.forall_mem_nil _) (List.forall_mem_nil _)
theorem fn_nat_Of : FnOk Try.prog 74 Try.f74 [] := ⟨Try.func74, Try.call74, lps_nil⟩
theorem e_nat_Of (n : Int) : bodyK x_nat_Of [] (denF x_nat_Of 8) Try.f74 (domV [(.int .i64)] (n, ())) [] 0 (kOut [(.arr 4 (.int .u64))]) = nat_Of' n := by kernel_rfl
theorem con_nat_Of : ConOk Try.prog 74 c_nat_Of := con_ok xok_nat_Of 8 fn_nat_Of true [(.int .i64)] [(.arr 4 (.int .u64))] _ (by decide) (fun x => by rw [nat_Of_eq]; exact e_nat_Of x.1)
noncomputable def c_nat_Add : Con := conV true [(.arr 4 (.int .u64)), (.arr 4 (.int .u64))] [(.arr 4 (.int .u64)), (.int .i64)] fun x => nat_Add x.1 x.2.1
noncomputable def x_nat_Add : Cx := { ti := ti, con := [(66, c_add64)], fns := [], un := 6 }
theorem xok_nat_Add : CxOk Try.prog x_nat_Add := CxOk.of mixed ti_ok (List.forall_mem_cons.2 ⟨con_add64, List.forall_mem_nil _⟩) (List.forall_mem_nil _)
theorem fn_nat_Add : FnOk Try.prog 76 Try.f76 [] := ⟨Try.func76, Try.call76, lps_nil⟩
theorem e_nat_Add (a : (Nat → Int)) (b : (Nat → Int)) : bodyK x_nat_Add [] (denF x_nat_Add 8) Try.f76 (domV [(.arr 4 (.int .u64)), (.arr 4 (.int .u64))] (a, b, ())) [] 0 (kOut [(.arr 4 (.int .u64)), (.int .i64)]) = nat_Add' a b := by kernel_rfl
theorem con_nat_Add : ConOk Try.prog 76 c_nat_Add := con_ok xok_nat_Add 8 fn_nat_Add true [(.arr 4 (.int .u64)), (.arr 4 (.int .u64))] [(.arr 4 (.int .u64)), (.int .i64)] _ (by decide) (fun x => by rw [nat_Add_eq]; exact e_nat_Add x.1 x.2.1)
noncomputable def c_nat_Len : Con := conV true [(.arr 4 (.int .u64))] [(.int .i64)] fun x => nat_Len x.1
noncomputable def x_nat_Len : Cx := { ti := ti, con := [(99, c_bits_Len64)], fns := [], un := 6 }
theorem xok_nat_Len : CxOk Try.prog x_nat_Len := CxOk.of mixed ti_ok (List.forall_mem_cons.2 ⟨con_bits_Len64, List.forall_mem_nil _⟩) (List.forall_mem_nil _)
theorem fn_nat_Len : FnOk Try.prog 84 Try.f84 [] := ⟨Try.func84, Try.call84, lps_nil⟩
theorem e_nat_Len (a : (Nat → Int)) : bodyK x_nat_Len [] (denF x_nat_Len 8) Try.f84 (domV [(.arr 4 (.int .u64))] (a, ())) [] 0 (kOut [(.int .i64)]) = nat_Len' a := by kernel_rfl
theorem con_nat_Len : ConOk Try.prog 84 c_nat_Len := con_ok xok_nat_Len 8 fn_nat_Len true [(.arr 4 (.int .u64))] [(.int .i64)] _ (by decide) (fun x => by rw [nat_Len_eq]; exact e_nat_Len x.1)
abbrev S_nat_Down_0 : Shape := { sl := [(2, (.c ⟨(.ptr (.arr 4 (.int .u64))), (.rf 0 [])⟩)), (4, (.c ⟨(.ptr (.arr 4 (.int .u64))), (.rf 1 [])⟩)), (5, (.c ⟨(.ptr (.arr 4 (.int .u64))), (.rf 2 [])⟩)), (6, (.v (.int .i64))), (7, (.v (.int .i64))), (20, (.v (.int .i64))), (21, (.v (.int .i64)))], ob := [(0, (.v (.arr 4 (.int .u64)))), (1, (.v (.arr 4 (.int .u64)))), (2, (.v (.arr 4 (.int .u64))))], lo := 3, nx := 3 }
abbrev E_nat_Down_0 : List Ex := [(.normal, { sl := [(4, (.c ⟨(.ptr (.arr 4 (.int .u64))), (.rf 1 [])⟩)), (5, (.c ⟨(.ptr (.arr 4 (.int .u64))), (.rf 2 [])⟩))], ob := [(1, (.v (.arr 4 (.int .u64)))), (2, (.v (.arr 4 (.int .u64))))], lo := 3, nx := 3 })]
noncomputable def L_nat_Down_0 : Code := loopIn (bodyOf Try.f87) 0
noncomputable def P_nat_Down_0 : Lp := lpOf S_nat_Down_0 E_nat_Down_0 54 R_nat_Down_0
noncomputable def c_nat_Down : Con := conV true [(.arr 4 (.int .u64)), (.int .i64)] [(.arr 4 (.int .u64))] fun x => nat_Down x.1 x.2.1
noncomputable def x_nat_Down : Cx := { ti := ti, con := [], fns := [], un := 6 }
theorem xok_nat_Down : CxOk Try.prog x_nat_Down := CxOk.of mixed ti_ok (List.forall_mem_nil _) (List.forall_mem_nil _)
theorem r_nat_Down_0 (x : S_nat_Down_0.X) : denC x_nat_Down [] (denF x_nat_Down 8) L_nat_Down_0 (S_nat_Down_0.mkS 54 x) (kRound 0 S_nat_Down_0 E_nat_Down_0) = R_nat_Down_0 x := by kernel_rfl
theorem l_nat_Down_0 : LpOk Try.prog 0 (.loop L_nat_Down_0) P_nat_Down_0 := lpOf_ok xok_nat_Down 8 (lps_nil) S_nat_Down_0 E_nat_Down_0 54 R_nat_Down_0 (by decide) r_nat_Down_0
theorem fn_nat_Down : FnOk Try.prog 87 Try.f87 [(0, P_nat_Down_0)] := ⟨Try.func87, Try.call87, lps_of (by kernel_rfl) (lps_one l_nat_Down_0 (by kernel_rfl) (List.forall_mem_nil _))⟩
theorem e_nat_Down (a : (Nat → Int)) (k : Int) : bodyK x_nat_Down [(0, P_nat_Down_0)] (denF x_nat_Down 8) Try.f87 (domV [(.arr 4 (.int .u64)), (.int .i64)] (a, k, ())) [] 0 (kOut [(.arr 4 (.int .u64))]) = nat_Down' a k := by kernel_rfl
theorem con_nat_Down : ConOk Try.prog 87 c_nat_Down := con_ok xok_nat_Down 8 fn_nat_Down true [(.arr 4 (.int .u64)), (.int .i64)] [(.arr 4 (.int .u64))] _ (by decide) (fun x => by rw [nat_Down_eq]; exact e_nat_Down x.1 x.2.1)
noncomputable def c_nat_Int : Con := conV true [(.arr 4 (.int .u64))] [(.int .i64), .bool] fun x => nat_Int x.1
noncomputable def x_nat_Int : Cx := { ti := ti, con := [], fns := [], un := 6 }
theorem xok_nat_Int : CxOk Try.prog x_nat_Int := CxOk.of mixed ti_ok (List.forall_mem_nil _) (List.forall_mem_nil _)
theorem fn_nat_Int : FnOk Try.prog 86 Try.f86 [] := ⟨Try.func86, Try.call86, lps_nil⟩
theorem e_nat_Int (a : (Nat → Int)) : bodyK x_nat_Int [] (denF x_nat_Int 8) Try.f86 (domV [(.arr 4 (.int .u64))] (a, ())) [] 0 (kOut [(.int .i64), .bool]) = nat_Int' a := by kernel_rfl
theorem con_nat_Int : ConOk Try.prog 86 c_nat_Int := con_ok xok_nat_Int 8 fn_nat_Int true [(.arr 4 (.int .u64))] [(.int .i64), .bool] _ (by decide) (fun x => by rw [nat_Int_eq]; exact e_nat_Int x.1)
end Go.Proofs.Ytpmejfefbepjlaa

set_option linter.unusedVariables false
set_option linter.unusedSimpArgs false
set_option maxRecDepth 100000
set_option maxHeartbeats 0
namespace Go.Pl
end Go.Pl
open Go Go.Den Go.Pl
namespace Go.Proofs.Ytpmejfefbepjlaa
noncomputable def c_wide_Mul : Con := conV true [(.arr 4 (.int .u64)), (.arr 4 (.int .u64))] [(.arr 4 (.int .u64)), (.arr 4 (.int .u64))] fun x => wide_Mul x.1 x.2.1
noncomputable def x_wide_Mul : Cx := { ti := ti, con := [(65, c_bits_Mul64), (66, c_add64)], fns := [(64, Try.f64, [])], un := 6 }
theorem xok_wide_Mul : CxOk Try.prog x_wide_Mul := CxOk.of mixed ti_ok (List.forall_mem_cons.2 ⟨con_bits_Mul64, List.forall_mem_cons.2 ⟨con_add64, List.forall_mem_nil _⟩⟩) (List.forall_mem_cons.2 ⟨⟨Try.func64, Try.call64, lps_nil⟩, List.forall_mem_nil _⟩)
theorem fn_wide_Mul : FnOk Try.prog 18 Try.f18 [] := ⟨Try.func18, Try.call18, lps_nil⟩
theorem e_wide_Mul (a : (Nat → Int)) (b : (Nat → Int)) : bodyK x_wide_Mul [] (denF x_wide_Mul 8) Try.f18 (domV [(.arr 4 (.int .u64)), (.arr 4 (.int .u64))] (a, b, ())) [] 0 (kOut [(.arr 4 (.int .u64)), (.arr 4 (.int .u64))]) = wide_Mul' a b := by kernel_rfl
theorem con_wide_Mul : ConOk Try.prog 18 c_wide_Mul := con_ok xok_wide_Mul 8 fn_wide_Mul true [(.arr 4 (.int .u64)), (.arr 4 (.int .u64))] [(.arr 4 (.int .u64)), (.arr 4 (.int .u64))] _ (by decide) (fun x => by rw [wide_Mul_eq]; exact e_wide_Mul x.1 x.2.1)
noncomputable def c_wide_short : Con := conV true [(.arr 4 (.int .u64)), (.int .u64), (.int .u64)] [(.arr 4 (.int .u64)), (.arr 4 (.int .u64))] fun x => wide_short x.1 x.2.1 x.2.2.1
noncomputable def x_wide_short : Cx := { ti := ti, con := [(100, c_bits_Div64)], fns := [], un := 6 }
theorem xok_wide_short : CxOk Try.prog x_wide_short := CxOk.of mixed ti_ok (List.forall_mem_cons.2 ⟨con_bits_Div64, List.forall_mem_nil _⟩) (List.forall_mem_nil _)
theorem fn_wide_short : FnOk Try.prog 91 Try.f91 [] := ⟨Try.func91, Try.call91, lps_nil⟩
theorem e_wide_short (a : (Nat → Int)) (left_ : Int) (m : Int) : bodyK x_wide_short [] (denF x_wide_short 8) Try.f91 (domV [(.arr 4 (.int .u64)), (.int .u64), (.int .u64)] (a, left_, m, ())) [] 0 (kOut [(.arr 4 (.int .u64)), (.arr 4 (.int .u64))]) = wide_short' a left_ m := by kernel_rfl
theorem con_wide_short : ConOk Try.prog 91 c_wide_short := con_ok xok_wide_short 8 fn_wide_short true [(.arr 4 (.int .u64)), (.int .u64), (.int .u64)] [(.arr 4 (.int .u64)), (.arr 4 (.int .u64))] _ (by decide) (fun x => by rw [wide_short_eq]; exact e_wide_short x.1 x.2.1 x.2.2.1)
abbrev S_wide_parted_0 : Shape := { sl := [(3, (.c ⟨(.ptr (.arr 4 (.int .u64))), (.rf 0 [])⟩)), (4, (.c ⟨(.ptr (.arr 4 (.int .u64))), (.rf 1 [])⟩)), (5, (.c ⟨(.ptr (.arr 4 (.int .u64))), (.rf 2 [])⟩)), (6, (.c ⟨(.ptr (.arr 4 (.int .u64))), (.rf 3 [])⟩)), (7, (.c ⟨(.ptr (.arr 4 (.int .u64))), (.rf 4 [])⟩)), (8, (.c ⟨(.ptr (.arr 4 (.int .u64))), (.rf 5 [])⟩)), (25, (.v (.int .i64)))], ob := [(0, (.v (.arr 4 (.int .u64)))), (1, (.v (.arr 4 (.int .u64)))), (2, (.v (.arr 4 (.int .u64)))), (3, (.v (.arr 4 (.int .u64)))), (4, (.v (.arr 4 (.int .u64)))), (5, (.v (.arr 4 (.int .u64))))], lo := 6, nx := 6 }
abbrev E_wide_parted_0 : List Ex := [(.normal, { sl := [(4, (.c ⟨(.ptr (.arr 4 (.int .u64))), (.rf 1 [])⟩)), (6, (.c ⟨(.ptr (.arr 4 (.int .u64))), (.rf 3 [])⟩)), (7, (.c ⟨(.ptr (.arr 4 (.int .u64))), (.rf 4 [])⟩)), (8, (.c ⟨(.ptr (.arr 4 (.int .u64))), (.rf 5 [])⟩))], ob := [(1, (.v (.arr 4 (.int .u64)))), (3, (.v (.arr 4 (.int .u64)))), (4, (.v (.arr 4 (.int .u64)))), (5, (.v (.arr 4 (.int .u64))))], lo := 6, nx := 6 })]
noncomputable def L_wide_parted_0 : Code := loopIn (bodyOf Try.f69) 0
noncomputable def P_wide_parted_0 : Lp := lpOf S_wide_parted_0 E_wide_parted_0 68 R_wide_parted_0
noncomputable def c_wide_parted : Con := conV true [(.arr 4 (.int .u64)), (.arr 4 (.int .u64)), (.arr 4 (.int .u64))] [(.arr 4 (.int .u64)), (.arr 4 (.int .u64))] fun x => wide_parted x.1 x.2.1 x.2.2.1
noncomputable def x_wide_parted : Cx := { ti := ti, con := [(91, c_wide_short), (92, c_nat_Bit), (88, c_nat_Up), (77, c_nat_Sub), (73, c_nat_Cmp)], fns := [], un := 6 }
theorem xok_wide_parted : CxOk Try.prog x_wide_parted := CxOk.of mixed ti_ok (List.forall_mem_cons.2 ⟨con_wide_short, List.forall_mem_cons.2 ⟨con_nat_Bit, List.forall_mem_cons.2 ⟨con_nat_Up, List.forall_mem_cons.2 ⟨con_nat_Sub, List.forall_mem_cons.2 ⟨con_nat_Cmp, List.forall_mem_nil _⟩⟩⟩⟩⟩) (List.forall_mem_nil _)
theorem r_wide_parted_0 (x : S_wide_parted_0.X) : denC x_wide_parted [] (denF x_wide_parted 8) L_wide_parted_0 (S_wide_parted_0.mkS 68 x) (kRound 0 S_wide_parted_0 E_wide_parted_0) = R_wide_parted_0 x := by kernel_rfl
theorem l_wide_parted_0 : LpOk Try.prog 0 (.loop L_wide_parted_0) P_wide_parted_0 := lpOf_ok xok_wide_parted 8 (lps_nil) S_wide_parted_0 E_wide_parted_0 68 R_wide_parted_0 (by decide) r_wide_parted_0
theorem fn_wide_parted : FnOk Try.prog 69 Try.f69 [(0, P_wide_parted_0)] := ⟨Try.func69, Try.call69, lps_of (by kernel_rfl) (lps_one l_wide_parted_0 (by kernel_rfl) (List.forall_mem_nil _))⟩
theorem e_wide_parted (a : (Nat → Int)) (left_ : (Nat → Int)) (m : (Nat → Int)) : bodyK x_wide_parted [(0, P_wide_parted_0)] (denF x_wide_parted 8) Try.f69 (domV [(.arr 4 (.int .u64)), (.arr 4 (.int .u64)), (.arr 4 (.int .u64))] (a, left_, m, ())) [] 0 (kOut [(.arr 4 (.int .u64)), (.arr 4 (.int .u64))]) = wide_parted' a left_ m := by kernel_rfl
theorem con_wide_parted : ConOk Try.prog 69 c_wide_parted := con_ok xok_wide_parted 8 fn_wide_parted true [(.arr 4 (.int .u64)), (.arr 4 (.int .u64)), (.arr 4 (.int .u64))] [(.arr 4 (.int .u64)), (.arr 4 (.int .u64))] _ (by decide) (fun x => by rw [wide_parted_eq]; exact e_wide_parted x.1 x.2.1 x.2.2.1)
noncomputable def c_wide_Rem : Con := conV true [(.arr 4 (.int .u64)), (.arr 4 (.int .u64)), (.arr 4 (.int .u64))] [(.arr 4 (.int .u64)), (.int .i64)] fun x => wide_Rem x.1 x.2.1 x.2.2.1
noncomputable def x_wide_Rem : Cx := { ti := ti, con := [(69, c_wide_parted)], fns := [], un := 6 }
theorem xok_wide_Rem : CxOk Try.prog x_wide_Rem := CxOk.of mixed ti_ok (List.forall_mem_cons.2 ⟨con_wide_parted, List.forall_mem_nil _⟩) (List.forall_mem_nil _)
theorem fn_wide_Rem : FnOk Try.prog 20 Try.f20 [] := ⟨Try.func20, Try.call20, lps_nil⟩
theorem e_wide_Rem (low : (Nat → Int)) (high : (Nat → Int)) (m : (Nat → Int)) : bodyK x_wide_Rem [] (denF x_wide_Rem 8) Try.f20 (domV [(.arr 4 (.int .u64)), (.arr 4 (.int .u64)), (.arr 4 (.int .u64))] (low, high, m, ())) [] 0 (kOut [(.arr 4 (.int .u64)), (.int .i64)]) = wide_Rem' low high m := by kernel_rfl
theorem con_wide_Rem : ConOk Try.prog 20 c_wide_Rem := con_ok xok_wide_Rem 8 fn_wide_Rem true [(.arr 4 (.int .u64)), (.arr 4 (.int .u64)), (.arr 4 (.int .u64))] [(.arr 4 (.int .u64)), (.int .i64)] _ (by decide) (fun x => by rw [wide_Rem_eq]; exact e_wide_Rem x.1 x.2.1 x.2.2.1)
noncomputable def c_wide_Div : Con := conV true [(.arr 4 (.int .u64)), (.arr 4 (.int .u64))] [(.arr 4 (.int .u64)), (.arr 4 (.int .u64)), (.int .i64)] fun x => wide_Div x.1 x.2.1
noncomputable def x_wide_Div : Cx := { ti := ti, con := [(69, c_wide_parted)], fns := [], un := 6 }
theorem xok_wide_Div : CxOk Try.prog x_wide_Div := CxOk.of mixed ti_ok (List.forall_mem_cons.2 ⟨con_wide_parted, List.forall_mem_nil _⟩) (List.forall_mem_nil _)
theorem fn_wide_Div : FnOk Try.prog 23 Try.f23 [] := ⟨Try.func23, Try.call23, lps_nil⟩
theorem e_wide_Div (a : (Nat → Int)) (b : (Nat → Int)) : bodyK x_wide_Div [] (denF x_wide_Div 8) Try.f23 (domV [(.arr 4 (.int .u64)), (.arr 4 (.int .u64))] (a, b, ())) [] 0 (kOut [(.arr 4 (.int .u64)), (.arr 4 (.int .u64)), (.int .i64)]) = wide_Div' a b := by kernel_rfl
theorem con_wide_Div : ConOk Try.prog 23 c_wide_Div := con_ok xok_wide_Div 8 fn_wide_Div true [(.arr 4 (.int .u64)), (.arr 4 (.int .u64))] [(.arr 4 (.int .u64)), (.arr 4 (.int .u64)), (.int .i64)] _ (by decide) (fun x => by rw [wide_Div_eq]; exact e_wide_Div x.1 x.2.1)
noncomputable def c_wide_MulMod : Con := conV true [(.arr 4 (.int .u64)), (.arr 4 (.int .u64)), (.arr 4 (.int .u64))] [(.arr 4 (.int .u64)), (.int .i64)] fun x => wide_MulMod x.1 x.2.1 x.2.2.1
noncomputable def x_wide_MulMod : Cx := { ti := ti, con := [(18, c_wide_Mul), (20, c_wide_Rem)], fns := [], un := 6 }
theorem xok_wide_MulMod : CxOk Try.prog x_wide_MulMod := CxOk.of mixed ti_ok (List.forall_mem_cons.2 ⟨con_wide_Mul, List.forall_mem_cons.2 ⟨con_wide_Rem, List.forall_mem_nil _⟩⟩) (List.forall_mem_nil _)
theorem fn_wide_MulMod : FnOk Try.prog 36 Try.f36 [] := ⟨Try.func36, Try.call36, lps_nil⟩
theorem e_wide_MulMod (a : (Nat → Int)) (b : (Nat → Int)) (m : (Nat → Int)) : bodyK x_wide_MulMod [] (denF x_wide_MulMod 8) Try.f36 (domV [(.arr 4 (.int .u64)), (.arr 4 (.int .u64)), (.arr 4 (.int .u64))] (a, b, m, ())) [] 0 (kOut [(.arr 4 (.int .u64)), (.int .i64)]) = wide_MulMod' a b m := by kernel_rfl
theorem con_wide_MulMod : ConOk Try.prog 36 c_wide_MulMod := con_ok xok_wide_MulMod 8 fn_wide_MulMod true [(.arr 4 (.int .u64)), (.arr 4 (.int .u64)), (.arr 4 (.int .u64))] [(.arr 4 (.int .u64)), (.int .i64)] _ (by decide) (fun x => by rw [wide_MulMod_eq]; exact e_wide_MulMod x.1 x.2.1 x.2.2.1)
noncomputable def c_wide_SubMod : Con := conV true [(.arr 4 (.int .u64)), (.arr 4 (.int .u64)), (.arr 4 (.int .u64))] [(.arr 4 (.int .u64)), (.int .i64)] fun x => wide_SubMod x.1 x.2.1 x.2.2.1
noncomputable def x_wide_SubMod : Cx := { ti := ti, con := [(20, c_wide_Rem), (77, c_nat_Sub), (76, c_nat_Add)], fns := [], un := 6 }
theorem xok_wide_SubMod : CxOk Try.prog x_wide_SubMod := CxOk.of mixed ti_ok (List.forall_mem_cons.2 ⟨con_wide_Rem, List.forall_mem_cons.2 ⟨con_nat_Sub, List.forall_mem_cons.2 ⟨con_nat_Add, List.forall_mem_nil _⟩⟩⟩) (List.forall_mem_nil _)
theorem fn_wide_SubMod : FnOk Try.prog 34 Try.f34 [] := ⟨Try.func34, Try.call34, lps_nil⟩
theorem e_wide_SubMod (a : (Nat → Int)) (b : (Nat → Int)) (m : (Nat → Int)) : bodyK x_wide_SubMod [] (denF x_wide_SubMod 8) Try.f34 (domV [(.arr 4 (.int .u64)), (.arr 4 (.int .u64)), (.arr 4 (.int .u64))] (a, b, m, ())) [] 0 (kOut [(.arr 4 (.int .u64)), (.int .i64)]) = wide_SubMod' a b m := by kernel_rfl
theorem con_wide_SubMod : ConOk Try.prog 34 c_wide_SubMod := con_ok xok_wide_SubMod 8 fn_wide_SubMod true [(.arr 4 (.int .u64)), (.arr 4 (.int .u64)), (.arr 4 (.int .u64))] [(.arr 4 (.int .u64)), (.int .i64)] _ (by decide) (fun x => by rw [wide_SubMod_eq]; exact e_wide_SubMod x.1 x.2.1 x.2.2.1)
abbrev S_wide_InvMod_0 : Shape := { sl := [(3, (.c ⟨(.ptr (.arr 4 (.int .u64))), (.rf 1 [])⟩)), (4, (.c ⟨(.ptr (.arr 4 (.int .u64))), (.rf 2 [])⟩)), (6, (.c ⟨(.ptr (.arr 4 (.int .u64))), (.rf 3 [])⟩)), (8, (.c ⟨(.ptr (.arr 4 (.int .u64))), (.rf 4 [])⟩)), (9, (.c ⟨(.ptr (.arr 4 (.int .u64))), (.rf 5 [])⟩)), (10, (.c ⟨(.ptr (.arr 4 (.int .u64))), (.rf 6 [])⟩))], ob := [(1, (.v (.arr 4 (.int .u64)))), (2, (.v (.arr 4 (.int .u64)))), (3, (.v (.arr 4 (.int .u64)))), (4, (.v (.arr 4 (.int .u64)))), (5, (.v (.arr 4 (.int .u64)))), (6, (.v (.arr 4 (.int .u64))))], lo := 7, nx := 7 }
abbrev E_wide_InvMod_0 : List Ex := [(.normal, { sl := [(4, (.c ⟨(.ptr (.arr 4 (.int .u64))), (.rf 2 [])⟩)), (8, (.c ⟨(.ptr (.arr 4 (.int .u64))), (.rf 4 [])⟩)), (9, (.c ⟨(.ptr (.arr 4 (.int .u64))), (.rf 5 [])⟩))], ob := [(2, (.v (.arr 4 (.int .u64)))), (4, (.v (.arr 4 (.int .u64)))), (5, (.v (.arr 4 (.int .u64))))], lo := 7, nx := 7 })]
noncomputable def L_wide_InvMod_0 : Code := loopIn (bodyOf Try.f28) 0
noncomputable def P_wide_InvMod_0 : Lp := lpOf S_wide_InvMod_0 E_wide_InvMod_0 66 R_wide_InvMod_0
noncomputable def c_wide_InvMod : Con := conV true [(.arr 4 (.int .u64)), (.arr 4 (.int .u64))] [(.arr 4 (.int .u64)), (.int .i64)] fun x => wide_InvMod x.1 x.2.1
noncomputable def x_wide_InvMod : Cx := { ti := ti, con := [(74, c_nat_Of), (73, c_nat_Cmp), (20, c_wide_Rem), (23, c_wide_Div), (36, c_wide_MulMod), (34, c_wide_SubMod)], fns := [], un := 6 }
theorem xok_wide_InvMod : CxOk Try.prog x_wide_InvMod := CxOk.of mixed ti_ok (List.forall_mem_cons.2 ⟨con_nat_Of, List.forall_mem_cons.2 ⟨con_nat_Cmp, List.forall_mem_cons.2 ⟨con_wide_Rem, List.forall_mem_cons.2 ⟨con_wide_Div, List.forall_mem_cons.2 ⟨con_wide_MulMod, List.forall_mem_cons.2 ⟨con_wide_SubMod, List.forall_mem_nil _⟩⟩⟩⟩⟩⟩) (List.forall_mem_nil _)
theorem r_wide_InvMod_0 (x : S_wide_InvMod_0.X) : denC x_wide_InvMod [] (denF x_wide_InvMod 8) L_wide_InvMod_0 (S_wide_InvMod_0.mkS 66 x) (kRound 0 S_wide_InvMod_0 E_wide_InvMod_0) = R_wide_InvMod_0 x := by kernel_rfl
theorem l_wide_InvMod_0 : LpOk Try.prog 0 (.loop L_wide_InvMod_0) P_wide_InvMod_0 := lpOf_ok xok_wide_InvMod 8 (lps_nil) S_wide_InvMod_0 E_wide_InvMod_0 66 R_wide_InvMod_0 (by decide) r_wide_InvMod_0
theorem fn_wide_InvMod : FnOk Try.prog 28 Try.f28 [(0, P_wide_InvMod_0)] := ⟨Try.func28, Try.call28, lps_of (by kernel_rfl) (lps_one l_wide_InvMod_0 (by kernel_rfl) (List.forall_mem_nil _))⟩
theorem e_wide_InvMod (a : (Nat → Int)) (m : (Nat → Int)) : bodyK x_wide_InvMod [(0, P_wide_InvMod_0)] (denF x_wide_InvMod 8) Try.f28 (domV [(.arr 4 (.int .u64)), (.arr 4 (.int .u64))] (a, m, ())) [] 0 (kOut [(.arr 4 (.int .u64)), (.int .i64)]) = wide_InvMod' a m := by kernel_rfl
theorem con_wide_InvMod : ConOk Try.prog 28 c_wide_InvMod := con_ok xok_wide_InvMod 8 fn_wide_InvMod true [(.arr 4 (.int .u64)), (.arr 4 (.int .u64))] [(.arr 4 (.int .u64)), (.int .i64)] _ (by decide) (fun x => by rw [wide_InvMod_eq]; exact e_wide_InvMod x.1 x.2.1)
abbrev S_wide_Gcd_0 : Shape := { sl := [(2, (.c ⟨(.ptr (.arr 4 (.int .u64))), (.rf 0 [])⟩)), (3, (.c ⟨(.ptr (.arr 4 (.int .u64))), (.rf 1 [])⟩)), (4, (.c ⟨(.ptr (.arr 4 (.int .u64))), (.rf 2 [])⟩))], ob := [(0, (.v (.arr 4 (.int .u64)))), (1, (.v (.arr 4 (.int .u64)))), (2, (.v (.arr 4 (.int .u64))))], lo := 3, nx := 3 }
abbrev E_wide_Gcd_0 : List Ex := [(.normal, { sl := [(2, (.c ⟨(.ptr (.arr 4 (.int .u64))), (.rf 0 [])⟩)), (4, (.c ⟨(.ptr (.arr 4 (.int .u64))), (.rf 2 [])⟩))], ob := [(0, (.v (.arr 4 (.int .u64)))), (2, (.v (.arr 4 (.int .u64))))], lo := 3, nx := 3 })]
noncomputable def L_wide_Gcd_0 : Code := loopIn (bodyOf Try.f27) 0
noncomputable def P_wide_Gcd_0 : Lp := lpOf S_wide_Gcd_0 E_wide_Gcd_0 21 R_wide_Gcd_0
noncomputable def c_wide_Gcd : Con := conV true [(.arr 4 (.int .u64)), (.arr 4 (.int .u64))] [(.arr 4 (.int .u64))] fun x => wide_Gcd x.1 x.2.1
noncomputable def x_wide_Gcd : Cx := { ti := ti, con := [(23, c_wide_Div)], fns := [], un := 6 }
theorem xok_wide_Gcd : CxOk Try.prog x_wide_Gcd := CxOk.of mixed ti_ok (List.forall_mem_cons.2 ⟨con_wide_Div, List.forall_mem_nil _⟩) (List.forall_mem_nil _)
theorem r_wide_Gcd_0 (x : S_wide_Gcd_0.X) : denC x_wide_Gcd [] (denF x_wide_Gcd 8) L_wide_Gcd_0 (S_wide_Gcd_0.mkS 21 x) (kRound 0 S_wide_Gcd_0 E_wide_Gcd_0) = R_wide_Gcd_0 x := by kernel_rfl
theorem l_wide_Gcd_0 : LpOk Try.prog 0 (.loop L_wide_Gcd_0) P_wide_Gcd_0 := lpOf_ok xok_wide_Gcd 8 (lps_nil) S_wide_Gcd_0 E_wide_Gcd_0 21 R_wide_Gcd_0 (by decide) r_wide_Gcd_0
theorem fn_wide_Gcd : FnOk Try.prog 27 Try.f27 [(0, P_wide_Gcd_0)] := ⟨Try.func27, Try.call27, lps_of (by kernel_rfl) (lps_one l_wide_Gcd_0 (by kernel_rfl) (List.forall_mem_nil _))⟩
theorem e_wide_Gcd (a : (Nat → Int)) (b : (Nat → Int)) : bodyK x_wide_Gcd [(0, P_wide_Gcd_0)] (denF x_wide_Gcd 8) Try.f27 (domV [(.arr 4 (.int .u64)), (.arr 4 (.int .u64))] (a, b, ())) [] 0 (kOut [(.arr 4 (.int .u64))]) = wide_Gcd' a b := by kernel_rfl
theorem con_wide_Gcd : ConOk Try.prog 27 c_wide_Gcd := con_ok xok_wide_Gcd 8 fn_wide_Gcd true [(.arr 4 (.int .u64)), (.arr 4 (.int .u64))] [(.arr 4 (.int .u64))] _ (by decide) (fun x => by rw [wide_Gcd_eq]; exact e_wide_Gcd x.1 x.2.1)
noncomputable def c_wide_AddMod : Con := conV true [(.arr 4 (.int .u64)), (.arr 4 (.int .u64)), (.arr 4 (.int .u64))] [(.arr 4 (.int .u64)), (.int .i64)] fun x => wide_AddMod x.1 x.2.1 x.2.2.1
noncomputable def x_wide_AddMod : Cx := { ti := ti, con := [(76, c_nat_Add), (74, c_nat_Of), (20, c_wide_Rem)], fns := [], un := 6 }
theorem xok_wide_AddMod : CxOk Try.prog x_wide_AddMod := CxOk.of mixed ti_ok (List.forall_mem_cons.2 ⟨con_nat_Add, List.forall_mem_cons.2 ⟨con_nat_Of, List.forall_mem_cons.2 ⟨con_wide_Rem, List.forall_mem_nil _⟩⟩⟩) (List.forall_mem_nil _)
theorem fn_wide_AddMod : FnOk Try.prog 32 Try.f32 [] := ⟨Try.func32, Try.call32, lps_nil⟩
theorem e_wide_AddMod (a : (Nat → Int)) (b : (Nat → Int)) (m : (Nat → Int)) : bodyK x_wide_AddMod [] (denF x_wide_AddMod 8) Try.f32 (domV [(.arr 4 (.int .u64)), (.arr 4 (.int .u64)), (.arr 4 (.int .u64))] (a, b, m, ())) [] 0 (kOut [(.arr 4 (.int .u64)), (.int .i64)]) = wide_AddMod' a b m := by kernel_rfl
theorem con_wide_AddMod : ConOk Try.prog 32 c_wide_AddMod := con_ok xok_wide_AddMod 8 fn_wide_AddMod true [(.arr 4 (.int .u64)), (.arr 4 (.int .u64)), (.arr 4 (.int .u64))] [(.arr 4 (.int .u64)), (.int .i64)] _ (by decide) (fun x => by rw [wide_AddMod_eq]; exact e_wide_AddMod x.1 x.2.1 x.2.2.1)
end Go.Proofs.Ytpmejfefbepjlaa

set_option linter.unusedVariables false
set_option linter.unusedSimpArgs false
set_option maxRecDepth 100000
set_option maxHeartbeats 0
namespace Go.Pl
end Go.Pl
open Go Go.Den Go.Pl
namespace Go.Proofs.Ytpmejfefbepjlaa
abbrev S_r01_Nat_0 : Shape := { sl := [(1, (.c ⟨(.ptr (.arr 256 .bool)), (.rf 0 [])⟩)), (2, (.c ⟨(.ptr (.arr 4 (.int .u64))), (.rf 1 [])⟩)), (3, (.c ⟨(.ptr (.arr 4 (.int .u64))), (.rf 2 [])⟩)), (4, (.v (.int .i64)))], ob := [(0, (.v (.arr 256 .bool))), (1, (.v (.arr 4 (.int .u64)))), (2, (.v (.arr 4 (.int .u64))))], lo := 3, nx := 3 }
abbrev E_r01_Nat_0 : List Ex := [(.normal, { sl := [(2, (.c ⟨(.ptr (.arr 4 (.int .u64))), (.rf 1 [])⟩)), (3, (.c ⟨(.ptr (.arr 4 (.int .u64))), (.rf 2 [])⟩))], ob := [(1, (.v (.arr 4 (.int .u64)))), (2, (.v (.arr 4 (.int .u64))))], lo := 3, nx := 3 })]
noncomputable def L_r01_Nat_0 : Code := loopIn (bodyOf Try.f72) 0
noncomputable def P_r01_Nat_0 : Lp := lpOf S_r01_Nat_0 E_r01_Nat_0 25 R_r01_Nat_0
noncomputable def c_r01_Nat : Con := conV true [(.arr 256 .bool)] [(.arr 4 (.int .u64))] fun x => r01_Nat x.1
noncomputable def x_r01_Nat : Cx := { ti := ti, con := [], fns := [], un := 6 }
theorem xok_r01_Nat : CxOk Try.prog x_r01_Nat := CxOk.of mixed ti_ok (List.forall_mem_nil _) (List.forall_mem_nil _)
theorem r_r01_Nat_0 (x : S_r01_Nat_0.X) : denC x_r01_Nat [] (denF x_r01_Nat 8) L_r01_Nat_0 (S_r01_Nat_0.mkS 25 x) (kRound 0 S_r01_Nat_0 E_r01_Nat_0) = R_r01_Nat_0 x := by kernel_rfl
theorem l_r01_Nat_0 : LpOk Try.prog 0 (.loop L_r01_Nat_0) P_r01_Nat_0 := lpOf_ok xok_r01_Nat 8 (lps_nil) S_r01_Nat_0 E_r01_Nat_0 25 R_r01_Nat_0 (by decide) r_r01_Nat_0
theorem fn_r01_Nat : FnOk Try.prog 72 Try.f72 [(0, P_r01_Nat_0)] := ⟨Try.func72, Try.call72, lps_of (by kernel_rfl) (lps_one l_r01_Nat_0 (by kernel_rfl) (List.forall_mem_nil _))⟩
theorem e_r01_Nat (b : (Nat → Bool)) : bodyK x_r01_Nat [(0, P_r01_Nat_0)] (denF x_r01_Nat 8) Try.f72 (domV [(.arr 256 .bool)] (b, ())) [] 0 (kOut [(.arr 4 (.int .u64))]) = r01_Nat' b := by kernel_rfl
theorem con_r01_Nat : ConOk Try.prog 72 c_r01_Nat := con_ok xok_r01_Nat 8 fn_r01_Nat true [(.arr 256 .bool)] [(.arr 4 (.int .u64))] _ (by decide) (fun x => by rw [r01_Nat_eq]; exact e_r01_Nat x.1)
abbrev S_r01_Int_0 : Shape := { sl := [(0, (.v (.int .i64))), (2, (.c ⟨(.ptr (.arr 4 (.int .u64))), (.rf 0 [])⟩)), (3, (.c ⟨(.ptr (.arr 256 .bool)), (.rf 1 [])⟩)), (4, (.v (.int .i64)))], ob := [(0, (.v (.arr 4 (.int .u64)))), (1, (.v (.arr 256 .bool)))], lo := 2, nx := 2 }
abbrev E_r01_Int_0 : List Ex := [(.normal, { sl := [(2, (.c ⟨(.ptr (.arr 4 (.int .u64))), (.rf 0 [])⟩)), (3, (.c ⟨(.ptr (.arr 256 .bool)), (.rf 1 [])⟩))], ob := [(0, (.v (.arr 4 (.int .u64)))), (1, (.v (.arr 256 .bool)))], lo := 2, nx := 2 })]
noncomputable def L_r01_Int_0 : Code := loopIn (bodyOf Try.f75) 0
noncomputable def P_r01_Int_0 : Lp := lpOf S_r01_Int_0 E_r01_Int_0 23 R_r01_Int_0
noncomputable def c_r01_Int : Con := conV true [(.int .i64)] [(.arr 4 (.int .u64))] fun x => r01_Int x.1
noncomputable def x_r01_Int : Cx := { ti := ti, con := [(72, c_r01_Nat)], fns := [], un := 6 }
theorem xok_r01_Int : CxOk Try.prog x_r01_Int := CxOk.of mixed ti_ok (List.forall_mem_cons.2 ⟨con_r01_Nat, List.forall_mem_nil _⟩) (List.forall_mem_nil _)
theorem r_r01_Int_0 (x : S_r01_Int_0.X) : denC x_r01_Int [] (denF x_r01_Int 8) L_r01_Int_0 (S_r01_Int_0.mkS 23 x) (kRound 0 S_r01_Int_0 E_r01_Int_0) = R_r01_Int_0 x := by kernel_rfl
theorem l_r01_Int_0 : LpOk Try.prog 0 (.loop L_r01_Int_0) P_r01_Int_0 := lpOf_ok xok_r01_Int 8 (lps_nil) S_r01_Int_0 E_r01_Int_0 23 R_r01_Int_0 (by decide) r_r01_Int_0
theorem fn_r01_Int : FnOk Try.prog 75 Try.f75 [(0, P_r01_Int_0)] := ⟨Try.func75, Try.call75, lps_of (by kernel_rfl) (lps_one l_r01_Int_0 (by kernel_rfl) (List.forall_mem_nil _))⟩
theorem e_r01_Int (n : Int) : bodyK x_r01_Int [(0, P_r01_Int_0)] (denF x_r01_Int 8) Try.f75 (domV [(.int .i64)] (n, ())) [] 0 (kOut [(.arr 4 (.int .u64))]) = r01_Int' n := by kernel_rfl
theorem con_r01_Int : ConOk Try.prog 75 c_r01_Int := con_ok xok_r01_Int 8 fn_r01_Int true [(.int .i64)] [(.arr 4 (.int .u64))] _ (by decide) (fun x => by rw [r01_Int_eq]; exact e_r01_Int x.1)
abbrev S_r01_Of_0 : Shape := { sl := [(1, (.c ⟨(.ptr (.arr 4 (.int .u64))), (.rf 0 [])⟩)), (2, (.c ⟨(.ptr (.arr 256 .bool)), (.rf 1 [])⟩)), (3, (.c ⟨(.ptr (.arr 256 .bool)), (.rf 2 [])⟩)), (4, (.v (.int .i64)))], ob := [(0, (.v (.arr 4 (.int .u64)))), (1, (.v (.arr 256 .bool))), (2, (.v (.arr 256 .bool)))], lo := 3, nx := 3 }
abbrev E_r01_Of_0 : List Ex := [(.normal, { sl := [(2, (.c ⟨(.ptr (.arr 256 .bool)), (.rf 1 [])⟩)), (3, (.c ⟨(.ptr (.arr 256 .bool)), (.rf 2 [])⟩))], ob := [(1, (.v (.arr 256 .bool))), (2, (.v (.arr 256 .bool)))], lo := 3, nx := 3 })]
noncomputable def L_r01_Of_0 : Code := loopIn (bodyOf Try.f71) 0
noncomputable def P_r01_Of_0 : Lp := lpOf S_r01_Of_0 E_r01_Of_0 22 R_r01_Of_0
noncomputable def c_r01_Of : Con := conV true [(.arr 4 (.int .u64))] [(.arr 256 .bool)] fun x => r01_Of x.1
noncomputable def x_r01_Of : Cx := { ti := ti, con := [], fns := [], un := 6 }
theorem xok_r01_Of : CxOk Try.prog x_r01_Of := CxOk.of mixed ti_ok (List.forall_mem_nil _) (List.forall_mem_nil _)
theorem r_r01_Of_0 (x : S_r01_Of_0.X) : denC x_r01_Of [] (denF x_r01_Of 8) L_r01_Of_0 (S_r01_Of_0.mkS 22 x) (kRound 0 S_r01_Of_0 E_r01_Of_0) = R_r01_Of_0 x := by kernel_rfl
theorem l_r01_Of_0 : LpOk Try.prog 0 (.loop L_r01_Of_0) P_r01_Of_0 := lpOf_ok xok_r01_Of 8 (lps_nil) S_r01_Of_0 E_r01_Of_0 22 R_r01_Of_0 (by decide) r_r01_Of_0
theorem fn_r01_Of : FnOk Try.prog 71 Try.f71 [(0, P_r01_Of_0)] := ⟨Try.func71, Try.call71, lps_of (by kernel_rfl) (lps_one l_r01_Of_0 (by kernel_rfl) (List.forall_mem_nil _))⟩
theorem e_r01_Of (a : (Nat → Int)) : bodyK x_r01_Of [(0, P_r01_Of_0)] (denF x_r01_Of 8) Try.f71 (domV [(.arr 4 (.int .u64))] (a, ())) [] 0 (kOut [(.arr 256 .bool)]) = r01_Of' a := by kernel_rfl
theorem con_r01_Of : ConOk Try.prog 71 c_r01_Of := con_ok xok_r01_Of 8 fn_r01_Of true [(.arr 4 (.int .u64))] [(.arr 256 .bool)] _ (by decide) (fun x => by rw [r01_Of_eq]; exact e_r01_Of x.1)
abbrev S_r01_Add_0 : Shape := { sl := [(4, (.c ⟨(.ptr (.arr 4 (.int .u64))), (.rf 2 [])⟩)), (6, (.c ⟨(.ptr (.arr 256 .bool)), (.rf 3 [])⟩)), (7, (.c ⟨(.ptr (.arr 256 .bool)), (.rf 4 [])⟩)), (8, (.c ⟨(.ptr (.arr 256 .bool)), (.rf 5 [])⟩)), (9, (.v .bool)), (10, (.v (.int .i64)))], ob := [(2, (.v (.arr 4 (.int .u64)))), (3, (.v (.arr 256 .bool))), (4, (.v (.arr 256 .bool))), (5, (.v (.arr 256 .bool)))], lo := 6, nx := 6 }
abbrev E_r01_Add_0 : List Ex := [(.normal, { sl := [(4, (.c ⟨(.ptr (.arr 4 (.int .u64))), (.rf 2 [])⟩)), (8, (.c ⟨(.ptr (.arr 256 .bool)), (.rf 5 [])⟩)), (9, (.v .bool))], ob := [(2, (.v (.arr 4 (.int .u64)))), (5, (.v (.arr 256 .bool)))], lo := 6, nx := 6 })]
noncomputable def L_r01_Add_0 : Code := loopIn (bodyOf Try.f25) 0
noncomputable def P_r01_Add_0 : Lp := lpOf S_r01_Add_0 E_r01_Add_0 57 R_r01_Add_0
noncomputable def c_r01_Add : Con := conV true [(.arr 4 (.int .u64)), (.arr 4 (.int .u64))] [(.arr 4 (.int .u64)), (.int .i64)] fun x => r01_Add x.1 x.2.1
noncomputable def x_r01_Add : Cx := { ti := ti, con := [(71, c_r01_Of), (72, c_r01_Nat)], fns := [], un := 6 }
theorem xok_r01_Add : CxOk Try.prog x_r01_Add := CxOk.of mixed ti_ok (List.forall_mem_cons.2 ⟨con_r01_Of, List.forall_mem_cons.2 ⟨con_r01_Nat, List.forall_mem_nil _⟩⟩) (List.forall_mem_nil _)
theorem r_r01_Add_0 (x : S_r01_Add_0.X) : denC x_r01_Add [] (denF x_r01_Add 8) L_r01_Add_0 (S_r01_Add_0.mkS 57 x) (kRound 0 S_r01_Add_0 E_r01_Add_0) = R_r01_Add_0 x := by kernel_rfl
theorem l_r01_Add_0 : LpOk Try.prog 0 (.loop L_r01_Add_0) P_r01_Add_0 := lpOf_ok xok_r01_Add 8 (lps_nil) S_r01_Add_0 E_r01_Add_0 57 R_r01_Add_0 (by decide) r_r01_Add_0
theorem fn_r01_Add : FnOk Try.prog 25 Try.f25 [(0, P_r01_Add_0)] := ⟨Try.func25, Try.call25, lps_of (by kernel_rfl) (lps_one l_r01_Add_0 (by kernel_rfl) (List.forall_mem_nil _))⟩
theorem e_r01_Add (a : (Nat → Int)) (b : (Nat → Int)) : bodyK x_r01_Add [(0, P_r01_Add_0)] (denF x_r01_Add 8) Try.f25 (domV [(.arr 4 (.int .u64)), (.arr 4 (.int .u64))] (a, b, ())) [] 0 (kOut [(.arr 4 (.int .u64)), (.int .i64)]) = r01_Add' a b := by kernel_rfl
theorem con_r01_Add : ConOk Try.prog 25 c_r01_Add := con_ok xok_r01_Add 8 fn_r01_Add true [(.arr 4 (.int .u64)), (.arr 4 (.int .u64))] [(.arr 4 (.int .u64)), (.int .i64)] _ (by decide) (fun x => by rw [r01_Add_eq]; exact e_r01_Add x.1 x.2.1)
abbrev S_r01_Cmp_0 : Shape := { sl := [(5, (.c ⟨(.ptr (.arr 256 .bool)), (.rf 2 [])⟩)), (6, (.c ⟨(.ptr (.arr 256 .bool)), (.rf 3 [])⟩)), (7, (.v (.int .i64)))], ob := [(2, (.v (.arr 256 .bool))), (3, (.v (.arr 256 .bool)))], lo := 4, nx := 4 }
abbrev E_r01_Cmp_0 : List Ex := [(.ret, { sl := [(4, (.v (.int .i64)))], ob := [], lo := 4, nx := 4 }), (.normal, { sl := [], ob := [], lo := 4, nx := 4 })]
noncomputable def L_r01_Cmp_0 : Code := loopIn (bodyOf Try.f26) 0
noncomputable def P_r01_Cmp_0 : Lp := lpOf S_r01_Cmp_0 E_r01_Cmp_0 26 R_r01_Cmp_0
noncomputable def c_r01_Cmp : Con := conV true [(.arr 4 (.int .u64)), (.arr 4 (.int .u64))] [(.int .i64)] fun x => r01_Cmp x.1 x.2.1
noncomputable def x_r01_Cmp : Cx := { ti := ti, con := [(71, c_r01_Of)], fns := [], un := 6 }
theorem xok_r01_Cmp : CxOk Try.prog x_r01_Cmp := CxOk.of mixed ti_ok (List.forall_mem_cons.2 ⟨con_r01_Of, List.forall_mem_nil _⟩) (List.forall_mem_nil _)
theorem r_r01_Cmp_0 (x : S_r01_Cmp_0.X) : denC x_r01_Cmp [] (denF x_r01_Cmp 8) L_r01_Cmp_0 (S_r01_Cmp_0.mkS 26 x) (kRound 0 S_r01_Cmp_0 E_r01_Cmp_0) = R_r01_Cmp_0 x := by kernel_rfl
theorem l_r01_Cmp_0 : LpOk Try.prog 0 (.loop L_r01_Cmp_0) P_r01_Cmp_0 := lpOf_ok xok_r01_Cmp 8 (lps_nil) S_r01_Cmp_0 E_r01_Cmp_0 26 R_r01_Cmp_0 (by decide) r_r01_Cmp_0
theorem fn_r01_Cmp : FnOk Try.prog 26 Try.f26 [(0, P_r01_Cmp_0)] := ⟨Try.func26, Try.call26, lps_of (by kernel_rfl) (lps_one l_r01_Cmp_0 (by kernel_rfl) (List.forall_mem_nil _))⟩
theorem e_r01_Cmp (a : (Nat → Int)) (b : (Nat → Int)) : bodyK x_r01_Cmp [(0, P_r01_Cmp_0)] (denF x_r01_Cmp 8) Try.f26 (domV [(.arr 4 (.int .u64)), (.arr 4 (.int .u64))] (a, b, ())) [] 0 (kOut [(.int .i64)]) = r01_Cmp' a b := by kernel_rfl
theorem con_r01_Cmp : ConOk Try.prog 26 c_r01_Cmp := con_ok xok_r01_Cmp 8 fn_r01_Cmp true [(.arr 4 (.int .u64)), (.arr 4 (.int .u64))] [(.int .i64)] _ (by decide) (fun x => by rw [r01_Cmp_eq]; exact e_r01_Cmp x.1 x.2.1)
abbrev S_r01_Not_0 : Shape := { sl := [(2, (.c ⟨(.ptr (.arr 4 (.int .u64))), (.rf 1 [])⟩)), (3, (.c ⟨(.ptr (.arr 256 .bool)), (.rf 2 [])⟩)), (4, (.v (.int .i64)))], ob := [(1, (.v (.arr 4 (.int .u64)))), (2, (.v (.arr 256 .bool)))], lo := 3, nx := 3 }
abbrev E_r01_Not_0 : List Ex := [(.normal, { sl := [(2, (.c ⟨(.ptr (.arr 4 (.int .u64))), (.rf 1 [])⟩)), (3, (.c ⟨(.ptr (.arr 256 .bool)), (.rf 2 [])⟩))], ob := [(1, (.v (.arr 4 (.int .u64)))), (2, (.v (.arr 256 .bool)))], lo := 3, nx := 3 })]
noncomputable def L_r01_Not_0 : Code := loopIn (bodyOf Try.f90) 0
noncomputable def P_r01_Not_0 : Lp := lpOf S_r01_Not_0 E_r01_Not_0 19 R_r01_Not_0
noncomputable def c_r01_Not : Con := conV true [(.arr 4 (.int .u64))] [(.arr 4 (.int .u64))] fun x => r01_Not x.1
noncomputable def x_r01_Not : Cx := { ti := ti, con := [(71, c_r01_Of), (72, c_r01_Nat)], fns := [], un := 6 }
theorem xok_r01_Not : CxOk Try.prog x_r01_Not := CxOk.of mixed ti_ok (List.forall_mem_cons.2 ⟨con_r01_Of, List.forall_mem_cons.2 ⟨con_r01_Nat, List.forall_mem_nil _⟩⟩) (List.forall_mem_nil _)
theorem r_r01_Not_0 (x : S_r01_Not_0.X) : denC x_r01_Not [] (denF x_r01_Not 8) L_r01_Not_0 (S_r01_Not_0.mkS 19 x) (kRound 0 S_r01_Not_0 E_r01_Not_0) = R_r01_Not_0 x := by kernel_rfl
theorem l_r01_Not_0 : LpOk Try.prog 0 (.loop L_r01_Not_0) P_r01_Not_0 := lpOf_ok xok_r01_Not 8 (lps_nil) S_r01_Not_0 E_r01_Not_0 19 R_r01_Not_0 (by decide) r_r01_Not_0
theorem fn_r01_Not : FnOk Try.prog 90 Try.f90 [(0, P_r01_Not_0)] := ⟨Try.func90, Try.call90, lps_of (by kernel_rfl) (lps_one l_r01_Not_0 (by kernel_rfl) (List.forall_mem_nil _))⟩
theorem e_r01_Not (a : (Nat → Int)) : bodyK x_r01_Not [(0, P_r01_Not_0)] (denF x_r01_Not 8) Try.f90 (domV [(.arr 4 (.int .u64))] (a, ())) [] 0 (kOut [(.arr 4 (.int .u64))]) = r01_Not' a := by kernel_rfl
theorem con_r01_Not : ConOk Try.prog 90 c_r01_Not := con_ok xok_r01_Not 8 fn_r01_Not true [(.arr 4 (.int .u64))] [(.arr 4 (.int .u64))] _ (by decide) (fun x => by rw [r01_Not_eq]; exact e_r01_Not x.1)
noncomputable def c_r01_Sub : Con := conV true [(.arr 4 (.int .u64)), (.arr 4 (.int .u64))] [(.arr 4 (.int .u64)), (.int .i64)] fun x => r01_Sub x.1 x.2.1
noncomputable def x_r01_Sub : Cx := { ti := ti, con := [(90, c_r01_Not), (75, c_r01_Int), (25, c_r01_Add), (26, c_r01_Cmp)], fns := [], un := 6 }
theorem xok_r01_Sub : CxOk Try.prog x_r01_Sub := CxOk.of mixed ti_ok (List.forall_mem_cons.2 ⟨con_r01_Not, List.forall_mem_cons.2 ⟨con_r01_Int, List.forall_mem_cons.2 ⟨con_r01_Add, List.forall_mem_cons.2 ⟨con_r01_Cmp, List.forall_mem_nil _⟩⟩⟩⟩) (List.forall_mem_nil _)
theorem fn_r01_Sub : FnOk Try.prog 63 Try.f63 [] := ⟨Try.func63, Try.call63, lps_nil⟩
theorem e_r01_Sub (a : (Nat → Int)) (b : (Nat → Int)) : bodyK x_r01_Sub [] (denF x_r01_Sub 8) Try.f63 (domV [(.arr 4 (.int .u64)), (.arr 4 (.int .u64))] (a, b, ())) [] 0 (kOut [(.arr 4 (.int .u64)), (.int .i64)]) = r01_Sub' a b := by kernel_rfl
theorem con_r01_Sub : ConOk Try.prog 63 c_r01_Sub := con_ok xok_r01_Sub 8 fn_r01_Sub true [(.arr 4 (.int .u64)), (.arr 4 (.int .u64))] [(.arr 4 (.int .u64)), (.int .i64)] _ (by decide) (fun x => by rw [r01_Sub_eq]; exact e_r01_Sub x.1 x.2.1)
abbrev S_r01_Len_0 : Shape := { sl := [(3, (.c ⟨(.ptr (.arr 256 .bool)), (.rf 1 [])⟩)), (4, (.v (.int .i64)))], ob := [(1, (.v (.arr 256 .bool)))], lo := 2, nx := 2 }
abbrev E_r01_Len_0 : List Ex := [(.ret, { sl := [(2, (.v (.int .i64)))], ob := [], lo := 2, nx := 2 }), (.normal, { sl := [], ob := [], lo := 2, nx := 2 })]
noncomputable def L_r01_Len_0 : Code := loopIn (bodyOf Try.f57) 0
noncomputable def P_r01_Len_0 : Lp := lpOf S_r01_Len_0 E_r01_Len_0 16 R_r01_Len_0
noncomputable def c_r01_Len : Con := conV true [(.arr 4 (.int .u64))] [(.int .i64)] fun x => r01_Len x.1
noncomputable def x_r01_Len : Cx := { ti := ti, con := [(71, c_r01_Of)], fns := [], un := 6 }
theorem xok_r01_Len : CxOk Try.prog x_r01_Len := CxOk.of mixed ti_ok (List.forall_mem_cons.2 ⟨con_r01_Of, List.forall_mem_nil _⟩) (List.forall_mem_nil _)
theorem r_r01_Len_0 (x : S_r01_Len_0.X) : denC x_r01_Len [] (denF x_r01_Len 8) L_r01_Len_0 (S_r01_Len_0.mkS 16 x) (kRound 0 S_r01_Len_0 E_r01_Len_0) = R_r01_Len_0 x := by kernel_rfl
theorem l_r01_Len_0 : LpOk Try.prog 0 (.loop L_r01_Len_0) P_r01_Len_0 := lpOf_ok xok_r01_Len 8 (lps_nil) S_r01_Len_0 E_r01_Len_0 16 R_r01_Len_0 (by decide) r_r01_Len_0
theorem fn_r01_Len : FnOk Try.prog 57 Try.f57 [(0, P_r01_Len_0)] := ⟨Try.func57, Try.call57, lps_of (by kernel_rfl) (lps_one l_r01_Len_0 (by kernel_rfl) (List.forall_mem_nil _))⟩
theorem e_r01_Len (a : (Nat → Int)) : bodyK x_r01_Len [(0, P_r01_Len_0)] (denF x_r01_Len 8) Try.f57 (domV [(.arr 4 (.int .u64))] (a, ())) [] 0 (kOut [(.int .i64)]) = r01_Len' a := by kernel_rfl
theorem con_r01_Len : ConOk Try.prog 57 c_r01_Len := con_ok xok_r01_Len 8 fn_r01_Len true [(.arr 4 (.int .u64))] [(.int .i64)] _ (by decide) (fun x => by rw [r01_Len_eq]; exact e_r01_Len x.1)
abbrev S_r01_Low_0 : Shape := { sl := [(4, (.v (.int .i64))), (5, (.c ⟨(.ptr (.arr 256 .bool)), (.rf 1 [])⟩)), (6, (.v (.int .i64)))], ob := [(1, (.v (.arr 256 .bool)))], lo := 2, nx := 2 }
abbrev E_r01_Low_0 : List Ex := [(.normal, { sl := [(4, (.v (.int .i64)))], ob := [], lo := 2, nx := 2 })]
noncomputable def L_r01_Low_0 : Code := loopIn (bodyOf Try.f60) 0
noncomputable def P_r01_Low_0 : Lp := lpOf S_r01_Low_0 E_r01_Low_0 24 R_r01_Low_0
noncomputable def c_r01_Low : Con := conV true [(.arr 4 (.int .u64))] [(.int .i64), .bool] fun x => r01_Low x.1
noncomputable def x_r01_Low : Cx := { ti := ti, con := [(57, c_r01_Len), (71, c_r01_Of)], fns := [], un := 6 }
theorem xok_r01_Low : CxOk Try.prog x_r01_Low := CxOk.of mixed ti_ok (List.forall_mem_cons.2 ⟨con_r01_Len, List.forall_mem_cons.2 ⟨con_r01_Of, List.forall_mem_nil _⟩⟩) (List.forall_mem_nil _)
theorem r_r01_Low_0 (x : S_r01_Low_0.X) : denC x_r01_Low [] (denF x_r01_Low 8) L_r01_Low_0 (S_r01_Low_0.mkS 24 x) (kRound 0 S_r01_Low_0 E_r01_Low_0) = R_r01_Low_0 x := by kernel_rfl
theorem l_r01_Low_0 : LpOk Try.prog 0 (.loop L_r01_Low_0) P_r01_Low_0 := lpOf_ok xok_r01_Low 8 (lps_nil) S_r01_Low_0 E_r01_Low_0 24 R_r01_Low_0 (by decide) r_r01_Low_0
theorem fn_r01_Low : FnOk Try.prog 60 Try.f60 [(0, P_r01_Low_0)] := ⟨Try.func60, Try.call60, lps_of (by kernel_rfl) (lps_one l_r01_Low_0 (by kernel_rfl) (List.forall_mem_nil _))⟩
theorem e_r01_Low (a : (Nat → Int)) : bodyK x_r01_Low [(0, P_r01_Low_0)] (denF x_r01_Low 8) Try.f60 (domV [(.arr 4 (.int .u64))] (a, ())) [] 0 (kOut [(.int .i64), .bool]) = r01_Low' a := by kernel_rfl
theorem con_r01_Low : ConOk Try.prog 60 c_r01_Low := con_ok xok_r01_Low 8 fn_r01_Low true [(.arr 4 (.int .u64))] [(.int .i64), .bool] _ (by decide) (fun x => by rw [r01_Low_eq]; exact e_r01_Low x.1)
noncomputable def c_r01_Bit : Con := conV true [(.arr 4 (.int .u64)), (.int .i64)] [(.int .i64)] fun x => r01_Bit x.1 x.2.1
noncomputable def x_r01_Bit : Cx := { ti := ti, con := [(71, c_r01_Of)], fns := [], un := 6 }
theorem xok_r01_Bit : CxOk Try.prog x_r01_Bit := CxOk.of mixed ti_ok (List.forall_mem_cons.2 ⟨con_r01_Of, List.forall_mem_nil _⟩) (List.forall_mem_nil _)
theorem fn_r01_Bit : FnOk Try.prog 79 Try.f79 [] := ⟨Try.func79, Try.call79, lps_nil⟩
theorem e_r01_Bit (a : (Nat → Int)) (k : Int) : bodyK x_r01_Bit [] (denF x_r01_Bit 8) Try.f79 (domV [(.arr 4 (.int .u64)), (.int .i64)] (a, k, ())) [] 0 (kOut [(.int .i64)]) = r01_Bit' a k := by kernel_rfl
theorem con_r01_Bit : ConOk Try.prog 79 c_r01_Bit := con_ok xok_r01_Bit 8 fn_r01_Bit true [(.arr 4 (.int .u64)), (.int .i64)] [(.int .i64)] _ (by decide) (fun x => by rw [r01_Bit_eq]; exact e_r01_Bit x.1 x.2.1)
end Go.Proofs.Ytpmejfefbepjlaa

set_option linter.unusedVariables false
set_option linter.unusedSimpArgs false
set_option maxRecDepth 100000
set_option maxHeartbeats 0
namespace Go.Pl
end Go.Pl
open Go Go.Den Go.Pl
namespace Go.Proofs.Ytpmejfefbepjlaa
abbrev S_r02_Of_0 : Shape := { sl := [(2, (.c ⟨(.ptr (.arr 4 (.int .u64))), (.rf 0 [])⟩)), (3, (.c ⟨(.ptr (.arr 4 (.int .u64))), (.rf 1 [])⟩)), (4, (.c ⟨(.ptr (.arr 32 (.int .i64))), (.rf 2 [])⟩)), (5, (.c ⟨(.ptr (.arr 32 (.int .i64))), (.rf 3 [])⟩)), (6, (.v (.int .i64)))], ob := [(0, (.v (.arr 4 (.int .u64)))), (1, (.v (.arr 4 (.int .u64)))), (2, (.v (.arr 32 (.int .i64)))), (3, (.v (.arr 32 (.int .i64))))], lo := 4, nx := 4 }
abbrev E_r02_Of_0 : List Ex := [(.normal, { sl := [(4, (.c ⟨(.ptr (.arr 32 (.int .i64))), (.rf 2 [])⟩)), (5, (.c ⟨(.ptr (.arr 32 (.int .i64))), (.rf 3 [])⟩))], ob := [(2, (.v (.arr 32 (.int .i64)))), (3, (.v (.arr 32 (.int .i64))))], lo := 4, nx := 4 })]
noncomputable def L_r02_Of_0 : Code := loopIn (bodyOf Try.f67) 0
noncomputable def P_r02_Of_0 : Lp := lpOf S_r02_Of_0 E_r02_Of_0 38 R_r02_Of_0
noncomputable def c_r02_Of : Con := conV true [(.arr 4 (.int .u64)), (.arr 4 (.int .u64))] [(.arr 32 (.int .i64))] fun x => r02_Of x.1 x.2.1
noncomputable def x_r02_Of : Cx := { ti := ti, con := [], fns := [], un := 6 }
theorem xok_r02_Of : CxOk Try.prog x_r02_Of := CxOk.of mixed ti_ok (List.forall_mem_nil _) (List.forall_mem_nil _)
theorem r_r02_Of_0 (x : S_r02_Of_0.X) : denC x_r02_Of [] (denF x_r02_Of 8) L_r02_Of_0 (S_r02_Of_0.mkS 38 x) (kRound 0 S_r02_Of_0 E_r02_Of_0) = R_r02_Of_0 x := by kernel_rfl
theorem l_r02_Of_0 : LpOk Try.prog 0 (.loop L_r02_Of_0) P_r02_Of_0 := lpOf_ok xok_r02_Of 8 (lps_nil) S_r02_Of_0 E_r02_Of_0 38 R_r02_Of_0 (by decide) r_r02_Of_0
theorem fn_r02_Of : FnOk Try.prog 67 Try.f67 [(0, P_r02_Of_0)] := ⟨Try.func67, Try.call67, lps_of (by kernel_rfl) (lps_one l_r02_Of_0 (by kernel_rfl) (List.forall_mem_nil _))⟩
theorem e_r02_Of (low : (Nat → Int)) (high : (Nat → Int)) : bodyK x_r02_Of [(0, P_r02_Of_0)] (denF x_r02_Of 8) Try.f67 (domV [(.arr 4 (.int .u64)), (.arr 4 (.int .u64))] (low, high, ())) [] 0 (kOut [(.arr 32 (.int .i64))]) = r02_Of' low high := by kernel_rfl
theorem con_r02_Of : ConOk Try.prog 67 c_r02_Of := con_ok xok_r02_Of 8 fn_r02_Of true [(.arr 4 (.int .u64)), (.arr 4 (.int .u64))] [(.arr 32 (.int .i64))] _ (by decide) (fun x => by rw [r02_Of_eq]; exact e_r02_Of x.1 x.2.1)
abbrev S_r02_Nats_0 : Shape := { sl := [(1, (.c ⟨(.ptr (.arr 32 (.int .i64))), (.rf 0 [])⟩)), (2, (.c ⟨(.ptr (.arr 4 (.int .u64))), (.rf 1 [])⟩)), (3, (.c ⟨(.ptr (.arr 4 (.int .u64))), (.rf 2 [])⟩)), (4, (.c ⟨(.ptr (.arr 4 (.int .u64))), (.rf 3 [])⟩)), (5, (.c ⟨(.ptr (.arr 4 (.int .u64))), (.rf 4 [])⟩)), (6, (.v (.int .i64)))], ob := [(0, (.v (.arr 32 (.int .i64)))), (1, (.v (.arr 4 (.int .u64)))), (2, (.v (.arr 4 (.int .u64)))), (3, (.v (.arr 4 (.int .u64)))), (4, (.v (.arr 4 (.int .u64))))], lo := 5, nx := 5 }
abbrev E_r02_Nats_0 : List Ex := [(.normal, { sl := [(2, (.c ⟨(.ptr (.arr 4 (.int .u64))), (.rf 1 [])⟩)), (3, (.c ⟨(.ptr (.arr 4 (.int .u64))), (.rf 2 [])⟩)), (4, (.c ⟨(.ptr (.arr 4 (.int .u64))), (.rf 3 [])⟩)), (5, (.c ⟨(.ptr (.arr 4 (.int .u64))), (.rf 4 [])⟩))], ob := [(1, (.v (.arr 4 (.int .u64)))), (2, (.v (.arr 4 (.int .u64)))), (3, (.v (.arr 4 (.int .u64)))), (4, (.v (.arr 4 (.int .u64))))], lo := 5, nx := 5 })]
noncomputable def L_r02_Nats_0 : Code := loopIn (bodyOf Try.f68) 0
noncomputable def P_r02_Nats_0 : Lp := lpOf S_r02_Nats_0 E_r02_Nats_0 48 R_r02_Nats_0
noncomputable def c_r02_Nats : Con := conV true [(.arr 32 (.int .i64))] [(.arr 4 (.int .u64)), (.arr 4 (.int .u64))] fun x => r02_Nats x.1
noncomputable def x_r02_Nats : Cx := { ti := ti, con := [], fns := [], un := 6 }
theorem xok_r02_Nats : CxOk Try.prog x_r02_Nats := CxOk.of mixed ti_ok (List.forall_mem_nil _) (List.forall_mem_nil _)
theorem r_r02_Nats_0 (x : S_r02_Nats_0.X) : denC x_r02_Nats [] (denF x_r02_Nats 8) L_r02_Nats_0 (S_r02_Nats_0.mkS 48 x) (kRound 0 S_r02_Nats_0 E_r02_Nats_0) = R_r02_Nats_0 x := by kernel_rfl
theorem l_r02_Nats_0 : LpOk Try.prog 0 (.loop L_r02_Nats_0) P_r02_Nats_0 := lpOf_ok xok_r02_Nats 8 (lps_nil) S_r02_Nats_0 E_r02_Nats_0 48 R_r02_Nats_0 (by decide) r_r02_Nats_0
theorem fn_r02_Nats : FnOk Try.prog 68 Try.f68 [(0, P_r02_Nats_0)] := ⟨Try.func68, Try.call68, lps_of (by kernel_rfl) (lps_one l_r02_Nats_0 (by kernel_rfl) (List.forall_mem_nil _))⟩
theorem e_r02_Nats (d : (Nat → Int)) : bodyK x_r02_Nats [(0, P_r02_Nats_0)] (denF x_r02_Nats 8) Try.f68 (domV [(.arr 32 (.int .i64))] (d, ())) [] 0 (kOut [(.arr 4 (.int .u64)), (.arr 4 (.int .u64))]) = r02_Nats' d := by kernel_rfl
theorem con_r02_Nats : ConOk Try.prog 68 c_r02_Nats := con_ok xok_r02_Nats 8 fn_r02_Nats true [(.arr 32 (.int .i64))] [(.arr 4 (.int .u64)), (.arr 4 (.int .u64))] _ (by decide) (fun x => by rw [r02_Nats_eq]; exact e_r02_Nats x.1)
abbrev S_r02_Mul_2 : Shape := { sl := [(4, (.c ⟨(.ptr (.arr 4 (.int .u64))), (.rf 2 [])⟩)), (5, (.c ⟨(.ptr (.arr 4 (.int .u64))), (.rf 3 [])⟩)), (6, (.c ⟨(.ptr (.arr 32 (.int .i64))), (.rf 4 [])⟩)), (7, (.c ⟨(.ptr (.arr 32 (.int .i64))), (.rf 5 [])⟩)), (8, (.c ⟨(.ptr (.arr 32 (.int .i64))), (.rf 6 [])⟩)), (9, (.v (.int .i64))), (10, (.v (.int .i64))), (11, (.v (.int .i64)))], ob := [(2, (.v (.arr 4 (.int .u64)))), (3, (.v (.arr 4 (.int .u64)))), (4, (.v (.arr 32 (.int .i64)))), (5, (.v (.arr 32 (.int .i64)))), (6, (.v (.arr 32 (.int .i64))))], lo := 7, nx := 7 }
abbrev E_r02_Mul_2 : List Ex := [(.normal, { sl := [(4, (.c ⟨(.ptr (.arr 4 (.int .u64))), (.rf 2 [])⟩)), (5, (.c ⟨(.ptr (.arr 4 (.int .u64))), (.rf 3 [])⟩)), (6, (.c ⟨(.ptr (.arr 32 (.int .i64))), (.rf 4 [])⟩)), (7, (.c ⟨(.ptr (.arr 32 (.int .i64))), (.rf 5 [])⟩)), (8, (.c ⟨(.ptr (.arr 32 (.int .i64))), (.rf 6 [])⟩)), (9, (.v (.int .i64))), (10, (.v (.int .i64)))], ob := [(2, (.v (.arr 4 (.int .u64)))), (3, (.v (.arr 4 (.int .u64)))), (4, (.v (.arr 32 (.int .i64)))), (5, (.v (.arr 32 (.int .i64)))), (6, (.v (.arr 32 (.int .i64))))], lo := 7, nx := 7 })]
noncomputable def L_r02_Mul_2 : Code := loopIn (bodyOf Try.f19) 2
noncomputable def P_r02_Mul_2 : Lp := lpOf S_r02_Mul_2 E_r02_Mul_2 59 R_r02_Mul_2
abbrev S_r02_Mul_0 : Shape := { sl := [(4, (.c ⟨(.ptr (.arr 4 (.int .u64))), (.rf 2 [])⟩)), (5, (.c ⟨(.ptr (.arr 4 (.int .u64))), (.rf 3 [])⟩)), (6, (.c ⟨(.ptr (.arr 32 (.int .i64))), (.rf 4 [])⟩)), (7, (.c ⟨(.ptr (.arr 32 (.int .i64))), (.rf 5 [])⟩)), (8, (.c ⟨(.ptr (.arr 32 (.int .i64))), (.rf 6 [])⟩)), (9, (.v (.int .i64)))], ob := [(2, (.v (.arr 4 (.int .u64)))), (3, (.v (.arr 4 (.int .u64)))), (4, (.v (.arr 32 (.int .i64)))), (5, (.v (.arr 32 (.int .i64)))), (6, (.v (.arr 32 (.int .i64))))], lo := 7, nx := 7 }
abbrev E_r02_Mul_0 : List Ex := [(.normal, { sl := [(4, (.c ⟨(.ptr (.arr 4 (.int .u64))), (.rf 2 [])⟩)), (5, (.c ⟨(.ptr (.arr 4 (.int .u64))), (.rf 3 [])⟩)), (8, (.c ⟨(.ptr (.arr 32 (.int .i64))), (.rf 6 [])⟩))], ob := [(2, (.v (.arr 4 (.int .u64)))), (3, (.v (.arr 4 (.int .u64)))), (6, (.v (.arr 32 (.int .i64))))], lo := 7, nx := 7 })]
noncomputable def L_r02_Mul_0 : Code := loopIn (bodyOf Try.f19) 0
noncomputable def P_r02_Mul_0 : Lp := lpOf S_r02_Mul_0 E_r02_Mul_0 59 R_r02_Mul_0
noncomputable def c_r02_Mul : Con := conV true [(.arr 4 (.int .u64)), (.arr 4 (.int .u64))] [(.arr 4 (.int .u64)), (.arr 4 (.int .u64))] fun x => r02_Mul x.1 x.2.1
noncomputable def x_r02_Mul : Cx := { ti := ti, con := [(67, c_r02_Of), (68, c_r02_Nats)], fns := [], un := 6 }
theorem xok_r02_Mul : CxOk Try.prog x_r02_Mul := CxOk.of mixed ti_ok (List.forall_mem_cons.2 ⟨con_r02_Of, List.forall_mem_cons.2 ⟨con_r02_Nats, List.forall_mem_nil _⟩⟩) (List.forall_mem_nil _)
theorem r_r02_Mul_2 (x : S_r02_Mul_2.X) : denC x_r02_Mul [] (denF x_r02_Mul 8) L_r02_Mul_2 (S_r02_Mul_2.mkS 59 x) (kRound 2 S_r02_Mul_2 E_r02_Mul_2) = R_r02_Mul_2 x := by kernel_rfl
theorem l_r02_Mul_2 : LpOk Try.prog 2 (.loop L_r02_Mul_2) P_r02_Mul_2 := lpOf_ok xok_r02_Mul 8 (lps_nil) S_r02_Mul_2 E_r02_Mul_2 59 R_r02_Mul_2 (by decide) r_r02_Mul_2
theorem r_r02_Mul_0 (x : S_r02_Mul_0.X) : denC x_r02_Mul [(2, P_r02_Mul_2)] (denF x_r02_Mul 8) L_r02_Mul_0 (S_r02_Mul_0.mkS 59 x) (kRound 0 S_r02_Mul_0 E_r02_Mul_0) = R_r02_Mul_0 x := by kernel_rfl
theorem l_r02_Mul_0 : LpOk Try.prog 0 (.loop L_r02_Mul_0) P_r02_Mul_0 := lpOf_ok xok_r02_Mul 8 (lps_of (by kernel_rfl) (lps_one l_r02_Mul_2 (by kernel_rfl) (List.forall_mem_nil _))) S_r02_Mul_0 E_r02_Mul_0 59 R_r02_Mul_0 (by decide) r_r02_Mul_0
theorem fn_r02_Mul : FnOk Try.prog 19 Try.f19 [(2, P_r02_Mul_2), (0, P_r02_Mul_0)] := ⟨Try.func19, Try.call19, lps_of (by kernel_rfl) (lps_one l_r02_Mul_2 (by kernel_rfl) (lps_one l_r02_Mul_0 (by kernel_rfl) (List.forall_mem_nil _)))⟩
theorem e_r02_Mul (a : (Nat → Int)) (b : (Nat → Int)) : bodyK x_r02_Mul [(2, P_r02_Mul_2), (0, P_r02_Mul_0)] (denF x_r02_Mul 8) Try.f19 (domV [(.arr 4 (.int .u64)), (.arr 4 (.int .u64))] (a, b, ())) [] 0 (kOut [(.arr 4 (.int .u64)), (.arr 4 (.int .u64))]) = r02_Mul' a b := by kernel_rfl
theorem con_r02_Mul : ConOk Try.prog 19 c_r02_Mul := con_ok xok_r02_Mul 8 fn_r02_Mul true [(.arr 4 (.int .u64)), (.arr 4 (.int .u64))] [(.arr 4 (.int .u64)), (.arr 4 (.int .u64))] _ (by decide) (fun x => by rw [r02_Mul_eq]; exact e_r02_Mul x.1 x.2.1)
abbrev S_r02_twice_0 : Shape := { sl := [(2, (.c ⟨(.ptr (.arr 32 (.int .i64))), (.rf 0 [])⟩)), (4, (.c ⟨(.ptr (.arr 32 (.int .i64))), (.rf 1 [])⟩)), (5, (.c ⟨(.ptr (.arr 32 (.int .i64))), (.rf 2 [])⟩)), (6, (.v (.int .i64))), (7, (.v (.int .i64)))], ob := [(0, (.v (.arr 32 (.int .i64)))), (1, (.v (.arr 32 (.int .i64)))), (2, (.v (.arr 32 (.int .i64))))], lo := 3, nx := 3 }
abbrev E_r02_twice_0 : List Ex := [(.normal, { sl := [(4, (.c ⟨(.ptr (.arr 32 (.int .i64))), (.rf 1 [])⟩)), (5, (.c ⟨(.ptr (.arr 32 (.int .i64))), (.rf 2 [])⟩))], ob := [(1, (.v (.arr 32 (.int .i64)))), (2, (.v (.arr 32 (.int .i64))))], lo := 3, nx := 3 })]
noncomputable def L_r02_twice_0 : Code := loopIn (bodyOf Try.f93) 0
noncomputable def P_r02_twice_0 : Lp := lpOf S_r02_twice_0 E_r02_twice_0 28 R_r02_twice_0
noncomputable def c_r02_twice : Con := conV true [(.arr 32 (.int .i64)), (.int .i64)] [(.arr 32 (.int .i64))] fun x => r02_twice x.1 x.2.1
noncomputable def x_r02_twice : Cx := { ti := ti, con := [], fns := [], un := 6 }
theorem xok_r02_twice : CxOk Try.prog x_r02_twice := CxOk.of mixed ti_ok (List.forall_mem_nil _) (List.forall_mem_nil _)
theorem r_r02_twice_0 (x : S_r02_twice_0.X) : denC x_r02_twice [] (denF x_r02_twice 8) L_r02_twice_0 (S_r02_twice_0.mkS 28 x) (kRound 0 S_r02_twice_0 E_r02_twice_0) = R_r02_twice_0 x := by kernel_rfl
theorem l_r02_twice_0 : LpOk Try.prog 0 (.loop L_r02_twice_0) P_r02_twice_0 := lpOf_ok xok_r02_twice 8 (lps_nil) S_r02_twice_0 E_r02_twice_0 28 R_r02_twice_0 (by decide) r_r02_twice_0
theorem fn_r02_twice : FnOk Try.prog 93 Try.f93 [(0, P_r02_twice_0)] := ⟨Try.func93, Try.call93, lps_of (by kernel_rfl) (lps_one l_r02_twice_0 (by kernel_rfl) (List.forall_mem_nil _))⟩
theorem e_r02_twice (a : (Nat → Int)) (one : Int) : bodyK x_r02_twice [(0, P_r02_twice_0)] (denF x_r02_twice 8) Try.f93 (domV [(.arr 32 (.int .i64)), (.int .i64)] (a, one, ())) [] 0 (kOut [(.arr 32 (.int .i64))]) = r02_twice' a one := by kernel_rfl
theorem con_r02_twice : ConOk Try.prog 93 c_r02_twice := con_ok xok_r02_twice 8 fn_r02_twice true [(.arr 32 (.int .i64)), (.int .i64)] [(.arr 32 (.int .i64))] _ (by decide) (fun x => by rw [r02_twice_eq]; exact e_r02_twice x.1 x.2.1)
abbrev S_r02_below_0 : Shape := { sl := [(2, (.c ⟨(.ptr (.arr 32 (.int .i64))), (.rf 0 [])⟩)), (3, (.c ⟨(.ptr (.arr 32 (.int .i64))), (.rf 1 [])⟩)), (5, (.v (.int .i64)))], ob := [(0, (.v (.arr 32 (.int .i64)))), (1, (.v (.arr 32 (.int .i64))))], lo := 2, nx := 2 }
abbrev E_r02_below_0 : List Ex := [(.ret, { sl := [(4, (.v .bool))], ob := [], lo := 2, nx := 2 }), (.normal, { sl := [], ob := [], lo := 2, nx := 2 })]
noncomputable def L_r02_below_0 : Code := loopIn (bodyOf Try.f94) 0
noncomputable def P_r02_below_0 : Lp := lpOf S_r02_below_0 E_r02_below_0 24 R_r02_below_0
noncomputable def c_r02_below : Con := conV true [(.arr 32 (.int .i64)), (.arr 32 (.int .i64))] [.bool] fun x => r02_below x.1 x.2.1
noncomputable def x_r02_below : Cx := { ti := ti, con := [], fns := [], un := 6 }
theorem xok_r02_below : CxOk Try.prog x_r02_below := CxOk.of mixed ti_ok (List.forall_mem_nil _) (List.forall_mem_nil _)
theorem r_r02_below_0 (x : S_r02_below_0.X) : denC x_r02_below [] (denF x_r02_below 8) L_r02_below_0 (S_r02_below_0.mkS 24 x) (kRound 0 S_r02_below_0 E_r02_below_0) = R_r02_below_0 x := by kernel_rfl
theorem l_r02_below_0 : LpOk Try.prog 0 (.loop L_r02_below_0) P_r02_below_0 := lpOf_ok xok_r02_below 8 (lps_nil) S_r02_below_0 E_r02_below_0 24 R_r02_below_0 (by decide) r_r02_below_0
theorem fn_r02_below : FnOk Try.prog 94 Try.f94 [(0, P_r02_below_0)] := ⟨Try.func94, Try.call94, lps_of (by kernel_rfl) (lps_one l_r02_below_0 (by kernel_rfl) (List.forall_mem_nil _))⟩
theorem e_r02_below (a : (Nat → Int)) (b : (Nat → Int)) : bodyK x_r02_below [(0, P_r02_below_0)] (denF x_r02_below 8) Try.f94 (domV [(.arr 32 (.int .i64)), (.arr 32 (.int .i64))] (a, b, ())) [] 0 (kOut [.bool]) = r02_below' a b := by kernel_rfl
theorem con_r02_below : ConOk Try.prog 94 c_r02_below := con_ok xok_r02_below 8 fn_r02_below true [(.arr 32 (.int .i64)), (.arr 32 (.int .i64))] [.bool] _ (by decide) (fun x => by rw [r02_below_eq]; exact e_r02_below x.1 x.2.1)
abbrev S_r02_less_0 : Shape := { sl := [(2, (.c ⟨(.ptr (.arr 32 (.int .i64))), (.rf 0 [])⟩)), (3, (.c ⟨(.ptr (.arr 32 (.int .i64))), (.rf 1 [])⟩)), (4, (.c ⟨(.ptr (.arr 32 (.int .i64))), (.rf 2 [])⟩)), (5, (.v (.int .i64))), (6, (.c ⟨(.ptr (.arr 32 (.int .i64))), (.rf 3 [])⟩)), (7, (.v (.int .i64)))], ob := [(0, (.v (.arr 32 (.int .i64)))), (1, (.v (.arr 32 (.int .i64)))), (2, (.v (.arr 32 (.int .i64)))), (3, (.v (.arr 32 (.int .i64))))], lo := 4, nx := 4 }
abbrev E_r02_less_0 : List Ex := [(.normal, { sl := [(4, (.c ⟨(.ptr (.arr 32 (.int .i64))), (.rf 2 [])⟩)), (6, (.c ⟨(.ptr (.arr 32 (.int .i64))), (.rf 3 [])⟩))], ob := [(2, (.v (.arr 32 (.int .i64)))), (3, (.v (.arr 32 (.int .i64))))], lo := 4, nx := 4 })]
noncomputable def L_r02_less_0 : Code := loopIn (bodyOf Try.f95) 0
noncomputable def P_r02_less_0 : Lp := lpOf S_r02_less_0 E_r02_less_0 31 R_r02_less_0
noncomputable def c_r02_less : Con := conV true [(.arr 32 (.int .i64)), (.arr 32 (.int .i64))] [(.arr 32 (.int .i64))] fun x => r02_less x.1 x.2.1
noncomputable def x_r02_less : Cx := { ti := ti, con := [], fns := [], un := 6 }
theorem xok_r02_less : CxOk Try.prog x_r02_less := CxOk.of mixed ti_ok (List.forall_mem_nil _) (List.forall_mem_nil _)
theorem r_r02_less_0 (x : S_r02_less_0.X) : denC x_r02_less [] (denF x_r02_less 8) L_r02_less_0 (S_r02_less_0.mkS 31 x) (kRound 0 S_r02_less_0 E_r02_less_0) = R_r02_less_0 x := by kernel_rfl
theorem l_r02_less_0 : LpOk Try.prog 0 (.loop L_r02_less_0) P_r02_less_0 := lpOf_ok xok_r02_less 8 (lps_nil) S_r02_less_0 E_r02_less_0 31 R_r02_less_0 (by decide) r_r02_less_0
theorem fn_r02_less : FnOk Try.prog 95 Try.f95 [(0, P_r02_less_0)] := ⟨Try.func95, Try.call95, lps_of (by kernel_rfl) (lps_one l_r02_less_0 (by kernel_rfl) (List.forall_mem_nil _))⟩
theorem e_r02_less (a : (Nat → Int)) (b : (Nat → Int)) : bodyK x_r02_less [(0, P_r02_less_0)] (denF x_r02_less 8) Try.f95 (domV [(.arr 32 (.int .i64)), (.arr 32 (.int .i64))] (a, b, ())) [] 0 (kOut [(.arr 32 (.int .i64))]) = r02_less' a b := by kernel_rfl
theorem con_r02_less : ConOk Try.prog 95 c_r02_less := con_ok xok_r02_less 8 fn_r02_less true [(.arr 32 (.int .i64)), (.arr 32 (.int .i64))] [(.arr 32 (.int .i64))] _ (by decide) (fun x => by rw [r02_less_eq]; exact e_r02_less x.1 x.2.1)
abbrev S_r02_parted_0 : Shape := { sl := [(2, (.c ⟨(.ptr (.arr 32 (.int .i64))), (.rf 0 [])⟩)), (3, (.c ⟨(.ptr (.arr 32 (.int .i64))), (.rf 1 [])⟩)), (4, (.c ⟨(.ptr (.arr 32 (.int .i64))), (.rf 2 [])⟩)), (5, (.c ⟨(.ptr (.arr 32 (.int .i64))), (.rf 3 [])⟩)), (6, (.c ⟨(.ptr (.arr 32 (.int .i64))), (.rf 4 [])⟩)), (7, (.c ⟨(.ptr (.arr 32 (.int .i64))), (.rf 5 [])⟩)), (8, (.v (.int .i64)))], ob := [(0, (.v (.arr 32 (.int .i64)))), (1, (.v (.arr 32 (.int .i64)))), (2, (.v (.arr 32 (.int .i64)))), (3, (.v (.arr 32 (.int .i64)))), (4, (.v (.arr 32 (.int .i64)))), (5, (.v (.arr 32 (.int .i64))))], lo := 6, nx := 6 }
abbrev E_r02_parted_0 : List Ex := [(.normal, { sl := [(4, (.c ⟨(.ptr (.arr 32 (.int .i64))), (.rf 2 [])⟩)), (5, (.c ⟨(.ptr (.arr 32 (.int .i64))), (.rf 3 [])⟩)), (6, (.c ⟨(.ptr (.arr 32 (.int .i64))), (.rf 4 [])⟩)), (7, (.c ⟨(.ptr (.arr 32 (.int .i64))), (.rf 5 [])⟩))], ob := [(2, (.v (.arr 32 (.int .i64)))), (3, (.v (.arr 32 (.int .i64)))), (4, (.v (.arr 32 (.int .i64)))), (5, (.v (.arr 32 (.int .i64))))], lo := 6, nx := 6 })]
noncomputable def L_r02_parted_0 : Code := loopIn (bodyOf Try.f70) 0
noncomputable def P_r02_parted_0 : Lp := lpOf S_r02_parted_0 E_r02_parted_0 45 R_r02_parted_0
noncomputable def c_r02_parted : Con := conV true [(.arr 32 (.int .i64)), (.arr 32 (.int .i64))] [(.arr 32 (.int .i64)), (.arr 32 (.int .i64))] fun x => r02_parted x.1 x.2.1
noncomputable def x_r02_parted : Cx := { ti := ti, con := [(93, c_r02_twice), (94, c_r02_below), (95, c_r02_less)], fns := [], un := 6 }
theorem xok_r02_parted : CxOk Try.prog x_r02_parted := CxOk.of mixed ti_ok (List.forall_mem_cons.2 ⟨con_r02_twice, List.forall_mem_cons.2 ⟨con_r02_below, List.forall_mem_cons.2 ⟨con_r02_less, List.forall_mem_nil _⟩⟩⟩) (List.forall_mem_nil _)
theorem r_r02_parted_0 (x : S_r02_parted_0.X) : denC x_r02_parted [] (denF x_r02_parted 8) L_r02_parted_0 (S_r02_parted_0.mkS 45 x) (kRound 0 S_r02_parted_0 E_r02_parted_0) = R_r02_parted_0 x := by kernel_rfl
theorem l_r02_parted_0 : LpOk Try.prog 0 (.loop L_r02_parted_0) P_r02_parted_0 := lpOf_ok xok_r02_parted 8 (lps_nil) S_r02_parted_0 E_r02_parted_0 45 R_r02_parted_0 (by decide) r_r02_parted_0
theorem fn_r02_parted : FnOk Try.prog 70 Try.f70 [(0, P_r02_parted_0)] := ⟨Try.func70, Try.call70, lps_of (by kernel_rfl) (lps_one l_r02_parted_0 (by kernel_rfl) (List.forall_mem_nil _))⟩
theorem e_r02_parted (a : (Nat → Int)) (m : (Nat → Int)) : bodyK x_r02_parted [(0, P_r02_parted_0)] (denF x_r02_parted 8) Try.f70 (domV [(.arr 32 (.int .i64)), (.arr 32 (.int .i64))] (a, m, ())) [] 0 (kOut [(.arr 32 (.int .i64)), (.arr 32 (.int .i64))]) = r02_parted' a m := by kernel_rfl
theorem con_r02_parted : ConOk Try.prog 70 c_r02_parted := con_ok xok_r02_parted 8 fn_r02_parted true [(.arr 32 (.int .i64)), (.arr 32 (.int .i64))] [(.arr 32 (.int .i64)), (.arr 32 (.int .i64))] _ (by decide) (fun x => by rw [r02_parted_eq]; exact e_r02_parted x.1 x.2.1)
noncomputable def c_r02_Rem : Con := conV true [(.arr 4 (.int .u64)), (.arr 4 (.int .u64)), (.arr 4 (.int .u64))] [(.arr 4 (.int .u64)), (.int .i64)] fun x => r02_Rem x.1 x.2.1 x.2.2.1
noncomputable def x_r02_Rem : Cx := { ti := ti, con := [(67, c_r02_Of), (70, c_r02_parted), (68, c_r02_Nats)], fns := [], un := 6 }
theorem xok_r02_Rem : CxOk Try.prog x_r02_Rem := CxOk.of mixed ti_ok (List.forall_mem_cons.2 ⟨con_r02_Of, List.forall_mem_cons.2 ⟨con_r02_parted, List.forall_mem_cons.2 ⟨con_r02_Nats, List.forall_mem_nil _⟩⟩⟩) (List.forall_mem_nil _)
theorem fn_r02_Rem : FnOk Try.prog 21 Try.f21 [] := ⟨Try.func21, Try.call21, lps_nil⟩
theorem e_r02_Rem (low : (Nat → Int)) (high : (Nat → Int)) (m : (Nat → Int)) : bodyK x_r02_Rem [] (denF x_r02_Rem 8) Try.f21 (domV [(.arr 4 (.int .u64)), (.arr 4 (.int .u64)), (.arr 4 (.int .u64))] (low, high, m, ())) [] 0 (kOut [(.arr 4 (.int .u64)), (.int .i64)]) = r02_Rem' low high m := by kernel_rfl
theorem con_r02_Rem : ConOk Try.prog 21 c_r02_Rem := con_ok xok_r02_Rem 8 fn_r02_Rem true [(.arr 4 (.int .u64)), (.arr 4 (.int .u64)), (.arr 4 (.int .u64))] [(.arr 4 (.int .u64)), (.int .i64)] _ (by decide) (fun x => by rw [r02_Rem_eq]; exact e_r02_Rem x.1 x.2.1 x.2.2.1)
noncomputable def c_r02_Div : Con := conV true [(.arr 4 (.int .u64)), (.arr 4 (.int .u64))] [(.arr 4 (.int .u64)), (.arr 4 (.int .u64)), (.int .i64)] fun x => r02_Div x.1 x.2.1
noncomputable def x_r02_Div : Cx := { ti := ti, con := [(67, c_r02_Of), (70, c_r02_parted), (68, c_r02_Nats)], fns := [], un := 6 }
theorem xok_r02_Div : CxOk Try.prog x_r02_Div := CxOk.of mixed ti_ok (List.forall_mem_cons.2 ⟨con_r02_Of, List.forall_mem_cons.2 ⟨con_r02_parted, List.forall_mem_cons.2 ⟨con_r02_Nats, List.forall_mem_nil _⟩⟩⟩) (List.forall_mem_nil _)
theorem fn_r02_Div : FnOk Try.prog 24 Try.f24 [] := ⟨Try.func24, Try.call24, lps_nil⟩
theorem e_r02_Div (a : (Nat → Int)) (b : (Nat → Int)) : bodyK x_r02_Div [] (denF x_r02_Div 8) Try.f24 (domV [(.arr 4 (.int .u64)), (.arr 4 (.int .u64))] (a, b, ())) [] 0 (kOut [(.arr 4 (.int .u64)), (.arr 4 (.int .u64)), (.int .i64)]) = r02_Div' a b := by kernel_rfl
theorem con_r02_Div : ConOk Try.prog 24 c_r02_Div := con_ok xok_r02_Div 8 fn_r02_Div true [(.arr 4 (.int .u64)), (.arr 4 (.int .u64))] [(.arr 4 (.int .u64)), (.arr 4 (.int .u64)), (.int .i64)] _ (by decide) (fun x => by rw [r02_Div_eq]; exact e_r02_Div x.1 x.2.1)
abbrev S_r02_Gcd_0 : Shape := { sl := [(4, (.c ⟨(.ptr (.arr 4 (.int .u64))), (.rf 2 [])⟩)), (5, (.c ⟨(.ptr (.arr 4 (.int .u64))), (.rf 3 [])⟩)), (6, (.c ⟨(.ptr (.arr 4 (.int .u64))), (.rf 4 [])⟩)), (7, (.v (.int .i64)))], ob := [(2, (.v (.arr 4 (.int .u64)))), (3, (.v (.arr 4 (.int .u64)))), (4, (.v (.arr 4 (.int .u64))))], lo := 5, nx := 5 }
abbrev E_r02_Gcd_0 : List Ex := [(.normal, { sl := [(4, (.c ⟨(.ptr (.arr 4 (.int .u64))), (.rf 2 [])⟩)), (5, (.c ⟨(.ptr (.arr 4 (.int .u64))), (.rf 3 [])⟩))], ob := [(2, (.v (.arr 4 (.int .u64)))), (3, (.v (.arr 4 (.int .u64))))], lo := 5, nx := 5 })]
noncomputable def L_r02_Gcd_0 : Code := loopIn (bodyOf Try.f29) 0
noncomputable def P_r02_Gcd_0 : Lp := lpOf S_r02_Gcd_0 E_r02_Gcd_0 32 R_r02_Gcd_0
noncomputable def c_r02_Gcd : Con := conV true [(.arr 4 (.int .u64)), (.arr 4 (.int .u64))] [(.arr 4 (.int .u64))] fun x => r02_Gcd x.1 x.2.1
noncomputable def x_r02_Gcd : Cx := { ti := ti, con := [(24, c_r02_Div)], fns := [], un := 6 }
theorem xok_r02_Gcd : CxOk Try.prog x_r02_Gcd := CxOk.of mixed ti_ok (List.forall_mem_cons.2 ⟨con_r02_Div, List.forall_mem_nil _⟩) (List.forall_mem_nil _)
theorem r_r02_Gcd_0 (x : S_r02_Gcd_0.X) : denC x_r02_Gcd [] (denF x_r02_Gcd 8) L_r02_Gcd_0 (S_r02_Gcd_0.mkS 32 x) (kRound 0 S_r02_Gcd_0 E_r02_Gcd_0) = R_r02_Gcd_0 x := by kernel_rfl
theorem l_r02_Gcd_0 : LpOk Try.prog 0 (.loop L_r02_Gcd_0) P_r02_Gcd_0 := lpOf_ok xok_r02_Gcd 8 (lps_nil) S_r02_Gcd_0 E_r02_Gcd_0 32 R_r02_Gcd_0 (by decide) r_r02_Gcd_0
theorem fn_r02_Gcd : FnOk Try.prog 29 Try.f29 [(0, P_r02_Gcd_0)] := ⟨Try.func29, Try.call29, lps_of (by kernel_rfl) (lps_one l_r02_Gcd_0 (by kernel_rfl) (List.forall_mem_nil _))⟩
theorem e_r02_Gcd (a : (Nat → Int)) (b : (Nat → Int)) : bodyK x_r02_Gcd [(0, P_r02_Gcd_0)] (denF x_r02_Gcd 8) Try.f29 (domV [(.arr 4 (.int .u64)), (.arr 4 (.int .u64))] (a, b, ())) [] 0 (kOut [(.arr 4 (.int .u64))]) = r02_Gcd' a b := by kernel_rfl
theorem con_r02_Gcd : ConOk Try.prog 29 c_r02_Gcd := con_ok xok_r02_Gcd 8 fn_r02_Gcd true [(.arr 4 (.int .u64)), (.arr 4 (.int .u64))] [(.arr 4 (.int .u64))] _ (by decide) (fun x => by rw [r02_Gcd_eq]; exact e_r02_Gcd x.1 x.2.1)
noncomputable def c_r02_MulMod : Con := conV true [(.arr 4 (.int .u64)), (.arr 4 (.int .u64)), (.arr 4 (.int .u64))] [(.arr 4 (.int .u64)), (.int .i64)] fun x => r02_MulMod x.1 x.2.1 x.2.2.1
noncomputable def x_r02_MulMod : Cx := { ti := ti, con := [(19, c_r02_Mul), (21, c_r02_Rem)], fns := [], un := 6 }
theorem xok_r02_MulMod : CxOk Try.prog x_r02_MulMod := CxOk.of mixed ti_ok (List.forall_mem_cons.2 ⟨con_r02_Mul, List.forall_mem_cons.2 ⟨con_r02_Rem, List.forall_mem_nil _⟩⟩) (List.forall_mem_nil _)
theorem fn_r02_MulMod : FnOk Try.prog 37 Try.f37 [] := ⟨Try.func37, Try.call37, lps_nil⟩
theorem e_r02_MulMod (a : (Nat → Int)) (b : (Nat → Int)) (m : (Nat → Int)) : bodyK x_r02_MulMod [] (denF x_r02_MulMod 8) Try.f37 (domV [(.arr 4 (.int .u64)), (.arr 4 (.int .u64)), (.arr 4 (.int .u64))] (a, b, m, ())) [] 0 (kOut [(.arr 4 (.int .u64)), (.int .i64)]) = r02_MulMod' a b m := by kernel_rfl
theorem con_r02_MulMod : ConOk Try.prog 37 c_r02_MulMod := con_ok xok_r02_MulMod 8 fn_r02_MulMod true [(.arr 4 (.int .u64)), (.arr 4 (.int .u64)), (.arr 4 (.int .u64))] [(.arr 4 (.int .u64)), (.int .i64)] _ (by decide) (fun x => by rw [r02_MulMod_eq]; exact e_r02_MulMod x.1 x.2.1 x.2.2.1)
noncomputable def c_r02_Inv : Con := conV true [(.arr 4 (.int .u64)), (.arr 4 (.int .u64)), (.arr 4 (.int .u64))] [.bool] fun x => r02_Inv x.1 x.2.1 x.2.2.1
noncomputable def x_r02_Inv : Cx := { ti := ti, con := [(37, c_r02_MulMod), (26, c_r01_Cmp), (75, c_r01_Int)], fns := [], un := 6 }
theorem xok_r02_Inv : CxOk Try.prog x_r02_Inv := CxOk.of mixed ti_ok (List.forall_mem_cons.2 ⟨con_r02_MulMod, List.forall_mem_cons.2 ⟨con_r01_Cmp, List.forall_mem_cons.2 ⟨con_r01_Int, List.forall_mem_nil _⟩⟩⟩) (List.forall_mem_nil _)
theorem fn_r02_Inv : FnOk Try.prog 31 Try.f31 [] := ⟨Try.func31, Try.call31, lps_nil⟩
theorem e_r02_Inv (x : (Nat → Int)) (a : (Nat → Int)) (m : (Nat → Int)) : bodyK x_r02_Inv [] (denF x_r02_Inv 8) Try.f31 (domV [(.arr 4 (.int .u64)), (.arr 4 (.int .u64)), (.arr 4 (.int .u64))] (x, a, m, ())) [] 0 (kOut [.bool]) = r02_Inv' x a m := by kernel_rfl
theorem con_r02_Inv : ConOk Try.prog 31 c_r02_Inv := con_ok xok_r02_Inv 8 fn_r02_Inv true [(.arr 4 (.int .u64)), (.arr 4 (.int .u64)), (.arr 4 (.int .u64))] [.bool] _ (by decide) (fun x => by rw [r02_Inv_eq]; exact e_r02_Inv x.1 x.2.1 x.2.2.1)
noncomputable def c_r02_AddMod : Con := conV true [(.arr 4 (.int .u64)), (.arr 4 (.int .u64)), (.arr 4 (.int .u64))] [(.arr 4 (.int .u64)), (.int .i64)] fun x => r02_AddMod x.1 x.2.1 x.2.2.1
noncomputable def x_r02_AddMod : Cx := { ti := ti, con := [(25, c_r01_Add), (75, c_r01_Int), (21, c_r02_Rem)], fns := [], un := 6 }
theorem xok_r02_AddMod : CxOk Try.prog x_r02_AddMod := CxOk.of mixed ti_ok (List.forall_mem_cons.2 ⟨con_r01_Add, List.forall_mem_cons.2 ⟨con_r01_Int, List.forall_mem_cons.2 ⟨con_r02_Rem, List.forall_mem_nil _⟩⟩⟩) (List.forall_mem_nil _)
theorem fn_r02_AddMod : FnOk Try.prog 33 Try.f33 [] := ⟨Try.func33, Try.call33, lps_nil⟩
theorem e_r02_AddMod (a : (Nat → Int)) (b : (Nat → Int)) (m : (Nat → Int)) : bodyK x_r02_AddMod [] (denF x_r02_AddMod 8) Try.f33 (domV [(.arr 4 (.int .u64)), (.arr 4 (.int .u64)), (.arr 4 (.int .u64))] (a, b, m, ())) [] 0 (kOut [(.arr 4 (.int .u64)), (.int .i64)]) = r02_AddMod' a b m := by kernel_rfl
theorem con_r02_AddMod : ConOk Try.prog 33 c_r02_AddMod := con_ok xok_r02_AddMod 8 fn_r02_AddMod true [(.arr 4 (.int .u64)), (.arr 4 (.int .u64)), (.arr 4 (.int .u64))] [(.arr 4 (.int .u64)), (.int .i64)] _ (by decide) (fun x => by rw [r02_AddMod_eq]; exact e_r02_AddMod x.1 x.2.1 x.2.2.1)
noncomputable def c_r02_SubMod : Con := conV true [(.arr 4 (.int .u64)), (.arr 4 (.int .u64)), (.arr 4 (.int .u64))] [(.arr 4 (.int .u64)), (.int .i64)] fun x => r02_SubMod x.1 x.2.1 x.2.2.1
noncomputable def x_r02_SubMod : Cx := { ti := ti, con := [(21, c_r02_Rem), (63, c_r01_Sub), (33, c_r02_AddMod)], fns := [], un := 6 }
theorem xok_r02_SubMod : CxOk Try.prog x_r02_SubMod := CxOk.of mixed ti_ok (List.forall_mem_cons.2 ⟨con_r02_Rem, List.forall_mem_cons.2 ⟨con_r01_Sub, List.forall_mem_cons.2 ⟨con_r02_AddMod, List.forall_mem_nil _⟩⟩⟩) (List.forall_mem_nil _)
theorem fn_r02_SubMod : FnOk Try.prog 35 Try.f35 [] := ⟨Try.func35, Try.call35, lps_nil⟩
theorem e_r02_SubMod (a : (Nat → Int)) (b : (Nat → Int)) (m : (Nat → Int)) : bodyK x_r02_SubMod [] (denF x_r02_SubMod 8) Try.f35 (domV [(.arr 4 (.int .u64)), (.arr 4 (.int .u64)), (.arr 4 (.int .u64))] (a, b, m, ())) [] 0 (kOut [(.arr 4 (.int .u64)), (.int .i64)]) = r02_SubMod' a b m := by kernel_rfl
theorem con_r02_SubMod : ConOk Try.prog 35 c_r02_SubMod := con_ok xok_r02_SubMod 8 fn_r02_SubMod true [(.arr 4 (.int .u64)), (.arr 4 (.int .u64)), (.arr 4 (.int .u64))] [(.arr 4 (.int .u64)), (.int .i64)] _ (by decide) (fun x => by rw [r02_SubMod_eq]; exact e_r02_SubMod x.1 x.2.1 x.2.2.1)
end Go.Proofs.Ytpmejfefbepjlaa

set_option linter.unusedVariables false
set_option linter.unusedSimpArgs false
set_option maxRecDepth 100000
set_option maxHeartbeats 0
namespace Go.Pl
end Go.Pl
open Go Go.Den Go.Pl
namespace Go.Proofs.Ytpmejfefbepjlaa
noncomputable def c_l02_of : Con := conV true [(.int .i64)] [(.arr 4 (.int .u64))] fun x => l02_of x.1
noncomputable def x_l02_of : Cx := { ti := ti, con := [(75, c_r01_Int)], fns := [], un := 6 }
theorem xok_l02_of : CxOk Try.prog x_l02_of := CxOk.of mixed ti_ok (List.forall_mem_cons.2 ⟨con_r01_Int, List.forall_mem_nil _⟩) (List.forall_mem_nil _)
theorem fn_l02_of : FnOk Try.prog 30 Try.f30 [] := ⟨Try.func30, Try.call30, lps_nil⟩
theorem e_l02_of (n : Int) : bodyK x_l02_of [] (denF x_l02_of 8) Try.f30 (domV [(.int .i64)] (n, ())) [] 0 (kOut [(.arr 4 (.int .u64))]) = l02_of' n := by kernel_rfl
theorem con_l02_of : ConOk Try.prog 30 c_l02_of := con_ok xok_l02_of 8 fn_l02_of true [(.int .i64)] [(.arr 4 (.int .u64))] _ (by decide) (fun x => by rw [l02_of_eq]; exact e_l02_of x.1)
noncomputable def c_l02_awake : Con := conV true [] [.bool] fun x => l02_awake 
noncomputable def x_l02_awake : Cx := { ti := ti, con := [(30, c_l02_of), (28, c_wide_InvMod), (18, c_wide_Mul), (23, c_wide_Div), (34, c_wide_SubMod), (27, c_wide_Gcd)], fns := [], un := 6 }
theorem xok_l02_awake : CxOk Try.prog x_l02_awake := CxOk.of mixed ti_ok (List.forall_mem_cons.2 ⟨con_l02_of, List.forall_mem_cons.2 ⟨con_wide_InvMod, List.forall_mem_cons.2 ⟨con_wide_Mul, List.forall_mem_cons.2 ⟨con_wide_Div, List.forall_mem_cons.2 ⟨con_wide_SubMod, List.forall_mem_cons.2 ⟨con_wide_Gcd, List.forall_mem_nil _⟩⟩⟩⟩⟩⟩) (List.forall_mem_nil _)
theorem fn_l02_awake : FnOk Try.prog 22 Try.f22 [] := ⟨Try.func22, Try.call22, lps_nil⟩
theorem e_l02_awake  : bodyK x_l02_awake [] (denF x_l02_awake 8) Try.f22 (domV [] (())) [] 0 (kOut [.bool]) = l02_awake'  := by kernel_rfl
theorem con_l02_awake : ConOk Try.prog 22 c_l02_awake := con_ok xok_l02_awake 8 fn_l02_awake true [] [.bool] _ (by decide) (fun x => by rw [l02_awake_eq]; exact e_l02_awake )
noncomputable def x_l02_WideMuls : Cx := { ti := ti, con := [(18, c_wide_Mul), (19, c_r02_Mul), (20, c_wide_Rem), (21, c_r02_Rem), (22, c_l02_awake)], fns := [], un := 6 }
theorem xok_l02_WideMuls : CxOk Try.prog x_l02_WideMuls := CxOk.of mixed ti_ok (List.forall_mem_cons.2 ⟨con_wide_Mul, List.forall_mem_cons.2 ⟨con_r02_Mul, List.forall_mem_cons.2 ⟨con_wide_Rem, List.forall_mem_cons.2 ⟨con_r02_Rem, List.forall_mem_cons.2 ⟨con_l02_awake, List.forall_mem_nil _⟩⟩⟩⟩⟩) (List.forall_mem_nil _)
theorem fn_l02_WideMuls : FnOk Try.prog 3 Try.f3 [] := ⟨Try.func3, Try.call3, lps_nil⟩
theorem e_l02_WideMuls (a : (Nat → Int)) (b : (Nat → Int)) (m : (Nat → Int)) : bodyK x_l02_WideMuls [] (denF x_l02_WideMuls 8) Try.f3 (domV [(.arr 4 (.int .u64)), (.arr 4 (.int .u64)), (.arr 4 (.int .u64))] (a, b, m, ())) [] 0 kTrue = l02_WideMuls' a b m := by kernel_rfl
noncomputable def x_l02_WideDivs : Cx := { ti := ti, con := [(23, c_wide_Div), (24, c_r02_Div), (18, c_wide_Mul), (25, c_r01_Add), (22, c_l02_awake), (26, c_r01_Cmp)], fns := [], un := 6 }
theorem xok_l02_WideDivs : CxOk Try.prog x_l02_WideDivs := CxOk.of mixed ti_ok (List.forall_mem_cons.2 ⟨con_wide_Div, List.forall_mem_cons.2 ⟨con_r02_Div, List.forall_mem_cons.2 ⟨con_wide_Mul, List.forall_mem_cons.2 ⟨con_r01_Add, List.forall_mem_cons.2 ⟨con_l02_awake, List.forall_mem_cons.2 ⟨con_r01_Cmp, List.forall_mem_nil _⟩⟩⟩⟩⟩⟩) (List.forall_mem_nil _)
theorem fn_l02_WideDivs : FnOk Try.prog 4 Try.f4 [] := ⟨Try.func4, Try.call4, lps_nil⟩
theorem e_l02_WideDivs (a : (Nat → Int)) (b : (Nat → Int)) : bodyK x_l02_WideDivs [] (denF x_l02_WideDivs 8) Try.f4 (domV [(.arr 4 (.int .u64)), (.arr 4 (.int .u64))] (a, b, ())) [] 0 kTrue = l02_WideDivs' a b := by kernel_rfl
noncomputable def x_l02_WideInverses : Cx := { ti := ti, con := [(27, c_wide_Gcd), (28, c_wide_InvMod), (29, c_r02_Gcd), (30, c_l02_of), (26, c_r01_Cmp), (22, c_l02_awake), (31, c_r02_Inv)], fns := [], un := 6 }
theorem xok_l02_WideInverses : CxOk Try.prog x_l02_WideInverses := CxOk.of mixed ti_ok (List.forall_mem_cons.2 ⟨con_wide_Gcd, List.forall_mem_cons.2 ⟨con_wide_InvMod, List.forall_mem_cons.2 ⟨con_r02_Gcd, List.forall_mem_cons.2 ⟨con_l02_of, List.forall_mem_cons.2 ⟨con_r01_Cmp, List.forall_mem_cons.2 ⟨con_l02_awake, List.forall_mem_cons.2 ⟨con_r02_Inv, List.forall_mem_nil _⟩⟩⟩⟩⟩⟩⟩) (List.forall_mem_nil _)
theorem fn_l02_WideInverses : FnOk Try.prog 5 Try.f5 [] := ⟨Try.func5, Try.call5, lps_nil⟩
theorem e_l02_WideInverses (a : (Nat → Int)) (m : (Nat → Int)) : bodyK x_l02_WideInverses [] (denF x_l02_WideInverses 8) Try.f5 (domV [(.arr 4 (.int .u64)), (.arr 4 (.int .u64))] (a, m, ())) [] 0 kTrue = l02_WideInverses' a m := by kernel_rfl
noncomputable def x_l02_WideMods : Cx := { ti := ti, con := [(32, c_wide_AddMod), (33, c_r02_AddMod), (34, c_wide_SubMod), (35, c_r02_SubMod), (36, c_wide_MulMod), (37, c_r02_MulMod), (22, c_l02_awake)], fns := [], un := 6 }
theorem xok_l02_WideMods : CxOk Try.prog x_l02_WideMods := CxOk.of mixed ti_ok (List.forall_mem_cons.2 ⟨con_wide_AddMod, List.forall_mem_cons.2 ⟨con_r02_AddMod, List.forall_mem_cons.2 ⟨con_wide_SubMod, List.forall_mem_cons.2 ⟨con_r02_SubMod, List.forall_mem_cons.2 ⟨con_wide_MulMod, List.forall_mem_cons.2 ⟨con_r02_MulMod, List.forall_mem_cons.2 ⟨con_l02_awake, List.forall_mem_nil _⟩⟩⟩⟩⟩⟩⟩) (List.forall_mem_nil _)
theorem fn_l02_WideMods : FnOk Try.prog 6 Try.f6 [] := ⟨Try.func6, Try.call6, lps_nil⟩
theorem e_l02_WideMods (a : (Nat → Int)) (b : (Nat → Int)) (m : (Nat → Int)) : bodyK x_l02_WideMods [] (denF x_l02_WideMods 8) Try.f6 (domV [(.arr 4 (.int .u64)), (.arr 4 (.int .u64)), (.arr 4 (.int .u64))] (a, b, m, ())) [] 0 kTrue = l02_WideMods' a b m := by kernel_rfl
noncomputable def x_l02_WideGoes : Cx := { ti := ti, con := [(22, c_l02_awake), (32, c_wide_AddMod), (36, c_wide_MulMod), (34, c_wide_SubMod), (20, c_wide_Rem), (26, c_r01_Cmp)], fns := [], un := 6 }
theorem xok_l02_WideGoes : CxOk Try.prog x_l02_WideGoes := CxOk.of mixed ti_ok (List.forall_mem_cons.2 ⟨con_l02_awake, List.forall_mem_cons.2 ⟨con_wide_AddMod, List.forall_mem_cons.2 ⟨con_wide_MulMod, List.forall_mem_cons.2 ⟨con_wide_SubMod, List.forall_mem_cons.2 ⟨con_wide_Rem, List.forall_mem_cons.2 ⟨con_r01_Cmp, List.forall_mem_nil _⟩⟩⟩⟩⟩⟩) (List.forall_mem_nil _)
theorem fn_l02_WideGoes : FnOk Try.prog 7 Try.f7 [] := ⟨Try.func7, Try.call7, lps_nil⟩
theorem e_l02_WideGoes (a : (Nat → Int)) (b : (Nat → Int)) (m : (Nat → Int)) : bodyK x_l02_WideGoes [] (denF x_l02_WideGoes 8) Try.f7 (domV [(.arr 4 (.int .u64)), (.arr 4 (.int .u64)), (.arr 4 (.int .u64))] (a, b, m, ())) [] 0 kTrue = l02_WideGoes' a b m := by kernel_rfl
end Go.Proofs.Ytpmejfefbepjlaa

set_option linter.unusedVariables false
set_option linter.unusedSimpArgs false
set_option maxRecDepth 100000
set_option maxHeartbeats 0
namespace Go.Pl
end Go.Pl
open Go Go.Den Go.Pl
namespace Go.Proofs.Ytpmejfefbepjlaa
noncomputable def c_mont_New : Con := conV false [(.arr 4 (.int .u64))] [(.ptr (.pair (.arr 4 (.int .u64)) (.pair (.int .u64) (.pair (.arr 4 (.int .u64)) (.arr 4 (.int .u64)))))), (.int .i64)] fun x => mont_New x.1
noncomputable def x_mont_New : Cx := { ti := ti, con := [(74, c_nat_Of), (20, c_wide_Rem), (36, c_wide_MulMod)], fns := [], un := 6 }
theorem xok_mont_New : CxOk Try.prog x_mont_New := CxOk.of mixed ti_ok (List.forall_mem_cons.2 ⟨con_nat_Of, List.forall_mem_cons.2 ⟨con_wide_Rem, List.forall_mem_cons.2 ⟨con_wide_MulMod, List.forall_mem_nil _⟩⟩⟩) (List.forall_mem_nil _)
theorem fn_mont_New : FnOk Try.prog 38 Try.f38 [] := ⟨Try.func38, Try.call38, lps_nil⟩
theorem e_mont_New (m : (Nat → Int)) : bodyK x_mont_New [] (denF x_mont_New 8) Try.f38 (domV [(.arr 4 (.int .u64))] (m, ())) [] 0 (kOut [(.ptr (.pair (.arr 4 (.int .u64)) (.pair (.int .u64) (.pair (.arr 4 (.int .u64)) (.arr 4 (.int .u64)))))), (.int .i64)]) = mont_New' m := by kernel_rfl
theorem con_mont_New : ConOk Try.prog 38 c_mont_New := con_ok xok_mont_New 8 fn_mont_New false [(.arr 4 (.int .u64))] [(.ptr (.pair (.arr 4 (.int .u64)) (.pair (.int .u64) (.pair (.arr 4 (.int .u64)) (.arr 4 (.int .u64)))))), (.int .i64)] _ (by decide) (fun x => by rw [mont_New_eq]; exact e_mont_New x.1)
noncomputable def c_mont_Ring_given : Con := conV true [(.ptr (.pair (.arr 4 (.int .u64)) (.pair (.int .u64) (.pair (.arr 4 (.int .u64)) (.arr 4 (.int .u64))))))] [.bool] fun x => mont_Ring_given x.1
noncomputable def x_mont_Ring_given : Cx := { ti := ti, con := [], fns := [], un := 6 }
theorem xok_mont_Ring_given : CxOk Try.prog x_mont_Ring_given := CxOk.of mixed ti_ok (List.forall_mem_nil _) (List.forall_mem_nil _)
theorem fn_mont_Ring_given : FnOk Try.prog 80 Try.f80 [] := ⟨Try.func80, Try.call80, lps_nil⟩
theorem e_mont_Ring_given (r : (Option ((Nat → Int) × (Int × ((Nat → Int) × (Nat → Int)))))) : bodyK x_mont_Ring_given [] (denF x_mont_Ring_given 8) Try.f80 (domV [(.ptr (.pair (.arr 4 (.int .u64)) (.pair (.int .u64) (.pair (.arr 4 (.int .u64)) (.arr 4 (.int .u64))))))] (r, ())) [] 0 (kOut [.bool]) = mont_Ring_given' r := by cases r <;> kernel_rfl
theorem con_mont_Ring_given : ConOk Try.prog 80 c_mont_Ring_given := con_ok xok_mont_Ring_given 8 fn_mont_Ring_given true [(.ptr (.pair (.arr 4 (.int .u64)) (.pair (.int .u64) (.pair (.arr 4 (.int .u64)) (.arr 4 (.int .u64))))))] [.bool] _ (by decide) (fun x => by rw [mont_Ring_given_eq]; exact e_mont_Ring_given x.1)
noncomputable def c_mont_Ring_low : Con := conV true [(.ptr (.pair (.arr 4 (.int .u64)) (.pair (.int .u64) (.pair (.arr 4 (.int .u64)) (.arr 4 (.int .u64)))))), (.arr 4 (.int .u64))] [(.arr 4 (.int .u64))] fun x => mont_Ring_low x.1 x.2.1
noncomputable def x_mont_Ring_low : Cx := { ti := ti, con := [(73, c_nat_Cmp), (20, c_wide_Rem)], fns := [], un := 6 }
theorem xok_mont_Ring_low : CxOk Try.prog x_mont_Ring_low := CxOk.of mixed ti_ok (List.forall_mem_cons.2 ⟨con_nat_Cmp, List.forall_mem_cons.2 ⟨con_wide_Rem, List.forall_mem_nil _⟩⟩) (List.forall_mem_nil _)
theorem fn_mont_Ring_low : FnOk Try.prog 82 Try.f82 [] := ⟨Try.func82, Try.call82, lps_nil⟩
theorem e_mont_Ring_low (r : (Option ((Nat → Int) × (Int × ((Nat → Int) × (Nat → Int)))))) (a : (Nat → Int)) : bodyK x_mont_Ring_low [] (denF x_mont_Ring_low 8) Try.f82 (domV [(.ptr (.pair (.arr 4 (.int .u64)) (.pair (.int .u64) (.pair (.arr 4 (.int .u64)) (.arr 4 (.int .u64)))))), (.arr 4 (.int .u64))] (r, a, ())) [] 0 (kOut [(.arr 4 (.int .u64))]) = mont_Ring_low' r a := by cases r <;> kernel_rfl
theorem con_mont_Ring_low : ConOk Try.prog 82 c_mont_Ring_low := con_ok xok_mont_Ring_low 8 fn_mont_Ring_low true [(.ptr (.pair (.arr 4 (.int .u64)) (.pair (.int .u64) (.pair (.arr 4 (.int .u64)) (.arr 4 (.int .u64)))))), (.arr 4 (.int .u64))] [(.arr 4 (.int .u64))] _ (by decide) (fun x => by rw [mont_Ring_low_eq]; exact e_mont_Ring_low x.1 x.2.1)
noncomputable def c_mont_adds : Con := conV true [(.arr 6 (.int .u64)), (.int .u64), (.arr 4 (.int .u64))] [(.arr 6 (.int .u64))] fun x => mont_adds x.1 x.2.1 x.2.2.1
noncomputable def x_mont_adds : Cx := { ti := ti, con := [(65, c_bits_Mul64), (66, c_add64)], fns := [], un := 6 }
theorem xok_mont_adds : CxOk Try.prog x_mont_adds := CxOk.of mixed ti_ok (List.forall_mem_cons.2 ⟨con_bits_Mul64, List.forall_mem_cons.2 ⟨con_add64, List.forall_mem_nil _⟩⟩) (List.forall_mem_nil _)
theorem fn_mont_adds : FnOk Try.prog 98 Try.f98 [] := ⟨Try.func98, Try.call98, lps_nil⟩
theorem e_mont_adds (t : (Nat → Int)) (x : Int) (b : (Nat → Int)) : bodyK x_mont_adds [] (denF x_mont_adds 8) Try.f98 (domV [(.arr 6 (.int .u64)), (.int .u64), (.arr 4 (.int .u64))] (t, x, b, ())) [] 0 (kOut [(.arr 6 (.int .u64))]) = mont_adds' t x b := by kernel_rfl
theorem con_mont_adds : ConOk Try.prog 98 c_mont_adds := con_ok xok_mont_adds 8 fn_mont_adds true [(.arr 6 (.int .u64)), (.int .u64), (.arr 4 (.int .u64))] [(.arr 6 (.int .u64))] _ (by decide) (fun x => by rw [mont_adds_eq]; exact e_mont_adds x.1 x.2.1 x.2.2.1)
noncomputable def c_mont_Ring_redc : Con := conV true [(.ptr (.pair (.arr 4 (.int .u64)) (.pair (.int .u64) (.pair (.arr 4 (.int .u64)) (.arr 4 (.int .u64)))))), (.arr 4 (.int .u64)), (.arr 4 (.int .u64))] [(.arr 4 (.int .u64))] fun x => mont_Ring_redc x.1 x.2.1 x.2.2.1
noncomputable def x_mont_Ring_redc : Cx := { ti := ti, con := [(98, c_mont_adds), (77, c_nat_Sub), (73, c_nat_Cmp)], fns := [], un := 6 }
theorem xok_mont_Ring_redc : CxOk Try.prog x_mont_Ring_redc := CxOk.of mixed ti_ok (List.forall_mem_cons.2 ⟨con_mont_adds, List.forall_mem_cons.2 ⟨con_nat_Sub, List.forall_mem_cons.2 ⟨con_nat_Cmp, List.forall_mem_nil _⟩⟩⟩) (List.forall_mem_nil _)
theorem fn_mont_Ring_redc : FnOk Try.prog 81 Try.f81 [] := ⟨Try.func81, Try.call81, lps_nil⟩
theorem e_mont_Ring_redc (r : (Option ((Nat → Int) × (Int × ((Nat → Int) × (Nat → Int)))))) (a : (Nat → Int)) (b : (Nat → Int)) : bodyK x_mont_Ring_redc [] (denF x_mont_Ring_redc 8) Try.f81 (domV [(.ptr (.pair (.arr 4 (.int .u64)) (.pair (.int .u64) (.pair (.arr 4 (.int .u64)) (.arr 4 (.int .u64)))))), (.arr 4 (.int .u64)), (.arr 4 (.int .u64))] (r, a, b, ())) [] 0 (kOut [(.arr 4 (.int .u64))]) = mont_Ring_redc' r a b := by cases r <;> kernel_rfl
theorem con_mont_Ring_redc : ConOk Try.prog 81 c_mont_Ring_redc := con_ok xok_mont_Ring_redc 8 fn_mont_Ring_redc true [(.ptr (.pair (.arr 4 (.int .u64)) (.pair (.int .u64) (.pair (.arr 4 (.int .u64)) (.arr 4 (.int .u64)))))), (.arr 4 (.int .u64)), (.arr 4 (.int .u64))] [(.arr 4 (.int .u64))] _ (by decide) (fun x => by rw [mont_Ring_redc_eq]; exact e_mont_Ring_redc x.1 x.2.1 x.2.2.1)
noncomputable def c_mont_Ring_Form : Con := conV true [(.ptr (.pair (.arr 4 (.int .u64)) (.pair (.int .u64) (.pair (.arr 4 (.int .u64)) (.arr 4 (.int .u64)))))), (.arr 4 (.int .u64))] [(.arr 4 (.int .u64))] fun x => mont_Ring_Form x.1 x.2.1
noncomputable def x_mont_Ring_Form : Cx := { ti := ti, con := [(80, c_mont_Ring_given), (82, c_mont_Ring_low), (81, c_mont_Ring_redc)], fns := [], un := 6 }
theorem xok_mont_Ring_Form : CxOk Try.prog x_mont_Ring_Form := CxOk.of mixed ti_ok (List.forall_mem_cons.2 ⟨con_mont_Ring_given, List.forall_mem_cons.2 ⟨con_mont_Ring_low, List.forall_mem_cons.2 ⟨con_mont_Ring_redc, List.forall_mem_nil _⟩⟩⟩) (List.forall_mem_nil _)
theorem fn_mont_Ring_Form : FnOk Try.prog 48 Try.f48 [] := ⟨Try.func48, Try.call48, lps_nil⟩
theorem e_mont_Ring_Form (r : (Option ((Nat → Int) × (Int × ((Nat → Int) × (Nat → Int)))))) (a : (Nat → Int)) : bodyK x_mont_Ring_Form [] (denF x_mont_Ring_Form 8) Try.f48 (domV [(.ptr (.pair (.arr 4 (.int .u64)) (.pair (.int .u64) (.pair (.arr 4 (.int .u64)) (.arr 4 (.int .u64)))))), (.arr 4 (.int .u64))] (r, a, ())) [] 0 (kOut [(.arr 4 (.int .u64))]) = mont_Ring_Form' r a := by cases r <;> kernel_rfl
theorem con_mont_Ring_Form : ConOk Try.prog 48 c_mont_Ring_Form := con_ok xok_mont_Ring_Form 8 fn_mont_Ring_Form true [(.ptr (.pair (.arr 4 (.int .u64)) (.pair (.int .u64) (.pair (.arr 4 (.int .u64)) (.arr 4 (.int .u64)))))), (.arr 4 (.int .u64))] [(.arr 4 (.int .u64))] _ (by decide) (fun x => by rw [mont_Ring_Form_eq]; exact e_mont_Ring_Form x.1 x.2.1)
abbrev S_mont_Ring_powers_0 : Shape := { sl := [(0, (.pz (.pair (.arr 4 (.int .u64)) (.pair (.int .u64) (.pair (.arr 4 (.int .u64)) (.arr 4 (.int .u64))))))), (4, (.c ⟨(.ptr (.arr 16 (.arr 4 (.int .u64)))), (.rf 1 [])⟩)), (5, (.c ⟨(.ptr (.arr 16 (.arr 4 (.int .u64)))), (.rf 2 [])⟩)), (6, (.c ⟨(.ptr (.arr 4 (.int .u64))), (.rf 3 [])⟩)), (7, (.v (.int .i64)))], ob := [(1, (.v (.arr 16 (.arr 4 (.int .u64))))), (2, (.v (.arr 16 (.arr 4 (.int .u64))))), (3, (.v (.arr 4 (.int .u64))))], lo := 4, nx := 4 }
abbrev E_mont_Ring_powers_0 : List Ex := [(.normal, { sl := [(4, (.c ⟨(.ptr (.arr 16 (.arr 4 (.int .u64)))), (.rf 1 [])⟩)), (5, (.c ⟨(.ptr (.arr 16 (.arr 4 (.int .u64)))), (.rf 2 [])⟩))], ob := [(1, (.v (.arr 16 (.arr 4 (.int .u64))))), (2, (.v (.arr 16 (.arr 4 (.int .u64)))))], lo := 4, nx := 4 })]
noncomputable def L_mont_Ring_powers_0 : Code := loopIn (bodyOf Try.f83) 0
noncomputable def P_mont_Ring_powers_0 : Lp := lpOf S_mont_Ring_powers_0 E_mont_Ring_powers_0 30 R_mont_Ring_powers_0
noncomputable def c_mont_Ring_powers : Con := conV true [(.ptr (.pair (.arr 4 (.int .u64)) (.pair (.int .u64) (.pair (.arr 4 (.int .u64)) (.arr 4 (.int .u64)))))), (.arr 4 (.int .u64))] [(.arr 16 (.arr 4 (.int .u64)))] fun x => mont_Ring_powers x.1 x.2.1
noncomputable def x_mont_Ring_powers : Cx := { ti := ti, con := [(48, c_mont_Ring_Form), (81, c_mont_Ring_redc)], fns := [], un := 6 }
theorem xok_mont_Ring_powers : CxOk Try.prog x_mont_Ring_powers := CxOk.of mixed ti_ok (List.forall_mem_cons.2 ⟨con_mont_Ring_Form, List.forall_mem_cons.2 ⟨con_mont_Ring_redc, List.forall_mem_nil _⟩⟩) (List.forall_mem_nil _)
theorem r_mont_Ring_powers_0 (x : S_mont_Ring_powers_0.X) : denC x_mont_Ring_powers [] (denF x_mont_Ring_powers 8) L_mont_Ring_powers_0 (S_mont_Ring_powers_0.mkS 30 x) (kRound 0 S_mont_Ring_powers_0 E_mont_Ring_powers_0) = R_mont_Ring_powers_0 x := by kernel_rfl
theorem l_mont_Ring_powers_0 : LpOk Try.prog 0 (.loop L_mont_Ring_powers_0) P_mont_Ring_powers_0 := lpOf_ok xok_mont_Ring_powers 8 (lps_nil) S_mont_Ring_powers_0 E_mont_Ring_powers_0 30 R_mont_Ring_powers_0 (by decide) r_mont_Ring_powers_0
theorem fn_mont_Ring_powers : FnOk Try.prog 83 Try.f83 [(0, P_mont_Ring_powers_0)] := ⟨Try.func83, Try.call83, lps_of (by kernel_rfl) (lps_one l_mont_Ring_powers_0 (by kernel_rfl) (List.forall_mem_nil _))⟩
theorem e_mont_Ring_powers (r : (Option ((Nat → Int) × (Int × ((Nat → Int) × (Nat → Int)))))) (a : (Nat → Int)) : bodyK x_mont_Ring_powers [(0, P_mont_Ring_powers_0)] (denF x_mont_Ring_powers 8) Try.f83 (domV [(.ptr (.pair (.arr 4 (.int .u64)) (.pair (.int .u64) (.pair (.arr 4 (.int .u64)) (.arr 4 (.int .u64)))))), (.arr 4 (.int .u64))] (r, a, ())) [] 0 (kOut [(.arr 16 (.arr 4 (.int .u64)))]) = mont_Ring_powers' r a := by cases r <;> kernel_rfl
theorem con_mont_Ring_powers : ConOk Try.prog 83 c_mont_Ring_powers := con_ok xok_mont_Ring_powers 8 fn_mont_Ring_powers true [(.ptr (.pair (.arr 4 (.int .u64)) (.pair (.int .u64) (.pair (.arr 4 (.int .u64)) (.arr 4 (.int .u64)))))), (.arr 4 (.int .u64))] [(.arr 16 (.arr 4 (.int .u64)))] _ (by decide) (fun x => by rw [mont_Ring_powers_eq]; exact e_mont_Ring_powers x.1 x.2.1)
noncomputable def c_mont_Ring_Prod_1 : Con := conV true [(.arr 4 (.int .u64)), (.int .i64)] [(.int .i64)] fun x => mont_Ring_Prod_1 x.1 x.2.1
noncomputable def x_mont_Ring_Prod_1 : Cx := { ti := ti, con := [(87, c_nat_Down), (88, c_nat_Up), (86, c_nat_Int)], fns := [], un := 6 }
theorem xok_mont_Ring_Prod_1 : CxOk Try.prog x_mont_Ring_Prod_1 := CxOk.of mixed ti_ok (List.forall_mem_cons.2 ⟨con_nat_Down, List.forall_mem_cons.2 ⟨con_nat_Up, List.forall_mem_cons.2 ⟨con_nat_Int, List.forall_mem_nil _⟩⟩⟩) (List.forall_mem_nil _)
theorem fn_mont_Ring_Prod_1 : FnOk Try.prog 85 Try.f85 [] := ⟨Try.func85, Try.call85, lps_nil⟩
theorem e_mont_Ring_Prod_1 (e : (Nat → Int)) (at_ : Int) : bodyK x_mont_Ring_Prod_1 [] (denF x_mont_Ring_Prod_1 8) Try.f85 (domV [(.arr 4 (.int .u64)), (.int .i64)] (e, at_, ())) [] 0 (kOut [(.int .i64)]) = mont_Ring_Prod_1' e at_ := by kernel_rfl
theorem con_mont_Ring_Prod_1 : ConOk Try.prog 85 c_mont_Ring_Prod_1 := con_ok xok_mont_Ring_Prod_1 8 fn_mont_Ring_Prod_1 true [(.arr 4 (.int .u64)), (.int .i64)] [(.int .i64)] _ (by decide) (fun x => by rw [mont_Ring_Prod_1_eq]; exact e_mont_Ring_Prod_1 x.1 x.2.1)
abbrev S_mont_Ring_Prod_0 : Shape := { sl := [(0, (.pz (.pair (.arr 4 (.int .u64)) (.pair (.int .u64) (.pair (.arr 4 (.int .u64)) (.arr 4 (.int .u64))))))), (2, (.sz (.arr 4 (.int .u64)))), (6, (.c ⟨(.ptr (.arr 4 (.int .u64))), (.rf 0 [])⟩)), (8, (.w 94 (.arr 16 (.arr 4 (.int .u64))) 1)), (9, (.v (.int .i64))), (33, (.sz (.arr 4 (.int .u64)))), (34, (.v (.int .i64))), (35, (.v (.int .i64)))], ob := [(0, (.v (.arr 4 (.int .u64))))], lo := 1, nx := 2 }
abbrev E_mont_Ring_Prod_0 : List Ex := [(.normal, { sl := [(0, (.pz (.pair (.arr 4 (.int .u64)) (.pair (.int .u64) (.pair (.arr 4 (.int .u64)) (.arr 4 (.int .u64))))))), (2, (.sz (.arr 4 (.int .u64)))), (6, (.c ⟨(.ptr (.arr 4 (.int .u64))), (.rf 0 [])⟩)), (8, (.w 94 (.arr 16 (.arr 4 (.int .u64))) 2)), (9, (.v (.int .i64)))], ob := [(0, (.v (.arr 4 (.int .u64))))], lo := 2, nx := 3 })]
noncomputable def L_mont_Ring_Prod_0 : Code := loopIn (bodyOf Try.f45) 0
noncomputable def P_mont_Ring_Prod_0 : Lp := lpOf S_mont_Ring_Prod_0 E_mont_Ring_Prod_0 98 R_mont_Ring_Prod_0
abbrev S_mont_Ring_Prod_6 : Shape := { sl := [(0, (.pz (.pair (.arr 4 (.int .u64)) (.pair (.int .u64) (.pair (.arr 4 (.int .u64)) (.arr 4 (.int .u64))))))), (2, (.sz (.arr 4 (.int .u64)))), (6, (.c ⟨(.ptr (.arr 4 (.int .u64))), (.rf 0 [])⟩)), (8, (.w 94 (.arr 16 (.arr 4 (.int .u64))) 5)), (12, (.c ⟨.fn, (.mk 85 [])⟩)), (13, (.c ⟨(.ptr (.arr 4 (.int .u64))), (.rf 3 [])⟩)), (14, (.v (.int .i64))), (74, (.sz (.arr 4 (.int .u64)))), (75, (.v (.int .i64))), (76, (.v (.int .i64)))], ob := [(0, (.v (.arr 4 (.int .u64)))), (3, (.v (.arr 4 (.int .u64))))], lo := 5, nx := 6 }
abbrev E_mont_Ring_Prod_6 : List Ex := [(.normal, { sl := [(0, (.pz (.pair (.arr 4 (.int .u64)) (.pair (.int .u64) (.pair (.arr 4 (.int .u64)) (.arr 4 (.int .u64))))))), (2, (.sz (.arr 4 (.int .u64)))), (6, (.c ⟨(.ptr (.arr 4 (.int .u64))), (.rf 0 [])⟩)), (8, (.w 94 (.arr 16 (.arr 4 (.int .u64))) 6)), (12, (.c ⟨.fn, (.mk 85 [])⟩)), (13, (.c ⟨(.ptr (.arr 4 (.int .u64))), (.rf 3 [])⟩)), (14, (.v (.int .i64)))], ob := [(0, (.v (.arr 4 (.int .u64)))), (3, (.v (.arr 4 (.int .u64))))], lo := 6, nx := 7 })]
noncomputable def L_mont_Ring_Prod_6 : Code := loopIn (bodyOf Try.f45) 6
noncomputable def P_mont_Ring_Prod_6 : Lp := lpOf S_mont_Ring_Prod_6 E_mont_Ring_Prod_6 98 R_mont_Ring_Prod_6
abbrev S_mont_Ring_Prod_2 : Shape := { sl := [(0, (.pz (.pair (.arr 4 (.int .u64)) (.pair (.int .u64) (.pair (.arr 4 (.int .u64)) (.arr 4 (.int .u64))))))), (2, (.sz (.arr 4 (.int .u64)))), (6, (.c ⟨(.ptr (.arr 4 (.int .u64))), (.rf 0 [])⟩)), (8, (.w 94 (.arr 16 (.arr 4 (.int .u64))) 4)), (12, (.c ⟨.fn, (.mk 85 [])⟩)), (13, (.c ⟨(.ptr (.arr 4 (.int .u64))), (.rf 3 [])⟩)), (14, (.v (.int .i64)))], ob := [(0, (.v (.arr 4 (.int .u64)))), (3, (.v (.arr 4 (.int .u64))))], lo := 4, nx := 5 }
abbrev E_mont_Ring_Prod_2 : List Ex := [(.normal, { sl := [(0, (.pz (.pair (.arr 4 (.int .u64)) (.pair (.int .u64) (.pair (.arr 4 (.int .u64)) (.arr 4 (.int .u64))))))), (6, (.c ⟨(.ptr (.arr 4 (.int .u64))), (.rf 0 [])⟩)), (13, (.c ⟨(.ptr (.arr 4 (.int .u64))), (.rf 3 [])⟩))], ob := [(0, (.v (.arr 4 (.int .u64)))), (3, (.v (.arr 4 (.int .u64))))], lo := 5, nx := 5 })]
noncomputable def L_mont_Ring_Prod_2 : Code := loopIn (bodyOf Try.f45) 2
noncomputable def P_mont_Ring_Prod_2 : Lp := lpOf S_mont_Ring_Prod_2 E_mont_Ring_Prod_2 98 R_mont_Ring_Prod_2
noncomputable def c_mont_Ring_Prod : Con := conV true [(.ptr (.pair (.arr 4 (.int .u64)) (.pair (.int .u64) (.pair (.arr 4 (.int .u64)) (.arr 4 (.int .u64)))))), (.sl (.arr 4 (.int .u64))), (.sl (.arr 4 (.int .u64)))] [(.arr 4 (.int .u64)), (.int .i64)] fun x => mont_Ring_Prod x.1 x.2.1.1 x.2.1.2 x.2.2.1.1 x.2.2.1.2
noncomputable def x_mont_Ring_Prod : Cx := { ti := ti, con := [(80, c_mont_Ring_given), (83, c_mont_Ring_powers), (84, c_nat_Len), (81, c_mont_Ring_redc), (85, c_mont_Ring_Prod_1), (74, c_nat_Of)], fns := [], un := 6 }
theorem xok_mont_Ring_Prod : CxOk Try.prog x_mont_Ring_Prod := CxOk.of mixed ti_ok (List.forall_mem_cons.2 ⟨con_mont_Ring_given, List.forall_mem_cons.2 ⟨con_mont_Ring_powers, List.forall_mem_cons.2 ⟨con_nat_Len, List.forall_mem_cons.2 ⟨con_mont_Ring_redc, List.forall_mem_cons.2 ⟨con_mont_Ring_Prod_1, List.forall_mem_cons.2 ⟨con_nat_Of, List.forall_mem_nil _⟩⟩⟩⟩⟩⟩) (List.forall_mem_nil _)
theorem r_mont_Ring_Prod_0 (x : S_mont_Ring_Prod_0.X) : denC x_mont_Ring_Prod [] (denF x_mont_Ring_Prod 8) L_mont_Ring_Prod_0 (S_mont_Ring_Prod_0.mkS 98 x) (kRound 0 S_mont_Ring_Prod_0 E_mont_Ring_Prod_0) = R_mont_Ring_Prod_0 x := by kernel_rfl
theorem l_mont_Ring_Prod_0 : LpOk Try.prog 0 (.loop L_mont_Ring_Prod_0) P_mont_Ring_Prod_0 := lpOf_ok xok_mont_Ring_Prod 8 (lps_nil) S_mont_Ring_Prod_0 E_mont_Ring_Prod_0 98 R_mont_Ring_Prod_0 (by decide) r_mont_Ring_Prod_0
theorem r_mont_Ring_Prod_6 (x : S_mont_Ring_Prod_6.X) : denC x_mont_Ring_Prod [] (denF x_mont_Ring_Prod 8) L_mont_Ring_Prod_6 (S_mont_Ring_Prod_6.mkS 98 x) (kRound 6 S_mont_Ring_Prod_6 E_mont_Ring_Prod_6) = R_mont_Ring_Prod_6 x := by kernel_rfl
theorem l_mont_Ring_Prod_6 : LpOk Try.prog 6 (.loop L_mont_Ring_Prod_6) P_mont_Ring_Prod_6 := lpOf_ok xok_mont_Ring_Prod 8 (lps_nil) S_mont_Ring_Prod_6 E_mont_Ring_Prod_6 98 R_mont_Ring_Prod_6 (by decide) r_mont_Ring_Prod_6
theorem r_mont_Ring_Prod_2 (x : S_mont_Ring_Prod_2.X) : denC x_mont_Ring_Prod [(6, P_mont_Ring_Prod_6)] (denF x_mont_Ring_Prod 8) L_mont_Ring_Prod_2 (S_mont_Ring_Prod_2.mkS 98 x) (kRound 2 S_mont_Ring_Prod_2 E_mont_Ring_Prod_2) = R_mont_Ring_Prod_2 x := by kernel_rfl
theorem l_mont_Ring_Prod_2 : LpOk Try.prog 2 (.loop L_mont_Ring_Prod_2) P_mont_Ring_Prod_2 := lpOf_ok xok_mont_Ring_Prod 8 (lps_of (by kernel_rfl) (lps_one l_mont_Ring_Prod_6 (by kernel_rfl) (List.forall_mem_nil _))) S_mont_Ring_Prod_2 E_mont_Ring_Prod_2 98 R_mont_Ring_Prod_2 (by decide) r_mont_Ring_Prod_2
theorem fn_mont_Ring_Prod : FnOk Try.prog 45 Try.f45 [(0, P_mont_Ring_Prod_0), (6, P_mont_Ring_Prod_6), (2, P_mont_Ring_Prod_2)] := ⟨Try.func45, Try.call45, lps_of (by kernel_rfl) (lps_one l_mont_Ring_Prod_0 (by kernel_rfl) (lps_one l_mont_Ring_Prod_6 (by kernel_rfl) (lps_one l_mont_Ring_Prod_2 (by kernel_rfl) (List.forall_mem_nil _))))⟩
theorem e_mont_Ring_Prod (r : (Option ((Nat → Int) × (Int × ((Nat → Int) × (Nat → Int)))))) (nbases : Nat) (bases : Nat → (Nat → Int)) (nexps : Nat) (exps : Nat → (Nat → Int)) : bodyK x_mont_Ring_Prod [(0, P_mont_Ring_Prod_0), (6, P_mont_Ring_Prod_6), (2, P_mont_Ring_Prod_2)] (denF x_mont_Ring_Prod 8) Try.f45 (domV [(.ptr (.pair (.arr 4 (.int .u64)) (.pair (.int .u64) (.pair (.arr 4 (.int .u64)) (.arr 4 (.int .u64)))))), (.sl (.arr 4 (.int .u64))), (.sl (.arr 4 (.int .u64)))] (r, (nbases, bases), (nexps, exps), ())) [] 0 (kOut [(.arr 4 (.int .u64)), (.int .i64)]) = mont_Ring_Prod' r nbases bases nexps exps := by cases r <;> kernel_rfl
theorem con_mont_Ring_Prod : ConOk Try.prog 45 c_mont_Ring_Prod := con_ok xok_mont_Ring_Prod 8 fn_mont_Ring_Prod true [(.ptr (.pair (.arr 4 (.int .u64)) (.pair (.int .u64) (.pair (.arr 4 (.int .u64)) (.arr 4 (.int .u64)))))), (.sl (.arr 4 (.int .u64))), (.sl (.arr 4 (.int .u64)))] [(.arr 4 (.int .u64)), (.int .i64)] _ (by decide) (fun x => by rw [mont_Ring_Prod_eq]; exact e_mont_Ring_Prod x.1 x.2.1.1 x.2.1.2 x.2.2.1.1 x.2.2.1.2)
noncomputable def c_mont_Ring_Exp : Con := conV true [(.ptr (.pair (.arr 4 (.int .u64)) (.pair (.int .u64) (.pair (.arr 4 (.int .u64)) (.arr 4 (.int .u64)))))), (.arr 4 (.int .u64)), (.arr 4 (.int .u64))] [(.arr 4 (.int .u64))] fun x => mont_Ring_Exp x.1 x.2.1 x.2.2.1
noncomputable def x_mont_Ring_Exp : Cx := { ti := ti, con := [(45, c_mont_Ring_Prod)], fns := [], un := 6 }
theorem xok_mont_Ring_Exp : CxOk Try.prog x_mont_Ring_Exp := CxOk.of mixed ti_ok (List.forall_mem_cons.2 ⟨con_mont_Ring_Prod, List.forall_mem_nil _⟩) (List.forall_mem_nil _)
theorem fn_mont_Ring_Exp : FnOk Try.prog 42 Try.f42 [] := ⟨Try.func42, Try.call42, lps_nil⟩
theorem e_mont_Ring_Exp (r : (Option ((Nat → Int) × (Int × ((Nat → Int) × (Nat → Int)))))) (a : (Nat → Int)) (e : (Nat → Int)) : bodyK x_mont_Ring_Exp [] (denF x_mont_Ring_Exp 8) Try.f42 (domV [(.ptr (.pair (.arr 4 (.int .u64)) (.pair (.int .u64) (.pair (.arr 4 (.int .u64)) (.arr 4 (.int .u64)))))), (.arr 4 (.int .u64)), (.arr 4 (.int .u64))] (r, a, e, ())) [] 0 (kOut [(.arr 4 (.int .u64))]) = mont_Ring_Exp' r a e := by cases r <;> kernel_rfl
theorem con_mont_Ring_Exp : ConOk Try.prog 42 c_mont_Ring_Exp := con_ok xok_mont_Ring_Exp 8 fn_mont_Ring_Exp true [(.ptr (.pair (.arr 4 (.int .u64)) (.pair (.int .u64) (.pair (.arr 4 (.int .u64)) (.arr 4 (.int .u64)))))), (.arr 4 (.int .u64)), (.arr 4 (.int .u64))] [(.arr 4 (.int .u64))] _ (by decide) (fun x => by rw [mont_Ring_Exp_eq]; exact e_mont_Ring_Exp x.1 x.2.1 x.2.2.1)
noncomputable def c_mont_Ring_Mul : Con := conV true [(.ptr (.pair (.arr 4 (.int .u64)) (.pair (.int .u64) (.pair (.arr 4 (.int .u64)) (.arr 4 (.int .u64)))))), (.arr 4 (.int .u64)), (.arr 4 (.int .u64))] [(.arr 4 (.int .u64))] fun x => mont_Ring_Mul x.1 x.2.1 x.2.2.1
noncomputable def x_mont_Ring_Mul : Cx := { ti := ti, con := [(80, c_mont_Ring_given), (48, c_mont_Ring_Form), (82, c_mont_Ring_low), (81, c_mont_Ring_redc)], fns := [], un := 6 }
theorem xok_mont_Ring_Mul : CxOk Try.prog x_mont_Ring_Mul := CxOk.of mixed ti_ok (List.forall_mem_cons.2 ⟨con_mont_Ring_given, List.forall_mem_cons.2 ⟨con_mont_Ring_Form, List.forall_mem_cons.2 ⟨con_mont_Ring_low, List.forall_mem_cons.2 ⟨con_mont_Ring_redc, List.forall_mem_nil _⟩⟩⟩⟩) (List.forall_mem_nil _)
theorem fn_mont_Ring_Mul : FnOk Try.prog 44 Try.f44 [] := ⟨Try.func44, Try.call44, lps_nil⟩
theorem e_mont_Ring_Mul (r : (Option ((Nat → Int) × (Int × ((Nat → Int) × (Nat → Int)))))) (a : (Nat → Int)) (b : (Nat → Int)) : bodyK x_mont_Ring_Mul [] (denF x_mont_Ring_Mul 8) Try.f44 (domV [(.ptr (.pair (.arr 4 (.int .u64)) (.pair (.int .u64) (.pair (.arr 4 (.int .u64)) (.arr 4 (.int .u64)))))), (.arr 4 (.int .u64)), (.arr 4 (.int .u64))] (r, a, b, ())) [] 0 (kOut [(.arr 4 (.int .u64))]) = mont_Ring_Mul' r a b := by cases r <;> kernel_rfl
theorem con_mont_Ring_Mul : ConOk Try.prog 44 c_mont_Ring_Mul := con_ok xok_mont_Ring_Mul 8 fn_mont_Ring_Mul true [(.ptr (.pair (.arr 4 (.int .u64)) (.pair (.int .u64) (.pair (.arr 4 (.int .u64)) (.arr 4 (.int .u64)))))), (.arr 4 (.int .u64)), (.arr 4 (.int .u64))] [(.arr 4 (.int .u64))] _ (by decide) (fun x => by rw [mont_Ring_Mul_eq]; exact e_mont_Ring_Mul x.1 x.2.1 x.2.2.1)
noncomputable def c_mont_Ring_Plain : Con := conV true [(.ptr (.pair (.arr 4 (.int .u64)) (.pair (.int .u64) (.pair (.arr 4 (.int .u64)) (.arr 4 (.int .u64)))))), (.arr 4 (.int .u64))] [(.arr 4 (.int .u64))] fun x => mont_Ring_Plain x.1 x.2.1
noncomputable def x_mont_Ring_Plain : Cx := { ti := ti, con := [(80, c_mont_Ring_given), (82, c_mont_Ring_low), (74, c_nat_Of), (81, c_mont_Ring_redc)], fns := [], un := 6 }
theorem xok_mont_Ring_Plain : CxOk Try.prog x_mont_Ring_Plain := CxOk.of mixed ti_ok (List.forall_mem_cons.2 ⟨con_mont_Ring_given, List.forall_mem_cons.2 ⟨con_mont_Ring_low, List.forall_mem_cons.2 ⟨con_nat_Of, List.forall_mem_cons.2 ⟨con_mont_Ring_redc, List.forall_mem_nil _⟩⟩⟩⟩) (List.forall_mem_nil _)
theorem fn_mont_Ring_Plain : FnOk Try.prog 50 Try.f50 [] := ⟨Try.func50, Try.call50, lps_nil⟩
theorem e_mont_Ring_Plain (r : (Option ((Nat → Int) × (Int × ((Nat → Int) × (Nat → Int)))))) (a : (Nat → Int)) : bodyK x_mont_Ring_Plain [] (denF x_mont_Ring_Plain 8) Try.f50 (domV [(.ptr (.pair (.arr 4 (.int .u64)) (.pair (.int .u64) (.pair (.arr 4 (.int .u64)) (.arr 4 (.int .u64)))))), (.arr 4 (.int .u64))] (r, a, ())) [] 0 (kOut [(.arr 4 (.int .u64))]) = mont_Ring_Plain' r a := by cases r <;> kernel_rfl
theorem con_mont_Ring_Plain : ConOk Try.prog 50 c_mont_Ring_Plain := con_ok xok_mont_Ring_Plain 8 fn_mont_Ring_Plain true [(.ptr (.pair (.arr 4 (.int .u64)) (.pair (.int .u64) (.pair (.arr 4 (.int .u64)) (.arr 4 (.int .u64)))))), (.arr 4 (.int .u64))] [(.arr 4 (.int .u64))] _ (by decide) (fun x => by rw [mont_Ring_Plain_eq]; exact e_mont_Ring_Plain x.1 x.2.1)
noncomputable def c_mont_Ring_M : Con := conV true [(.ptr (.pair (.arr 4 (.int .u64)) (.pair (.int .u64) (.pair (.arr 4 (.int .u64)) (.arr 4 (.int .u64))))))] [(.arr 4 (.int .u64))] fun x => mont_Ring_M x.1
noncomputable def x_mont_Ring_M : Cx := { ti := ti, con := [(80, c_mont_Ring_given)], fns := [], un := 6 }
theorem xok_mont_Ring_M : CxOk Try.prog x_mont_Ring_M := CxOk.of mixed ti_ok (List.forall_mem_cons.2 ⟨con_mont_Ring_given, List.forall_mem_nil _⟩) (List.forall_mem_nil _)
theorem fn_mont_Ring_M : FnOk Try.prog 46 Try.f46 [] := ⟨Try.func46, Try.call46, lps_nil⟩
theorem e_mont_Ring_M (r : (Option ((Nat → Int) × (Int × ((Nat → Int) × (Nat → Int)))))) : bodyK x_mont_Ring_M [] (denF x_mont_Ring_M 8) Try.f46 (domV [(.ptr (.pair (.arr 4 (.int .u64)) (.pair (.int .u64) (.pair (.arr 4 (.int .u64)) (.arr 4 (.int .u64))))))] (r, ())) [] 0 (kOut [(.arr 4 (.int .u64))]) = mont_Ring_M' r := by cases r <;> kernel_rfl
theorem con_mont_Ring_M : ConOk Try.prog 46 c_mont_Ring_M := con_ok xok_mont_Ring_M 8 fn_mont_Ring_M true [(.ptr (.pair (.arr 4 (.int .u64)) (.pair (.int .u64) (.pair (.arr 4 (.int .u64)) (.arr 4 (.int .u64))))))] [(.arr 4 (.int .u64))] _ (by decide) (fun x => by rw [mont_Ring_M_eq]; exact e_mont_Ring_M x.1)
noncomputable def c_mont_Ring_In : Con := conV true [(.ptr (.pair (.arr 4 (.int .u64)) (.pair (.int .u64) (.pair (.arr 4 (.int .u64)) (.arr 4 (.int .u64)))))), (.arr 4 (.int .u64))] [.bool] fun x => mont_Ring_In x.1 x.2.1
noncomputable def x_mont_Ring_In : Cx := { ti := ti, con := [(80, c_mont_Ring_given), (73, c_nat_Cmp)], fns := [], un := 6 }
theorem xok_mont_Ring_In : CxOk Try.prog x_mont_Ring_In := CxOk.of mixed ti_ok (List.forall_mem_cons.2 ⟨con_mont_Ring_given, List.forall_mem_cons.2 ⟨con_nat_Cmp, List.forall_mem_nil _⟩⟩) (List.forall_mem_nil _)
theorem fn_mont_Ring_In : FnOk Try.prog 47 Try.f47 [] := ⟨Try.func47, Try.call47, lps_nil⟩
theorem e_mont_Ring_In (r : (Option ((Nat → Int) × (Int × ((Nat → Int) × (Nat → Int)))))) (a : (Nat → Int)) : bodyK x_mont_Ring_In [] (denF x_mont_Ring_In 8) Try.f47 (domV [(.ptr (.pair (.arr 4 (.int .u64)) (.pair (.int .u64) (.pair (.arr 4 (.int .u64)) (.arr 4 (.int .u64)))))), (.arr 4 (.int .u64))] (r, a, ())) [] 0 (kOut [.bool]) = mont_Ring_In' r a := by cases r <;> kernel_rfl
theorem con_mont_Ring_In : ConOk Try.prog 47 c_mont_Ring_In := con_ok xok_mont_Ring_In 8 fn_mont_Ring_In true [(.ptr (.pair (.arr 4 (.int .u64)) (.pair (.int .u64) (.pair (.arr 4 (.int .u64)) (.arr 4 (.int .u64)))))), (.arr 4 (.int .u64))] [.bool] _ (by decide) (fun x => by rw [mont_Ring_In_eq]; exact e_mont_Ring_In x.1 x.2.1)
end Go.Proofs.Ytpmejfefbepjlaa

set_option linter.unusedVariables false
set_option linter.unusedSimpArgs false
set_option maxRecDepth 100000
set_option maxHeartbeats 0
namespace Go.Pl
end Go.Pl
open Go Go.Den Go.Pl
namespace Go.Proofs.Ytpmejfefbepjlaa
noncomputable def c_r03_May : Con := conV true [(.arr 4 (.int .u64))] [.bool] fun x => r03_May x.1
noncomputable def x_r03_May : Cx := { ti := ti, con := [(75, c_r01_Int)], fns := [], un := 6 }
theorem xok_r03_May : CxOk Try.prog x_r03_May := CxOk.of mixed ti_ok (List.forall_mem_cons.2 ⟨con_r01_Int, List.forall_mem_nil _⟩) (List.forall_mem_nil _)
theorem fn_r03_May : FnOk Try.prog 39 Try.f39 [] := ⟨Try.func39, Try.call39, lps_nil⟩
theorem e_r03_May (m : (Nat → Int)) : bodyK x_r03_May [] (denF x_r03_May 8) Try.f39 (domV [(.arr 4 (.int .u64))] (m, ())) [] 0 (kOut [.bool]) = r03_May' m := by kernel_rfl
theorem con_r03_May : ConOk Try.prog 39 c_r03_May := con_ok xok_r03_May 8 fn_r03_May true [(.arr 4 (.int .u64))] [.bool] _ (by decide) (fun x => by rw [r03_May_eq]; exact e_r03_May x.1)
noncomputable def c_r03_Times : Con := conV true [(.int .i64), (.int .i64), (.int .i64)] [(.int .i64)] fun x => r03_Times x.1 x.2.1 x.2.2.1
noncomputable def x_r03_Times : Cx := { ti := ti, con := [(65, c_bits_Mul64), (100, c_bits_Div64)], fns := [], un := 6 }
theorem xok_r03_Times : CxOk Try.prog x_r03_Times := CxOk.of mixed ti_ok (List.forall_mem_cons.2 ⟨con_bits_Mul64, List.forall_mem_cons.2 ⟨con_bits_Div64, List.forall_mem_nil _⟩⟩) (List.forall_mem_nil _)
theorem fn_r03_Times : FnOk Try.prog 97 Try.f97 [] := ⟨Try.func97, Try.call97, lps_nil⟩
theorem e_r03_Times (a : Int) (b : Int) (m : Int) : bodyK x_r03_Times [] (denF x_r03_Times 8) Try.f97 (domV [(.int .i64), (.int .i64), (.int .i64)] (a, b, m, ())) [] 0 (kOut [(.int .i64)]) = r03_Times' a b m := by kernel_rfl
theorem con_r03_Times : ConOk Try.prog 97 c_r03_Times := con_ok xok_r03_Times 8 fn_r03_Times true [(.int .i64), (.int .i64), (.int .i64)] [(.int .i64)] _ (by decide) (fun x => by rw [r03_Times_eq]; exact e_r03_Times x.1 x.2.1 x.2.2.1)
abbrev S_r03_Power_0 : Shape := { sl := [(0, (.v (.int .i64))), (2, (.v (.int .i64))), (4, (.c ⟨(.ptr (.arr 4 (.int .u64))), (.rf 0 [])⟩)), (7, (.v (.int .i64))), (8, (.v (.int .i64)))], ob := [(0, (.v (.arr 4 (.int .u64))))], lo := 1, nx := 1 }
abbrev E_r03_Power_0 : List Ex := [(.normal, { sl := [(7, (.v (.int .i64)))], ob := [], lo := 1, nx := 1 })]
noncomputable def L_r03_Power_0 : Code := loopIn (bodyOf Try.f78) 0
noncomputable def P_r03_Power_0 : Lp := lpOf S_r03_Power_0 E_r03_Power_0 31 R_r03_Power_0
noncomputable def c_r03_Power : Con := conV true [(.int .i64), (.arr 4 (.int .u64)), (.int .i64)] [(.int .i64)] fun x => r03_Power x.1 x.2.1 x.2.2.1
noncomputable def x_r03_Power : Cx := { ti := ti, con := [(57, c_r01_Len), (97, c_r03_Times), (79, c_r01_Bit)], fns := [], un := 6 }
theorem xok_r03_Power : CxOk Try.prog x_r03_Power := CxOk.of mixed ti_ok (List.forall_mem_cons.2 ⟨con_r01_Len, List.forall_mem_cons.2 ⟨con_r03_Times, List.forall_mem_cons.2 ⟨con_r01_Bit, List.forall_mem_nil _⟩⟩⟩) (List.forall_mem_nil _)
theorem r_r03_Power_0 (x : S_r03_Power_0.X) : denC x_r03_Power [] (denF x_r03_Power 8) L_r03_Power_0 (S_r03_Power_0.mkS 31 x) (kRound 0 S_r03_Power_0 E_r03_Power_0) = R_r03_Power_0 x := by kernel_rfl
theorem l_r03_Power_0 : LpOk Try.prog 0 (.loop L_r03_Power_0) P_r03_Power_0 := lpOf_ok xok_r03_Power 8 (lps_nil) S_r03_Power_0 E_r03_Power_0 31 R_r03_Power_0 (by decide) r_r03_Power_0
theorem fn_r03_Power : FnOk Try.prog 78 Try.f78 [(0, P_r03_Power_0)] := ⟨Try.func78, Try.call78, lps_of (by kernel_rfl) (lps_one l_r03_Power_0 (by kernel_rfl) (List.forall_mem_nil _))⟩
theorem e_r03_Power (a : Int) (e : (Nat → Int)) (m : Int) : bodyK x_r03_Power [(0, P_r03_Power_0)] (denF x_r03_Power 8) Try.f78 (domV [(.int .i64), (.arr 4 (.int .u64)), (.int .i64)] (a, e, m, ())) [] 0 (kOut [(.int .i64)]) = r03_Power' a e m := by kernel_rfl
theorem con_r03_Power : ConOk Try.prog 78 c_r03_Power := con_ok xok_r03_Power 8 fn_r03_Power true [(.int .i64), (.arr 4 (.int .u64)), (.int .i64)] [(.int .i64)] _ (by decide) (fun x => by rw [r03_Power_eq]; exact e_r03_Power x.1 x.2.1 x.2.2.1)
abbrev S_r03_Exp_0 : Shape := { sl := [(3, (.c ⟨(.ptr (.arr 4 (.int .u64))), (.rf 0 [])⟩)), (4, (.c ⟨(.ptr (.arr 4 (.int .u64))), (.rf 1 [])⟩)), (5, (.c ⟨(.ptr (.arr 4 (.int .u64))), (.rf 2 [])⟩)), (6, (.c ⟨(.ptr (.arr 4 (.int .u64))), (.rf 3 [])⟩)), (13, (.c ⟨(.ptr (.arr 4 (.int .u64))), (.rf 4 [])⟩)), (15, (.v (.int .i64)))], ob := [(0, (.v (.arr 4 (.int .u64)))), (1, (.v (.arr 4 (.int .u64)))), (2, (.v (.arr 4 (.int .u64)))), (3, (.v (.arr 4 (.int .u64)))), (4, (.v (.arr 4 (.int .u64))))], lo := 5, nx := 5 }
abbrev E_r03_Exp_0 : List Ex := [(.normal, { sl := [(6, (.c ⟨(.ptr (.arr 4 (.int .u64))), (.rf 3 [])⟩)), (13, (.c ⟨(.ptr (.arr 4 (.int .u64))), (.rf 4 [])⟩))], ob := [(3, (.v (.arr 4 (.int .u64)))), (4, (.v (.arr 4 (.int .u64))))], lo := 5, nx := 5 })]
noncomputable def L_r03_Exp_0 : Code := loopIn (bodyOf Try.f43) 0
noncomputable def P_r03_Exp_0 : Lp := lpOf S_r03_Exp_0 E_r03_Exp_0 86 R_r03_Exp_0
noncomputable def c_r03_Exp : Con := conV true [(.arr 4 (.int .u64)), (.arr 4 (.int .u64)), (.arr 4 (.int .u64))] [(.arr 4 (.int .u64))] fun x => r03_Exp x.1 x.2.1 x.2.2.1
noncomputable def x_r03_Exp : Cx := { ti := ti, con := [(60, c_r01_Low), (21, c_r02_Rem), (78, c_r03_Power), (75, c_r01_Int), (57, c_r01_Len), (37, c_r02_MulMod), (79, c_r01_Bit)], fns := [], un := 6 }
theorem xok_r03_Exp : CxOk Try.prog x_r03_Exp := CxOk.of mixed ti_ok (List.forall_mem_cons.2 ⟨con_r01_Low, List.forall_mem_cons.2 ⟨con_r02_Rem, List.forall_mem_cons.2 ⟨con_r03_Power, List.forall_mem_cons.2 ⟨con_r01_Int, List.forall_mem_cons.2 ⟨con_r01_Len, List.forall_mem_cons.2 ⟨con_r02_MulMod, List.forall_mem_cons.2 ⟨con_r01_Bit, List.forall_mem_nil _⟩⟩⟩⟩⟩⟩⟩) (List.forall_mem_nil _)
theorem r_r03_Exp_0 (x : S_r03_Exp_0.X) : denC x_r03_Exp [] (denF x_r03_Exp 8) L_r03_Exp_0 (S_r03_Exp_0.mkS 86 x) (kRound 0 S_r03_Exp_0 E_r03_Exp_0) = R_r03_Exp_0 x := by kernel_rfl
theorem l_r03_Exp_0 : LpOk Try.prog 0 (.loop L_r03_Exp_0) P_r03_Exp_0 := lpOf_ok xok_r03_Exp 8 (lps_nil) S_r03_Exp_0 E_r03_Exp_0 86 R_r03_Exp_0 (by decide) r_r03_Exp_0
theorem fn_r03_Exp : FnOk Try.prog 43 Try.f43 [(0, P_r03_Exp_0)] := ⟨Try.func43, Try.call43, lps_of (by kernel_rfl) (lps_one l_r03_Exp_0 (by kernel_rfl) (List.forall_mem_nil _))⟩
theorem e_r03_Exp (a : (Nat → Int)) (e : (Nat → Int)) (m : (Nat → Int)) : bodyK x_r03_Exp [(0, P_r03_Exp_0)] (denF x_r03_Exp 8) Try.f43 (domV [(.arr 4 (.int .u64)), (.arr 4 (.int .u64)), (.arr 4 (.int .u64))] (a, e, m, ())) [] 0 (kOut [(.arr 4 (.int .u64))]) = r03_Exp' a e m := by kernel_rfl
theorem con_r03_Exp : ConOk Try.prog 43 c_r03_Exp := con_ok xok_r03_Exp 8 fn_r03_Exp true [(.arr 4 (.int .u64)), (.arr 4 (.int .u64)), (.arr 4 (.int .u64))] [(.arr 4 (.int .u64))] _ (by decide) (fun x => by rw [r03_Exp_eq]; exact e_r03_Exp x.1 x.2.1 x.2.2.1)
noncomputable def c_r03_Form : Con := conV true [(.arr 4 (.int .u64)), (.arr 4 (.int .u64))] [(.arr 4 (.int .u64))] fun x => r03_Form x.1 x.2.1
noncomputable def x_r03_Form : Cx := { ti := ti, con := [(21, c_r02_Rem)], fns := [], un := 6 }
theorem xok_r03_Form : CxOk Try.prog x_r03_Form := CxOk.of mixed ti_ok (List.forall_mem_cons.2 ⟨con_r02_Rem, List.forall_mem_nil _⟩) (List.forall_mem_nil _)
theorem fn_r03_Form : FnOk Try.prog 49 Try.f49 [] := ⟨Try.func49, Try.call49, lps_nil⟩
theorem e_r03_Form (a : (Nat → Int)) (m : (Nat → Int)) : bodyK x_r03_Form [] (denF x_r03_Form 8) Try.f49 (domV [(.arr 4 (.int .u64)), (.arr 4 (.int .u64))] (a, m, ())) [] 0 (kOut [(.arr 4 (.int .u64))]) = r03_Form' a m := by kernel_rfl
theorem con_r03_Form : ConOk Try.prog 49 c_r03_Form := con_ok xok_r03_Form 8 fn_r03_Form true [(.arr 4 (.int .u64)), (.arr 4 (.int .u64))] [(.arr 4 (.int .u64))] _ (by decide) (fun x => by rw [r03_Form_eq]; exact e_r03_Form x.1 x.2.1)
end Go.Proofs.Ytpmejfefbepjlaa

set_option linter.unusedVariables false
set_option linter.unusedSimpArgs false
set_option maxRecDepth 100000
set_option maxHeartbeats 0
namespace Go.Pl
end Go.Pl
open Go Go.Den Go.Pl
namespace Go.Proofs.Ytpmejfefbepjlaa
noncomputable def c_l03_of : Con := conV true [(.int .i64)] [(.arr 4 (.int .u64))] fun x => l03_of x.1
noncomputable def x_l03_of : Cx := { ti := ti, con := [(75, c_r01_Int)], fns := [], un := 6 }
theorem xok_l03_of : CxOk Try.prog x_l03_of := CxOk.of mixed ti_ok (List.forall_mem_cons.2 ⟨con_r01_Int, List.forall_mem_nil _⟩) (List.forall_mem_nil _)
theorem fn_l03_of : FnOk Try.prog 41 Try.f41 [] := ⟨Try.func41, Try.call41, lps_nil⟩
theorem e_l03_of (n : Int) : bodyK x_l03_of [] (denF x_l03_of 8) Try.f41 (domV [(.int .i64)] (n, ())) [] 0 (kOut [(.arr 4 (.int .u64))]) = l03_of' n := by kernel_rfl
theorem con_l03_of : ConOk Try.prog 41 c_l03_of := con_ok xok_l03_of 8 fn_l03_of true [(.int .i64)] [(.arr 4 (.int .u64))] _ (by decide) (fun x => by rw [l03_of_eq]; exact e_l03_of x.1)
noncomputable def c_l03_awake : Con := conV true [] [.bool] fun x => l03_awake 
noncomputable def x_l03_awake : Cx := { ti := ti, con := [(41, c_l03_of), (38, c_mont_New), (45, c_mont_Ring_Prod), (42, c_mont_Ring_Exp), (44, c_mont_Ring_Mul), (48, c_mont_Ring_Form), (50, c_mont_Ring_Plain)], fns := [], un := 6 }
theorem xok_l03_awake : CxOk Try.prog x_l03_awake := CxOk.of mixed ti_ok (List.forall_mem_cons.2 ⟨con_l03_of, List.forall_mem_cons.2 ⟨con_mont_New, List.forall_mem_cons.2 ⟨con_mont_Ring_Prod, List.forall_mem_cons.2 ⟨con_mont_Ring_Exp, List.forall_mem_cons.2 ⟨con_mont_Ring_Mul, List.forall_mem_cons.2 ⟨con_mont_Ring_Form, List.forall_mem_cons.2 ⟨con_mont_Ring_Plain, List.forall_mem_nil _⟩⟩⟩⟩⟩⟩⟩) (List.forall_mem_nil _)
theorem fn_l03_awake : FnOk Try.prog 40 Try.f40 [] := ⟨Try.func40, Try.call40, lps_nil⟩
theorem e_l03_awake  : bodyK x_l03_awake [] (denF x_l03_awake 8) Try.f40 (domV [] (())) [] 0 (kOut [.bool]) = l03_awake'  := by kernel_rfl
theorem con_l03_awake : ConOk Try.prog 40 c_l03_awake := con_ok xok_l03_awake 8 fn_l03_awake true [] [.bool] _ (by decide) (fun x => by rw [l03_awake_eq]; exact e_l03_awake )
noncomputable def x_l03_MontExps : Cx := { ti := ti, con := [(38, c_mont_New), (39, c_r03_May), (41, c_l03_of), (42, c_mont_Ring_Exp), (43, c_r03_Exp), (40, c_l03_awake)], fns := [], un := 6 }
theorem xok_l03_MontExps : CxOk Try.prog x_l03_MontExps := CxOk.of mixed ti_ok (List.forall_mem_cons.2 ⟨con_mont_New, List.forall_mem_cons.2 ⟨con_r03_May, List.forall_mem_cons.2 ⟨con_l03_of, List.forall_mem_cons.2 ⟨con_mont_Ring_Exp, List.forall_mem_cons.2 ⟨con_r03_Exp, List.forall_mem_cons.2 ⟨con_l03_awake, List.forall_mem_nil _⟩⟩⟩⟩⟩⟩) (List.forall_mem_nil _)
theorem fn_l03_MontExps : FnOk Try.prog 8 Try.f8 [] := ⟨Try.func8, Try.call8, lps_nil⟩
theorem e_l03_MontExps (a : (Nat → Int)) (m : (Nat → Int)) (e : Int) : bodyK x_l03_MontExps [] (denF x_l03_MontExps 8) Try.f8 (domV [(.arr 4 (.int .u64)), (.arr 4 (.int .u64)), (.int .i64)] (a, m, e, ())) [] 0 kTrue = l03_MontExps' a m e := by kernel_rfl
noncomputable def x_l03_MontAdds : Cx := { ti := ti, con := [(38, c_mont_New), (39, c_r03_May), (25, c_r01_Add), (19, c_r02_Mul), (42, c_mont_Ring_Exp), (44, c_mont_Ring_Mul), (40, c_l03_awake)], fns := [], un := 6 }
theorem xok_l03_MontAdds : CxOk Try.prog x_l03_MontAdds := CxOk.of mixed ti_ok (List.forall_mem_cons.2 ⟨con_mont_New, List.forall_mem_cons.2 ⟨con_r03_May, List.forall_mem_cons.2 ⟨con_r01_Add, List.forall_mem_cons.2 ⟨con_r02_Mul, List.forall_mem_cons.2 ⟨con_mont_Ring_Exp, List.forall_mem_cons.2 ⟨con_mont_Ring_Mul, List.forall_mem_cons.2 ⟨con_l03_awake, List.forall_mem_nil _⟩⟩⟩⟩⟩⟩⟩) (List.forall_mem_nil _)
theorem fn_l03_MontAdds : FnOk Try.prog 9 Try.f9 [] := ⟨Try.func9, Try.call9, lps_nil⟩
theorem e_l03_MontAdds (a : (Nat → Int)) (m : (Nat → Int)) (exps : (Nat → (Nat → Int))) : bodyK x_l03_MontAdds [] (denF x_l03_MontAdds 8) Try.f9 (domV [(.arr 4 (.int .u64)), (.arr 4 (.int .u64)), (.arr 2 (.arr 2 (.int .u64)))] (a, m, exps, ())) [] 0 kTrue = l03_MontAdds' a m exps := by kernel_rfl
abbrev S_l03_MontProds_0 : Shape := { sl := [(1, (.sz (.arr 4 (.int .u64)))), (2, (.sz (.arr 4 (.int .u64)))), (7, (.pz (.pair (.arr 4 (.int .u64)) (.pair (.int .u64) (.pair (.arr 4 (.int .u64)) (.arr 4 (.int .u64))))))), (9, (.c ⟨(.ptr (.arr 4 (.int .u64))), (.rf 1 [])⟩)), (10, (.v (.int .i64))), (11, (.c ⟨(.ptr (.arr 4 (.int .u64))), (.rf 2 [])⟩)), (12, (.v (.int .i64)))], ob := [(1, (.v (.arr 4 (.int .u64)))), (2, (.v (.arr 4 (.int .u64))))], lo := 3, nx := 3 }
abbrev E_l03_MontProds_0 : List Ex := [(.normal, { sl := [(9, (.c ⟨(.ptr (.arr 4 (.int .u64))), (.rf 1 [])⟩)), (10, (.v (.int .i64))), (11, (.c ⟨(.ptr (.arr 4 (.int .u64))), (.rf 2 [])⟩))], ob := [(1, (.v (.arr 4 (.int .u64)))), (2, (.v (.arr 4 (.int .u64))))], lo := 3, nx := 3 })]
noncomputable def L_l03_MontProds_0 : Code := loopIn (bodyOf Try.f10) 0
noncomputable def P_l03_MontProds_0 : Lp := lpOf S_l03_MontProds_0 E_l03_MontProds_0 100 R_l03_MontProds_0
noncomputable def x_l03_MontProds : Cx := { ti := ti, con := [(38, c_mont_New), (39, c_r03_May), (40, c_l03_awake), (45, c_mont_Ring_Prod), (41, c_l03_of), (44, c_mont_Ring_Mul), (42, c_mont_Ring_Exp)], fns := [], un := 6 }
theorem xok_l03_MontProds : CxOk Try.prog x_l03_MontProds := CxOk.of mixed ti_ok (List.forall_mem_cons.2 ⟨con_mont_New, List.forall_mem_cons.2 ⟨con_r03_May, List.forall_mem_cons.2 ⟨con_l03_awake, List.forall_mem_cons.2 ⟨con_mont_Ring_Prod, List.forall_mem_cons.2 ⟨con_l03_of, List.forall_mem_cons.2 ⟨con_mont_Ring_Mul, List.forall_mem_cons.2 ⟨con_mont_Ring_Exp, List.forall_mem_nil _⟩⟩⟩⟩⟩⟩⟩) (List.forall_mem_nil _)
theorem r_l03_MontProds_0 (x : S_l03_MontProds_0.X) : denC x_l03_MontProds [] (denF x_l03_MontProds 8) L_l03_MontProds_0 (S_l03_MontProds_0.mkS 100 x) (kRound 0 S_l03_MontProds_0 E_l03_MontProds_0) = R_l03_MontProds_0 x := by kernel_rfl
theorem l_l03_MontProds_0 : LpOk Try.prog 0 (.loop L_l03_MontProds_0) P_l03_MontProds_0 := lpOf_ok xok_l03_MontProds 8 (lps_nil) S_l03_MontProds_0 E_l03_MontProds_0 100 R_l03_MontProds_0 (by decide) r_l03_MontProds_0
theorem fn_l03_MontProds : FnOk Try.prog 10 Try.f10 [(0, P_l03_MontProds_0)] := ⟨Try.func10, Try.call10, lps_of (by kernel_rfl) (lps_one l_l03_MontProds_0 (by kernel_rfl) (List.forall_mem_nil _))⟩
theorem e_l03_MontProds (m : (Nat → Int)) (nbases : Nat) (bases : Nat → (Nat → Int)) (nexps : Nat) (exps : Nat → (Nat → Int)) : bodyK x_l03_MontProds [(0, P_l03_MontProds_0)] (denF x_l03_MontProds 8) Try.f10 (domV [(.arr 4 (.int .u64)), (.sl (.arr 4 (.int .u64))), (.sl (.arr 4 (.int .u64)))] (m, (nbases, bases), (nexps, exps), ())) [] 0 kTrue = l03_MontProds' m nbases bases nexps exps := by kernel_rfl
noncomputable def x_l03_MontMuls : Cx := { ti := ti, con := [(38, c_mont_New), (39, c_r03_May), (37, c_r02_MulMod), (21, c_r02_Rem), (44, c_mont_Ring_Mul), (46, c_mont_Ring_M), (47, c_mont_Ring_In), (26, c_r01_Cmp), (48, c_mont_Ring_Form), (49, c_r03_Form), (50, c_mont_Ring_Plain), (40, c_l03_awake)], fns := [], un := 6 }
theorem xok_l03_MontMuls : CxOk Try.prog x_l03_MontMuls := CxOk.of mixed ti_ok (List.forall_mem_cons.2 ⟨con_mont_New, List.forall_mem_cons.2 ⟨con_r03_May, List.forall_mem_cons.2 ⟨con_r02_MulMod, List.forall_mem_cons.2 ⟨con_r02_Rem, List.forall_mem_cons.2 ⟨con_mont_Ring_Mul, List.forall_mem_cons.2 ⟨con_mont_Ring_M, List.forall_mem_cons.2 ⟨con_mont_Ring_In, List.forall_mem_cons.2 ⟨con_r01_Cmp, List.forall_mem_cons.2 ⟨con_mont_Ring_Form, List.forall_mem_cons.2 ⟨con_r03_Form, List.forall_mem_cons.2 ⟨con_mont_Ring_Plain, List.forall_mem_cons.2 ⟨con_l03_awake, List.forall_mem_nil _⟩⟩⟩⟩⟩⟩⟩⟩⟩⟩⟩⟩) (List.forall_mem_nil _)
theorem fn_l03_MontMuls : FnOk Try.prog 11 Try.f11 [] := ⟨Try.func11, Try.call11, lps_nil⟩
theorem e_l03_MontMuls (a : (Nat → Int)) (b : (Nat → Int)) (m : (Nat → Int)) : bodyK x_l03_MontMuls [] (denF x_l03_MontMuls 8) Try.f11 (domV [(.arr 4 (.int .u64)), (.arr 4 (.int .u64)), (.arr 4 (.int .u64))] (a, b, m, ())) [] 0 kTrue = l03_MontMuls' a b m := by kernel_rfl
noncomputable def x_l03_MontNobody : Cx := { ti := ti, con := [(45, c_mont_Ring_Prod), (46, c_mont_Ring_M), (47, c_mont_Ring_In), (44, c_mont_Ring_Mul), (42, c_mont_Ring_Exp), (48, c_mont_Ring_Form), (50, c_mont_Ring_Plain), (41, c_l03_of), (38, c_mont_New), (40, c_l03_awake)], fns := [], un := 6 }
theorem xok_l03_MontNobody : CxOk Try.prog x_l03_MontNobody := CxOk.of mixed ti_ok (List.forall_mem_cons.2 ⟨con_mont_Ring_Prod, List.forall_mem_cons.2 ⟨con_mont_Ring_M, List.forall_mem_cons.2 ⟨con_mont_Ring_In, List.forall_mem_cons.2 ⟨con_mont_Ring_Mul, List.forall_mem_cons.2 ⟨con_mont_Ring_Exp, List.forall_mem_cons.2 ⟨con_mont_Ring_Form, List.forall_mem_cons.2 ⟨con_mont_Ring_Plain, List.forall_mem_cons.2 ⟨con_l03_of, List.forall_mem_cons.2 ⟨con_mont_New, List.forall_mem_cons.2 ⟨con_l03_awake, List.forall_mem_nil _⟩⟩⟩⟩⟩⟩⟩⟩⟩⟩) (List.forall_mem_nil _)
theorem fn_l03_MontNobody : FnOk Try.prog 12 Try.f12 [] := ⟨Try.func12, Try.call12, lps_nil⟩
theorem e_l03_MontNobody (a : (Nat → Int)) (b : (Nat → Int)) : bodyK x_l03_MontNobody [] (denF x_l03_MontNobody 8) Try.f12 (domV [(.arr 4 (.int .u64)), (.arr 4 (.int .u64))] (a, b, ())) [] 0 kTrue = l03_MontNobody' a b := by kernel_rfl
end Go.Proofs.Ytpmejfefbepjlaa

set_option linter.unusedVariables false
set_option linter.unusedSimpArgs false
set_option maxRecDepth 100000
set_option maxHeartbeats 0
namespace Go.Pl
end Go.Pl
open Go Go.Den Go.Pl
namespace Go.Proofs.Ytpmejfefbepjlaa
abbrev S_prime_Small_0 : Shape := { sl := [(0, (.v (.int .i64))), (3, (.v .bool)), (11, (.v (.int .i64))), (12, (.v (.int .i64)))], ob := [], lo := 0, nx := 0 }
abbrev E_prime_Small_0 : List Ex := [(.normal, { sl := [(3, (.v .bool))], ob := [], lo := 0, nx := 0 })]
noncomputable def L_prime_Small_0 : Code := loopIn (bodyOf Try.f51) 0
noncomputable def P_prime_Small_0 : Lp := lpOf S_prime_Small_0 E_prime_Small_0 31 R_prime_Small_0
noncomputable def c_prime_Small : Con := conV true [(.int .i64)] [.bool] fun x => prime_Small x.1
noncomputable def x_prime_Small : Cx := { ti := ti, con := [], fns := [], un := 6 }
theorem xok_prime_Small : CxOk Try.prog x_prime_Small := CxOk.of mixed ti_ok (List.forall_mem_nil _) (List.forall_mem_nil _)
theorem r_prime_Small_0 (x : S_prime_Small_0.X) : denC x_prime_Small [] (denF x_prime_Small 8) L_prime_Small_0 (S_prime_Small_0.mkS 31 x) (kRound 0 S_prime_Small_0 E_prime_Small_0) = R_prime_Small_0 x := by kernel_rfl
theorem l_prime_Small_0 : LpOk Try.prog 0 (.loop L_prime_Small_0) P_prime_Small_0 := lpOf_ok xok_prime_Small 8 (lps_nil) S_prime_Small_0 E_prime_Small_0 31 R_prime_Small_0 (by decide) r_prime_Small_0
theorem fn_prime_Small : FnOk Try.prog 51 Try.f51 [(0, P_prime_Small_0)] := ⟨Try.func51, Try.call51, lps_of (by kernel_rfl) (lps_one l_prime_Small_0 (by kernel_rfl) (List.forall_mem_nil _))⟩
theorem e_prime_Small (n : Int) : bodyK x_prime_Small [(0, P_prime_Small_0)] (denF x_prime_Small 8) Try.f51 (domV [(.int .i64)] (n, ())) [] 0 (kOut [.bool]) = prime_Small' n := by kernel_rfl
theorem con_prime_Small : ConOk Try.prog 51 c_prime_Small := con_ok xok_prime_Small 8 fn_prime_Small true [(.int .i64)] [.bool] _ (by decide) (fun x => by rw [prime_Small_eq]; exact e_prime_Small x.1)
noncomputable def c_prime_Step : Con := conV true [(.arr 4 (.int .u64)), (.arr 4 (.int .u64)), (.int .i64)] [.bool] fun x => prime_Step x.1 x.2.1 x.2.2.1
noncomputable def x_prime_Step : Cx := { ti := ti, con := [(38, c_mont_New), (74, c_nat_Of), (77, c_nat_Sub), (23, c_wide_Div), (18, c_wide_Mul), (73, c_nat_Cmp), (42, c_mont_Ring_Exp), (34, c_wide_SubMod), (27, c_wide_Gcd)], fns := [], un := 6 }
theorem xok_prime_Step : CxOk Try.prog x_prime_Step := CxOk.of mixed ti_ok (List.forall_mem_cons.2 ⟨con_mont_New, List.forall_mem_cons.2 ⟨con_nat_Of, List.forall_mem_cons.2 ⟨con_nat_Sub, List.forall_mem_cons.2 ⟨con_wide_Div, List.forall_mem_cons.2 ⟨con_wide_Mul, List.forall_mem_cons.2 ⟨con_nat_Cmp, List.forall_mem_cons.2 ⟨con_mont_Ring_Exp, List.forall_mem_cons.2 ⟨con_wide_SubMod, List.forall_mem_cons.2 ⟨con_wide_Gcd, List.forall_mem_nil _⟩⟩⟩⟩⟩⟩⟩⟩⟩) (List.forall_mem_nil _)
theorem fn_prime_Step : FnOk Try.prog 55 Try.f55 [] := ⟨Try.func55, Try.call55, lps_nil⟩
theorem e_prime_Step (n : (Nat → Int)) (factor : (Nat → Int)) (witness : Int) : bodyK x_prime_Step [] (denF x_prime_Step 8) Try.f55 (domV [(.arr 4 (.int .u64)), (.arr 4 (.int .u64)), (.int .i64)] (n, factor, witness, ())) [] 0 (kOut [.bool]) = prime_Step' n factor witness := by kernel_rfl
theorem con_prime_Step : ConOk Try.prog 55 c_prime_Step := con_ok xok_prime_Step 8 fn_prime_Step true [(.arr 4 (.int .u64)), (.arr 4 (.int .u64)), (.int .i64)] [.bool] _ (by decide) (fun x => by rw [prime_Step_eq]; exact e_prime_Step x.1 x.2.1 x.2.2.1)
abbrev S_prime_Witness_0 : Shape := { sl := [(2, (.c ⟨(.ptr (.arr 4 (.int .u64))), (.rf 0 [])⟩)), (3, (.c ⟨(.ptr (.arr 4 (.int .u64))), (.rf 1 [])⟩)), (6, (.v (.int .i64)))], ob := [(0, (.v (.arr 4 (.int .u64)))), (1, (.v (.arr 4 (.int .u64))))], lo := 2, nx := 2 }
abbrev E_prime_Witness_0 : List Ex := [(.ret, { sl := [(4, (.v (.int .i64))), (5, (.v (.int .i64)))], ob := [], lo := 2, nx := 2 }), (.normal, { sl := [], ob := [], lo := 2, nx := 2 })]
noncomputable def L_prime_Witness_0 : Code := loopIn (bodyOf Try.f54) 0
noncomputable def P_prime_Witness_0 : Lp := lpOf S_prime_Witness_0 E_prime_Witness_0 16 R_prime_Witness_0
noncomputable def c_prime_Witness : Con := conV true [(.arr 4 (.int .u64)), (.arr 4 (.int .u64))] [(.int .i64), (.int .i64)] fun x => prime_Witness x.1 x.2.1
noncomputable def x_prime_Witness : Cx := { ti := ti, con := [(55, c_prime_Step)], fns := [], un := 6 }
theorem xok_prime_Witness : CxOk Try.prog x_prime_Witness := CxOk.of mixed ti_ok (List.forall_mem_cons.2 ⟨con_prime_Step, List.forall_mem_nil _⟩) (List.forall_mem_nil _)
theorem r_prime_Witness_0 (x : S_prime_Witness_0.X) : denC x_prime_Witness [] (denF x_prime_Witness 8) L_prime_Witness_0 (S_prime_Witness_0.mkS 16 x) (kRound 0 S_prime_Witness_0 E_prime_Witness_0) = R_prime_Witness_0 x := by kernel_rfl
theorem l_prime_Witness_0 : LpOk Try.prog 0 (.loop L_prime_Witness_0) P_prime_Witness_0 := lpOf_ok xok_prime_Witness 8 (lps_nil) S_prime_Witness_0 E_prime_Witness_0 16 R_prime_Witness_0 (by decide) r_prime_Witness_0
theorem fn_prime_Witness : FnOk Try.prog 54 Try.f54 [(0, P_prime_Witness_0)] := ⟨Try.func54, Try.call54, lps_of (by kernel_rfl) (lps_one l_prime_Witness_0 (by kernel_rfl) (List.forall_mem_nil _))⟩
theorem e_prime_Witness (n : (Nat → Int)) (factor : (Nat → Int)) : bodyK x_prime_Witness [(0, P_prime_Witness_0)] (denF x_prime_Witness 8) Try.f54 (domV [(.arr 4 (.int .u64)), (.arr 4 (.int .u64))] (n, factor, ())) [] 0 (kOut [(.int .i64), (.int .i64)]) = prime_Witness' n factor := by kernel_rfl
theorem con_prime_Witness : ConOk Try.prog 54 c_prime_Witness := con_ok xok_prime_Witness 8 fn_prime_Witness true [(.arr 4 (.int .u64)), (.arr 4 (.int .u64))] [(.int .i64), (.int .i64)] _ (by decide) (fun x => by rw [prime_Witness_eq]; exact e_prime_Witness x.1 x.2.1)
abbrev S_prime_Check_0 : Shape := { sl := [(0, (.sz (.pair (.arr 4 (.int .u64)) (.int .i64)))), (5, (.v (.int .i64)))], ob := [], lo := 0, nx := 0 }
abbrev E_prime_Check_0 : List Ex := [(.ret, { sl := [(2, (.v (.int .i64)))], ob := [], lo := 0, nx := 0 }), (.normal, { sl := [], ob := [], lo := 0, nx := 0 })]
noncomputable def L_prime_Check_0 : Code := loopIn (bodyOf Try.f58) 0
noncomputable def P_prime_Check_0 : Lp := lpOf S_prime_Check_0 E_prime_Check_0 60 R_prime_Check_0
noncomputable def c_prime_Check : Con := conV true [(.sl (.pair (.arr 4 (.int .u64)) (.int .i64)))] [(.int .i64)] fun x => prime_Check x.1.1 x.1.2
noncomputable def x_prime_Check : Cx := { ti := ti, con := [(86, c_nat_Int), (51, c_prime_Small), (55, c_prime_Step)], fns := [], un := 6 }
theorem xok_prime_Check : CxOk Try.prog x_prime_Check := CxOk.of mixed ti_ok (List.forall_mem_cons.2 ⟨con_nat_Int, List.forall_mem_cons.2 ⟨con_prime_Small, List.forall_mem_cons.2 ⟨con_prime_Step, List.forall_mem_nil _⟩⟩⟩) (List.forall_mem_nil _)
theorem r_prime_Check_0 (x : S_prime_Check_0.X) : denC x_prime_Check [] (denF x_prime_Check 8) L_prime_Check_0 (S_prime_Check_0.mkS 60 x) (kRound 0 S_prime_Check_0 E_prime_Check_0) = R_prime_Check_0 x := by kernel_rfl
theorem l_prime_Check_0 : LpOk Try.prog 0 (.loop L_prime_Check_0) P_prime_Check_0 := lpOf_ok xok_prime_Check 8 (lps_nil) S_prime_Check_0 E_prime_Check_0 60 R_prime_Check_0 (by decide) r_prime_Check_0
theorem fn_prime_Check : FnOk Try.prog 58 Try.f58 [(0, P_prime_Check_0)] := ⟨Try.func58, Try.call58, lps_of (by kernel_rfl) (lps_one l_prime_Check_0 (by kernel_rfl) (List.forall_mem_nil _))⟩
theorem e_prime_Check (nl : Nat) (l : Nat → ((Nat → Int) × Int)) : bodyK x_prime_Check [(0, P_prime_Check_0)] (denF x_prime_Check 8) Try.f58 (domV [(.sl (.pair (.arr 4 (.int .u64)) (.int .i64)))] ((nl, l), ())) [] 0 (kOut [(.int .i64)]) = prime_Check' nl l := by kernel_rfl
theorem con_prime_Check : ConOk Try.prog 58 c_prime_Check := con_ok xok_prime_Check 8 fn_prime_Check true [(.sl (.pair (.arr 4 (.int .u64)) (.int .i64)))] [(.int .i64)] _ (by decide) (fun x => by rw [prime_Check_eq]; exact e_prime_Check x.1.1 x.1.2)
end Go.Proofs.Ytpmejfefbepjlaa

set_option linter.unusedVariables false
set_option linter.unusedSimpArgs false
set_option maxRecDepth 100000
set_option maxHeartbeats 0
namespace Go.Pl
end Go.Pl
open Go Go.Den Go.Pl
namespace Go.Proofs.Ytpmejfefbepjlaa
abbrev S_r04_Plain_0 : Shape := { sl := [(0, (.v (.int .i64))), (3, (.v (.int .i64)))], ob := [], lo := 0, nx := 0 }
abbrev E_r04_Plain_0 : List Ex := [(.ret, { sl := [(2, (.v .bool))], ob := [], lo := 0, nx := 0 }), (.normal, { sl := [], ob := [], lo := 0, nx := 0 })]
noncomputable def L_r04_Plain_0 : Code := loopIn (bodyOf Try.f61) 0
noncomputable def P_r04_Plain_0 : Lp := lpOf S_r04_Plain_0 E_r04_Plain_0 25 R_r04_Plain_0
noncomputable def c_r04_Plain : Con := conV true [(.int .i64)] [.bool] fun x => r04_Plain x.1
noncomputable def x_r04_Plain : Cx := { ti := ti, con := [], fns := [], un := 6 }
theorem xok_r04_Plain : CxOk Try.prog x_r04_Plain := CxOk.of mixed ti_ok (List.forall_mem_nil _) (List.forall_mem_nil _)
theorem r_r04_Plain_0 (x : S_r04_Plain_0.X) : denC x_r04_Plain [] (denF x_r04_Plain 8) L_r04_Plain_0 (S_r04_Plain_0.mkS 25 x) (kRound 0 S_r04_Plain_0 E_r04_Plain_0) = R_r04_Plain_0 x := by kernel_rfl
theorem l_r04_Plain_0 : LpOk Try.prog 0 (.loop L_r04_Plain_0) P_r04_Plain_0 := lpOf_ok xok_r04_Plain 8 (lps_nil) S_r04_Plain_0 E_r04_Plain_0 25 R_r04_Plain_0 (by decide) r_r04_Plain_0
theorem fn_r04_Plain : FnOk Try.prog 61 Try.f61 [(0, P_r04_Plain_0)] := ⟨Try.func61, Try.call61, lps_of (by kernel_rfl) (lps_one l_r04_Plain_0 (by kernel_rfl) (List.forall_mem_nil _))⟩
theorem e_r04_Plain (n : Int) : bodyK x_r04_Plain [(0, P_r04_Plain_0)] (denF x_r04_Plain 8) Try.f61 (domV [(.int .i64)] (n, ())) [] 0 (kOut [.bool]) = r04_Plain' n := by kernel_rfl
theorem con_r04_Plain : ConOk Try.prog 61 c_r04_Plain := con_ok xok_r04_Plain 8 fn_r04_Plain true [(.int .i64)] [.bool] _ (by decide) (fun x => by rw [r04_Plain_eq]; exact e_r04_Plain x.1)
noncomputable def c_r04_Small : Con := conV true [(.int .i64)] [.bool] fun x => r04_Small x.1
noncomputable def x_r04_Small : Cx := { ti := ti, con := [(61, c_r04_Plain)], fns := [], un := 6 }
theorem xok_r04_Small : CxOk Try.prog x_r04_Small := CxOk.of mixed ti_ok (List.forall_mem_cons.2 ⟨con_r04_Plain, List.forall_mem_nil _⟩) (List.forall_mem_nil _)
theorem fn_r04_Small : FnOk Try.prog 52 Try.f52 [] := ⟨Try.func52, Try.call52, lps_nil⟩
theorem e_r04_Small (n : Int) : bodyK x_r04_Small [] (denF x_r04_Small 8) Try.f52 (domV [(.int .i64)] (n, ())) [] 0 (kOut [.bool]) = r04_Small' n := by kernel_rfl
theorem con_r04_Small : ConOk Try.prog 52 c_r04_Small := con_ok xok_r04_Small 8 fn_r04_Small true [(.int .i64)] [.bool] _ (by decide) (fun x => by rw [r04_Small_eq]; exact e_r04_Small x.1)
abbrev S_r04_step_0 : Shape := { sl := [(8, (.v (.int .i64))), (9, (.v (.int .i64))), (10, (.v (.int .i64)))], ob := [], lo := 0, nx := 0 }
abbrev E_r04_step_0 : List Ex := [(.normal, { sl := [(8, (.v (.int .i64)))], ob := [], lo := 0, nx := 0 })]
noncomputable def L_r04_step_0 : Code := loopIn (bodyOf Try.f89) 0
noncomputable def P_r04_step_0 : Lp := lpOf S_r04_step_0 E_r04_step_0 65 R_r04_step_0
noncomputable def c_r04_step : Con := conV true [(.int .i64), (.int .i64), (.int .i64)] [.bool] fun x => r04_step x.1 x.2.1 x.2.2.1
noncomputable def x_r04_step : Cx := { ti := ti, con := [(75, c_r01_Int), (78, c_r03_Power)], fns := [], un := 6 }
theorem xok_r04_step : CxOk Try.prog x_r04_step := CxOk.of mixed ti_ok (List.forall_mem_cons.2 ⟨con_r01_Int, List.forall_mem_cons.2 ⟨con_r03_Power, List.forall_mem_nil _⟩⟩) (List.forall_mem_nil _)
theorem r_r04_step_0 (x : S_r04_step_0.X) : denC x_r04_step [] (denF x_r04_step 8) L_r04_step_0 (S_r04_step_0.mkS 65 x) (kRound 0 S_r04_step_0 E_r04_step_0) = R_r04_step_0 x := by kernel_rfl
theorem l_r04_step_0 : LpOk Try.prog 0 (.loop L_r04_step_0) P_r04_step_0 := lpOf_ok xok_r04_step 8 (lps_nil) S_r04_step_0 E_r04_step_0 65 R_r04_step_0 (by decide) r_r04_step_0
theorem fn_r04_step : FnOk Try.prog 89 Try.f89 [(0, P_r04_step_0)] := ⟨Try.func89, Try.call89, lps_of (by kernel_rfl) (lps_one l_r04_step_0 (by kernel_rfl) (List.forall_mem_nil _))⟩
theorem e_r04_step (n : Int) (f : Int) (witness : Int) : bodyK x_r04_step [(0, P_r04_step_0)] (denF x_r04_step 8) Try.f89 (domV [(.int .i64), (.int .i64), (.int .i64)] (n, f, witness, ())) [] 0 (kOut [.bool]) = r04_step' n f witness := by kernel_rfl
theorem con_r04_step : ConOk Try.prog 89 c_r04_step := con_ok xok_r04_step 8 fn_r04_step true [(.int .i64), (.int .i64), (.int .i64)] [.bool] _ (by decide) (fun x => by rw [r04_step_eq]; exact e_r04_step x.1 x.2.1 x.2.2.1)
noncomputable def c_r04_Step : Con := conV true [(.arr 4 (.int .u64)), (.arr 4 (.int .u64)), (.int .i64)] [.bool] fun x => r04_Step x.1 x.2.1 x.2.2.1
noncomputable def x_r04_Step : Cx := { ti := ti, con := [(39, c_r03_May), (75, c_r01_Int), (26, c_r01_Cmp), (60, c_r01_Low), (89, c_r04_step), (63, c_r01_Sub), (24, c_r02_Div), (19, c_r02_Mul), (43, c_r03_Exp), (35, c_r02_SubMod), (29, c_r02_Gcd)], fns := [], un := 6 }
theorem xok_r04_Step : CxOk Try.prog x_r04_Step := CxOk.of mixed ti_ok (List.forall_mem_cons.2 ⟨con_r03_May, List.forall_mem_cons.2 ⟨con_r01_Int, List.forall_mem_cons.2 ⟨con_r01_Cmp, List.forall_mem_cons.2 ⟨con_r01_Low, List.forall_mem_cons.2 ⟨con_r04_step, List.forall_mem_cons.2 ⟨con_r01_Sub, List.forall_mem_cons.2 ⟨con_r02_Div, List.forall_mem_cons.2 ⟨con_r02_Mul, List.forall_mem_cons.2 ⟨con_r03_Exp, List.forall_mem_cons.2 ⟨con_r02_SubMod, List.forall_mem_cons.2 ⟨con_r02_Gcd, List.forall_mem_nil _⟩⟩⟩⟩⟩⟩⟩⟩⟩⟩⟩) (List.forall_mem_nil _)
theorem fn_r04_Step : FnOk Try.prog 56 Try.f56 [] := ⟨Try.func56, Try.call56, lps_nil⟩
theorem e_r04_Step (n : (Nat → Int)) (factor : (Nat → Int)) (witness : Int) : bodyK x_r04_Step [] (denF x_r04_Step 8) Try.f56 (domV [(.arr 4 (.int .u64)), (.arr 4 (.int .u64)), (.int .i64)] (n, factor, witness, ())) [] 0 (kOut [.bool]) = r04_Step' n factor witness := by kernel_rfl
theorem con_r04_Step : ConOk Try.prog 56 c_r04_Step := con_ok xok_r04_Step 8 fn_r04_Step true [(.arr 4 (.int .u64)), (.arr 4 (.int .u64)), (.int .i64)] [.bool] _ (by decide) (fun x => by rw [r04_Step_eq]; exact e_r04_Step x.1 x.2.1 x.2.2.1)
abbrev S_r04_Check_0 : Shape := { sl := [(0, (.sz (.pair (.arr 4 (.int .u64)) (.int .i64)))), (5, (.v (.int .i64)))], ob := [], lo := 0, nx := 0 }
abbrev E_r04_Check_0 : List Ex := [(.ret, { sl := [(2, (.v .bool))], ob := [], lo := 0, nx := 0 }), (.normal, { sl := [], ob := [], lo := 0, nx := 0 })]
noncomputable def L_r04_Check_0 : Code := loopIn (bodyOf Try.f59) 0
noncomputable def P_r04_Check_0 : Lp := lpOf S_r04_Check_0 E_r04_Check_0 60 R_r04_Check_0
noncomputable def c_r04_Check : Con := conV true [(.sl (.pair (.arr 4 (.int .u64)) (.int .i64)))] [.bool] fun x => r04_Check x.1.1 x.1.2
noncomputable def x_r04_Check : Cx := { ti := ti, con := [(60, c_r01_Low), (52, c_r04_Small), (56, c_r04_Step)], fns := [], un := 6 }
theorem xok_r04_Check : CxOk Try.prog x_r04_Check := CxOk.of mixed ti_ok (List.forall_mem_cons.2 ⟨con_r01_Low, List.forall_mem_cons.2 ⟨con_r04_Small, List.forall_mem_cons.2 ⟨con_r04_Step, List.forall_mem_nil _⟩⟩⟩) (List.forall_mem_nil _)
theorem r_r04_Check_0 (x : S_r04_Check_0.X) : denC x_r04_Check [] (denF x_r04_Check 8) L_r04_Check_0 (S_r04_Check_0.mkS 60 x) (kRound 0 S_r04_Check_0 E_r04_Check_0) = R_r04_Check_0 x := by kernel_rfl
theorem l_r04_Check_0 : LpOk Try.prog 0 (.loop L_r04_Check_0) P_r04_Check_0 := lpOf_ok xok_r04_Check 8 (lps_nil) S_r04_Check_0 E_r04_Check_0 60 R_r04_Check_0 (by decide) r_r04_Check_0
theorem fn_r04_Check : FnOk Try.prog 59 Try.f59 [(0, P_r04_Check_0)] := ⟨Try.func59, Try.call59, lps_of (by kernel_rfl) (lps_one l_r04_Check_0 (by kernel_rfl) (List.forall_mem_nil _))⟩
theorem e_r04_Check (nl : Nat) (l : Nat → ((Nat → Int) × Int)) : bodyK x_r04_Check [(0, P_r04_Check_0)] (denF x_r04_Check 8) Try.f59 (domV [(.sl (.pair (.arr 4 (.int .u64)) (.int .i64)))] ((nl, l), ())) [] 0 (kOut [.bool]) = r04_Check' nl l := by kernel_rfl
theorem con_r04_Check : ConOk Try.prog 59 c_r04_Check := con_ok xok_r04_Check 8 fn_r04_Check true [(.sl (.pair (.arr 4 (.int .u64)) (.int .i64)))] [.bool] _ (by decide) (fun x => by rw [r04_Check_eq]; exact e_r04_Check x.1.1 x.1.2)
end Go.Proofs.Ytpmejfefbepjlaa

set_option linter.unusedVariables false
set_option linter.unusedSimpArgs false
set_option maxRecDepth 100000
set_option maxHeartbeats 0
namespace Go.Pl
end Go.Pl
open Go Go.Den Go.Pl
namespace Go.Proofs.Ytpmejfefbepjlaa
noncomputable def c_l04_of : Con := conV true [(.int .i64)] [(.arr 4 (.int .u64))] fun x => l04_of x.1
noncomputable def x_l04_of : Cx := { ti := ti, con := [(75, c_r01_Int)], fns := [], un := 6 }
theorem xok_l04_of : CxOk Try.prog x_l04_of := CxOk.of mixed ti_ok (List.forall_mem_cons.2 ⟨con_r01_Int, List.forall_mem_nil _⟩) (List.forall_mem_nil _)
theorem fn_l04_of : FnOk Try.prog 62 Try.f62 [] := ⟨Try.func62, Try.call62, lps_nil⟩
theorem e_l04_of (n : Int) : bodyK x_l04_of [] (denF x_l04_of 8) Try.f62 (domV [(.int .i64)] (n, ())) [] 0 (kOut [(.arr 4 (.int .u64))]) = l04_of' n := by kernel_rfl
theorem con_l04_of : ConOk Try.prog 62 c_l04_of := con_ok xok_l04_of 8 fn_l04_of true [(.int .i64)] [(.arr 4 (.int .u64))] _ (by decide) (fun x => by rw [l04_of_eq]; exact e_l04_of x.1)
noncomputable def c_l04_awake : Con := conV true [] [.bool] fun x => l04_awake 
noncomputable def x_l04_awake : Cx := { ti := ti, con := [(62, c_l04_of), (54, c_prime_Witness), (51, c_prime_Small), (55, c_prime_Step), (58, c_prime_Check)], fns := [], un := 6 }
theorem xok_l04_awake : CxOk Try.prog x_l04_awake := CxOk.of mixed ti_ok (List.forall_mem_cons.2 ⟨con_l04_of, List.forall_mem_cons.2 ⟨con_prime_Witness, List.forall_mem_cons.2 ⟨con_prime_Small, List.forall_mem_cons.2 ⟨con_prime_Step, List.forall_mem_cons.2 ⟨con_prime_Check, List.forall_mem_nil _⟩⟩⟩⟩⟩) (List.forall_mem_nil _)
theorem fn_l04_awake : FnOk Try.prog 53 Try.f53 [] := ⟨Try.func53, Try.call53, lps_nil⟩
theorem e_l04_awake  : bodyK x_l04_awake [] (denF x_l04_awake 8) Try.f53 (domV [] (())) [] 0 (kOut [.bool]) = l04_awake'  := by kernel_rfl
theorem con_l04_awake : ConOk Try.prog 53 c_l04_awake := con_ok xok_l04_awake 8 fn_l04_awake true [] [.bool] _ (by decide) (fun x => by rw [l04_awake_eq]; exact e_l04_awake )
noncomputable def x_l04_PrimeSmall : Cx := { ti := ti, con := [(51, c_prime_Small), (52, c_r04_Small), (53, c_l04_awake)], fns := [], un := 6 }
theorem xok_l04_PrimeSmall : CxOk Try.prog x_l04_PrimeSmall := CxOk.of mixed ti_ok (List.forall_mem_cons.2 ⟨con_prime_Small, List.forall_mem_cons.2 ⟨con_r04_Small, List.forall_mem_cons.2 ⟨con_l04_awake, List.forall_mem_nil _⟩⟩⟩) (List.forall_mem_nil _)
theorem fn_l04_PrimeSmall : FnOk Try.prog 13 Try.f13 [] := ⟨Try.func13, Try.call13, lps_nil⟩
theorem e_l04_PrimeSmall (n : Int) : bodyK x_l04_PrimeSmall [] (denF x_l04_PrimeSmall 8) Try.f13 (domV [(.int .i64)] (n, ())) [] 0 kTrue = l04_PrimeSmall' n := by kernel_rfl
abbrev S_l04_PrimeSteps_0 : Shape := { sl := [(0, (.v (.int .u32))), (7, (.c ⟨(.ptr (.arr 4 (.int .u64))), (.rf 0 [])⟩)), (8, (.c ⟨(.ptr (.arr 4 (.int .u64))), (.rf 1 [])⟩)), (9, (.v (.int .i64))), (10, (.v (.int .i64))), (11, (.v (.int .i64))), (12, (.v (.int .i64)))], ob := [(0, (.v (.arr 4 (.int .u64)))), (1, (.v (.arr 4 (.int .u64))))], lo := 2, nx := 2 }
abbrev E_l04_PrimeSteps_0 : List Ex := [(.normal, { sl := [(0, (.v (.int .u32))), (7, (.c ⟨(.ptr (.arr 4 (.int .u64))), (.rf 0 [])⟩)), (8, (.c ⟨(.ptr (.arr 4 (.int .u64))), (.rf 1 [])⟩)), (9, (.v (.int .i64))), (10, (.v (.int .i64))), (11, (.v (.int .i64)))], ob := [(0, (.v (.arr 4 (.int .u64)))), (1, (.v (.arr 4 (.int .u64))))], lo := 2, nx := 2 })]
noncomputable def L_l04_PrimeSteps_0 : Code := loopIn (bodyOf Try.f14) 0
noncomputable def P_l04_PrimeSteps_0 : Lp := lpOf S_l04_PrimeSteps_0 E_l04_PrimeSteps_0 89 R_l04_PrimeSteps_0
noncomputable def x_l04_PrimeSteps : Cx := { ti := ti, con := [(54, c_prime_Witness), (55, c_prime_Step), (56, c_r04_Step), (53, c_l04_awake)], fns := [], un := 6 }
theorem xok_l04_PrimeSteps : CxOk Try.prog x_l04_PrimeSteps := CxOk.of mixed ti_ok (List.forall_mem_cons.2 ⟨con_prime_Witness, List.forall_mem_cons.2 ⟨con_prime_Step, List.forall_mem_cons.2 ⟨con_r04_Step, List.forall_mem_cons.2 ⟨con_l04_awake, List.forall_mem_nil _⟩⟩⟩⟩) (List.forall_mem_nil _)
theorem r_l04_PrimeSteps_0 (x : S_l04_PrimeSteps_0.X) : denC x_l04_PrimeSteps [] (denF x_l04_PrimeSteps 8) L_l04_PrimeSteps_0 (S_l04_PrimeSteps_0.mkS 89 x) (kRound 0 S_l04_PrimeSteps_0 E_l04_PrimeSteps_0) = R_l04_PrimeSteps_0 x := by kernel_rfl
theorem l_l04_PrimeSteps_0 : LpOk Try.prog 0 (.loop L_l04_PrimeSteps_0) P_l04_PrimeSteps_0 := lpOf_ok xok_l04_PrimeSteps 8 (lps_nil) S_l04_PrimeSteps_0 E_l04_PrimeSteps_0 89 R_l04_PrimeSteps_0 (by decide) r_l04_PrimeSteps_0
theorem fn_l04_PrimeSteps : FnOk Try.prog 14 Try.f14 [(0, P_l04_PrimeSteps_0)] := ⟨Try.func14, Try.call14, lps_of (by kernel_rfl) (lps_one l_l04_PrimeSteps_0 (by kernel_rfl) (List.forall_mem_nil _))⟩
theorem e_l04_PrimeSteps (n : Int) (factor : Int) (witness : Int) : bodyK x_l04_PrimeSteps [(0, P_l04_PrimeSteps_0)] (denF x_l04_PrimeSteps 8) Try.f14 (domV [(.int .u32), (.int .u32), (.int .i64)] (n, factor, witness, ())) [] 0 kTrue = l04_PrimeSteps' n factor witness := by kernel_rfl
abbrev S_l04_PrimeChecks_0 : Shape := { sl := [(0, (.sz (.pair (.arr 4 (.int .u64)) (.int .i64)))), (3, (.v (.int .i64)))], ob := [], lo := 0, nx := 0 }
abbrev E_l04_PrimeChecks_0 : List Ex := [(.ret, { sl := [(2, (.v .bool))], ob := [], lo := 0, nx := 0 }), (.normal, { sl := [(0, (.sz (.pair (.arr 4 (.int .u64)) (.int .i64))))], ob := [], lo := 0, nx := 0 })]
noncomputable def L_l04_PrimeChecks_0 : Code := loopIn (bodyOf Try.f15) 0
noncomputable def P_l04_PrimeChecks_0 : Lp := lpOf S_l04_PrimeChecks_0 E_l04_PrimeChecks_0 41 R_l04_PrimeChecks_0
noncomputable def x_l04_PrimeChecks : Cx := { ti := ti, con := [(53, c_l04_awake), (57, c_r01_Len), (58, c_prime_Check), (59, c_r04_Check)], fns := [], un := 6 }
theorem xok_l04_PrimeChecks : CxOk Try.prog x_l04_PrimeChecks := CxOk.of mixed ti_ok (List.forall_mem_cons.2 ⟨con_l04_awake, List.forall_mem_cons.2 ⟨con_r01_Len, List.forall_mem_cons.2 ⟨con_prime_Check, List.forall_mem_cons.2 ⟨con_r04_Check, List.forall_mem_nil _⟩⟩⟩⟩) (List.forall_mem_nil _)
theorem r_l04_PrimeChecks_0 (x : S_l04_PrimeChecks_0.X) : denC x_l04_PrimeChecks [] (denF x_l04_PrimeChecks 8) L_l04_PrimeChecks_0 (S_l04_PrimeChecks_0.mkS 41 x) (kRound 0 S_l04_PrimeChecks_0 E_l04_PrimeChecks_0) = R_l04_PrimeChecks_0 x := by kernel_rfl
theorem l_l04_PrimeChecks_0 : LpOk Try.prog 0 (.loop L_l04_PrimeChecks_0) P_l04_PrimeChecks_0 := lpOf_ok xok_l04_PrimeChecks 8 (lps_nil) S_l04_PrimeChecks_0 E_l04_PrimeChecks_0 41 R_l04_PrimeChecks_0 (by decide) r_l04_PrimeChecks_0
theorem fn_l04_PrimeChecks : FnOk Try.prog 15 Try.f15 [(0, P_l04_PrimeChecks_0)] := ⟨Try.func15, Try.call15, lps_of (by kernel_rfl) (lps_one l_l04_PrimeChecks_0 (by kernel_rfl) (List.forall_mem_nil _))⟩
theorem e_l04_PrimeChecks (nl : Nat) (l : Nat → ((Nat → Int) × Int)) : bodyK x_l04_PrimeChecks [(0, P_l04_PrimeChecks_0)] (denF x_l04_PrimeChecks 8) Try.f15 (domV [(.sl (.pair (.arr 4 (.int .u64)) (.int .i64)))] ((nl, l), ())) [] 0 kTrue = l04_PrimeChecks' nl l := by kernel_rfl
abbrev S_l04_PrimeSound_0 : Shape := { sl := [(0, (.sz (.pair (.arr 4 (.int .u64)) (.int .i64)))), (3, (.v (.int .i64)))], ob := [], lo := 0, nx := 0 }
abbrev E_l04_PrimeSound_0 : List Ex := [(.ret, { sl := [(2, (.v .bool))], ob := [], lo := 0, nx := 0 }), (.normal, { sl := [], ob := [], lo := 0, nx := 0 })]
noncomputable def L_l04_PrimeSound_0 : Code := loopIn (bodyOf Try.f16) 0
noncomputable def P_l04_PrimeSound_0 : Lp := lpOf S_l04_PrimeSound_0 E_l04_PrimeSound_0 46 R_l04_PrimeSound_0
noncomputable def x_l04_PrimeSound : Cx := { ti := ti, con := [(53, c_l04_awake), (58, c_prime_Check), (60, c_r01_Low), (61, c_r04_Plain)], fns := [], un := 6 }
theorem xok_l04_PrimeSound : CxOk Try.prog x_l04_PrimeSound := CxOk.of mixed ti_ok (List.forall_mem_cons.2 ⟨con_l04_awake, List.forall_mem_cons.2 ⟨con_prime_Check, List.forall_mem_cons.2 ⟨con_r01_Low, List.forall_mem_cons.2 ⟨con_r04_Plain, List.forall_mem_nil _⟩⟩⟩⟩) (List.forall_mem_nil _)
theorem r_l04_PrimeSound_0 (x : S_l04_PrimeSound_0.X) : denC x_l04_PrimeSound [] (denF x_l04_PrimeSound 8) L_l04_PrimeSound_0 (S_l04_PrimeSound_0.mkS 46 x) (kRound 0 S_l04_PrimeSound_0 E_l04_PrimeSound_0) = R_l04_PrimeSound_0 x := by kernel_rfl
theorem l_l04_PrimeSound_0 : LpOk Try.prog 0 (.loop L_l04_PrimeSound_0) P_l04_PrimeSound_0 := lpOf_ok xok_l04_PrimeSound 8 (lps_nil) S_l04_PrimeSound_0 E_l04_PrimeSound_0 46 R_l04_PrimeSound_0 (by decide) r_l04_PrimeSound_0
theorem fn_l04_PrimeSound : FnOk Try.prog 16 Try.f16 [(0, P_l04_PrimeSound_0)] := ⟨Try.func16, Try.call16, lps_of (by kernel_rfl) (lps_one l_l04_PrimeSound_0 (by kernel_rfl) (List.forall_mem_nil _))⟩
theorem e_l04_PrimeSound (nl : Nat) (l : Nat → ((Nat → Int) × Int)) : bodyK x_l04_PrimeSound [(0, P_l04_PrimeSound_0)] (denF x_l04_PrimeSound 8) Try.f16 (domV [(.sl (.pair (.arr 4 (.int .u64)) (.int .i64)))] ((nl, l), ())) [] 0 kTrue = l04_PrimeSound' nl l := by kernel_rfl
noncomputable def x_l04_PrimeFermat : Cx := { ti := ti, con := [(53, c_l04_awake), (57, c_r01_Len), (58, c_prime_Check), (21, c_r02_Rem), (62, c_l04_of), (26, c_r01_Cmp), (63, c_r01_Sub), (43, c_r03_Exp), (31, c_r02_Inv), (29, c_r02_Gcd)], fns := [], un := 6 }
theorem xok_l04_PrimeFermat : CxOk Try.prog x_l04_PrimeFermat := CxOk.of mixed ti_ok (List.forall_mem_cons.2 ⟨con_l04_awake, List.forall_mem_cons.2 ⟨con_r01_Len, List.forall_mem_cons.2 ⟨con_prime_Check, List.forall_mem_cons.2 ⟨con_r02_Rem, List.forall_mem_cons.2 ⟨con_l04_of, List.forall_mem_cons.2 ⟨con_r01_Cmp, List.forall_mem_cons.2 ⟨con_r01_Sub, List.forall_mem_cons.2 ⟨con_r03_Exp, List.forall_mem_cons.2 ⟨con_r02_Inv, List.forall_mem_cons.2 ⟨con_r02_Gcd, List.forall_mem_nil _⟩⟩⟩⟩⟩⟩⟩⟩⟩⟩) (List.forall_mem_nil _)
theorem fn_l04_PrimeFermat : FnOk Try.prog 17 Try.f17 [] := ⟨Try.func17, Try.call17, lps_nil⟩
theorem e_l04_PrimeFermat (nl : Nat) (l : Nat → ((Nat → Int) × Int)) (a : (Nat → Int)) : bodyK x_l04_PrimeFermat [] (denF x_l04_PrimeFermat 8) Try.f17 (domV [(.sl (.pair (.arr 4 (.int .u64)) (.int .i64))), (.arr 4 (.int .u64))] ((nl, l), a, ())) [] 0 kTrue = l04_PrimeFermat' nl l a := by kernel_rfl
end Go.Proofs.Ytpmejfefbepjlaa
