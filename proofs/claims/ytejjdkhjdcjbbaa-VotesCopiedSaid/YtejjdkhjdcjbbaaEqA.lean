/-
  The functions of the program are the plain ones.
-/
import Derived.Test.YtejjdkhjdcjbbaaProg
import Derived.Test.YtejjdkhjdcjbbaaDenD
import Derived.KernelRfl
import Derived.Test.YtejjdkhjdcjbbaaPlA
import Derived.Test.YtejjdkhjdcjbbaaDenF
set_option linter.unusedVariables false
set_option linter.unusedSimpArgs false
set_option maxRecDepth 100000
set_option maxHeartbeats 0
namespace Go.Pl
end Go.Pl
open Go Go.Den Go.Pl
namespace Go.Proofs.Ytejjdkhjdcjbbaa
noncomputable def ti : List (Nat × TI) := [
  (3, ⟨(TypeDesc.int IntKind.i64), (.int .i64), 8⟩),
  (4, ⟨TypeDesc.bool, .bool, 1⟩),
  (9, ⟨TypeDesc.string, .str, 16⟩),
  (22, ⟨(TypeDesc.slice 34), (.sl (.pair (.int .i64) (.pair (.pair (.int .i64) (.int .i64)) .str))), 24⟩),
  (25, ⟨(TypeDesc.pointer 51), (.ptr (.pair (.int .i64) (.arr 7 (.arr 4 (.arr 2 (.pair (.pair (.int .i64) (.int .i64)) .str)))))), 8⟩),
  (26, ⟨(TypeDesc.int IntKind.i64), (.int .i64), 8⟩),
  (32, ⟨(TypeDesc.struct #[{ name := "Seq", type := 3, offset := 0, embedded := false, tag := "", pkgPath := "", byteOffset := 0 }, { name := "Client", type := 3, offset := 1, embedded := false, tag := "", pkgPath := "", byteOffset := 8 }]), (.pair (.int .i64) (.int .i64)), 16⟩),
  (34, ⟨(TypeDesc.struct #[{ name := "Server", type := 3, offset := 0, embedded := false, tag := "", pkgPath := "", byteOffset := 0 }, { name := "Stamp", type := 32, offset := 1, embedded := false, tag := "", pkgPath := "", byteOffset := 8 }, { name := "Digest", type := 9, offset := 3, embedded := false, tag := "", pkgPath := "", byteOffset := 24 }]), (.pair (.int .i64) (.pair (.pair (.int .i64) (.int .i64)) .str)), 40⟩),
  (42, ⟨(TypeDesc.array 2 9), (.arr 2 .str), 32⟩),
  (46, ⟨(TypeDesc.struct #[{ name := "stamp", type := 32, offset := 0, embedded := false, tag := "", pkgPath := "sacristy/votes", byteOffset := 0 }, { name := "digest", type := 9, offset := 2, embedded := false, tag := "", pkgPath := "sacristy/votes", byteOffset := 16 }]), (.pair (.pair (.int .i64) (.int .i64)) .str), 32⟩),
  (47, ⟨(TypeDesc.array 2 46), (.arr 2 (.pair (.pair (.int .i64) (.int .i64)) .str)), 64⟩),
  (48, ⟨(TypeDesc.array 4 47), (.arr 4 (.arr 2 (.pair (.pair (.int .i64) (.int .i64)) .str))), 256⟩),
  (49, ⟨(TypeDesc.array 7 48), (.arr 7 (.arr 4 (.arr 2 (.pair (.pair (.int .i64) (.int .i64)) .str)))), 1792⟩),
  (51, ⟨(TypeDesc.struct #[{ name := "n", type := 3, offset := 0, embedded := false, tag := "", pkgPath := "sacristy/votes", byteOffset := 0 }, { name := "places", type := 49, offset := 1, embedded := false, tag := "", pkgPath := "sacristy/votes", byteOffset := 8 }]), (.pair (.int .i64) (.arr 7 (.arr 4 (.arr 2 (.pair (.pair (.int .i64) (.int .i64)) .str))))), 1800⟩),
  (52, ⟨(TypeDesc.slice 25), (.sl (.ptr (.pair (.int .i64) (.arr 7 (.arr 4 (.arr 2 (.pair (.pair (.int .i64) (.int .i64)) .str))))))), 24⟩),
  (93, ⟨(TypeDesc.pointer 46), (.ptr (.pair (.pair (.int .i64) (.int .i64)) .str)), 8⟩)]
theorem ti3 : TI1 Try.prog ti (3, ⟨(TypeDesc.int IntKind.i64), (.int .i64), 8⟩) where
  under := Try.underlying3
  info := by kernel_rfl
  zero := by kernel_rfl
  shape := rfl
  eq := fun h => absurd h (by decide)
theorem ti4 : TI1 Try.prog ti (4, ⟨TypeDesc.bool, .bool, 1⟩) where
  under := Try.underlying4
  info := by kernel_rfl
  zero := by kernel_rfl
  shape := rfl
  eq := fun h => absurd h (by decide)
theorem ti9 : TI1 Try.prog ti (9, ⟨TypeDesc.string, .str, 16⟩) where
  under := Try.underlying9
  info := by kernel_rfl
  zero := by kernel_rfl
  shape := rfl
  eq := fun h => absurd h (by decide)
theorem ti22 : TI1 Try.prog ti (22, ⟨(TypeDesc.slice 34), (.sl (.pair (.int .i64) (.pair (.pair (.int .i64) (.int .i64)) .str))), 24⟩) where
  under := Try.underlying22
  info := by kernel_rfl
  zero := by kernel_rfl
  shape := ⟨_, rfl, rfl, by decide⟩
  eq := fun h => absurd h (by decide)
theorem ti25 : TI1 Try.prog ti (25, ⟨(TypeDesc.pointer 51), (.ptr (.pair (.int .i64) (.arr 7 (.arr 4 (.arr 2 (.pair (.pair (.int .i64) (.int .i64)) .str)))))), 8⟩) where
  under := Try.underlying25
  info := by kernel_rfl
  zero := by kernel_rfl
  shape := ⟨_, rfl⟩
  eq := fun h => absurd h (by decide)
theorem ti26 : TI1 Try.prog ti (26, ⟨(TypeDesc.int IntKind.i64), (.int .i64), 8⟩) where
  under := Try.underlying26
  info := by kernel_rfl
  zero := by kernel_rfl
  shape := rfl
  eq := fun h => absurd h (by decide)
theorem ti32 : TI1 Try.prog ti (32, ⟨(TypeDesc.struct #[{ name := "Seq", type := 3, offset := 0, embedded := false, tag := "", pkgPath := "", byteOffset := 0 }, { name := "Client", type := 3, offset := 1, embedded := false, tag := "", pkgPath := "", byteOffset := 8 }]), (.pair (.int .i64) (.int .i64)), 16⟩) where
  under := Try.underlying32
  info := by kernel_rfl
  zero := by kernel_rfl
  shape := ⟨rfl, ⟨rfl, by decide, ⟨_, rfl, rfl, by decide⟩, ⟨rfl, by decide, _, rfl, rfl, by decide⟩⟩⟩
  eq := fun _ _ => ⟨by kernel_rfl, by kernel_rfl, (by intro fs h; cases h <;> decide), by decide⟩
theorem ti34 : TI1 Try.prog ti (34, ⟨(TypeDesc.struct #[{ name := "Server", type := 3, offset := 0, embedded := false, tag := "", pkgPath := "", byteOffset := 0 }, { name := "Stamp", type := 32, offset := 1, embedded := false, tag := "", pkgPath := "", byteOffset := 8 }, { name := "Digest", type := 9, offset := 3, embedded := false, tag := "", pkgPath := "", byteOffset := 24 }]), (.pair (.int .i64) (.pair (.pair (.int .i64) (.int .i64)) .str)), 40⟩) where
  under := Try.underlying34
  info := by kernel_rfl
  zero := by kernel_rfl
  shape := ⟨rfl, ⟨rfl, by decide, ⟨_, rfl, rfl, by decide⟩, ⟨rfl, by decide, ⟨_, rfl, rfl, by decide⟩, ⟨rfl, by decide, _, rfl, rfl, by decide⟩⟩⟩⟩
  eq := fun _ _ => ⟨by kernel_rfl, by kernel_rfl, (by intro fs h; cases h <;> decide), by decide⟩
theorem ti42 : TI1 Try.prog ti (42, ⟨(TypeDesc.array 2 9), (.arr 2 .str), 32⟩) where
  under := Try.underlying42
  info := by kernel_rfl
  zero := by kernel_rfl
  shape := ⟨_, rfl, rfl, by decide, by decide⟩
  eq := fun _ _ => ⟨by kernel_rfl, by kernel_rfl, (by intro fs h; cases h <;> decide), by decide⟩
theorem ti46 : TI1 Try.prog ti (46, ⟨(TypeDesc.struct #[{ name := "stamp", type := 32, offset := 0, embedded := false, tag := "", pkgPath := "sacristy/votes", byteOffset := 0 }, { name := "digest", type := 9, offset := 2, embedded := false, tag := "", pkgPath := "sacristy/votes", byteOffset := 16 }]), (.pair (.pair (.int .i64) (.int .i64)) .str), 32⟩) where
  under := Try.underlying46
  info := by kernel_rfl
  zero := by kernel_rfl
  shape := ⟨rfl, ⟨rfl, by decide, ⟨_, rfl, rfl, by decide⟩, ⟨rfl, by decide, _, rfl, rfl, by decide⟩⟩⟩
  eq := fun _ _ => ⟨by kernel_rfl, by kernel_rfl, (by intro fs h; cases h <;> decide), by decide⟩
theorem ti47 : TI1 Try.prog ti (47, ⟨(TypeDesc.array 2 46), (.arr 2 (.pair (.pair (.int .i64) (.int .i64)) .str)), 64⟩) where
  under := Try.underlying47
  info := by kernel_rfl
  zero := by kernel_rfl
  shape := ⟨_, rfl, rfl, by decide, by decide⟩
  eq := fun _ _ => ⟨by kernel_rfl, by kernel_rfl, (by intro fs h; cases h <;> decide), by decide⟩
theorem ti48 : TI1 Try.prog ti (48, ⟨(TypeDesc.array 4 47), (.arr 4 (.arr 2 (.pair (.pair (.int .i64) (.int .i64)) .str))), 256⟩) where
  under := Try.underlying48
  info := by kernel_rfl
  zero := by kernel_rfl
  shape := ⟨_, rfl, rfl, by decide, by decide⟩
  eq := fun _ _ => ⟨by kernel_rfl, by kernel_rfl, (by intro fs h; cases h <;> decide), by decide⟩
theorem ti49 : TI1 Try.prog ti (49, ⟨(TypeDesc.array 7 48), (.arr 7 (.arr 4 (.arr 2 (.pair (.pair (.int .i64) (.int .i64)) .str)))), 1792⟩) where
  under := Try.underlying49
  info := by kernel_rfl
  zero := by kernel_rfl
  shape := ⟨_, rfl, rfl, by decide, by decide⟩
  eq := fun _ _ => ⟨by kernel_rfl, by kernel_rfl, (by intro fs h; cases h <;> decide), by decide⟩
theorem ti51 : TI1 Try.prog ti (51, ⟨(TypeDesc.struct #[{ name := "n", type := 3, offset := 0, embedded := false, tag := "", pkgPath := "sacristy/votes", byteOffset := 0 }, { name := "places", type := 49, offset := 1, embedded := false, tag := "", pkgPath := "sacristy/votes", byteOffset := 8 }]), (.pair (.int .i64) (.arr 7 (.arr 4 (.arr 2 (.pair (.pair (.int .i64) (.int .i64)) .str))))), 1800⟩) where
  under := Try.underlying51
  info := by kernel_rfl
  zero := by kernel_rfl
  shape := ⟨rfl, ⟨rfl, by decide, ⟨_, rfl, rfl, by decide⟩, ⟨rfl, by decide, _, rfl, rfl, by decide⟩⟩⟩
  eq := fun _ _ => ⟨by kernel_rfl, by kernel_rfl, (by intro fs h; cases h <;> decide), by decide⟩
theorem ti52 : TI1 Try.prog ti (52, ⟨(TypeDesc.slice 25), (.sl (.ptr (.pair (.int .i64) (.arr 7 (.arr 4 (.arr 2 (.pair (.pair (.int .i64) (.int .i64)) .str))))))), 24⟩) where
  under := Try.underlying52
  info := by kernel_rfl
  zero := by kernel_rfl
  shape := ⟨_, rfl, rfl, by decide⟩
  eq := fun h => absurd h (by decide)
theorem ti93 : TI1 Try.prog ti (93, ⟨(TypeDesc.pointer 46), (.ptr (.pair (.pair (.int .i64) (.int .i64)) .str)), 8⟩) where
  under := Try.underlying93
  info := by kernel_rfl
  zero := by kernel_rfl
  shape := ⟨_, rfl⟩
  eq := fun h => absurd h (by decide)
theorem ti_ok : TIok Try.prog ti := TIok.of (List.forall_mem_cons.2 ⟨ti3, List.forall_mem_cons.2 ⟨ti4, List.forall_mem_cons.2 ⟨ti9, List.forall_mem_cons.2 ⟨ti22, List.forall_mem_cons.2 ⟨ti25, List.forall_mem_cons.2 ⟨ti26, List.forall_mem_cons.2 ⟨ti32, List.forall_mem_cons.2 ⟨ti34, List.forall_mem_cons.2 ⟨ti42, List.forall_mem_cons.2 ⟨ti46, List.forall_mem_cons.2 ⟨ti47, List.forall_mem_cons.2 ⟨ti48, List.forall_mem_cons.2 ⟨ti49, List.forall_mem_cons.2 ⟨ti51, List.forall_mem_cons.2 ⟨ti52, List.forall_mem_cons.2 ⟨ti93, List.forall_mem_nil _⟩⟩⟩⟩⟩⟩⟩⟩⟩⟩⟩⟩⟩⟩⟩⟩)
theorem mixed : Try.prog.follows .mixedOrders = true := by kernel_rfl

end Go.Proofs.Ytejjdkhjdcjbbaa

set_option linter.unusedVariables false
set_option linter.unusedSimpArgs false
set_option maxRecDepth 100000
set_option maxHeartbeats 0
namespace Go.Pl
end Go.Pl
open Go Go.Den Go.Pl
namespace Go.Proofs.Ytejjdkhjdcjbbaa
noncomputable def c_stamp_client : Con := conV true [(.int .i64)] [.bool] fun x => stamp_client x.1
noncomputable def x_stamp_client : Cx := { ti := ti, con := [], fns := [], un := 6 }
theorem xok_stamp_client : CxOk Try.prog x_stamp_client := CxOk.of mixed ti_ok (List.forall_mem_nil _) (List.forall_mem_nil _)
theorem fn_stamp_client : FnOk Try.prog 44 Try.f44 [] := ⟨Try.func44, Try.call44, lps_nil⟩
theorem e_stamp_client (c : Int) : bodyK x_stamp_client [] (denF x_stamp_client 8) Try.f44 (domV [(.int .i64)] (c, ())) [] 0 (kOut [.bool]) = stamp_client' c := by kernel_rfl
theorem con_stamp_client : ConOk Try.prog 44 c_stamp_client := con_ok xok_stamp_client 8 fn_stamp_client true [(.int .i64)] [.bool] _ (by decide) (fun x => by rw [stamp_client_eq]; exact e_stamp_client x.1)
noncomputable def c_stamp_May : Con := conV true [(.pair (.int .i64) (.int .i64))] [.bool] fun x => stamp_May x.1
noncomputable def x_stamp_May : Cx := { ti := ti, con := [(44, c_stamp_client)], fns := [], un := 6 }
theorem xok_stamp_May : CxOk Try.prog x_stamp_May := CxOk.of mixed ti_ok (List.forall_mem_cons.2 ⟨con_stamp_client, List.forall_mem_nil _⟩) (List.forall_mem_nil _)
theorem fn_stamp_May : FnOk Try.prog 38 Try.f38 [] := ⟨Try.func38, Try.call38, lps_nil⟩
theorem e_stamp_May (s : (Int × Int)) : bodyK x_stamp_May [] (denF x_stamp_May 8) Try.f38 (domV [(.pair (.int .i64) (.int .i64))] (s, ())) [] 0 (kOut [.bool]) = stamp_May' s := by kernel_rfl
theorem con_stamp_May : ConOk Try.prog 38 c_stamp_May := con_ok xok_stamp_May 8 fn_stamp_May true [(.pair (.int .i64) (.int .i64))] [.bool] _ (by decide) (fun x => by rw [stamp_May_eq]; exact e_stamp_May x.1)
end Go.Proofs.Ytejjdkhjdcjbbaa

set_option linter.unusedVariables false
set_option linter.unusedSimpArgs false
set_option maxRecDepth 100000
set_option maxHeartbeats 0
namespace Go.Pl
end Go.Pl
open Go Go.Den Go.Pl
namespace Go.Proofs.Ytejjdkhjdcjbbaa
abbrev I_votes_New_m : Shape := { sl := [(0, (.v (.int .i64)))], ob := [], lo := 0, nx := 0 }
abbrev O_votes_New_m : List Shape := [{ sl := [(0, (.c ⟨(.ptr (.pair (.int .i64) (.arr 7 (.arr 4 (.arr 2 (.pair (.pair (.int .i64) (.int .i64)) .str)))))), .nil⟩)), (1, (.v (.int .i64)))], ob := [], lo := 0, nx := 0 }, { sl := [(0, (.c ⟨(.ptr (.pair (.int .i64) (.arr 7 (.arr 4 (.arr 2 (.pair (.pair (.int .i64) (.int .i64)) .str)))))), (.rf 0 [])⟩)), (1, (.v (.int .i64)))], ob := [(0, (.v (.pair (.int .i64) (.arr 7 (.arr 4 (.arr 2 (.pair (.pair (.int .i64) (.int .i64)) .str)))))))], lo := 1, nx := 1 }]
noncomputable def c_votes_New_m : Con := conS I_votes_New_m O_votes_New_m fun x => votes_New_m x.1.1
noncomputable def x_votes_New_m : Cx := { ti := ti, con := [], fns := [], un := 6 }
theorem xok_votes_New_m : CxOk Try.prog x_votes_New_m := CxOk.of mixed ti_ok (List.forall_mem_nil _) (List.forall_mem_nil _)
theorem fn_votes_New_m : FnOk Try.prog 12 Try.f12 [] := ⟨Try.func12, Try.call12, lps_nil⟩
theorem e_votes_New_m (n : Int) : bodyK x_votes_New_m [] (denF x_votes_New_m 8) Try.f12 ((mkVals I_votes_New_m.sl (show I_votes_New_m.X from ((n, ()), ())).1).map .v) (shHp I_votes_New_m ((n, ()), ())) I_votes_New_m.nx (kOutS 2 O_votes_New_m) = votes_New_m' n := by kernel_rfl
theorem con_votes_New_m : ConOk Try.prog 12 c_votes_New_m := conS_ok xok_votes_New_m 8 fn_votes_New_m 2 I_votes_New_m O_votes_New_m _ (by decide) (fun x => by rw [votes_New_m_eq]; exact e_votes_New_m x.1.1)
noncomputable def c_votes_New : Con := conV false [(.int .i64)] [(.ptr (.pair (.int .i64) (.arr 7 (.arr 4 (.arr 2 (.pair (.pair (.int .i64) (.int .i64)) .str)))))), (.int .i64)] fun x => votes_New x.1
noncomputable def x_votes_New : Cx := { ti := ti, con := [], fns := [], un := 6 }
theorem xok_votes_New : CxOk Try.prog x_votes_New := CxOk.of mixed ti_ok (List.forall_mem_nil _) (List.forall_mem_nil _)
theorem fn_votes_New : FnOk Try.prog 12 Try.f12 [] := ⟨Try.func12, Try.call12, lps_nil⟩
theorem e_votes_New (n : Int) : bodyK x_votes_New [] (denF x_votes_New 8) Try.f12 (domV [(.int .i64)] (n, ())) [] 0 (kOut [(.ptr (.pair (.int .i64) (.arr 7 (.arr 4 (.arr 2 (.pair (.pair (.int .i64) (.int .i64)) .str)))))), (.int .i64)]) = votes_New' n := by kernel_rfl
theorem con_votes_New : ConOk Try.prog 12 c_votes_New := con_ok xok_votes_New 8 fn_votes_New false [(.int .i64)] [(.ptr (.pair (.int .i64) (.arr 7 (.arr 4 (.arr 2 (.pair (.pair (.int .i64) (.int .i64)) .str)))))), (.int .i64)] _ (by decide) (fun x => by rw [votes_New_eq]; exact e_votes_New x.1)
abbrev I_votes_Votes_Put_m : Shape := { sl := [(0, (.c ⟨(.ptr (.pair (.int .i64) (.arr 7 (.arr 4 (.arr 2 (.pair (.pair (.int .i64) (.int .i64)) .str)))))), (.rf 0 [])⟩)), (1, (.v (.int .i64))), (2, (.v (.pair (.int .i64) (.int .i64)))), (3, (.v .str))], ob := [(0, (.v (.pair (.int .i64) (.arr 7 (.arr 4 (.arr 2 (.pair (.pair (.int .i64) (.int .i64)) .str)))))))], lo := 1, nx := 1 }
abbrev O_votes_Votes_Put_m : List Shape := [{ sl := [(0, (.v .bool))], ob := [(0, (.v (.pair (.int .i64) (.arr 7 (.arr 4 (.arr 2 (.pair (.pair (.int .i64) (.int .i64)) .str)))))))], lo := 2, nx := 2 }]
noncomputable def c_votes_Votes_Put_m : Con := conS I_votes_Votes_Put_m O_votes_Votes_Put_m fun x => votes_Votes_Put_m x.1.2.1 x.1.2.2.1 x.1.2.2.2.1 x.2.1
noncomputable def x_votes_Votes_Put_m : Cx := { ti := ti, con := [(38, c_stamp_May)], fns := [(39, Try.f39, [])], un := 6 }
theorem xok_votes_Votes_Put_m : CxOk Try.prog x_votes_Votes_Put_m := CxOk.of mixed ti_ok (List.forall_mem_cons.2 ⟨con_stamp_May, List.forall_mem_nil _⟩) (List.forall_mem_cons.2 ⟨⟨Try.func39, Try.call39, lps_nil⟩, List.forall_mem_nil _⟩)
theorem fn_votes_Votes_Put_m : FnOk Try.prog 14 Try.f14 [] := ⟨Try.func14, Try.call14, lps_nil⟩
theorem e_votes_Votes_Put_m (server : Int) (s : (Int × Int)) (digest : ByteArray) (v : (Int × (Nat → (Nat → (Nat → ((Int × Int) × ByteArray)))))) : bodyK x_votes_Votes_Put_m [] (denF x_votes_Votes_Put_m 8) Try.f14 ((mkVals I_votes_Votes_Put_m.sl (show I_votes_Votes_Put_m.X from (((), (server, (s, (digest, ())))), (v, ()))).1).map .v) (shHp I_votes_Votes_Put_m (((), (server, (s, (digest, ())))), (v, ()))) I_votes_Votes_Put_m.nx (kOutS 1 O_votes_Votes_Put_m) = votes_Votes_Put_m' server s digest v := by kernel_rfl
theorem con_votes_Votes_Put_m : ConOk Try.prog 14 c_votes_Votes_Put_m := conS_ok xok_votes_Votes_Put_m 8 fn_votes_Votes_Put_m 1 I_votes_Votes_Put_m O_votes_Votes_Put_m _ (by decide) (fun x => by rw [votes_Votes_Put_m_eq]; exact e_votes_Votes_Put_m x.1.2.1 x.1.2.2.1 x.1.2.2.2.1 x.2.1)
noncomputable def c_votes_Votes_Put : Con := conV true [(.ptr (.pair (.int .i64) (.arr 7 (.arr 4 (.arr 2 (.pair (.pair (.int .i64) (.int .i64)) .str)))))), (.int .i64), (.pair (.int .i64) (.int .i64)), .str] [.bool] fun x => votes_Votes_Put x.1 x.2.1 x.2.2.1 x.2.2.2.1
noncomputable def x_votes_Votes_Put : Cx := { ti := ti, con := [(38, c_stamp_May)], fns := [(39, Try.f39, [])], un := 6 }
theorem xok_votes_Votes_Put : CxOk Try.prog x_votes_Votes_Put := CxOk.of mixed ti_ok (List.forall_mem_cons.2 ⟨con_stamp_May, List.forall_mem_nil _⟩) (List.forall_mem_cons.2 ⟨⟨Try.func39, Try.call39, lps_nil⟩, List.forall_mem_nil _⟩)
theorem fn_votes_Votes_Put : FnOk Try.prog 14 Try.f14 [] := ⟨Try.func14, Try.call14, lps_nil⟩
theorem e_votes_Votes_Put (v : (Option (Int × (Nat → (Nat → (Nat → ((Int × Int) × ByteArray))))))) (server : Int) (s : (Int × Int)) (digest : ByteArray) : bodyK x_votes_Votes_Put [] (denF x_votes_Votes_Put 8) Try.f14 (domV [(.ptr (.pair (.int .i64) (.arr 7 (.arr 4 (.arr 2 (.pair (.pair (.int .i64) (.int .i64)) .str)))))), (.int .i64), (.pair (.int .i64) (.int .i64)), .str] (v, server, s, digest, ())) [] 0 (kOut [.bool]) = votes_Votes_Put' v server s digest := by cases v <;> kernel_rfl
theorem con_votes_Votes_Put : ConOk Try.prog 14 c_votes_Votes_Put := con_ok xok_votes_Votes_Put 8 fn_votes_Votes_Put true [(.ptr (.pair (.int .i64) (.arr 7 (.arr 4 (.arr 2 (.pair (.pair (.int .i64) (.int .i64)) .str)))))), (.int .i64), (.pair (.int .i64) (.int .i64)), .str] [.bool] _ (by decide) (fun x => by rw [votes_Votes_Put_eq]; exact e_votes_Votes_Put x.1 x.2.1 x.2.2.1 x.2.2.2.1)
abbrev S_votes_Votes_Count_0 : Shape := { sl := [(0, (.pz (.pair (.int .i64) (.arr 7 (.arr 4 (.arr 2 (.pair (.pair (.int .i64) (.int .i64)) .str))))))), (2, (.v .str)), (4, (.c ⟨(.ptr (.pair (.int .i64) (.int .i64))), (.rf 0 [])⟩)), (7, (.v (.int .i64))), (19, (.v (.int .i64))), (20, (.v (.int .i64)))], ob := [(0, (.v (.pair (.int .i64) (.int .i64))))], lo := 1, nx := 1 }
abbrev E_votes_Votes_Count_0 : List Ex := [(.normal, { sl := [(7, (.v (.int .i64)))], ob := [], lo := 1, nx := 1 })]
noncomputable def L_votes_Votes_Count_0 : Code := loopIn (bodyOf Try.f15) 0
noncomputable def P_votes_Votes_Count_0 : Lp := lpOf S_votes_Votes_Count_0 E_votes_Votes_Count_0 45 R_votes_Votes_Count_0
noncomputable def c_votes_Votes_Count : Con := conV true [(.ptr (.pair (.int .i64) (.arr 7 (.arr 4 (.arr 2 (.pair (.pair (.int .i64) (.int .i64)) .str)))))), (.pair (.int .i64) (.int .i64)), .str] [(.int .i64)] fun x => votes_Votes_Count x.1 x.2.1 x.2.2.1
noncomputable def x_votes_Votes_Count : Cx := { ti := ti, con := [(38, c_stamp_May)], fns := [], un := 6 }
theorem xok_votes_Votes_Count : CxOk Try.prog x_votes_Votes_Count := CxOk.of mixed ti_ok (List.forall_mem_cons.2 ⟨con_stamp_May, List.forall_mem_nil _⟩) (List.forall_mem_nil _)
theorem r_votes_Votes_Count_0 (x : S_votes_Votes_Count_0.X) : denC x_votes_Votes_Count [] (denF x_votes_Votes_Count 8) L_votes_Votes_Count_0 (S_votes_Votes_Count_0.mkS 45 x) (kRound 0 S_votes_Votes_Count_0 E_votes_Votes_Count_0) = R_votes_Votes_Count_0 x := by kernel_rfl
theorem l_votes_Votes_Count_0 : LpOk Try.prog 0 (.loop L_votes_Votes_Count_0) P_votes_Votes_Count_0 := lpOf_ok xok_votes_Votes_Count 8 (lps_nil) S_votes_Votes_Count_0 E_votes_Votes_Count_0 45 R_votes_Votes_Count_0 (by decide) r_votes_Votes_Count_0
theorem fn_votes_Votes_Count : FnOk Try.prog 15 Try.f15 [(0, P_votes_Votes_Count_0)] := ⟨Try.func15, Try.call15, lps_of (by kernel_rfl) (lps_one l_votes_Votes_Count_0 (by kernel_rfl) (List.forall_mem_nil _))⟩
theorem e_votes_Votes_Count (v : (Option (Int × (Nat → (Nat → (Nat → ((Int × Int) × ByteArray))))))) (s : (Int × Int)) (digest : ByteArray) : bodyK x_votes_Votes_Count [(0, P_votes_Votes_Count_0)] (denF x_votes_Votes_Count 8) Try.f15 (domV [(.ptr (.pair (.int .i64) (.arr 7 (.arr 4 (.arr 2 (.pair (.pair (.int .i64) (.int .i64)) .str)))))), (.pair (.int .i64) (.int .i64)), .str] (v, s, digest, ())) [] 0 (kOut [(.int .i64)]) = votes_Votes_Count' v s digest := by cases v <;> kernel_rfl
theorem con_votes_Votes_Count : ConOk Try.prog 15 c_votes_Votes_Count := con_ok xok_votes_Votes_Count 8 fn_votes_Votes_Count true [(.ptr (.pair (.int .i64) (.arr 7 (.arr 4 (.arr 2 (.pair (.pair (.int .i64) (.int .i64)) .str)))))), (.pair (.int .i64) (.int .i64)), .str] [(.int .i64)] _ (by decide) (fun x => by rw [votes_Votes_Count_eq]; exact e_votes_Votes_Count x.1 x.2.1 x.2.2.1)
noncomputable def c_votes_Votes_At : Con := conV true [(.ptr (.pair (.int .i64) (.arr 7 (.arr 4 (.arr 2 (.pair (.pair (.int .i64) (.int .i64)) .str)))))), (.int .i64), (.int .i64), (.int .i64)] [(.pair (.int .i64) (.int .i64)), .str] fun x => votes_Votes_At x.1 x.2.1 x.2.2.1 x.2.2.2.1
noncomputable def x_votes_Votes_At : Cx := { ti := ti, con := [], fns := [(39, Try.f39, [])], un := 6 }
theorem xok_votes_Votes_At : CxOk Try.prog x_votes_Votes_At := CxOk.of mixed ti_ok (List.forall_mem_nil _) (List.forall_mem_cons.2 ⟨⟨Try.func39, Try.call39, lps_nil⟩, List.forall_mem_nil _⟩)
theorem fn_votes_Votes_At : FnOk Try.prog 17 Try.f17 [] := ⟨Try.func17, Try.call17, lps_nil⟩
theorem e_votes_Votes_At (v : (Option (Int × (Nat → (Nat → (Nat → ((Int × Int) × ByteArray))))))) (server : Int) (client : Int) (odd : Int) : bodyK x_votes_Votes_At [] (denF x_votes_Votes_At 8) Try.f17 (domV [(.ptr (.pair (.int .i64) (.arr 7 (.arr 4 (.arr 2 (.pair (.pair (.int .i64) (.int .i64)) .str)))))), (.int .i64), (.int .i64), (.int .i64)] (v, server, client, odd, ())) [] 0 (kOut [(.pair (.int .i64) (.int .i64)), .str]) = votes_Votes_At' v server client odd := by cases v <;> kernel_rfl
theorem con_votes_Votes_At : ConOk Try.prog 17 c_votes_Votes_At := con_ok xok_votes_Votes_At 8 fn_votes_Votes_At true [(.ptr (.pair (.int .i64) (.arr 7 (.arr 4 (.arr 2 (.pair (.pair (.int .i64) (.int .i64)) .str)))))), (.int .i64), (.int .i64), (.int .i64)] [(.pair (.int .i64) (.int .i64)), .str] _ (by decide) (fun x => by rw [votes_Votes_At_eq]; exact e_votes_Votes_At x.1 x.2.1 x.2.2.1 x.2.2.2.1)
abbrev I_votes_Votes_Copy_m : Shape := { sl := [(0, (.c ⟨(.ptr (.pair (.int .i64) (.arr 7 (.arr 4 (.arr 2 (.pair (.pair (.int .i64) (.int .i64)) .str)))))), (.rf 0 [])⟩))], ob := [(0, (.v (.pair (.int .i64) (.arr 7 (.arr 4 (.arr 2 (.pair (.pair (.int .i64) (.int .i64)) .str)))))))], lo := 1, nx := 1 }
abbrev O_votes_Votes_Copy_m : List Shape := [{ sl := [(0, (.c ⟨(.ptr (.pair (.int .i64) (.arr 7 (.arr 4 (.arr 2 (.pair (.pair (.int .i64) (.int .i64)) .str)))))), .nil⟩))], ob := [(0, (.v (.pair (.int .i64) (.arr 7 (.arr 4 (.arr 2 (.pair (.pair (.int .i64) (.int .i64)) .str)))))))], lo := 1, nx := 1 }, { sl := [(0, (.c ⟨(.ptr (.pair (.int .i64) (.arr 7 (.arr 4 (.arr 2 (.pair (.pair (.int .i64) (.int .i64)) .str)))))), (.rf 1 [])⟩))], ob := [(0, (.v (.pair (.int .i64) (.arr 7 (.arr 4 (.arr 2 (.pair (.pair (.int .i64) (.int .i64)) .str))))))), (1, (.v (.pair (.int .i64) (.arr 7 (.arr 4 (.arr 2 (.pair (.pair (.int .i64) (.int .i64)) .str)))))))], lo := 2, nx := 2 }]
noncomputable def c_votes_Votes_Copy_m : Con := conS I_votes_Votes_Copy_m O_votes_Votes_Copy_m fun x => votes_Votes_Copy_m x.2.1
noncomputable def x_votes_Votes_Copy_m : Cx := { ti := ti, con := [], fns := [], un := 6 }
theorem xok_votes_Votes_Copy_m : CxOk Try.prog x_votes_Votes_Copy_m := CxOk.of mixed ti_ok (List.forall_mem_nil _) (List.forall_mem_nil _)
theorem fn_votes_Votes_Copy_m : FnOk Try.prog 19 Try.f19 [] := ⟨Try.func19, Try.call19, lps_nil⟩
theorem e_votes_Votes_Copy_m (v : (Int × (Nat → (Nat → (Nat → ((Int × Int) × ByteArray)))))) : bodyK x_votes_Votes_Copy_m [] (denF x_votes_Votes_Copy_m 8) Try.f19 ((mkVals I_votes_Votes_Copy_m.sl (show I_votes_Votes_Copy_m.X from (((), ()), (v, ()))).1).map .v) (shHp I_votes_Votes_Copy_m (((), ()), (v, ()))) I_votes_Votes_Copy_m.nx (kOutS 1 O_votes_Votes_Copy_m) = votes_Votes_Copy_m' v := by kernel_rfl
theorem con_votes_Votes_Copy_m : ConOk Try.prog 19 c_votes_Votes_Copy_m := conS_ok xok_votes_Votes_Copy_m 8 fn_votes_Votes_Copy_m 1 I_votes_Votes_Copy_m O_votes_Votes_Copy_m _ (by decide) (fun x => by rw [votes_Votes_Copy_m_eq]; exact e_votes_Votes_Copy_m x.2.1)
noncomputable def c_votes_Votes_Copy : Con := conV false [(.ptr (.pair (.int .i64) (.arr 7 (.arr 4 (.arr 2 (.pair (.pair (.int .i64) (.int .i64)) .str))))))] [(.ptr (.pair (.int .i64) (.arr 7 (.arr 4 (.arr 2 (.pair (.pair (.int .i64) (.int .i64)) .str))))))] fun x => votes_Votes_Copy x.1
noncomputable def x_votes_Votes_Copy : Cx := { ti := ti, con := [], fns := [], un := 6 }
theorem xok_votes_Votes_Copy : CxOk Try.prog x_votes_Votes_Copy := CxOk.of mixed ti_ok (List.forall_mem_nil _) (List.forall_mem_nil _)
theorem fn_votes_Votes_Copy : FnOk Try.prog 19 Try.f19 [] := ⟨Try.func19, Try.call19, lps_nil⟩
theorem e_votes_Votes_Copy (v : (Option (Int × (Nat → (Nat → (Nat → ((Int × Int) × ByteArray))))))) : bodyK x_votes_Votes_Copy [] (denF x_votes_Votes_Copy 8) Try.f19 (domV [(.ptr (.pair (.int .i64) (.arr 7 (.arr 4 (.arr 2 (.pair (.pair (.int .i64) (.int .i64)) .str))))))] (v, ())) [] 0 (kOut [(.ptr (.pair (.int .i64) (.arr 7 (.arr 4 (.arr 2 (.pair (.pair (.int .i64) (.int .i64)) .str))))))]) = votes_Votes_Copy' v := by cases v <;> kernel_rfl
theorem con_votes_Votes_Copy : ConOk Try.prog 19 c_votes_Votes_Copy := con_ok xok_votes_Votes_Copy 8 fn_votes_Votes_Copy false [(.ptr (.pair (.int .i64) (.arr 7 (.arr 4 (.arr 2 (.pair (.pair (.int .i64) (.int .i64)) .str))))))] [(.ptr (.pair (.int .i64) (.arr 7 (.arr 4 (.arr 2 (.pair (.pair (.int .i64) (.int .i64)) .str))))))] _ (by decide) (fun x => by rw [votes_Votes_Copy_eq]; exact e_votes_Votes_Copy x.1)
end Go.Proofs.Ytejjdkhjdcjbbaa

set_option linter.unusedVariables false
set_option linter.unusedSimpArgs false
set_option maxRecDepth 100000
set_option maxHeartbeats 0
namespace Go.Pl
end Go.Pl
open Go Go.Den Go.Pl
namespace Go.Proofs.Ytejjdkhjdcjbbaa
noncomputable def c_r20_May : Con := conV true [(.pair (.int .i64) (.int .i64))] [.bool] fun x => r20_May x.1
noncomputable def x_r20_May : Cx := { ti := ti, con := [], fns := [], un := 6 }
theorem xok_r20_May : CxOk Try.prog x_r20_May := CxOk.of mixed ti_ok (List.forall_mem_nil _) (List.forall_mem_nil _)
theorem fn_r20_May : FnOk Try.prog 36 Try.f36 [] := ⟨Try.func36, Try.call36, lps_nil⟩
theorem e_r20_May (s : (Int × Int)) : bodyK x_r20_May [] (denF x_r20_May 8) Try.f36 (domV [(.pair (.int .i64) (.int .i64))] (s, ())) [] 0 (kOut [.bool]) = r20_May' s := by kernel_rfl
theorem con_r20_May : ConOk Try.prog 36 c_r20_May := con_ok xok_r20_May 8 fn_r20_May true [(.pair (.int .i64) (.int .i64))] [.bool] _ (by decide) (fun x => by rw [r20_May_eq]; exact e_r20_May x.1)
end Go.Proofs.Ytejjdkhjdcjbbaa

set_option linter.unusedVariables false
set_option linter.unusedSimpArgs false
set_option maxRecDepth 100000
set_option maxHeartbeats 0
namespace Go.Pl
end Go.Pl
open Go Go.Den Go.Pl
namespace Go.Proofs.Ytejjdkhjdcjbbaa
noncomputable def c_r21_same : Con := conV true [(.pair (.int .i64) (.pair (.pair (.int .i64) (.int .i64)) .str)), (.pair (.int .i64) (.pair (.pair (.int .i64) (.int .i64)) .str))] [.bool] fun x => r21_same x.1 x.2.1
noncomputable def x_r21_same : Cx := { ti := ti, con := [], fns := [], un := 6 }
theorem xok_r21_same : CxOk Try.prog x_r21_same := CxOk.of mixed ti_ok (List.forall_mem_nil _) (List.forall_mem_nil _)
theorem fn_r21_same : FnOk Try.prog 37 Try.f37 [] := ⟨Try.func37, Try.call37, lps_nil⟩
theorem e_r21_same (a : (Int × ((Int × Int) × ByteArray))) (b : (Int × ((Int × Int) × ByteArray))) : bodyK x_r21_same [] (denF x_r21_same 8) Try.f37 (domV [(.pair (.int .i64) (.pair (.pair (.int .i64) (.int .i64)) .str)), (.pair (.int .i64) (.pair (.pair (.int .i64) (.int .i64)) .str))] (a, b, ())) [] 0 (kOut [.bool]) = r21_same' a b := by kernel_rfl
theorem con_r21_same : ConOk Try.prog 37 c_r21_same := con_ok xok_r21_same 8 fn_r21_same true [(.pair (.int .i64) (.pair (.pair (.int .i64) (.int .i64)) .str)), (.pair (.int .i64) (.pair (.pair (.int .i64) (.int .i64)) .str))] [.bool] _ (by decide) (fun x => by rw [r21_same_eq]; exact e_r21_same x.1 x.2.1)
abbrev S_r21_Put_0 : Shape := { sl := [(0, (.sz (.pair (.int .i64) (.pair (.pair (.int .i64) (.int .i64)) .str)))), (5, (.c ⟨(.ptr (.pair (.int .i64) (.pair (.pair (.int .i64) (.int .i64)) .str))), (.rf 0 [])⟩)), (8, (.w 34 (.pair (.int .i64) (.pair (.pair (.int .i64) (.int .i64)) .str)) 1)), (9, (.v (.int .i64)))], ob := [(0, (.v (.pair (.int .i64) (.pair (.pair (.int .i64) (.int .i64)) .str))))], lo := 1, nx := 2 }
abbrev E_r21_Put_0 : List Ex := [(.ret, { sl := [(6, (.sz (.pair (.int .i64) (.pair (.pair (.int .i64) (.int .i64)) .str)))), (7, (.v .bool))], ob := [], lo := 2, nx := 2 }), (.normal, { sl := [(5, (.c ⟨(.ptr (.pair (.int .i64) (.pair (.pair (.int .i64) (.int .i64)) .str))), (.rf 0 [])⟩)), (8, (.w 34 (.pair (.int .i64) (.pair (.pair (.int .i64) (.int .i64)) .str)) 2))], ob := [(0, (.v (.pair (.int .i64) (.pair (.pair (.int .i64) (.int .i64)) .str))))], lo := 2, nx := 3 })]
noncomputable def L_r21_Put_0 : Code := loopIn (bodyOf Try.f13) 0
noncomputable def P_r21_Put_0 : Lp := lpOf S_r21_Put_0 E_r21_Put_0 62 R_r21_Put_0
noncomputable def c_r21_Put : Con := conV false [(.sl (.pair (.int .i64) (.pair (.pair (.int .i64) (.int .i64)) .str))), (.int .i64), (.pair (.int .i64) (.pair (.pair (.int .i64) (.int .i64)) .str))] [(.sl (.pair (.int .i64) (.pair (.pair (.int .i64) (.int .i64)) .str))), .bool] fun x => r21_Put x.1.1 x.1.2 x.2.1 x.2.2.1
noncomputable def x_r21_Put : Cx := { ti := ti, con := [(36, c_r20_May), (37, c_r21_same)], fns := [], un := 6 }
theorem xok_r21_Put : CxOk Try.prog x_r21_Put := CxOk.of mixed ti_ok (List.forall_mem_cons.2 ⟨con_r20_May, List.forall_mem_cons.2 ⟨con_r21_same, List.forall_mem_nil _⟩⟩) (List.forall_mem_nil _)
theorem r_r21_Put_0 (x : S_r21_Put_0.X) : denC x_r21_Put [] (denF x_r21_Put 8) L_r21_Put_0 (S_r21_Put_0.mkS 62 x) (kRound 0 S_r21_Put_0 E_r21_Put_0) = R_r21_Put_0 x := by kernel_rfl
theorem l_r21_Put_0 : LpOk Try.prog 0 (.loop L_r21_Put_0) P_r21_Put_0 := lpOf_ok xok_r21_Put 8 (lps_nil) S_r21_Put_0 E_r21_Put_0 62 R_r21_Put_0 (by decide) r_r21_Put_0
theorem fn_r21_Put : FnOk Try.prog 13 Try.f13 [(0, P_r21_Put_0)] := ⟨Try.func13, Try.call13, lps_of (by kernel_rfl) (lps_one l_r21_Put_0 (by kernel_rfl) (List.forall_mem_nil _))⟩
theorem e_r21_Put (nl : Nat) (l : Nat → (Int × ((Int × Int) × ByteArray))) (n : Int) (v : (Int × ((Int × Int) × ByteArray))) : bodyK x_r21_Put [(0, P_r21_Put_0)] (denF x_r21_Put 8) Try.f13 (domV [(.sl (.pair (.int .i64) (.pair (.pair (.int .i64) (.int .i64)) .str))), (.int .i64), (.pair (.int .i64) (.pair (.pair (.int .i64) (.int .i64)) .str))] ((nl, l), n, v, ())) [] 0 (kOut [(.sl (.pair (.int .i64) (.pair (.pair (.int .i64) (.int .i64)) .str))), .bool]) = r21_Put' nl l n v := by kernel_rfl
theorem con_r21_Put : ConOk Try.prog 13 c_r21_Put := con_ok xok_r21_Put 8 fn_r21_Put false [(.sl (.pair (.int .i64) (.pair (.pair (.int .i64) (.int .i64)) .str))), (.int .i64), (.pair (.int .i64) (.pair (.pair (.int .i64) (.int .i64)) .str))] [(.sl (.pair (.int .i64) (.pair (.pair (.int .i64) (.int .i64)) .str))), .bool] _ (by decide) (fun x => by rw [r21_Put_eq]; exact e_r21_Put x.1.1 x.1.2 x.2.1 x.2.2.1)
abbrev S_r21_Count_0 : Shape := { sl := [(0, (.sz (.pair (.int .i64) (.pair (.pair (.int .i64) (.int .i64)) .str)))), (2, (.v .str)), (4, (.c ⟨(.ptr (.pair (.int .i64) (.int .i64))), (.rf 0 [])⟩)), (7, (.v (.int .i64))), (8, (.v (.int .i64)))], ob := [(0, (.v (.pair (.int .i64) (.int .i64))))], lo := 1, nx := 1 }
abbrev E_r21_Count_0 : List Ex := [(.normal, { sl := [(7, (.v (.int .i64)))], ob := [], lo := 1, nx := 1 })]
noncomputable def L_r21_Count_0 : Code := loopIn (bodyOf Try.f16) 0
noncomputable def P_r21_Count_0 : Lp := lpOf S_r21_Count_0 E_r21_Count_0 34 R_r21_Count_0
noncomputable def c_r21_Count : Con := conV true [(.sl (.pair (.int .i64) (.pair (.pair (.int .i64) (.int .i64)) .str))), (.pair (.int .i64) (.int .i64)), .str] [(.int .i64)] fun x => r21_Count x.1.1 x.1.2 x.2.1 x.2.2.1
noncomputable def x_r21_Count : Cx := { ti := ti, con := [], fns := [], un := 6 }
theorem xok_r21_Count : CxOk Try.prog x_r21_Count := CxOk.of mixed ti_ok (List.forall_mem_nil _) (List.forall_mem_nil _)
theorem r_r21_Count_0 (x : S_r21_Count_0.X) : denC x_r21_Count [] (denF x_r21_Count 8) L_r21_Count_0 (S_r21_Count_0.mkS 34 x) (kRound 0 S_r21_Count_0 E_r21_Count_0) = R_r21_Count_0 x := by kernel_rfl
theorem l_r21_Count_0 : LpOk Try.prog 0 (.loop L_r21_Count_0) P_r21_Count_0 := lpOf_ok xok_r21_Count 8 (lps_nil) S_r21_Count_0 E_r21_Count_0 34 R_r21_Count_0 (by decide) r_r21_Count_0
theorem fn_r21_Count : FnOk Try.prog 16 Try.f16 [(0, P_r21_Count_0)] := ⟨Try.func16, Try.call16, lps_of (by kernel_rfl) (lps_one l_r21_Count_0 (by kernel_rfl) (List.forall_mem_nil _))⟩
theorem e_r21_Count (nl : Nat) (l : Nat → (Int × ((Int × Int) × ByteArray))) (s : (Int × Int)) (digest : ByteArray) : bodyK x_r21_Count [(0, P_r21_Count_0)] (denF x_r21_Count 8) Try.f16 (domV [(.sl (.pair (.int .i64) (.pair (.pair (.int .i64) (.int .i64)) .str))), (.pair (.int .i64) (.int .i64)), .str] ((nl, l), s, digest, ())) [] 0 (kOut [(.int .i64)]) = r21_Count' nl l s digest := by kernel_rfl
theorem con_r21_Count : ConOk Try.prog 16 c_r21_Count := con_ok xok_r21_Count 8 fn_r21_Count true [(.sl (.pair (.int .i64) (.pair (.pair (.int .i64) (.int .i64)) .str))), (.pair (.int .i64) (.int .i64)), .str] [(.int .i64)] _ (by decide) (fun x => by rw [r21_Count_eq]; exact e_r21_Count x.1.1 x.1.2 x.2.1 x.2.2.1)
abbrev S_r21_At_0 : Shape := { sl := [(0, (.sz (.pair (.int .i64) (.pair (.pair (.int .i64) (.int .i64)) .str)))), (1, (.v (.int .i64))), (2, (.v (.int .i64))), (3, (.v (.int .i64))), (8, (.c ⟨(.ptr (.pair (.int .i64) (.int .i64))), (.rf 0 [])⟩)), (10, (.v (.int .i64)))], ob := [(0, (.v (.pair (.int .i64) (.int .i64))))], lo := 1, nx := 1 }
abbrev E_r21_At_0 : List Ex := [(.ret, { sl := [(8, (.c ⟨(.ptr (.pair (.int .i64) (.int .i64))), (.rf 0 [])⟩)), (9, (.v .str))], ob := [(0, (.v (.pair (.int .i64) (.int .i64))))], lo := 1, nx := 1 }), (.normal, { sl := [(8, (.c ⟨(.ptr (.pair (.int .i64) (.int .i64))), (.rf 0 [])⟩))], ob := [(0, (.v (.pair (.int .i64) (.int .i64))))], lo := 1, nx := 1 })]
noncomputable def L_r21_At_0 : Code := loopIn (bodyOf Try.f18) 0
noncomputable def P_r21_At_0 : Lp := lpOf S_r21_At_0 E_r21_At_0 56 R_r21_At_0
noncomputable def c_r21_At : Con := conV true [(.sl (.pair (.int .i64) (.pair (.pair (.int .i64) (.int .i64)) .str))), (.int .i64), (.int .i64), (.int .i64)] [(.pair (.int .i64) (.int .i64)), .str] fun x => r21_At x.1.1 x.1.2 x.2.1 x.2.2.1 x.2.2.2.1
noncomputable def x_r21_At : Cx := { ti := ti, con := [], fns := [], un := 6 }
theorem xok_r21_At : CxOk Try.prog x_r21_At := CxOk.of mixed ti_ok (List.forall_mem_nil _) (List.forall_mem_nil _)
theorem r_r21_At_0 (x : S_r21_At_0.X) : denC x_r21_At [] (denF x_r21_At 8) L_r21_At_0 (S_r21_At_0.mkS 56 x) (kRound 0 S_r21_At_0 E_r21_At_0) = R_r21_At_0 x := by kernel_rfl
theorem l_r21_At_0 : LpOk Try.prog 0 (.loop L_r21_At_0) P_r21_At_0 := lpOf_ok xok_r21_At 8 (lps_nil) S_r21_At_0 E_r21_At_0 56 R_r21_At_0 (by decide) r_r21_At_0
theorem fn_r21_At : FnOk Try.prog 18 Try.f18 [(0, P_r21_At_0)] := ⟨Try.func18, Try.call18, lps_of (by kernel_rfl) (lps_one l_r21_At_0 (by kernel_rfl) (List.forall_mem_nil _))⟩
theorem e_r21_At (nl : Nat) (l : Nat → (Int × ((Int × Int) × ByteArray))) (server : Int) (client : Int) (odd : Int) : bodyK x_r21_At [(0, P_r21_At_0)] (denF x_r21_At 8) Try.f18 (domV [(.sl (.pair (.int .i64) (.pair (.pair (.int .i64) (.int .i64)) .str))), (.int .i64), (.int .i64), (.int .i64)] ((nl, l), server, client, odd, ())) [] 0 (kOut [(.pair (.int .i64) (.int .i64)), .str]) = r21_At' nl l server client odd := by kernel_rfl
theorem con_r21_At : ConOk Try.prog 18 c_r21_At := con_ok xok_r21_At 8 fn_r21_At true [(.sl (.pair (.int .i64) (.pair (.pair (.int .i64) (.int .i64)) .str))), (.int .i64), (.int .i64), (.int .i64)] [(.pair (.int .i64) (.int .i64)), .str] _ (by decide) (fun x => by rw [r21_At_eq]; exact e_r21_At x.1.1 x.1.2 x.2.1 x.2.2.1 x.2.2.2.1)
end Go.Proofs.Ytejjdkhjdcjbbaa
