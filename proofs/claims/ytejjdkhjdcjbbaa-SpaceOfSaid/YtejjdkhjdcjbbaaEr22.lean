/-
  The functions of a package are the plain ones.
-/
import Derived.Test.YtejjdkhjdcjbbaaEqA
import Derived.Test.YtejjdkhjdcjbbaaPr22
set_option linter.unusedVariables false
set_option linter.unusedSimpArgs false
set_option maxRecDepth 100000
set_option maxHeartbeats 0
namespace Go.Pl
end Go.Pl
open Go Go.Den Go.Pl
namespace Go.Proofs.Ytejjdkhjdcjbbaa
abbrev S00_0 : Shape := { sl := [(0, (.sz .str)), (1, (.sz .str)), (pv 5 tI)], ob := [], lo := 0, nx := 0 }
abbrev E00_0 : List Ex := [(.ret, { sl := [(4, (.v .bool))], ob := [], lo := 0, nx := 0 }), (.normal, { sl := [], ob := [], lo := 0, nx := 0 })]
noncomputable def L00_0 : Code := loopIn (bodyOf Try.f32) 0
noncomputable def P00_0 : Lp := lpOf S00_0 E00_0 26 R_r22_Same_0
noncomputable def c00_ : Con := conV true [(.sl .str), (.sl .str)] [.bool] fun x => r22_Same x.1.1 x.1.2 x.2.1.1 x.2.1.2
noncomputable def x00_ : Cx := { ti := ti, con := [], fns := [], un := 6 }
theorem xok00_ : CxOk Try.prog x00_ := CxOk.of mixed ti_ok fz fz
theorem r00_0 (x : S00_0.X) : denC x00_ [] (denF x00_ 8) L00_0 (S00_0.mkS 26 x) (kRound 0 S00_0 E00_0) = R_r22_Same_0 x := by kernel_rfl
theorem l00_0 : LpOk Try.prog 0 (.loop L00_0) P00_0 := lpOf_ok xok00_ 8 (lps_nil) S00_0 E00_0 26 R_r22_Same_0 (by decide) r00_0
theorem fn00_ : FnOk Try.prog 32 Try.f32 [(0, P00_0)] := ⟨Try.func32, Try.call32, lps_of (by kernel_rfl) (lps_one l00_0 (by kernel_rfl) fz)⟩
theorem e00_ (na : Nat) (a : Nat → ByteArray) (nb : Nat) (b : Nat → ByteArray) : bodyK x00_ [(0, P00_0)] (denF x00_ 8) Try.f32 (domV [(.sl .str), (.sl .str)] ((na, a), (nb, b), ())) [] 0 (kOut [.bool]) = r22_Same' na a nb b := by kernel_rfl
theorem con00_ : ConOk Try.prog 32 c00_ := con_ok xok00_ 8 fn00_ true [(.sl .str), (.sl .str)] [.bool] _ (by decide) (fun x => by rw [r22_Same_eq]; exact e00_ x.1.1 x.1.2 x.2.1.1 x.2.1.2)
noncomputable def c01_ : Con := conV true [(.pair tI (.pair tI (.pair (.sl .str) (.sl tI)))), tI] [tI] fun x => r22_Quota x.1 x.2.1
noncomputable def x01_ : Cx := { ti := ti, con := [], fns := [], un := 6 }
theorem xok01_ : CxOk Try.prog x01_ := CxOk.of mixed ti_ok fz fz
theorem fn01_ : FnOk Try.prog 31 Try.f31 [] := ⟨Try.func31, Try.call31, lps_nil⟩
theorem e01_ (s : (Int × (Int × ((Nat × (Nat → ByteArray)) × (Nat × NI))))) (end_ : Int) : bodyK x01_ [] (denF x01_ 8) Try.f31 (domV [(.pair tI (.pair tI (.pair (.sl .str) (.sl tI)))), tI] (s, end_, ())) [] 0 (kOut [tI]) = r22_Quota' s end_ := by kernel_rfl
theorem con01_ : ConOk Try.prog 31 c01_ := con_ok xok01_ 8 fn01_ true [(.pair tI (.pair tI (.pair (.sl .str) (.sl tI)))), tI] [tI] _ (by decide) (fun x => by rw [r22_Quota_eq]; exact e01_ x.1 x.2.1)
abbrev S02_0 : Shape := { sl := [(1, (.v .str)), (pc 2 (.pair tI (.pair tI (.pair (.sl .str) (.sl tI)))) 0), (pv 6 tI), (7, (.v .bool)), (pv 8 tI)], ob := [(0, (.p (.v tI) (.p (.v tI) (.p (.sz .str) (.sz tI)))))], lo := 1, nx := 1 }
abbrev E02_0 : List Ex := [(.normal, { sl := [(pv 6 tI), (7, (.v .bool))], ob := [], lo := 1, nx := 1 })]
noncomputable def L02_0 : Code := loopIn (bodyOf Try.f27) 0
noncomputable def P02_0 : Lp := lpOf S02_0 E02_0 38 R_r22_Find_0
noncomputable def c02_ : Con := conV true [(.pair tI (.pair tI (.pair (.sl .str) (.sl tI)))), .str] [tI, .bool] fun x => r22_Find x.1 x.2.1
noncomputable def x02_ : Cx := { ti := ti, con := [], fns := [], un := 6 }
theorem xok02_ : CxOk Try.prog x02_ := CxOk.of mixed ti_ok fz fz
theorem r02_0 (x : S02_0.X) : denC x02_ [] (denF x02_ 8) L02_0 (S02_0.mkS 38 x) (kRound 0 S02_0 E02_0) = R_r22_Find_0 x := by kernel_rfl
theorem l02_0 : LpOk Try.prog 0 (.loop L02_0) P02_0 := lpOf_ok xok02_ 8 (lps_nil) S02_0 E02_0 38 R_r22_Find_0 (by decide) r02_0
theorem fn02_ : FnOk Try.prog 27 Try.f27 [(0, P02_0)] := ⟨Try.func27, Try.call27, lps_of (by kernel_rfl) (lps_one l02_0 (by kernel_rfl) fz)⟩
theorem e02_ (s : (Int × (Int × ((Nat × (Nat → ByteArray)) × (Nat × NI))))) (key : ByteArray) : bodyK x02_ [(0, P02_0)] (denF x02_ 8) Try.f27 (domV [(.pair tI (.pair tI (.pair (.sl .str) (.sl tI)))), .str] (s, key, ())) [] 0 (kOut [tI, .bool]) = r22_Find' s key := by kernel_rfl
theorem con02_ : ConOk Try.prog 27 c02_ := con_ok xok02_ 8 fn02_ true [(.pair tI (.pair tI (.pair (.sl .str) (.sl tI)))), .str] [tI, .bool] _ (by decide) (fun x => by rw [r22_Find_eq]; exact e02_ x.1 x.2.1)
abbrev S03_0 : Shape := { sl := [(pv 1 tI), (pc 2 (.pair tI (.pair tI (.pair (.sl .str) (.sl tI)))) 0), (pv 5 tI), (pv 6 tI)], ob := [(0, (.p (.v tI) (.p (.v tI) (.p (.sz .str) (.sz tI)))))], lo := 1, nx := 1 }
abbrev E03_0 : List Ex := [(.normal, { sl := [(pv 5 tI)], ob := [], lo := 1, nx := 1 })]
noncomputable def L03_0 : Code := loopIn (bodyOf Try.f29) 0
noncomputable def P03_0 : Lp := lpOf S03_0 E03_0 24 R_r22_Used_0
noncomputable def c03_ : Con := conV true [(.pair tI (.pair tI (.pair (.sl .str) (.sl tI)))), tI] [tI] fun x => r22_Used x.1 x.2.1
noncomputable def x03_ : Cx := { ti := ti, con := [], fns := [], un := 6 }
theorem xok03_ : CxOk Try.prog x03_ := CxOk.of mixed ti_ok fz fz
theorem r03_0 (x : S03_0.X) : denC x03_ [] (denF x03_ 8) L03_0 (S03_0.mkS 24 x) (kRound 0 S03_0 E03_0) = R_r22_Used_0 x := by kernel_rfl
theorem l03_0 : LpOk Try.prog 0 (.loop L03_0) P03_0 := lpOf_ok xok03_ 8 (lps_nil) S03_0 E03_0 24 R_r22_Used_0 (by decide) r03_0
theorem fn03_ : FnOk Try.prog 29 Try.f29 [(0, P03_0)] := ⟨Try.func29, Try.call29, lps_of (by kernel_rfl) (lps_one l03_0 (by kernel_rfl) fz)⟩
theorem e03_ (s : (Int × (Int × ((Nat × (Nat → ByteArray)) × (Nat × NI))))) (end_ : Int) : bodyK x03_ [(0, P03_0)] (denF x03_ 8) Try.f29 (domV [(.pair tI (.pair tI (.pair (.sl .str) (.sl tI)))), tI] (s, end_, ())) [] 0 (kOut [tI]) = r22_Used' s end_ := by kernel_rfl
theorem con03_ : ConOk Try.prog 29 c03_ := con_ok xok03_ 8 fn03_ true [(.pair tI (.pair tI (.pair (.sl .str) (.sl tI)))), tI] [tI] _ (by decide) (fun x => by rw [r22_Used_eq]; exact e03_ x.1 x.2.1)
noncomputable def c04_ : Con := conV false [(.pair tI (.pair tI (.pair (.sl .str) (.sl tI)))), .str, tI] [(.pair tI (.pair tI (.pair (.sl .str) (.sl tI)))), tI, .bool, tI] fun x => r22_Open x.1 x.2.1 x.2.2.1
noncomputable def x04_ : Cx := { ti := ti, con := [(31, c01_), (27, c02_), (29, c03_)], fns := [], un := 6 }
theorem xok04_ : CxOk Try.prog x04_ := CxOk.of mixed ti_ok (fc ⟨con01_, fc ⟨con02_, fc ⟨con03_, fz⟩⟩⟩) fz
theorem fn04_ : FnOk Try.prog 24 Try.f24 [] := ⟨Try.func24, Try.call24, lps_nil⟩
theorem e04_ (s : (Int × (Int × ((Nat × (Nat → ByteArray)) × (Nat × NI))))) (key : ByteArray) (end_ : Int) : bodyK x04_ [] (denF x04_ 8) Try.f24 (domV [(.pair tI (.pair tI (.pair (.sl .str) (.sl tI)))), .str, tI] (s, key, end_, ())) [] 0 (kOut [(.pair tI (.pair tI (.pair (.sl .str) (.sl tI)))), tI, .bool, tI]) = r22_Open' s key end_ := by kernel_rfl
theorem con04_ : ConOk Try.prog 24 c04_ := con_ok xok04_ 8 fn04_ false [(.pair tI (.pair tI (.pair (.sl .str) (.sl tI)))), .str, tI] [(.pair tI (.pair tI (.pair (.sl .str) (.sl tI)))), tI, .bool, tI] _ (by decide) (fun x => by rw [r22_Open_eq]; exact e04_ x.1 x.2.1 x.2.2.1)
end Go.Proofs.Ytejjdkhjdcjbbaa
