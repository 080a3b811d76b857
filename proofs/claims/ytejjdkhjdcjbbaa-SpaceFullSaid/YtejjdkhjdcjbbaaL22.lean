/-
  What the statements of a layer share.
-/
import Derived.Test.YtejjdkhjdcjbbaaDenL
import Derived.Test.YtejjdkhjdcjbbaaPr22
import Derived.Test.YtejjdkhjdcjbbaaPspace
import Derived.Test.YtejjdkhjdcjbbaaEqA
import Derived.Test.YtejjdkhjdcjbbaaLib
import Derived.Test.YtejjdkhjdcjbbaaDenF
import Derived.Test.YtejjdkhjdcjbbaaEr22
import Derived.Test.YtejjdkhjdcjbbaaEspace
set_option linter.unusedVariables false
set_option linter.unusedSimpArgs false
set_option maxRecDepth 100000
set_option maxHeartbeats 0
namespace Go.Pl
end Go.Pl
open Go Go.Den Go.Pl
namespace Go.Pl
open Go.IntKind (i64 u64 u32 u8)
abbrev T_l22_short_0 (nl : Nat) (l : Nat → (ByteArray × Int)) (i : Int) := (((nl, l), (i, ())), ())
abbrev Y_l22_short_0_0 (t : Bool) : (((Bool × Unit) × Unit) ⊕ (((Nat × (Nat → (ByteArray × Int))) × Unit) × Unit)) := (.inl ((t, ()), ()))
abbrev Y_l22_short_0_1 (nl : Nat) (l : Nat → (ByteArray × Int)) : (((Bool × Unit) × Unit) ⊕ (((Nat × (Nat → (ByteArray × Int))) × Unit) × Unit)) := (.inr (((nl, l), ()), ()))
abbrev X_l22_short_0 : Type := (((Nat × (Nat → (ByteArray × Int))) × (Int × Unit)) × Unit)
noncomputable def R_l22_short_0 : X_l22_short_0 → Option (X_l22_short_0 ⊕ (((Bool × Unit) × Unit) ⊕ (((Nat × (Nat → (ByteArray × Int))) × Unit) × Unit))) := fun x =>
 let nl := x.1.1.1
 let l := x.1.1.2
 let i := x.1.2.1
 bif (decide (i < ((nl : Nat) : Int))) then (
 bif (decide (i < 60)) then (
 bif (inb i nl) then (
 bif (decide ((((ByteArray.size (l (Int.toNat i)).1) : Nat) : Int) > 40)) then (
 some (.inr (.inl ((false, ()), ()))))
 else (
 some (.inl (((nl, l), ((i64.wrap (i + 1)), ())), ()))))
 else (
 none))
 else (
 some (.inr (.inr (((nl, l), ()), ())))))
 else (
 some (.inr (.inr (((nl, l), ()), ()))))
noncomputable def l22_short' (nl : Nat) (l : Nat → (ByteArray × Int)) : Option (Bool) :=
 match (loopF R_l22_short_0 (((nl, l), (0, ())), ())) with
 | none => none
 | some y => (
 match y with
 | .inl y1 => (
 let t := y1.1.1
 some t)
 | .inr y1 => (
 let nl1 := y1.1.1.1
 let l1 := y1.1.1.2
 some (decide (((nl1 : Nat) : Int) ≤ 60))))
noncomputable def l22_short := veil l22_short'
theorem l22_short_eq : l22_short = l22_short' := veil_eq _
noncomputable def l22_awake'  : Option (Bool) :=
 match (space_New_m 4 2) with
 | none => none
 | some y => (
 match y with
 | .inl y1 => (
 let r := y1.1.2.1
 bif (r != 0) then (
 some false)
 else (
 some false))
 | .inr y1 => (
 let r1 := y1.1.2.1
 let o := y1.2.1.1
 let o1 := y1.2.1.2.1
 let no := y1.2.1.2.2.1.1
 let o2 := y1.2.1.2.2.1.2
 let o3 := y1.2.1.2.2.2
 bif (r1 != 0) then (
 some false)
 else (
 match (space_Space_Open_m (ByteArray.mk #[98]) 5 o o1 no o2 o3) with
 | none => none
 | some y2 => (
 let r2 := y2.1.1
 let r3 := y2.1.2.1
 let r4 := y2.1.2.2.1
 let o4 := y2.2.1.1
 let o5 := y2.2.1.2.1
 let no1 := y2.2.1.2.2.1.1
 let o6 := y2.2.1.2.2.1.2
 let o7 := y2.2.1.2.2.2
 match (space_Space_Open_m (ByteArray.mk #[97]) 5 o4 o5 no1 o6 o7) with
 | none => none
 | some y3 => (
 let r5 := y3.1.1
 let r6 := y3.1.2.1
 let r7 := y3.1.2.2.1
 let o8 := y3.2.1.1
 let o9 := y3.2.1.2.1
 let no2 := y3.2.1.2.2.1.1
 let o10 := y3.2.1.2.2.1.2
 let o11 := y3.2.1.2.2.2
 match (space_Space_Open_m (ByteArray.mk #[98]) 1 o8 o9 no2 o10 o11) with
 | none => none
 | some y4 => (
 let r8 := y4.1.1
 let r9 := y4.1.2.1
 let r10 := y4.1.2.2.1
 let o12 := y4.2.1.1
 let o13 := y4.2.1.2.1
 let no3 := y4.2.1.2.2.1.1
 let o14 := y4.2.1.2.2.1.2
 let o15 := y4.2.1.2.2.2
 match (space_Space_Find_m (ByteArray.mk #[98]) o12 o13 no3 o14 o15) with
 | none => none
 | some y5 => (
 let r11 := y5.1.1
 let r12 := y5.1.2.1
 let o16 := y5.2.1.1
 let o17 := y5.2.1.2.1
 let no4 := y5.2.1.2.2.1.1
 let o18 := y5.2.1.2.2.1.2
 let o19 := y5.2.1.2.2.2
 bif r3 then (
 bif r6 then (
 bif (!r9) then (
 bif (r4 == 0) then (
 bif (r7 == 0) then (
 bif (r10 == 0) then (
 bif (r5 == 0) then (
 bif (r11 == 1) then (
 bif r12 then (
 match (space_Space_Used_m 5 o16 o17 no4 o18 o19) with
 | none => none
 | some y6 => (
 let r13 := y6.1.1
 let o20 := y6.2.1.1
 let o21 := y6.2.1.2.1
 let no5 := y6.2.1.2.2.1.1
 let o22 := y6.2.1.2.2.1.2
 let o23 := y6.2.1.2.2.2
 bif (r13 == 2) then (
 match (space_Space_Used_m 1 o20 o21 no5 o22 o23) with
 | none => none
 | some y7 => (
 let r14 := y7.1.1
 let o24 := y7.2.1.1
 let o25 := y7.2.1.2.1
 let no6 := y7.2.1.2.2.1.1
 let o26 := y7.2.1.2.2.1.2
 let o27 := y7.2.1.2.2.2
 bif (r14 == 0) then (
 bif ((quotaV o24 o25 5) == 4) then (
 bif ((quotaV o24 o25 1) == 32) then (
 match (space_Space_Keys_m o24 o25 no6 o26 o27) with
 | none => none
 | some y8 => (
 let nr := y8.1.1.1
 let r15 := y8.1.1.2
 let o28 := y8.2.1.1
 let o29 := y8.2.1.2.1
 let no7 := y8.2.1.2.2.1.1
 let o30 := y8.2.1.2.2.1.2
 let o31 := y8.2.1.2.2.2
 match (r22_Same nr r15 2 (fun j => (upd (upd (fun _ => ByteArray.empty) 0 (ByteArray.mk #[97])) 1 (ByteArray.mk #[98])) (0 + j))) with
 | none => none
 | some r16 => (
 some r16)))
 else (
 some false))
 else (
 some false))
 else (
 some false)))
 else (
 some false)))
 else (
 some false))
 else (
 some false))
 else (
 some false))
 else (
 some false))
 else (
 some false))
 else (
 some false))
 else (
 some false))
 else (
 some false))
 else (
 some false))))))))
noncomputable def l22_awake := veil l22_awake'
theorem l22_awake_eq : l22_awake = l22_awake' := veil_eq _
end Go.Pl

namespace Go.Proofs.Ytejjdkhjdcjbbaa
abbrev S_l22_short_0 : Shape := { sl := [(0, (.sz (.pair .str tI))), (pv 3 tI)], ob := [], lo := 0, nx := 0 }
abbrev E_l22_short_0 : List Ex := [(.ret, { sl := [(2, (.v .bool))], ob := [], lo := 0, nx := 0 }), (.normal, { sl := [(0, (.sz (.pair .str tI)))], ob := [], lo := 0, nx := 0 })]
noncomputable def L_l22_short_0 : Code := loopIn (bodyOf Try.f21) 0
noncomputable def P_l22_short_0 : Lp := lpOf S_l22_short_0 E_l22_short_0 24 R_l22_short_0
noncomputable def c_l22_short : Con := conV true [(.sl (.pair .str tI))] [.bool] fun x => l22_short x.1.1 x.1.2
noncomputable def x_l22_short : Cx := { ti := ti, con := [], fns := [], un := 6 }
theorem xok_l22_short : CxOk Try.prog x_l22_short := CxOk.of mixed ti_ok fz fz
theorem r_l22_short_0 (x : S_l22_short_0.X) : denC x_l22_short [] (denF x_l22_short 8) L_l22_short_0 (S_l22_short_0.mkS 24 x) (kRound 0 S_l22_short_0 E_l22_short_0) = R_l22_short_0 x := by kernel_rfl
theorem l_l22_short_0 : LpOk Try.prog 0 (.loop L_l22_short_0) P_l22_short_0 := lpOf_ok xok_l22_short 8 (lps_nil) S_l22_short_0 E_l22_short_0 24 R_l22_short_0 (by decide) r_l22_short_0
theorem fn_l22_short : FnOk Try.prog 21 Try.f21 [(0, P_l22_short_0)] := ⟨Try.func21, Try.call21, lps_of (by kernel_rfl) (lps_one l_l22_short_0 (by kernel_rfl) fz)⟩
theorem e_l22_short (nl : Nat) (l : Nat → (ByteArray × Int)) : bodyK x_l22_short [(0, P_l22_short_0)] (denF x_l22_short 8) Try.f21 (domV [(.sl (.pair .str tI))] ((nl, l), ())) [] 0 (kOut [.bool]) = l22_short' nl l := by kernel_rfl
theorem con_l22_short : ConOk Try.prog 21 c_l22_short := con_ok xok_l22_short 8 fn_l22_short true [(.sl (.pair .str tI))] [.bool] _ (by decide) (fun x => by rw [l22_short_eq]; exact e_l22_short x.1.1 x.1.2)
noncomputable def c_l22_awake : Con := conV true [] [.bool] fun x => l22_awake 
noncomputable def x_l22_awake : Cx := { ti := ti, con := [(23, c06_), (25, conIf 0 c0b_ c0c_), (26, conIf 0 c0d_ c0e_), (28, conIf 0 c0f_ c0g_), (30, c_sQuota), (33, conIf 0 c0h_ c0i_), (32, c00_)], fns := [], un := 6 }
theorem xok_l22_awake : CxOk Try.prog x_l22_awake := CxOk.of mixed ti_ok (fc ⟨con06_, fc ⟨conIf_ok con0b_ con0c_, fc ⟨conIf_ok con0d_ con0e_, fc ⟨conIf_ok con0f_ con0g_, fc ⟨con_sQuota, fc ⟨conIf_ok con0h_ con0i_, fc ⟨con00_, fz⟩⟩⟩⟩⟩⟩⟩) fz
theorem fn_l22_awake : FnOk Try.prog 22 Try.f22 [] := ⟨Try.func22, Try.call22, lps_nil⟩
theorem e_l22_awake  : bodyK x_l22_awake [] (denF x_l22_awake 8) Try.f22 (domV [] (())) [] 0 (kOut [.bool]) = l22_awake'  := by kernel_rfl
theorem con_l22_awake : ConOk Try.prog 22 c_l22_awake := con_ok xok_l22_awake 8 fn_l22_awake true [] [.bool] _ (by decide) (fun x => by rw [l22_awake_eq]; exact e_l22_awake )
end Go.Proofs.Ytejjdkhjdcjbbaa
