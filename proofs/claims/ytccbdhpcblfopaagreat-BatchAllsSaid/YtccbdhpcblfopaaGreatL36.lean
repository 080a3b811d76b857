/-
  What the statements of a layer share.
-/
import Derived.Test.YtccbdhpcblfopaaGreatDenI
import Derived.Test.YtccbdhpcblfopaaGreatPbatch
import Derived.Test.YtccbdhpcblfopaaGreatPcommit
import Derived.Test.YtccbdhpcblfopaaGreatPlA
import Derived.Test.YtccbdhpcblfopaaGreatPr17
import Derived.Test.YtccbdhpcblfopaaGreatPshare
import Derived.Test.YtccbdhpcblfopaaGreatEqA
import Derived.Test.YtccbdhpcblfopaaGreatDenF
import Derived.Test.YtccbdhpcblfopaaGreatEbatch
import Derived.Test.YtccbdhpcblfopaaGreatEcommit
import Derived.Test.YtccbdhpcblfopaaGreatEr17
import Derived.Test.YtccbdhpcblfopaaGreatEshare
import Derived.Test.YtccbdhpcblfopaaGreatMF
import Derived.Test.YtccbdhpcblfopaaGreatMA
set_option linter.unusedVariables false
set_option linter.unusedSimpArgs false
set_option maxRecDepth 100000
set_option maxHeartbeats 0
namespace Go.Pl
end Go.Pl
open Go Go.Den Go.Pl
namespace Go.Pl
open Go.IntKind (i64 u64 u32 u8)
abbrev T_l36_few_0 (nl : Nat) (l : Nat → ((SlV NI) × (Int × NI))) (nweights : Nat) (weights : Nat → NI) (i : Int) := (((nl, l), ((nweights, weights), (i, ()))), ())
abbrev Y_l36_few_0_0 (t : Bool) : (((Bool × Unit) × Unit) ⊕ (((Nat × (Nat → ((SlV NI) × (Int × NI)))) × ((Nat × (Nat → NI)) × Unit)) × Unit)) := (.inl ((t, ()), ()))
abbrev Y_l36_few_0_1 (nl : Nat) (l : Nat → ((SlV NI) × (Int × NI))) (nweights : Nat) (weights : Nat → NI) : (((Bool × Unit) × Unit) ⊕ (((Nat × (Nat → ((SlV NI) × (Int × NI)))) × ((Nat × (Nat → NI)) × Unit)) × Unit)) := (.inr (((nl, l), ((nweights, weights), ())), ()))
abbrev X_l36_few_0 : Type := (((Nat × (Nat → ((SlV NI) × (Int × NI)))) × ((Nat × (Nat → NI)) × (Int × Unit))) × Unit)
noncomputable def R_l36_few_0 : X_l36_few_0 → Option (X_l36_few_0 ⊕ (((Bool × Unit) × Unit) ⊕ (((Nat × (Nat → ((SlV NI) × (Int × NI)))) × ((Nat × (Nat → NI)) × Unit)) × Unit))) := fun x =>
 let nl := x.1.1.1
 let l := x.1.1.2
 let nweights := x.1.2.1.1
 let weights := x.1.2.1.2
 let i := x.1.2.2.1
 bif (decide (i < ((nl : Nat) : Int))) then (
 bif (decide (i < 8)) then (
 bif (inb i nl) then (
 bif (SlV.isMs (l (Int.toNat i)).1) then (
 none)
 else (
 bif (decide ((((SlV.len (l (Int.toNat i)).1) : Nat) : Int) > 8)) then (
 some (.inr (.inl ((false, ()), ()))))
 else (
 some (.inl (((nl, l), ((nweights, weights), ((i64.wrap (i + 1)), ()))), ())))))
 else (
 none))
 else (
 some (.inr (.inr (((nl, l), ((nweights, weights), ())), ())))))
 else (
 some (.inr (.inr (((nl, l), ((nweights, weights), ())), ()))))
noncomputable def l36_few' (nl : Nat) (l : Nat → ((SlV NI) × (Int × NI))) (nweights : Nat) (weights : Nat → NI) : Option (Bool) :=
 match (loopF R_l36_few_0 (((nl, l), ((nweights, weights), (0, ()))), ())) with
 | none => none
 | some y => (
 match y with
 | .inl y1 => (
 let t := y1.1.1
 some t)
 | .inr y1 => (
 let nl1 := y1.1.1.1
 let l1 := y1.1.1.2
 let nweights1 := y1.1.2.1.1
 let weights1 := y1.1.2.1.2
 bif (decide (((nl1 : Nat) : Int) ≤ 8)) then (
 some (decide (((nweights1 : Nat) : Int) ≤ 8)))
 else (
 some false)))
noncomputable def l36_few := veil l36_few'
theorem l36_few_eq : l36_few = l36_few' := veil_eq _
noncomputable def l36_small' (which : Int) : Option ((Option (((PtrV (NI × (Int × (NI × NI)))) × (PtrV (NI × (Int × (NI × NI))))) × NI)) × (Int × (Int × Int)) × Bool) :=
 match (r07_Pick which) with
 | none => none
 | some r => (
 match (group_New ((r.1.1, r.1.2), r.2)) with
 | none => none
 | some r1 => (
 match r1.1 with
 | none => (
 match (r09_Of ((r.1.1, r.1.2), r.2)) with
 | none => none
 | some r3 => (
 some (none, r3, (r1.2 == 0))))
 | some p => (
 match (r09_Of ((r.1.1, r.1.2), r.2)) with
 | none => none
 | some r2 => (
 some ((some p), r2, (r1.2 == 0))))))
noncomputable def l36_small := veil l36_small'
theorem l36_small_eq : l36_small = l36_small' := veil_eq _
noncomputable def l36_of' (n : Int) : Option (NI) :=
 match (r01_Int n) with
 | none => none
 | some r => (
 some r)
noncomputable def l36_of := veil l36_of'
theorem l36_of_eq : l36_of = l36_of' := veil_eq _
abbrev T_l36_claims_m_0 (nc : Nat) (c : Nat → NI) (e : Int) (nl : Nat) (l : Nat → (Int × NI)) (h : Int) (nout : Nat) (out : Nat → ((SlV NI) × (Int × NI))) (i : Int) := (((nc, c), (e, ((nl, l), (h, ((nout, out), (i, ())))))), ())
abbrev Y_l36_claims_m_0_0 (e : Int) (h : Int) (nout : Nat) (out : Nat → ((SlV NI) × (Int × NI))) := ((e, (h, ((nout, out), ()))), ())
abbrev X_l36_claims_m_0 : Type := (((Nat × (Nat → NI)) × (Int × ((Nat × (Nat → (Int × NI))) × (Int × ((Nat × (Nat → ((SlV NI) × (Int × NI)))) × (Int × Unit)))))) × Unit)
noncomputable def R_l36_claims_m_0 : X_l36_claims_m_0 → Option (X_l36_claims_m_0 ⊕ ((Int × (Int × ((Nat × (Nat → ((SlV NI) × (Int × NI)))) × Unit))) × Unit)) := fun x =>
 let nc := x.1.1.1
 let c := x.1.1.2
 let e := x.1.2.1
 let nl := x.1.2.2.1.1
 let l := x.1.2.2.1.2
 let h := x.1.2.2.2.1
 let nout := x.1.2.2.2.2.1.1
 let out := x.1.2.2.2.2.1.2
 let i := x.1.2.2.2.2.2.1
 bif (decide (i < ((nl : Nat) : Int))) then (
 bif (inb i nl) then (
 bif ((Nat.ble ((nout + 1) * 64) 140737488355328) && (Nat.ble (nout + 1) 9223372036854775807)) then (
 some (.inl (((nc, c), (e, ((nl, l), (h, (((nout + 1), (glue nout out (fun j => (upd (fun _ => (.nil, (0, (fun _ => 0)))) 0 ((.fz nc c), (l (Int.toNat i)))) (0 + j)))), ((i64.wrap (i + 1)), ())))))), ())))
 else (
 none))
 else (
 none))
 else (
 some (.inr ((e, (h, ((nout, out), ()))), ())))
abbrev Y_l36_claims_m_0 (ng : Nat) (g : Nat → ((SlV NI) × (Int × NI))) (f : Bool) := (((ng, g), (f, ())), ())
noncomputable def l36_claims_m' (g : (Option (((PtrV (NI × (Int × (NI × NI)))) × (PtrV (NI × (Int × (NI × NI))))) × NI))) (nf : Nat) (f : Nat → NI) : Option ((((Nat × (Nat → ((SlV NI) × (Int × NI)))) × (Bool × Unit)) × Unit)) :=
 match g with
 | none => (
 match (commit_To none nf f 3) with
 | none => none
 | some r2 => (
 match (share_Deal none nf f 7) with
 | none => none
 | some r3 => (
 match (loopF R_l36_claims_m_0 (((r2.1.1, r2.1.2), (r2.2, ((r3.1.1, r3.1.2), (r3.2, ((0, (fun _ => (.nil, (0, (fun _ => 0))))), (0, ())))))), ())) with
 | none => none
 | some y1 => (
 let e1 := y1.1.1
 let h1 := y1.1.2.1
 let nout1 := y1.1.2.2.1.1
 let out1 := y1.1.2.2.1.2
 bif (e1 == 0) then (
 some (((nout1, out1), ((h1 == 0), ())), ()))
 else (
 some (((nout1, out1), (false, ())), ()))))))
 | some g0 => (
 match (commit_To (some g0) nf f 3) with
 | none => none
 | some r => (
 match (share_Deal (some g0) nf f 7) with
 | none => none
 | some r1 => (
 match (loopF R_l36_claims_m_0 (((r.1.1, r.1.2), (r.2, ((r1.1.1, r1.1.2), (r1.2, ((0, (fun _ => (.nil, (0, (fun _ => 0))))), (0, ())))))), ())) with
 | none => none
 | some y => (
 let e := y.1.1
 let h := y.1.2.1
 let nout := y.1.2.2.1.1
 let out := y.1.2.2.1.2
 bif (e == 0) then (
 some (((nout, out), ((h == 0), ())), ()))
 else (
 some (((nout, out), (false, ())), ()))))))
noncomputable def l36_claims_m := veil l36_claims_m'
theorem l36_claims_m_eq : l36_claims_m = l36_claims_m' := veil_eq _
noncomputable def l36_awake'  : Option (Bool) :=
 match (l36_small 0) with
 | none => none
 | some r => (
 match r.1 with
 | none => (
 match (l36_of 5) with
 | none => none
 | some r12 => (
 match (l36_of 2) with
 | none => none
 | some r13 => (
 match (l36_claims_m none 2 (fun j => (upd (upd (fun _ => (fun _ => 0)) 0 r12) 1 r13) (0 + j))) with
 | none => none
 | some y2 => (
 let nr2 := y2.1.1.1
 let r14 := y2.1.1.2
 let r15 := y2.1.2.1
 match (batch_Weights (ByteArray.mk #[97, 32, 115, 101, 101, 100, 32, 111, 102, 32, 115, 105, 120, 116, 101, 101, 110]) 7) with
 | none => none
 | some r16 => (
 bif (!r.2.2) then (
 some false)
 else (
 bif (!r15) then (
 some false)
 else (
 bif (r16.2 != 0) then (
 some false)
 else (
 bif (((r16.1.1 : Nat) : Int) != 7) then (
 some false)
 else (
 bif (((nr2 : Nat) : Int) != 7) then (
 some false)
 else (
 match (batch_All none nr2 (fun j => r14 (0 + j)) r16.1.1 r16.1.2) with
 | none => none
 | some r17 => (
 match (l36_of 1) with
 | none => none
 | some r18 => (
 bif (inb 4 nr2) then (
 match (batch_Bad none nr2 (fun j => (upd r14 4 ((r14 4).1, ((r14 4).2.1, r18))) (0 + j)) r16.1.1 r16.1.2) with
 | none => none
 | some y3 => (
 let nr3 := y3.1.1.1
 let r19 := y3.1.1.2
 let r20 := y3.1.2.1
 bif r17 then (
 match (batch_All none nr2 (fun j => (upd r14 4 ((r14 4).1, ((r14 4).2.1, r18))) (0 + j)) r16.1.1 r16.1.2) with
 | none => none
 | some r21 => (
 bif (!r21) then (
 match (r17_Numbers nr3 (fun j => r19 (0 + j)) 1 (fun j => (upd (fun _ => 0) 0 4) (0 + j))) with
 | none => none
 | some r22 => (
 bif r22 then (
 some (r20 == 0))
 else (
 some false)))
 else (
 some false)))
 else (
 some false)))
 else (
 none)))))))))))))
 | some p => (
 match (l36_of 5) with
 | none => none
 | some r1 => (
 match (l36_of 2) with
 | none => none
 | some r2 => (
 match (l36_claims_m (some p) 2 (fun j => (upd (upd (fun _ => (fun _ => 0)) 0 r1) 1 r2) (0 + j))) with
 | none => none
 | some y => (
 let nr := y.1.1.1
 let r3 := y.1.1.2
 let r4 := y.1.2.1
 match (batch_Weights (ByteArray.mk #[97, 32, 115, 101, 101, 100, 32, 111, 102, 32, 115, 105, 120, 116, 101, 101, 110]) 7) with
 | none => none
 | some r5 => (
 bif (!r.2.2) then (
 some false)
 else (
 bif (!r4) then (
 some false)
 else (
 bif (r5.2 != 0) then (
 some false)
 else (
 bif (((r5.1.1 : Nat) : Int) != 7) then (
 some false)
 else (
 bif (((nr : Nat) : Int) != 7) then (
 some false)
 else (
 match (batch_All (some p) nr (fun j => r3 (0 + j)) r5.1.1 r5.1.2) with
 | none => none
 | some r6 => (
 match (l36_of 1) with
 | none => none
 | some r7 => (
 bif (inb 4 nr) then (
 match (batch_Bad (some p) nr (fun j => (upd r3 4 ((r3 4).1, ((r3 4).2.1, r7))) (0 + j)) r5.1.1 r5.1.2) with
 | none => none
 | some y1 => (
 let nr1 := y1.1.1.1
 let r8 := y1.1.1.2
 let r9 := y1.1.2.1
 bif r6 then (
 match (batch_All (some p) nr (fun j => (upd r3 4 ((r3 4).1, ((r3 4).2.1, r7))) (0 + j)) r5.1.1 r5.1.2) with
 | none => none
 | some r10 => (
 bif (!r10) then (
 match (r17_Numbers nr1 (fun j => r8 (0 + j)) 1 (fun j => (upd (fun _ => 0) 0 4) (0 + j))) with
 | none => none
 | some r11 => (
 bif r11 then (
 some (r9 == 0))
 else (
 some false)))
 else (
 some false)))
 else (
 some false)))
 else (
 none))))))))))))))
noncomputable def l36_awake := veil l36_awake'
theorem l36_awake_eq : l36_awake = l36_awake' := veil_eq _
end Go.Pl

namespace Go.Proofs.YtccbdhpcblfopaaGreat
abbrev S_l36_few_0 : Shape := { sl := [(0, (.sz (.pair (.sl tN) (.pair tI tN)))), (1, (.sz tN)), (pv 5 tI)], ob := [], lo := 0, nx := 0 }
abbrev E_l36_few_0 : List Ex := [(.ret, { sl := [(4, (.v .bool))], ob := [], lo := 0, nx := 0 }), (.normal, { sl := [(0, (.sz (.pair (.sl tN) (.pair tI tN)))), (1, (.sz tN))], ob := [], lo := 0, nx := 0 })]
noncomputable def L_l36_few_0 : Code := loopIn (bodyOf Tryz.f7) 0
noncomputable def P_l36_few_0 : Lp := lpOf S_l36_few_0 E_l36_few_0 31 R_l36_few_0
noncomputable def c_l36_few : Con := conV true [(.sl (.pair (.sl tN) (.pair tI tN))), (.sl tN)] [.bool] fun x => l36_few x.1.1 x.1.2 x.2.1.1 x.2.1.2
noncomputable def x_l36_few : Cx := { ti := ti, con := [], fns := [], un := 6 }
theorem xok_l36_few : CxOk Tryz.prog x_l36_few := CxOk.of mixed ti_ok fz fz
theorem r_l36_few_0 (x : S_l36_few_0.X) : denC x_l36_few [] (denF x_l36_few 8) L_l36_few_0 (S_l36_few_0.mkS 31 x) (kRound 0 S_l36_few_0 E_l36_few_0) = R_l36_few_0 x := by kernel_rfl
theorem l_l36_few_0 : LpOk Tryz.prog 0 (.loop L_l36_few_0) P_l36_few_0 := lpOf_ok xok_l36_few 8 (lps_nil) S_l36_few_0 E_l36_few_0 31 R_l36_few_0 (by decide) r_l36_few_0
theorem fn_l36_few : FnOk Tryz.prog 7 Tryz.f7 [(0, P_l36_few_0)] := ⟨Tryz.func7, Tryz.call7, lps_of (by kernel_rfl) (lps_one l_l36_few_0 (by kernel_rfl) fz)⟩
theorem e_l36_few (nl : Nat) (l : Nat → ((SlV NI) × (Int × NI))) (nweights : Nat) (weights : Nat → NI) : bodyK x_l36_few [(0, P_l36_few_0)] (denF x_l36_few 8) Tryz.f7 (domV [(.sl (.pair (.sl tN) (.pair tI tN))), (.sl tN)] ((nl, l), (nweights, weights), ())) [] 0 (kOut [.bool]) = l36_few' nl l nweights weights := by kernel_rfl
theorem con_l36_few : ConOk Tryz.prog 7 c_l36_few := con_ok xok_l36_few 8 fn_l36_few true [(.sl (.pair (.sl tN) (.pair tI tN))), (.sl tN)] [.bool] _ (by decide) (fun x => by rw [l36_few_eq]; exact e_l36_few x.1.1 x.1.2 x.2.1.1 x.2.1.2)
noncomputable def c_l36_small : Con := conV false [tI] [(.ptr (.pair (.pair (.ptr (.pair tN (.pair tU (.pair tN tN)))) (.ptr (.pair tN (.pair tU (.pair tN tN))))) tN)), (.pair tI (.pair tI tI)), .bool] fun x => l36_small x.1
noncomputable def x_l36_small : Cx := { ti := ti, con := [(25, c2m_), (18, c13_), (26, c2s_)], fns := [], un := 6 }
theorem xok_l36_small : CxOk Tryz.prog x_l36_small := CxOk.of mixed ti_ok (fc ⟨con2m_, fc ⟨con13_, fc ⟨con2s_, fz⟩⟩⟩) fz
theorem fn_l36_small : FnOk Tryz.prog 9 Tryz.f9 [] := ⟨Tryz.func9, Tryz.call9, lps_nil⟩
theorem e_l36_small (which : Int) : bodyK x_l36_small [] (denF x_l36_small 8) Tryz.f9 (domV [tI] (which, ())) [] 0 (kOut [(.ptr (.pair (.pair (.ptr (.pair tN (.pair tU (.pair tN tN)))) (.ptr (.pair tN (.pair tU (.pair tN tN))))) tN)), (.pair tI (.pair tI tI)), .bool]) = l36_small' which := by kernel_rfl
theorem con_l36_small : ConOk Tryz.prog 9 c_l36_small := con_ok xok_l36_small 8 fn_l36_small false [tI] [(.ptr (.pair (.pair (.ptr (.pair tN (.pair tU (.pair tN tN)))) (.ptr (.pair tN (.pair tU (.pair tN tN))))) tN)), (.pair tI (.pair tI tI)), .bool] _ (by decide) (fun x => by rw [l36_small_eq]; exact e_l36_small x.1)
noncomputable def c_l36_of : Con := conV true [tI] [tN] fun x => l36_of x.1
noncomputable def x_l36_of : Cx := { ti := ti, con := [(44, c2h_)], fns := [], un := 6 }
theorem xok_l36_of : CxOk Tryz.prog x_l36_of := CxOk.of mixed ti_ok (fc ⟨con2h_, fz⟩) fz
theorem fn_l36_of : FnOk Tryz.prog 23 Tryz.f23 [] := ⟨Tryz.func23, Tryz.call23, lps_nil⟩
theorem e_l36_of (n : Int) : bodyK x_l36_of [] (denF x_l36_of 8) Tryz.f23 (domV [tI] (n, ())) [] 0 (kOut [tN]) = l36_of' n := by kernel_rfl
theorem con_l36_of : ConOk Tryz.prog 23 c_l36_of := con_ok xok_l36_of 8 fn_l36_of true [tI] [tN] _ (by decide) (fun x => by rw [l36_of_eq]; exact e_l36_of x.1)
abbrev S_l36_claims_m_0 : Shape := { sl := [(6, (.sz tN)), (pv 7 tI), (8, (.sz (.pair tI tN))), (pv 9 tI), (10, (.w 68 (.pair (.sl tN) (.pair tI tN)) 0)), (pv 11 tI)], ob := [], lo := 0, nx := 1 }
abbrev E_l36_claims_m_0 : List Ex := [(.normal, { sl := [(pv 7 tI), (pv 9 tI), (10, (.w 68 (.pair (.sl tN) (.pair tI tN)) 1))], ob := [], lo := 1, nx := 2 })]
noncomputable def L_l36_claims_m_0 : Code := loopIn (bodyOf Tryz.f22) 0
noncomputable def P_l36_claims_m_0 : Lp := lpOf S_l36_claims_m_0 E_l36_claims_m_0 46 R_l36_claims_m_0
abbrev I_l36_claims_m : Shape := { sl := [(0, (.po (.pair (.pair (.ptr (.pair tN (.pair tU (.pair tN tN)))) (.ptr (.pair tN (.pair tU (.pair tN tN))))) tN))), (1, (.sz tN))], ob := [], lo := 0, nx := 0 }
abbrev O_l36_claims_m : List Shape := [{ sl := [(0, (.w 68 (.pair (.sl tN) (.pair tI tN)) 2)), (1, (.v .bool))], ob := [], lo := 2, nx := 3 }]
noncomputable def c_l36_claims_m : Con := conS I_l36_claims_m O_l36_claims_m fun x => l36_claims_m x.1.1 x.1.2.1.1 x.1.2.1.2
noncomputable def x_l36_claims_m : Cx := { ti := ti, con := [(42, c1h_), (43, c2y_)], fns := [], un := 6 }
theorem xok_l36_claims_m : CxOk Tryz.prog x_l36_claims_m := CxOk.of mixed ti_ok (fc ⟨con1h_, fc ⟨con2y_, fz⟩⟩) fz
theorem r_l36_claims_m_0 (x : S_l36_claims_m_0.X) : denC x_l36_claims_m [] (denF x_l36_claims_m 8) L_l36_claims_m_0 (S_l36_claims_m_0.mkS 46 x) (kRound 0 S_l36_claims_m_0 E_l36_claims_m_0) = R_l36_claims_m_0 x := by kernel_rfl
theorem l_l36_claims_m_0 : LpOk Tryz.prog 0 (.loop L_l36_claims_m_0) P_l36_claims_m_0 := lpOf_ok xok_l36_claims_m 8 (lps_nil) S_l36_claims_m_0 E_l36_claims_m_0 46 R_l36_claims_m_0 (by decide) r_l36_claims_m_0
theorem fn_l36_claims_m : FnOk Tryz.prog 22 Tryz.f22 [(0, P_l36_claims_m_0)] := ⟨Tryz.func22, Tryz.call22, lps_of (by kernel_rfl) (lps_one l_l36_claims_m_0 (by kernel_rfl) fz)⟩
theorem e_l36_claims_m (g : (Option (((PtrV (NI × (Int × (NI × NI)))) × (PtrV (NI × (Int × (NI × NI))))) × NI))) (nf : Nat) (f : Nat → NI) : bodyK x_l36_claims_m [(0, P_l36_claims_m_0)] (denF x_l36_claims_m 8) Tryz.f22 ((mkVals I_l36_claims_m.sl (show I_l36_claims_m.X from ((g, ((nf, f), ())), ())).1).map .v) (shHp I_l36_claims_m ((g, ((nf, f), ())), ())) I_l36_claims_m.nx (kOutS 2 O_l36_claims_m) = l36_claims_m' g nf f := by cases g <;> kernel_rfl
theorem con_l36_claims_m : ConOk Tryz.prog 22 c_l36_claims_m := conS_ok xok_l36_claims_m 8 fn_l36_claims_m 2 I_l36_claims_m O_l36_claims_m _ (by decide) (fun x => by rw [l36_claims_m_eq]; exact e_l36_claims_m x.1.1 x.1.2.1.1 x.1.2.1.2)
noncomputable def c_l36_awake : Con := conV true [] [.bool] fun x => l36_awake 
noncomputable def x_l36_awake : Cx := { ti := ti, con := [(9, c_l36_small), (23, c_l36_of), (22, c_l36_claims_m), (15, c26_), (12, c2a_), (10, c2c_), (14, c2w_)], fns := [], un := 6 }
theorem xok_l36_awake : CxOk Tryz.prog x_l36_awake := CxOk.of mixed ti_ok (fc ⟨con_l36_small, fc ⟨con_l36_of, fc ⟨con_l36_claims_m, fc ⟨con26_, fc ⟨con2a_, fc ⟨con2c_, fc ⟨con2w_, fz⟩⟩⟩⟩⟩⟩⟩) fz
theorem fn_l36_awake : FnOk Tryz.prog 8 Tryz.f8 [] := ⟨Tryz.func8, Tryz.call8, lps_nil⟩
theorem e_l36_awake  : bodyK x_l36_awake [] (denF x_l36_awake 8) Tryz.f8 (domV [] (())) [] 0 (kOut [.bool]) = l36_awake'  := by kernel_rfl
theorem con_l36_awake : ConOk Tryz.prog 8 c_l36_awake := con_ok xok_l36_awake 8 fn_l36_awake true [] [.bool] _ (by decide) (fun x => by rw [l36_awake_eq]; exact e_l36_awake )
end Go.Proofs.YtccbdhpcblfopaaGreat

namespace Go.Pl
open Go Go.Den Go.Num
def vlN (A : Nat → Nat) (n q X : Nat) : Nat := dotN A (fun i => X ^ i) n % q
theorem vlN_cg (A : Nat → Nat) (n q X : Nat) : Cg q ((vlN A n q X : Nat) : Int) (ev (cI A) n X) := by
  refine (Cg.nat q _).trans (Cg.of_eq ?_)
  rw [dotN_cast]
  exact sumI_congr fun i _ => by rw [Int.natCast_pow]; rfl
section
variable {g : GroupT} {P Q G : Nat}
theorem eval_vl (h : IsGroup g P Q G) {n : Nat} (hn : n ≤ 1000) {f : Nat → (Nat → Int)} {A : Nat → Nat} (hf : ∀ i, i < n → IsN (f i) (A i)) {x : Nat → Int} {X : Nat} (hx : IsN x X) :
    ∃ z, poly_Eval (some g) n f x = some z ∧ IsN z (vlN A n Q X) := by
  obtain ⟨z, w, z1, z2, z3, z4⟩ := poly_Eval_spec h hn hf hx
  exact ⟨z, z1, z2.of_eq (Cg.eq (z4.trans (vlN_cg A n Q X).symm) z3 (Nat.mod_lt _ h.qpos))⟩
theorem commit_To_spec (h : IsGroup g P Q G) {n : Nat} (h1 : 1 ≤ n) (h7 : n ≤ 7) {nf : Nat} (hn : nf ≤ n) {f : Nat → (Nat → Int)} {A : Nat → Nat} (hf : ∀ i, i < nf → IsN (f i) (A i)) :
    ∃ out, commit_To (some g) nf f (n : Int) = some ((n, out), 0) ∧ ∀ j, j < n → IsN (out j) (G ^ pad A nf j % P) := by
  obtain ⟨r, r1, hr⟩ := group_Field_spec h
  obtain ⟨m, z, t1, t2, t3⟩ := poly_Trim_spec h (n := nf) (by omega) hf
  obtain ⟨o, o1, o2⟩ := power_Of_spec h IsN.zero
  obtain ⟨out, y1, y2⟩ := loop_for (R := R_commit_To_0) (S := Nat → (Nat → Int)) (fun k out => T_commit_To_0 g nf f n out (n : Int) (k : Int)) (fun out => Y_commit_To_0_0 n out)
    (fun k out => ∀ j, j < k → IsN (out j) (G ^ pad A nf j % P)) n
    (fun k hk out hP => by
      by_cases hkf : k < nf
      · obtain ⟨z, z1, z2⟩ := power_Of_spec h (hf k hkf)
        refine ⟨upd (upd out (0 + k) o) (0 + k) z, ?_, fun j hj => ?_⟩
        · simp (disch := omega) only [R_commit_To_0, T_commit_To_0, WW, CC, o1, z1]
        · rw [Nat.zero_add]
          by_cases e : j = k
          · subst e
            rw [upd_same]
            exact z2.of_eq (by unfold pad; rw [if_pos hkf])
          · rw [upd_ne e, upd_ne e]; exact hP j (by omega)
      · refine ⟨upd out (0 + k) o, ?_, fun j hj => ?_⟩
        · simp (disch := omega) only [R_commit_To_0, T_commit_To_0, WW, CC, o1]
        · rw [Nat.zero_add]
          by_cases e : j = k
          · subst e
            rw [upd_same]
            exact o2.of_eq (by unfold pad; rw [if_neg hkf])
          · rw [upd_ne e]; exact hP j (by omega))
    (fun out _ => by simp (disch := omega) only [R_commit_To_0, T_commit_To_0, WW, CC]) (fun _ => fun _ => 0) (fun j hj => absurd hj (Nat.not_lt_zero _))
  have y1' : loopF R_commit_To_0 ((g, ((nf, f), ((n, (fun _ => (fun _ => 0))), ((n : Int), (0, ()))))), ()) = some (Y_commit_To_0_0 n out) := y1
  refine ⟨fun j => out (0 + j), ?_, fun j hj => by simp only [Nat.zero_add]; exact y2 j hj⟩
  rw [commit_To_eq]; unfold commit_To'
  simp (disch := omega) only [WW, CC, r1, t1, Bool.and_true, y1', Y_commit_To_0_0]
theorem share_Deal_spec (h : IsGroup g P Q G) {n : Nat} (h1 : 1 ≤ n) (h7 : n ≤ 7) {nf : Nat} (hn : nf ≤ 1000) {f : Nat → (Nat → Int)} {A : Nat → Nat} (hf : ∀ i, i < nf → IsN (f i) (A i)) :
    ∃ out, share_Deal (some g) nf f (n : Int) = some ((n, out), 0) ∧ ∀ k, k < n → (out k).1 = ((k + 1 : Nat) : Int) ∧ IsN (out k).2 (vlN A nf Q (k + 1)) := by
  obtain ⟨r, r1, hr⟩ := group_Field_spec h
  obtain ⟨out, y1, y2⟩ := loop_for (R := R_share_Deal_0) (S := Nat → (Int × (Nat → Int))) (fun k out => T_share_Deal_0 g nf f k out (n : Int) (k : Int)) (fun out => Y_share_Deal_0_0 n out)
    (fun k out => ∀ j, j < k → (out j).1 = ((j + 1 : Nat) : Int) ∧ IsN (out j).2 (vlN A nf Q (j + 1))) n
    (fun k hk out hP => by
      obtain ⟨x, x1, x2⟩ := nat_Of_spec (n := ((k + 1 : Nat) : Int)) (by omega)
      rw [Int.toNat_natCast] at x2
      obtain ⟨z, z1, z2⟩ := eval_vl h hn hf x2
      refine ⟨glue k out (fun j => upd (fun _ => (0, (fun _ => 0))) 0 (((k + 1 : Nat) : Int), z) (0 + j)), ?_, fun j hj => ?_⟩
      · have hble : ∀ a b : Nat, a ≤ b → Nat.ble a b = true := fun a b h => Nat.ble_eq_true_of_le h
        simp (disch := omega) only [R_share_Deal_0, T_share_Deal_0, WW, CC, x1, z1, hble, Bool.and_true]
      · by_cases e : j = k
        · subst e
          rw [gl_eq, upd_same]
          exact ⟨rfl, z2⟩
        · rw [gl_lt (by omega)]; exact hP j (by omega))
    (fun out _ => by simp (disch := omega) only [R_share_Deal_0, T_share_Deal_0, WW, CC]) (fun _ => (0, (fun _ => 0))) (fun j hj => absurd hj (Nat.not_lt_zero _))
  have y1' : loopF R_share_Deal_0 ((g, ((nf, f), ((0, (fun _ => (0, (fun _ => 0)))), ((n : Int), (0, ()))))), ()) = some (Y_share_Deal_0_0 n out) := y1
  refine ⟨fun j => out (0 + j), ?_, fun j hj => by simp only [Nat.zero_add]; exact y2 j hj⟩
  rw [share_Deal_eq]; unfold share_Deal'
  simp (disch := omega) only [WW, CC, r1, y1', Y_share_Deal_0_0]
noncomputable def clOf (A : Nat → Nat) (nf P Q G : Nat) : Cl := ⟨fun _ => 3, fun _ j => G ^ pad A nf j % P, fun k => ((k + 1 : Nat) : Int), fun k => vlN A nf Q (k + 1)⟩
theorem claims_spec (h : IsGroup g P Q G) {nf : Nat} (hn : nf ≤ 3) {f : Nat → (Nat → Int)} {A : Nat → Nat} (hf : ∀ i, i < nf → IsN (f i) (A i)) :
    ∃ l, l36_claims_m (some g) nf f = some (Y_l36_claims_m_0 7 l true) ∧ (clOf A nf P Q G).Is 7 l := by
  obtain ⟨c, c1, c2⟩ := commit_To_spec h (n := 3) (by decide) (by decide) hn hf
  obtain ⟨s, s1, s2⟩ := share_Deal_spec h (n := 7) (by decide) (by decide) (nf := nf) (by omega) hf
  have c1' : commit_To (some g) nf f 3 = some ((3, c), 0) := c1
  have s1' : share_Deal (some g) nf f 7 = some ((7, s), 0) := s1
  obtain ⟨l, y1, y2⟩ := loop_for (R := R_l36_claims_m_0) (S := Nat → (SlV (Nat → Int) × (Int × (Nat → Int)))) (fun k out => T_l36_claims_m_0 3 c 0 7 s 0 k out (k : Int)) (fun out => Y_l36_claims_m_0_0 0 0 7 out)
    (fun k out => (clOf A nf P Q G).Is k out) 7
    (fun k hk out hP => by
      refine ⟨glue k out (fun j => upd (fun _ => (.nil, (0, (fun _ => 0)))) 0 ((.fz 3 c), (s k)) (0 + j)), ?_, fun j hj => ?_⟩
      · have hble : ∀ a b : Nat, a ≤ b → Nat.ble a b = true := fun a b h => Nat.ble_eq_true_of_le h
        simp (disch := omega) only [R_l36_claims_m_0, T_l36_claims_m_0, WW, CC, hble, Bool.and_true]
      · by_cases e : j = k
        · subst e
          rw [gl_eq, upd_same]
          exact ⟨rfl, rfl, c2, (s2 j hk).1, (s2 j hk).2⟩
        · rw [gl_lt (by omega)]; exact hP j (by omega))
    (fun out _ => by simp (disch := omega) only [R_l36_claims_m_0, T_l36_claims_m_0, WW, CC]) (fun _ => (.nil, (0, (fun _ => 0)))) (fun j hj => absurd hj (Nat.not_lt_zero _))
  have y1' : loopF R_l36_claims_m_0 (((3, c), (0, ((7, s), (0, ((0, (fun _ => (.nil, (0, (fun _ => 0))))), (0, ())))))), ()) = some (Y_l36_claims_m_0_0 0 0 7 l) := y1
  refine ⟨l, ?_, y2⟩
  rw [l36_claims_m_eq]; unfold l36_claims_m'
  simp only [c1', s1', y1', Y_l36_claims_m_0_0, beq_self_eq_true, cond_t]
theorem clOf_may (h : IsGroup g P Q G) (A : Nat → Nat) (nf k : Nat) (hk : k < 7) : (clOf A nf P Q G).May P Q k := by
  refine ⟨⟨by show 1 ≤ 3; decide, by show 3 ≤ 7; decide, fun j _ => h.pow_in _⟩, by show (1 : Int) ≤ ((k + 1 : Nat) : Int); omega, by show ((k + 1 : Nat) : Int) ≤ 7; omega, Nat.mod_lt _ h.qpos⟩
theorem prodN_pow_sum {P G : Nat} (e x : Nat → Nat) : ∀ n, prodN (fun j => (G ^ e j % P) ^ x j) n % P = G ^ dotN e x n % P
  | 0 => by simp [prodN, dotN]
  | n + 1 => by
    simp only [prodN, dotN]
    rw [Nat.mul_mod, prodN_pow_sum e x n, ← Nat.pow_mod, ← Nat.mul_mod, ← Nat.pow_mul, ← Nat.pow_add]
theorem dotN_pad {A B : Nat → Nat} {nf : Nat} : ∀ {n : Nat}, nf ≤ n → dotN (pad A nf) B n = dotN A B nf := by
  have low : ∀ n, n ≤ nf → dotN (pad A nf) B n = dotN A B n := by
    intro n
    induction n with
    | zero => intro _; rfl
    | succ n ih => intro h; simp only [dotN]; rw [ih (by omega)]; unfold pad; rw [if_pos (by omega)]
  intro n h
  induction n with
  | zero => obtain rfl : nf = 0 := by omega
            rfl
  | succ n ih =>
    by_cases e : nf = n + 1
    · subst e; exact low _ (Nat.le_refl _)
    · simp only [dotN]; rw [ih (by omega), pad_zero (by omega)]; omega
theorem clOf_at (h : IsGroup g P Q G) (A : Nat → Nat) {nf : Nat} (hn : nf ≤ 3) (k : Nat) : (clOf A nf P Q G).At P k = G ^ (clOf A nf P Q G).y k % P := by
  show atN P 3 (fun j => G ^ pad A nf j % P) (((k + 1 : Nat) : Int).toNat) = G ^ vlN A nf Q (k + 1) % P
  rw [Int.toNat_natCast]
  unfold atN vlN
  rw [prodN_pow_sum (pad A nf) (fun j => (k + 1) ^ j) 3, dotN_pad hn]
  exact (pow_modQ h.pp.1 h.order).symm
end
end Go.Pl

namespace Go.Pl
open Go Go.Den Go.Num
section
variable {g : GroupT} {P Q G : Nat}
theorem batch_fits_spec (h : IsGroup g P Q G) (n : Nat) (l : Nat → SlV (Nat → Int) × (Int × (Nat → Int))) (k : Nat) (w : Nat → (Nat → Int)) : batch_fits (some g) n l k w = some (decide (n ≤ 64 ∧ n = k)) := by
  obtain ⟨r, r1, hr⟩ := group_Field_spec h
  rw [batch_fits_eq]; unfold batch_fits'
  simp only [r1]
  by_cases h1 : n ≤ 64
  · rw [dec_t (show (n : Int) ≤ 64 by omega), cond_t]
    congr 1
    rw [Bool.eq_iff_iff, beq_iff_eq, decide_eq_true_eq]
    omega
  · rw [dec_f (show ¬ (n : Int) ≤ 64 by omega), cond_f, dec_f (fun h => h1 h.1)]
theorem T_all (C : Cl) (P Q G : Nat) (W : Nat → Nat) (m : Nat) : C.T P Q G W 0 m = @decide (C.Tog P Q G W m) (Classical.propDecidable _) := by
  unfold Cl.T
  have e : C.from 0 = C := by
    cases C
    simp only [Cl.from, Nat.zero_add]
  have e2 : (fun k => W (0 + k)) = W := funext fun k => by rw [Nat.zero_add]
  rw [e, e2, Nat.sub_zero]
theorem batch_All_spec (h : IsGroup g P Q G) {m : Nat} (hm : m ≤ 64) {l : Nat → SlV (Nat → Int) × (Int × (Nat → Int))} {C : Cl} (hl : C.Is m l) {w : Nat → (Nat → Int)} {W : Nat → Nat} (hw : ∀ k, k < m → IsN (w k) (W k)) :
    batch_All (some g) m l m w = some (C.T P Q G W 0 m) := by
  have hfit : batch_fits (some g) m l m w = some true := by rw [batch_fits_spec h, dec_t (p := m ≤ 64 ∧ m = m) ⟨hm, rfl⟩]
  rw [batch_All_eq]; unfold batch_All'
  simp only [hfit, cond_t, batch_together_spec h hm hl hw, T_all]
theorem batch_Bad_spec (h : IsGroup g P Q G) {m : Nat} (hm : m ≤ 64) {l : Nat → SlV (Nat → Int) × (Int × (Nat → Int))} {C : Cl} (hl : C.Is m l) {w : Nat → (Nat → Int)} {W : Nat → Nat} (hw : ∀ k, k < m → IsN (w k) (W k)) :
    ∃ r row, batch_Bad (some g) m l m w = some (Y_batch_Bad_0 r row 0) ∧ IsRow r row (badL (C.T P Q G W) 10 0 m) := by
  obtain ⟨r, row, h1, h2⟩ := bad_1_spec h hm hl hw 9 0 m (Nat.zero_le _) (Nat.le_refl _) (by omega) 0 (fun _ => 0) [] (IsRow.nil _) (by simp; omega)
  rw [List.nil_append] at h2
  have h1' : batch_Bad_1_m 10 0 (m : Int) g m l m w 0 (fun _ => 0) = some (Y_batch_Bad_1_m_0 g m l m w r row) := h1
  refine ⟨r, row, ?_, h2⟩
  have hfit : batch_fits (some g) m l m w = some true := by rw [batch_fits_spec h, dec_t (p := m ≤ 64 ∧ m = m) ⟨hm, rfl⟩]
  rw [batch_Bad_eq]; unfold batch_Bad'
  simp only [hfit, Bool.not_true, cond_f, h1', Y_batch_Bad_1_m_0]
theorem batch_Bad_odd (h : IsGroup g P Q G) {m k : Nat} (hm : ¬ (m ≤ 64 ∧ m = k)) (l : Nat → SlV (Nat → Int) × (Int × (Nat → Int))) (w : Nat → (Nat → Int)) :
    batch_Bad (some g) m l k w = some (Y_batch_Bad_0 0 (fun _ => 0) 1) ∧ batch_All (some g) m l k w = some false := by
  constructor
  · rw [batch_Bad_eq]; unfold batch_Bad'
    simp only [batch_fits_spec h, dec_f hm, Bool.not_false, cond_t]
  · rw [batch_All_eq]; unfold batch_All'
    simp only [batch_fits_spec h, dec_f hm, cond_f]
theorem badL_none {T : Nat → Nat → Bool} {f a b : Nat} (h : a = b ∨ T a b = true) : badL T f a b = [] := by
  cases f with
  | zero => rfl
  | succ f => rw [badL, if_pos h]
theorem badL_one {T : Nat → Nat → Bool} {at_ : Nat} {m : Nat} (hT : ∀ a b, a < b → b ≤ m → (T a b = true ↔ ¬ (a ≤ at_ ∧ at_ < b))) : ∀ (f a b : Nat), a ≤ b → b ≤ m → b - a ≤ 2 ^ f → badL T (f + 1) a b = if a ≤ at_ ∧ at_ < b then [at_] else [] := by
  intro f
  induction f with
  | zero =>
    intro a b hab hb hf
    by_cases h1 : a = b
    · rw [badL_none (.inl h1), if_neg (by omega)]
    · simp only [Nat.pow_zero] at hf
      by_cases h2 : a ≤ at_ ∧ at_ < b
      · have ht : T a b ≠ true := fun h => (hT a b (by omega) hb).1 h h2
        rw [if_pos h2, badL, if_neg (fun h => h.elim h1 ht), if_pos (by omega)]
        congr 1; omega
      · rw [if_neg h2, badL_none (.inr ((hT a b (by omega) hb).2 h2))]
  | succ f ih =>
    intro a b hab hb hf
    by_cases h1 : a = b
    · rw [badL_none (.inl h1), if_neg (by omega)]
    · by_cases h2 : a ≤ at_ ∧ at_ < b
      · have ht : T a b ≠ true := fun h => (hT a b (by omega) hb).1 h h2
        rw [if_pos h2, badL, if_neg (fun h => h.elim h1 ht)]
        by_cases h3 : b - a = 1
        · rw [if_pos h3]; congr 1; omega
        · have hp : 2 ^ (f + 1) = 2 ^ f * 2 := Nat.pow_succ 2 f
          rw [if_neg h3, ih a (a + (b - a) / 2) (by omega) (by omega) (by omega), ih (a + (b - a) / 2) b (by omega) hb (by omega)]
          by_cases h4 : at_ < a + (b - a) / 2
          · rw [if_pos (by omega), if_neg (by omega)]; rfl
          · rw [if_neg (by omega), if_pos (by omega)]; rfl
      · rw [if_neg h2, badL_none (.inr ((hT a b (by omega) hb).2 h2))]
noncomputable def clAt (A : Nat → Nat) (nf P Q G at_ y : Nat) : Cl := { clOf A nf P Q G with y := fun k => if k = at_ then y else vlN A nf Q (k + 1) }
theorem prodN_from {P : Nat} (e w : Nat → Nat) {x : Nat → Nat} {G : Nat} (hx : ∀ k, x k = G ^ e k % P) : ∀ n, prodN (fun k => x k ^ w k) n % P = G ^ dotN e w n % P := fun n => by
  rw [prodN_congr (f := fun k => x k ^ w k) (g := fun k => (G ^ e k % P) ^ w k) fun i _ => by rw [hx i]]
  exact prodN_pow_sum e w n
theorem clAt_is {A : Nat → Nat} {nf at_ y : Nat} {l : Nat → SlV (Nat → Int) × (Int × (Nat → Int))} (hl : (clOf A nf P Q G).Is 7 l) (hat : at_ < 7) {z : Nat → Int} (hz : IsN z y) : (clAt A nf P Q G at_ y).Is 7 (upd l at_ ((l at_).1, ((l at_).2.1, z))) := fun k hk => by
  by_cases e : k = at_
  · subst e
    rw [upd_same]
    have := hl k hk
    exact ⟨this.ms, this.len, this.nats, this.ii, hz.of_eq (by show y = if k = k then y else _; rw [if_pos rfl])⟩
  · rw [upd_ne e]
    have := hl k hk
    exact ⟨this.ms, this.len, this.nats, this.ii, this.yy.of_eq (by show _ = if k = at_ then y else _; rw [if_neg e]; rfl)⟩
theorem dot_diff (Y : Nat → Nat) (W : Nat → Nat) (at_ y a : Nat) : ∀ n, ((dotN (fun k => if a + k = at_ then y else Y (a + k)) (fun k => W (a + k)) n : Nat) : Int) = ((dotN (fun k => Y (a + k)) (fun k => W (a + k)) n : Nat) : Int) + if a ≤ at_ ∧ at_ < a + n then ((y : Int) - (Y at_ : Int)) * (W at_ : Int) else 0
  | 0 => by rw [if_neg (by omega)]; rfl
  | n + 1 => by
    simp only [dotN]
    rw [Int.natCast_add, Int.natCast_add, dot_diff Y W at_ y a n, Int.natCast_mul, Int.natCast_mul]
    by_cases e : a + n = at_
    · rw [if_pos e, if_neg (by omega), if_pos (by omega), e, Int.sub_mul]; omega
    · rw [if_neg e]
      by_cases h : a ≤ at_ ∧ at_ < a + n
      · rw [if_pos h, if_pos (by omega)]; omega
      · rw [if_neg h, if_neg (by omega)]; omega
theorem clAt_T (h : IsGroup g P Q G) (A : Nat → Nat) {nf : Nat} (hn : nf ≤ 3) {at_ y : Nat} (hat : at_ < 7) (hy : y < Q) (W : Nat → Nat) {a b : Nat} (hab : a < b) (hb : b ≤ 7) :
    (clAt A nf P Q G at_ y).T P Q G W a b = true ↔ ¬ (a ≤ at_ ∧ at_ < b) ∨ (Q : Int) ∣ ((y : Int) - (vlN A nf Q (at_ + 1) : Int)) * (W at_ : Int) := by
  unfold Cl.T
  rw [@decide_eq_true_eq _ (Classical.propDecidable _)]
  have hmay : ∀ k, k < b - a → ((clAt A nf P Q G at_ y).from a).May P Q k := fun k hk => by
    have := clOf_may h A nf (a + k) (by omega)
    refine ⟨this.1, this.2.1, this.2.2.1, ?_⟩
    show (if a + k = at_ then y else vlN A nf Q (a + k + 1)) < Q
    split
    · exact hy
    · exact Nat.mod_lt _ h.qpos
  have hdot : dotN (((clAt A nf P Q G at_ y).from a).y) (fun k => W (a + k)) (b - a) = dotN (fun k => if a + k = at_ then y else vlN A nf Q (a + k + 1)) (fun k => W (a + k)) (b - a) := rfl
  have hprod : prodN (fun k => ((clAt A nf P Q G at_ y).from a).At P k ^ W (a + k)) (b - a) % P = G ^ dotN (fun k => vlN A nf Q (a + k + 1)) (fun k => W (a + k)) (b - a) % P :=
    prodN_from _ _ (fun k => clOf_at h A hn (a + k)) _
  have hdd := dot_diff (fun k => vlN A nf Q (k + 1)) W at_ y a (b - a)
  unfold Cl.Tog
  rw [hprod, hdot, pow_order h.pp h.pq h.g1 h.gP h.order]
  have hab2 : (a ≤ at_ ∧ at_ < a + (b - a)) ↔ (a ≤ at_ ∧ at_ < b) := by omega
  have hc : ∀ x z : Nat, (x % Q = z % Q ↔ (Q : Int) ∣ (z : Int) - (x : Int)) := fun x z => by
    constructor
    · intro e
      have h1 : ((x : Int)) % (Q : Int) = (z : Int) % (Q : Int) := by rw [← Int.natCast_emod, ← Int.natCast_emod, e]
      exact Int.dvd_of_emod_eq_zero (Int.emod_eq_emod_iff_emod_sub_eq_zero.1 h1.symm)
    · intro e
      have h1 := Int.emod_eq_emod_iff_emod_sub_eq_zero.2 (Int.emod_eq_zero_of_dvd e)
      rw [← Int.natCast_emod, ← Int.natCast_emod] at h1
      exact (Int.ofNat.inj h1).symm
  rw [hc]
  have he : ((dotN (fun k => if a + k = at_ then y else vlN A nf Q (a + k + 1)) (fun k => W (a + k)) (b - a) : Nat) : Int) - ((dotN (fun k => vlN A nf Q (a + k + 1)) (fun k => W (a + k)) (b - a) : Nat) : Int) = if a ≤ at_ ∧ at_ < b then ((y : Int) - (vlN A nf Q (at_ + 1) : Int)) * (W at_ : Int) else 0 := by
    have : (if a ≤ at_ ∧ at_ < a + (b - a) then ((y : Int) - (vlN A nf Q (at_ + 1) : Int)) * (W at_ : Int) else 0) = if a ≤ at_ ∧ at_ < b then ((y : Int) - (vlN A nf Q (at_ + 1) : Int)) * (W at_ : Int) else 0 := by
      simp only [hab2]
    rw [← this]
    have hdd' : ((dotN (fun k => if a + k = at_ then y else vlN A nf Q (a + k + 1)) (fun k => W (a + k)) (b - a) : Nat) : Int) = ((dotN (fun k => vlN A nf Q (a + k + 1)) (fun k => W (a + k)) (b - a) : Nat) : Int) + if a ≤ at_ ∧ at_ < a + (b - a) then ((y : Int) - (vlN A nf Q (at_ + 1) : Int)) * (W at_ : Int) else 0 := hdd
    rw [hdd']; omega
  rw [he]
  by_cases hin : a ≤ at_ ∧ at_ < b
  · rw [if_pos hin]
    exact ⟨fun h => .inr h.2, fun h => ⟨hmay, h.elim (fun h => absurd hin h) id⟩⟩
  · rw [if_neg hin]
    exact ⟨fun _ => .inl hin, fun _ => ⟨hmay, Int.dvd_zero _⟩⟩
end
end Go.Pl

namespace Go.Pl
open Go Go.Den Go.Num
def srcN (seed : ByteArray) : Nat → SrcT
  | 0 => newN seed
  | k + 1 => toldN (srcN seed k)
theorem srcN_ok (seed : ByteArray) : ∀ k, SrcOk (srcN seed k) k
  | 0 => newN_ok seed
  | k + 1 => toldN_ok (srcN_ok seed k)
def wtN (seed : ByteArray) (k : Nat) : Nat := max 1 (numB (bl (tellN (srcN seed k) 8)))
theorem isN_word {x : Nat} (h : x < 18446744073709551616) {f : Nat → Int} (hf : f 0 = (x : Int)) (h1 : f 1 = 0) (h2 : f 2 = 0) (h3 : f 3 = 0) : IsN f x :=
  IsN.of_eq (IsN.mk (x0 := x) (x1 := 0) (x2 := 0) (x3 := 0) hf h1 h2 h3 h (by decide) (by decide) (by decide)) (by omega)
theorem byte_step {l : List UInt8} {k : Nat} (hk : k < l.length) (hl : l.length ≤ 8) :
    bitsOp .or .u64 (shlI .u64 ((numB (l.take k) : Nat) : Int) 8) (IntKind.u64.wrap (((l.getD k 0).toNat : Nat) : Int)) = ((numB (l.take (k + 1)) : Nat) : Int) := by
  have hlt := numB_lt (l.take k)
  have hln : (l.take k).length = k := by rw [List.length_take]; omega
  rw [hln] at hlt
  have hp : 256 ^ k ≤ 256 ^ 7 := Nat.pow_le_pow_right (by decide) (by omega)
  have hb := (l.getD k 0).toNat_lt
  generalize hx : numB (l.take k) = x at *
  have e : shlI .u64 (x : Int) 8 = ((x * 256 : Nat) : Int) := by
    have := shlU (a := x) (s := 8)
    rw [show ((8 : Nat) : Int) = 8 from rfl] at this
    rw [this, Nat.mod_eq_of_lt (by omega)]
  rw [e, wrapun (by omega), orU (by omega) (by omega), take_snoc hk, numB_snoc, hx]
  congr 1
  have := Nat.two_pow_add_eq_or_of_lt (i := 8) (b := (l.getD k 0).toNat) hb x
  rw [show 2 ^ 8 * x = x * 256 by omega] at this
  exact this.symm
theorem batch_Weights_spec (seed : ByteArray) (n : Int) :
    (¬ (16 ≤ seed.size ∧ seed.size ≤ 1024) → batch_Weights seed n = some ((0, (fun _ => (fun _ => 0))), 1)) ∧
    (16 ≤ seed.size ∧ seed.size ≤ 1024 → (¬ (0 ≤ n ∧ n ≤ 64) → batch_Weights seed n = some ((0, (fun _ => (fun _ => 0))), 1)) ∧ ∀ m : Nat, n = (m : Int) → m ≤ 64 → ∃ w, batch_Weights seed n = some ((m, w), 0) ∧ ∀ k, k < m → IsN (w k) (wtN seed k)) := by
  have e10 : ((1 : Int) != 0) = true := rfl
  have e00 : ((0 : Int) != 0) = false := rfl
  constructor
  · intro h
    rw [batch_Weights_eq]; unfold batch_Weights'
    rw [(drbg_New_spec seed).1 h]
    simp only [Y_drbg_New_m_0, e10, cond_t]
  · intro h
    rw [batch_Weights_eq]; unfold batch_Weights'
    rw [(drbg_New_spec seed).2 h]
    simp only [Y_drbg_New_m_1, e00, cond_f]
    constructor
    · intro hn
      by_cases h1 : n < 0
      · simp only [dec_t h1, cond_t]
      · simp only [dec_f h1, dec_t (show n > 64 by omega), cond_t, cond_f]
    · rintro m rfl hm
      obtain ⟨w, y1, y2⟩ := loop_for (R := R_batch_Weights_0_v1) (S := Nat → (Nat → Int)) (fun k w => T_batch_Weights_0_v1 k w (m : Int) (k : Int) (srcN seed k)) (fun w => Y_batch_Weights_0_v1_1 m w)
        (fun k w => ∀ j, j < k → IsN (w j) (wtN seed j)) m
        (fun k hk w hP => by
          have hB := drbg_Bytes_spec (srcN_ok seed k) (by omega) (n := 8) (by decide) (by decide)
          have hB' : drbg_Source_Bytes_m 8 (ByteArray.mk #[]) (srcN seed k) = some (Y_drbg_Source_Bytes_m_0 (tellN (srcN seed k) 8) 0 (srcN seed (k + 1))) := hB
          have hsz := tellN_size (s := srcN seed k) (n := 8) (by decide)
          have hlen : (bl (tellN (srcN seed k) 8)).length = 8 := hsz
          generalize hr : tellN (srcN seed k) 8 = r at *
          obtain ⟨_, z1, rfl⟩ := loop_for (R := R_batch_Weights_2_v1) (S := Unit) (fun j _ => T_batch_Weights_2_v1 k w ((numB ((bl r).take j) : Nat) : Int) (m : Int) (k : Int) (ByteArray.size r) (fun i => (((r).data.toList.getD i 0).toNat : Int)) ((ByteArray.size r : Nat) : Int) (j : Int) (srcN seed (k + 1)))
            (fun _ => Y_batch_Weights_2_v1_0 k w ((numB ((bl r).take 8) : Nat) : Int) (m : Int) (k : Int) (srcN seed (k + 1))) (fun _ s => s = ()) 8
            (fun j hj _ _ => by
              refine ⟨(), ?_, rfl⟩
              have hs := byte_step (l := bl r) (k := j) (by omega) (by omega)
              simp (disch := omega) only [R_batch_Weights_2_v1, T_batch_Weights_2_v1, hsz, WW, CC, Nat.zero_add, hs])
            (fun _ _ => by simp (disch := omega) only [R_batch_Weights_2_v1, T_batch_Weights_2_v1, hsz, WW, CC]) () rfl
          have z1' : loopF R_batch_Weights_2_v1 (((), ((k, w), (0, ((m : Int), ((k : Int), (((ByteArray.size r), (fun i => (((r).data.toList.getD i 0).toNat : Int))), ((((ByteArray.size r) : Nat) : Int), (0, ())))))))), ((srcN seed (k + 1)), ())) = some (Y_batch_Weights_2_v1_0 k w ((numB ((bl r).take 8) : Nat) : Int) (m : Int) (k : Int) (srcN seed (k + 1))) := z1
          have htk : (bl r).take 8 = bl r := List.take_of_length_le (by omega)
          rw [htk] at z1'
          have hlt := numB_lt (bl r)
          rw [hlen] at hlt
          have hwt : wtN seed k = max 1 (numB (bl r)) := by unfold wtN; rw [hr]
          refine ⟨glue k w (fun j => upd (fun _ => fun _ => 0) 0 (upd (fun _ => 0) 0 (if 1 < ((numB (bl r) : Nat) : Int) then ((numB (bl r) : Nat) : Int) else 1)) (0 + j)), ?_, row_snoc (A := fun j => wtN seed j) hP ?_⟩
          · have hble : ∀ a b : Nat, a ≤ b → Nat.ble a b = true := fun a b h => Nat.ble_eq_true_of_le h
            have hble2 : Nat.ble (ByteArray.size r) 9223372036854775807 = true := hble _ _ (by omega)
            simp (disch := omega) only [R_batch_Weights_0_v1, T_batch_Weights_0_v1, WW, hB', Y_drbg_Source_Bytes_m_0, e00, hble2, z1', Y_batch_Weights_2_v1_0, hble, Bool.and_true, CC]
          · refine isN_word (x := wtN seed k) (by rw [hwt]; omega) ?_ rfl rfl rfl
            rw [upd_same, hwt]
            split <;> omega)
        (fun w _ => by simp (disch := omega) only [R_batch_Weights_0_v1, T_batch_Weights_0_v1, WW, CC]) (fun _ => fun _ => 0) (fun j hj => absurd hj (Nat.not_lt_zero _))
      have y1' : loopF R_batch_Weights_0_v1 (((), ((0, (fun _ => (fun _ => 0))), ((m : Int), (0, ())))), ((newN seed), ())) = some (Y_batch_Weights_0_v1_1 m w) := y1
      refine ⟨fun j => w (0 + j), ?_, fun k hk => by simp only [Nat.zero_add]; exact y2 k hk⟩
      simp (disch := omega) only [WW, y1', Y_batch_Weights_0_v1_1]
end Go.Pl

namespace Go.Pl
open Go Go.Den
def seed36 : ByteArray := ByteArray.mk #[97,32,115,101,101,100,32,111,102,32,115,105,120,116,101,101,110]
def hz0 : ByteArray := ByteArray.mk #[0,0,0,0,0,0,0,0,0,0,0,0,0,0,0,0,0,0,0,0,0,0,0,0,0,0,0,0,0,0,0,0]
def hz1 : ByteArray := ByteArray.mk #[1,1,1,1,1,1,1,1,1,1,1,1,1,1,1,1,1,1,1,1,1,1,1,1,1,1,1,1,1,1,1,1]
def hr0 : ByteArray := ByteArray.mk #[136,142,36,233,79,201,162,27,114,41,252,237,215,247,5,251,252,242,78,150,236,179,10,35,68,126,165,131,58,24,89,160]
def hr1 : ByteArray := ByteArray.mk #[27,125,136,189,251,3,44,82,81,62,49,119,103,221,168,28,72,106,222,184,124,50,157,129,76,224,132,50,147,227,113,6]
def hr2 : ByteArray := ByteArray.mk #[170,68,33,243,155,36,100,26,125,129,6,238,196,176,189,148,104,178,123,152,23,59,54,247,120,255,248,44,176,39,237,73]
def hr3 : ByteArray := ByteArray.mk #[69,123,78,53,160,48,7,87,102,202,252,94,125,132,192,239,1,79,175,227,47,159,9,14,185,213,105,82,232,81,140,242]
def hr4 : ByteArray := ByteArray.mk #[118,97,104,62,140,162,209,214,156,225,77,98,14,152,241,118,148,230,42,27,223,143,49,220,159,54,56,183,187,141,35,243]
def hr5 : ByteArray := ByteArray.mk #[10,231,120,249,7,255,82,131,183,31,213,95,90,240,225,21,173,63,189,255,18,74,134,102,181,165,89,100,3,24,208,156]
def hr6 : ByteArray := ByteArray.mk #[132,40,201,248,184,155,149,182,11,27,8,49,225,161,91,10,203,125,21,250,13,244,121,120,88,105,193,107,30,123,184,19]
def hr7 : ByteArray := ByteArray.mk #[6,51,224,223,216,155,90,59,157,253,52,229,114,121,58,16,28,201,136,183,195,223,235,216,60,183,246,94,138,71,34,148]
def hr8 : ByteArray := ByteArray.mk #[188,217,101,157,0,213,232,219,206,91,208,24,6,18,61,125,230,14,169,63,91,139,7,11,106,114,176,231,1,134,101,99]
def hr9 : ByteArray := ByteArray.mk #[20,51,178,17,196,254,158,79,135,97,1,239,64,202,195,74,195,191,187,0,219,28,72,90,104,46,22,241,172,204,58,188]
def hr10 : ByteArray := ByteArray.mk #[96,124,191,205,93,64,25,189,53,65,78,177,6,247,14,190,25,180,153,39,30,16,22,232,108,26,121,231,31,141,203,0]
def hr11 : ByteArray := ByteArray.mk #[171,126,230,135,67,72,213,219,198,113,130,34,226,245,8,70,222,157,173,234,9,77,7,36,69,0,137,52,195,145,195,106]
def hr12 : ByteArray := ByteArray.mk #[84,22,122,161,182,108,57,51,103,133,218,192,166,126,110,65,16,249,198,105,91,158,178,52,225,233,173,186,201,235,46,17]
def hr13 : ByteArray := ByteArray.mk #[60,75,233,111,93,172,180,0,116,105,163,6,173,150,13,143,181,118,23,207,37,153,116,234,229,202,50,121,128,99,124,241]
def hr14 : ByteArray := ByteArray.mk #[119,108,62,63,60,169,128,108,116,246,77,3,57,250,88,136,137,149,162,148,2,236,250,8,90,212,194,6,18,82,230,11]
def hr15 : ByteArray := ByteArray.mk #[228,201,16,178,210,239,101,20,127,22,181,200,102,98,60,191,145,1,5,155,14,212,89,108,100,73,244,82,9,221,53,24]
def hr16 : ByteArray := ByteArray.mk #[216,47,66,45,93,24,200,165,27,211,124,55,124,55,76,22,167,91,23,206,78,130,177,143,165,216,202,230,111,230,0,215]
theorem hm0 : hmacN hz0 (hz1 ++ ByteArray.mk #[0] ++ seed36) = hr0 := bl_ext (by decide +kernel)
theorem hm1 : hmacN hr0 hz1 = hr1 := bl_ext (by decide +kernel)
theorem hm2 : hmacN hr0 (hr1 ++ ByteArray.mk #[1] ++ seed36) = hr2 := bl_ext (by decide +kernel)
theorem hm3 : hmacN hr2 hr1 = hr3 := bl_ext (by decide +kernel)
theorem hm4 : hmacN hr2 hr3 = hr4 := bl_ext (by decide +kernel)
theorem hm5 : hmacN hr2 (hr4 ++ ByteArray.mk #[0] ++ ByteArray.mk #[]) = hr5 := bl_ext (by decide +kernel)
theorem hm6 : hmacN hr5 hr4 = hr6 := bl_ext (by decide +kernel)
theorem hm7 : hmacN hr5 hr6 = hr7 := bl_ext (by decide +kernel)
theorem hm8 : hmacN hr5 (hr7 ++ ByteArray.mk #[0] ++ ByteArray.mk #[]) = hr8 := bl_ext (by decide +kernel)
theorem hm9 : hmacN hr8 hr7 = hr9 := bl_ext (by decide +kernel)
theorem hm10 : hmacN hr8 hr9 = hr10 := bl_ext (by decide +kernel)
theorem hm11 : hmacN hr8 (hr10 ++ ByteArray.mk #[0] ++ ByteArray.mk #[]) = hr11 := bl_ext (by decide +kernel)
theorem hm12 : hmacN hr11 hr10 = hr12 := bl_ext (by decide +kernel)
theorem hm13 : hmacN hr11 hr12 = hr13 := bl_ext (by decide +kernel)
theorem hm14 : hmacN hr11 (hr13 ++ ByteArray.mk #[0] ++ ByteArray.mk #[]) = hr14 := bl_ext (by decide +kernel)
theorem hm15 : hmacN hr14 hr13 = hr15 := bl_ext (by decide +kernel)
theorem hm16 : hmacN hr14 hr15 = hr16 := bl_ext (by decide +kernel)
theorem src0 : srcN seed36 0 = (hr2, (hr3, 0)) := by
  show stirN (hz0, (hz1, 0)) seed36 = _
  unfold stirN
  simp only [hm0, hm1, hm2, hm3, if_neg (show ¬ seed36.size = 0 by decide)]
theorem src1 : srcN seed36 1 = (hr5, (hr6, 1)) := by
  show toldN (srcN seed36 0) = _
  rw [src0]
  unfold toldN stirN
  simp only [hm4, hm5, hm6, if_pos (show (ByteArray.mk #[]).size = 0 from rfl)]
  rfl
theorem src2 : srcN seed36 2 = (hr8, (hr9, 2)) := by
  show toldN (srcN seed36 1) = _
  rw [src1]
  unfold toldN stirN
  simp only [hm7, hm8, hm9, if_pos (show (ByteArray.mk #[]).size = 0 from rfl)]
  rfl
theorem src3 : srcN seed36 3 = (hr11, (hr12, 3)) := by
  show toldN (srcN seed36 2) = _
  rw [src2]
  unfold toldN stirN
  simp only [hm10, hm11, hm12, if_pos (show (ByteArray.mk #[]).size = 0 from rfl)]
  rfl
theorem src4 : srcN seed36 4 = (hr14, (hr15, 4)) := by
  show toldN (srcN seed36 3) = _
  rw [src3]
  unfold toldN stirN
  simp only [hm13, hm14, hm15, if_pos (show (ByteArray.mk #[]).size = 0 from rfl)]
  rfl
theorem wt4 : wtN seed36 4 = 15577742398700701861 := by
  unfold wtN tellN
  rw [src4]
  simp only [hm16]
  decide +kernel
end Go.Pl

namespace Go.Pl
open Go Go.Den Go.Num
theorem l36_of_spec {n : Int} (hn : n < 9223372036854775808) : ∃ a, l36_of n = some a ∧ IsN a n.toNat := by
  obtain ⟨a, a1, a2⟩ := r01_Int_spec hn
  refine ⟨a, ?_, a2⟩
  rw [l36_of_eq]; unfold l36_of'
  simp only [a1]
theorem l36_small_pick {which : Int} {k : Nat} {l : ChainT} {ga : Nat → Int} {g : GroupT} {P Q G : Nat} (p1 : r07_Pick which = some ((k, l), ga)) (hg : IsPick k l ga g P Q G) (hP : P < 4611686018427387904) (hQ : Q < 2147483648) :
    l36_small which = some (some g, ((P : Int), ((Q : Int), (G : Int))), true) := by
  rw [l36_small_eq]; unfold l36_small'
  have hG := hg.group.gP
  have hO := r09_Of_spec (P := P) (Q := Q) (G := G) hg.k2 (by have := hg.k8; omega) hg.p hg.q hg.gen (by omega) (by omega) (by omega)
  simp only [p1, hg.made, hO, beq_self_eq_true]
theorem l36_small_spec (which : Int) : ∃ (g : GroupT) (P Q G : Nat), l36_small which = some (some g, ((P : Int), ((Q : Int), (G : Int))), true) ∧ IsGroup g P Q G ∧ P < 4611686018427387904 ∧ Q < 2147483648 := by
  obtain ⟨k, l, ga, g, P, Q, G, p1, hg, hP, hQ⟩ := r07_Pick_spec which
  exact ⟨g, P, Q, G, l36_small_pick p1 hg hP hQ, hg.group, hP, hQ⟩
theorem l36_small_zero : ∃ (g : GroupT), l36_small 0 = some (some g, (((1055500680322183127 : Nat) : Int), (((1966023127 : Nat) : Int), ((316543771439780984 : Nat) : Int))), true) ∧ IsGroup g 1055500680322183127 1966023127 316543771439780984 := by
  obtain ⟨g, hg⟩ := least_pick
  refine ⟨g, l36_small_pick (k := 3) (l := leastL) (ga := leastG) ?_ hg (by decide) (by decide), hg.group⟩
  rw [r07_Pick_eq]; unfold r07_Pick'
  have : bitsOp .and .i64 0 1 = 0 := by decide
  simp (disch := omega) only [WW, this, r07_Least_eq2]
theorem good_claims {n : Nat} {l : Nat → SlV (Nat → Int) × (Int × (Nat → Int))} (h : Go.Den.Good (.sl (.pair (.sl (.arr 4 (.int .u64))) (.pair (.int .i64) (.arr 4 (.int .u64))))) (.fz n l)) :
    ∃ C : Cl, C.Is n l ∧ ∀ k, k < n → C.n k < 9223372036854775808 := by
  have key : ∀ k, ∃ (m : Nat) (c : Nat → Nat) (y : Nat), k < n → IsClaim (l k) m c (l k).2.1 y ∧ m < 9223372036854775808 := by
    intro k
    by_cases hk : k < n
    · have hg := h.2 k hk
      obtain ⟨y, hy⟩ := good_nat hg.2.2
      have h1 : Go.Den.Good (.sl (.arr 4 (.int .u64))) (l k).1 := hg.1
      generalize hs : (l k).1 = s at h1
      cases s with
      | nil => exact ⟨0, fun _ => 0, y, fun _ => ⟨⟨by rw [hs]; rfl, by rw [hs]; rfl, fun j hj => absurd hj (Nat.not_lt_zero _), rfl, hy⟩, by omega⟩⟩
      | fz m f =>
        obtain ⟨c, hc⟩ := good_nats h1
        refine ⟨m, c, y, fun _ => ⟨⟨by rw [hs]; rfl, by rw [hs]; rfl, fun j hj => by rw [hs]; exact hc j hj, rfl, hy⟩, ?_⟩⟩
        have := h1.1; omega
      | ms _ _ _ _ => exact h1.elim
    · exact ⟨0, fun _ => 0, 0, fun h => absurd h hk⟩
  refine ⟨⟨fun k => (key k).choose, fun k => (key k).choose_spec.choose, fun k => (l k).2.1, fun k => (key k).choose_spec.choose_spec.choose⟩, fun k hk => ?_, fun k hk => ?_⟩
  · exact ((key k).choose_spec.choose_spec.choose_spec hk).1
  · exact ((key k).choose_spec.choose_spec.choose_spec hk).2
theorem few_spec (n : Nat) (l : Nat → SlV (Nat → Int) × (Int × (Nat → Int))) (k : Nat) (w : Nat → (Nat → Int)) (hn : n < 9223372036854775808) (hl : ∀ i, i < n → SlV.isMs (l i).1 = false) : ∃ b, l36_few n l k w = some b ∧ (b = true → n ≤ 8 ∧ k ≤ 8) := by
  obtain ⟨y, h1, h2⟩ := loop_seek (R := R_l36_few_0) (S := Unit) (fun i _ => T_l36_few_0 n l k w (i : Int)) (fun i _ => i ≤ 8) (fun y => y = Y_l36_few_0_0 false ∨ y = Y_l36_few_0_1 n l k w) (min n 8)
    (fun i hi _ _ => by
      have hms := hl i (by omega)
      by_cases hs : (((SlV.len (l i).1) : Nat) : Int) > 8
      · refine .inr ⟨_, ?_, .inl rfl⟩
        simp (disch := omega) only [R_l36_few_0, T_l36_few_0, WW, CC, hms, dec_t hs]
      · refine .inl ⟨(), ?_, by omega⟩
        simp (disch := omega) only [R_l36_few_0, T_l36_few_0, WW, CC, hms, dec_f hs])
    (fun _ _ => by
      refine ⟨_, ?_, .inr rfl⟩
      by_cases h : n ≤ 8
      · rw [Nat.min_eq_left h]; simp (disch := omega) only [R_l36_few_0, T_l36_few_0, WW]
      · rw [Nat.min_eq_right (by omega)]; simp (disch := omega) only [R_l36_few_0, T_l36_few_0, WW]) () (Nat.zero_le _)
  have h1' : loopF R_l36_few_0 (((n, l), ((k, w), (0, ()))), ()) = some y := h1
  rw [l36_few_eq, l36_few', h1']
  rcases h2 with rfl | rfl
  · exact ⟨false, rfl, fun h => absurd h (by decide)⟩
  · simp only [Y_l36_few_0_1]
    by_cases h : n ≤ 8
    · rw [dec_t (show (n : Int) ≤ 8 by omega), cond_t]
      exact ⟨_, rfl, fun h2 => by have h3 := of_decide_eq_true h2; omega⟩
    · rw [dec_f (show ¬ (n : Int) ≤ 8 by omega), cond_f]
      exact ⟨false, rfl, fun h => absurd h (by decide)⟩
theorem one_wrong {g : GroupT} {P Q G : Nat} (h : IsGroup g P Q G) (A : Nat → Nat) {nf : Nat} (hn : nf ≤ 3) {at_ y : Nat} (hat : at_ < 7) (hy : y < Q) (W : Nat → Nat) :
    (y = vlN A nf Q (at_ + 1) ∨ W at_ % Q = 0 → (∀ a b, a ≤ b → b ≤ 7 → a < b → (clAt A nf P Q G at_ y).T P Q G W a b = true) ∧ badL ((clAt A nf P Q G at_ y).T P Q G W) 10 0 7 = [] ∧ (clAt A nf P Q G at_ y).T P Q G W 0 7 = true) ∧
    (¬ (y = vlN A nf Q (at_ + 1) ∨ W at_ % Q = 0) → badL ((clAt A nf P Q G at_ y).T P Q G W) 10 0 7 = [at_] ∧ (clAt A nf P Q G at_ y).T P Q G W 0 7 = false) := by
  have hv : vlN A nf Q (at_ + 1) < Q := Nat.mod_lt _ h.qpos
  have hdv : (Q : Int) ∣ ((y : Int) - (vlN A nf Q (at_ + 1) : Int)) * (W at_ : Int) ↔ (y = vlN A nf Q (at_ + 1) ∨ W at_ % Q = 0) := by
    constructor
    · intro hd
      rcases prI h.pq hd with h1 | h1
      · left
        exact Cg.eq (Q := Q) h1 hy hv
      · right
        have := Int.emod_eq_zero_of_dvd h1
        rw [← Int.natCast_emod] at this
        omega
    · rintro (rfl | h1)
      · rw [Int.sub_self, Int.zero_mul]; exact Int.dvd_zero _
      · refine Int.dvd_mul_of_dvd_right ?_
        exact Int.natCast_dvd_natCast.2 (Nat.dvd_of_mod_eq_zero h1)
  constructor
  · intro hs
    have hall : ∀ a b, a ≤ b → b ≤ 7 → a < b → (clAt A nf P Q G at_ y).T P Q G W a b = true := fun a b _ hb hab => (clAt_T h A hn hat hy W hab hb).2 (.inr (hdv.2 hs))
    have h7 := hall 0 7 (by omega) (by omega) (by omega)
    exact ⟨hall, badL_none (.inr h7), h7⟩
  · intro hs
    have hT : ∀ a b, a < b → b ≤ 7 → ((clAt A nf P Q G at_ y).T P Q G W a b = true ↔ ¬ (a ≤ at_ ∧ at_ < b)) := fun a b hab hb => by
      rw [clAt_T h A hn hat hy W hab hb]
      exact ⟨fun h => h.elim id (fun h => absurd (hdv.1 h) hs), .inl⟩
    refine ⟨?_, ?_⟩
    · rw [badL_one hT 9 0 7 (by omega) (by omega) (by omega), if_pos ⟨by omega, hat⟩]
    · cases hb : (clAt A nf P Q G at_ y).T P Q G W 0 7 with
      | false => rfl
      | true => exact absurd ⟨Nat.zero_le _, hat⟩ ((hT 0 7 (by omega) (by omega)).1 hb)
theorem clOf_T {g : GroupT} {P Q G : Nat} (h : IsGroup g P Q G) (A : Nat → Nat) {nf : Nat} (hn : nf ≤ 3) (W : Nat → Nat) : (clOf A nf P Q G).T P Q G W 0 7 = true := by
  have e : clOf A nf P Q G = clAt A nf P Q G 0 (vlN A nf Q (0 + 1)) := by
    unfold clAt clOf
    congr 1
    funext k
    by_cases hk : k = 0
    · subst hk; rfl
    · rw [if_neg hk]
  rw [e]
  exact ((one_wrong h A hn (at_ := 0) (by decide) (Nat.mod_lt _ h.qpos) W).1 (.inl rfl)).2.2
theorem awake36 : l36_awake = some true := by
  rw [l36_awake_eq]; unfold l36_awake'
  obtain ⟨g, s1, hg⟩ := l36_small_zero
  obtain ⟨a5, a5a, a5b⟩ := l36_of_spec (n := 5) (by decide)
  obtain ⟨a2, a2a, a2b⟩ := l36_of_spec (n := 2) (by decide)
  obtain ⟨a1, a1a, a1b⟩ := l36_of_spec (n := 1) (by decide)
  obtain ⟨l, c1, c2⟩ := claims_spec hg (nf := 2) (by decide) (f := fun j => upd (upd (fun _ => fun _ => 0) 0 a5) 1 a2 (0 + j)) (A := fun i => if i = 0 then 5 else 2) (two_nats a5b a2b)
  obtain ⟨w, w1, w2⟩ := ((batch_Weights_spec seed36 7).2 (by decide)).2 7 rfl (by decide)
  have w1' : batch_Weights (ByteArray.mk #[97, 32, 115, 101, 101, 100, 32, 111, 102, 32, 115, 105, 120, 116, 101, 101, 110]) 7 = some ((7, w), 0) := w1
  have hA := batch_All_spec hg (m := 7) (by decide) (l := fun j => l (0 + j)) (C := clOf (fun i => if i = 0 then 5 else 2) 2 1055500680322183127 1966023127 316543771439780984) (fun k hk => by simp only [Nat.zero_add]; exact c2 k hk) (w := w) (W := wtN seed36) w2
  rw [clOf_T hg _ (by decide)] at hA
  have hci := clAt_is (at_ := 4) c2 (by decide) a1b
  have hci' : (clAt (fun i => if i = 0 then 5 else 2) 2 1055500680322183127 1966023127 316543771439780984 4 1).Is 7 (fun j => upd l 4 ((l 4).1, ((l 4).2.1, a1)) (0 + j)) := fun k hk => by simp only [Nat.zero_add]; exact hci k hk
  have hone := (one_wrong hg (fun i => if i = 0 then 5 else 2) (nf := 2) (by decide) (at_ := 4) (y := 1) (by decide) (by decide) (wtN seed36)).2 (by rw [wt4]; decide +kernel)
  have hA2 := batch_All_spec hg (m := 7) (by decide) hci' (w := w) (W := wtN seed36) w2
  rw [hone.2] at hA2
  obtain ⟨r, row, b1, b2⟩ := batch_Bad_spec hg (m := 7) (by decide) hci' (w := w) (W := wtN seed36) w2
  rw [hone.1] at b2
  have hN := r17_same (n := r) (m := 1) (f := fun j => row (0 + j)) (h := fun j => upd (fun _ => 0) 0 4 (0 + j)) (l := [4]) (by decide) b2.shift (IsRow.one 4 rfl)
  have e7 : (((7 : Nat) : Int) != 7) = false := rfl
  have e0 : ((0 : Int) != 0) = false := rfl
  have e00 : ((0 : Int) == 0) = true := rfl
  have ei : inb 4 7 = true := rfl
  simp only [s1, a5a, a2a, c1, Y_l36_claims_m_0, w1', e7, e0, e00, ei, a1a, hA, hA2, b1, Y_batch_Bad_0, hN, Bool.not_true, Bool.not_false, cond_t, cond_f]
end Go.Pl
