/-
  One statement, plainly.
-/
import Derived.Test.YtccbdhpcblfopaaGreatDenI
import Derived.Test.YtccbdhpcblfopaaGreatPbatch
import Derived.Test.YtccbdhpcblfopaaGreatL36
import Derived.Test.YtccbdhpcblfopaaGreatEqA
import Derived.Test.YtccbdhpcblfopaaGreatEbatch
set_option linter.unusedVariables false
set_option linter.unusedSimpArgs false
set_option maxRecDepth 100000
set_option maxHeartbeats 0
namespace Go.Pl
end Go.Pl
open Go Go.Den Go.Pl
namespace Go.Pl
open Go.IntKind (i64 u64 u32 u8)
noncomputable def l36_BatchNobody' (nl : Nat) (l : Nat → ((SlV NI) × (Int × NI))) (nweights : Nat) (weights : Nat → NI) : Option (Unit) :=
 match (l36_few nl l nweights weights) with
 | none => none
 | some r => (
 bif (!r) then (
 match l36_awake with
 | none => none
 | some r1 => (
 bif r1 then (
 some ())
 else (
 none)))
 else (
 match (batch_Bad none nl l nweights weights) with
 | none => none
 | some y => (
 let nr := y.1.1.1
 let r2 := y.1.1.2
 let r3 := y.1.2.1
 match (batch_All none nl l nweights weights) with
 | none => none
 | some r4 => (
 bif r4 then (
 none)
 else (
 bif (decide (((nr : Nat) : Int) > 0)) then (
 none)
 else (
 bif (r3 != 1) then (
 none)
 else (
 match (batch_Bad (some ((.nil, .nil), (fun _ => 0))) nl l nweights weights) with
 | none => none
 | some y1 => (
 let nr1 := y1.1.1.1
 let r5 := y1.1.1.2
 let r6 := y1.1.2.1
 match (batch_All (some ((.nil, .nil), (fun _ => 0))) nl l nweights weights) with
 | none => none
 | some r7 => (
 bif r7 then (
 none)
 else (
 bif (decide (((nr1 : Nat) : Int) > 0)) then (
 none)
 else (
 bif (r6 != 1) then (
 none)
 else (
 match (l36_small 0) with
 | none => none
 | some r8 => (
 match r8.1 with
 | none => (
 match (batch_Bad none 65 (fun j => (fun _ => (.nil, (0, (fun _ => 0)))) (0 + j)) 65 (fun j => (fun _ => (fun _ => 0)) (0 + j))) with
 | none => none
 | some y4 => (
 let nr4 := y4.1.1.1
 let r15 := y4.1.1.2
 let r16 := y4.1.2.1
 match (batch_Bad none 64 (fun j => (fun _ => (.nil, (0, (fun _ => 0)))) (0 + j)) 64 (fun j => (fun _ => (fun _ => 0)) (0 + j))) with
 | none => none
 | some y5 => (
 let nr5 := y5.1.1.1
 let r17 := y5.1.1.2
 let r18 := y5.1.2.1
 bif r8.2.2 then (
 bif (r16 == 1) then (
 bif (r18 == 0) then (
 match (batch_All none 0 (fun _ => (.nil, (0, (fun _ => 0)))) 0 (fun _ => (fun _ => 0))) with
 | none => none
 | some r19 => (
 bif r19 then (
 match l36_awake with
 | none => none
 | some r20 => (
 bif r20 then (
 some ())
 else (
 none)))
 else (
 none)))
 else (
 none))
 else (
 none))
 else (
 none))))
 | some p => (
 match (batch_Bad (some p) 65 (fun j => (fun _ => (.nil, (0, (fun _ => 0)))) (0 + j)) 65 (fun j => (fun _ => (fun _ => 0)) (0 + j))) with
 | none => none
 | some y2 => (
 let nr2 := y2.1.1.1
 let r9 := y2.1.1.2
 let r10 := y2.1.2.1
 match (batch_Bad (some p) 64 (fun j => (fun _ => (.nil, (0, (fun _ => 0)))) (0 + j)) 64 (fun j => (fun _ => (fun _ => 0)) (0 + j))) with
 | none => none
 | some y3 => (
 let nr3 := y3.1.1.1
 let r11 := y3.1.1.2
 let r12 := y3.1.2.1
 bif r8.2.2 then (
 bif (r10 == 1) then (
 bif (r12 == 0) then (
 match (batch_All (some p) 0 (fun _ => (.nil, (0, (fun _ => 0)))) 0 (fun _ => (fun _ => 0))) with
 | none => none
 | some r13 => (
 bif r13 then (
 match l36_awake with
 | none => none
 | some r14 => (
 bif r14 then (
 some ())
 else (
 none)))
 else (
 none)))
 else (
 none))
 else (
 none))
 else (
 none)))))))))))))))))
end Go.Pl

namespace Go.Proofs.YtccbdhpcblfopaaGreat
noncomputable def x_l36_BatchNobody : Cx := { ti := ti, con := [(7, c_l36_few), (8, c_l36_awake), (10, c2c_), (12, c2a_), (9, c_l36_small)], fns := [], un := 6, frz := [51] }
theorem xok_l36_BatchNobody : CxOk Tryz.prog x_l36_BatchNobody := CxOk.of mixed ti_ok (fc ⟨con_l36_few, fc ⟨con_l36_awake, fc ⟨con2c_, fc ⟨con2a_, fc ⟨con_l36_small, fz⟩⟩⟩⟩⟩) fz
theorem fn_l36_BatchNobody : FnOk Tryz.prog 5 Tryz.f5 [] := ⟨Tryz.func5, Tryz.call5, lps_nil⟩
theorem e_l36_BatchNobody (nl : Nat) (l : Nat → ((SlV NI) × (Int × NI))) (nweights : Nat) (weights : Nat → NI) : bodyK x_l36_BatchNobody [] (denF x_l36_BatchNobody 8) Tryz.f5 (domV [(.sl (.pair (.sl tN) (.pair tI tN))), (.sl tN)] ((nl, l), (nweights, weights), ())) [] 0 kTrue = l36_BatchNobody' nl l nweights weights := by kernel_rfl
end Go.Proofs.YtccbdhpcblfopaaGreat

namespace Go.Pl
open Go Go.Den Go.Num
theorem NoGroup.bFits {g : Option GroupT} (h : NoGroup g) (n : Nat) (l : Nat → SlV (Nat → Int) × (Int × (Nat → Int))) (k : Nat) (w : Nat → (Nat → Int)) : batch_fits g n l k w = some false := by
  rw [batch_fits_eq]; unfold batch_fits'
  rcases g with _ | g <;> simp only [h.Field]
theorem NoGroup.bBad {g : Option GroupT} (h : NoGroup g) (n : Nat) (l : Nat → SlV (Nat → Int) × (Int × (Nat → Int))) (k : Nat) (w : Nat → (Nat → Int)) : batch_Bad g n l k w = some (((0, (fun _ => 0)), (1, ())), ()) := by
  rw [batch_Bad_eq]; unfold batch_Bad'
  rcases g with _ | g <;> simp only [h.bFits, Bool.not_false, cond_t]
theorem NoGroup.bAll {g : Option GroupT} (h : NoGroup g) (n : Nat) (l : Nat → SlV (Nat → Int) × (Int × (Nat → Int))) (k : Nat) (w : Nat → (Nat → Int)) : batch_All g n l k w = some false := by
  rw [batch_All_eq]; unfold batch_All'
  rcases g with _ | g <;> simp only [h.bFits, cond_f]
def Cl0 : Cl := ⟨fun _ => 0, fun _ _ => 0, fun _ => 0, fun _ => 0⟩
theorem l36_BatchNobody_true {nl : Nat} {l : Nat → SlV (Nat → Int) × (Int × (Nat → Int))} {k : Nat} {w : Nat → (Nat → Int)} (hl : Go.Den.Good (.sl (.pair (.sl (.arr 4 (.int .u64))) (.pair (.int .i64) (.arr 4 (.int .u64))))) (.fz nl l)) (hw : Go.Den.Good (.sl (.arr 4 (.int .u64))) (.fz k w)) : l36_BatchNobody' nl l k w = some () := by
  have hnl := hl.1
  obtain ⟨C, hC, hC8⟩ := good_claims hl
  obtain ⟨b, f1, f2⟩ := few_spec nl l k w (by omega) (fun i hi => (hC i hi).ms)
  unfold l36_BatchNobody'
  rw [f1]
  cases b with
  | false => simp only [WW, awake36]
  | true =>
    have n1 : NoGroup none := .inl rfl
    have n2 : NoGroup (some ((.nil, .nil), (fun _ => 0))) := .inr ⟨_, rfl⟩
    obtain ⟨g, s1, hg⟩ := l36_small_zero
    have z : ∀ m, Cl0.Is m (fun j => (fun _ => (.nil, (0, (fun _ => 0)))) (0 + j)) := fun m k hk => ⟨rfl, rfl, fun j hj => absurd hj (Nat.not_lt_zero _), rfl, IsN.zero⟩
    obtain ⟨b1, _⟩ := batch_Bad_odd hg (m := 65) (k := 65) (by decide) (fun j => (fun _ => (.nil, (0, (fun _ => 0)))) (0 + j)) (fun j => (fun _ => (fun _ => 0)) (0 + j))
    obtain ⟨r, row, b2, _⟩ := batch_Bad_spec hg (m := 64) (by decide) (z 64) (w := fun j => (fun _ => (fun _ => 0)) (0 + j)) (W := fun _ => 0) (fun _ _ => IsN.zero)
    have hA := batch_All_spec hg (m := 0) (by decide) (l := fun _ => (.nil, (0, (fun _ => 0)))) (C := Cl0) (fun k hk => absurd hk (Nat.not_lt_zero _)) (w := fun _ => fun _ => 0) (W := fun _ => 0) (fun k hk => absurd hk (Nat.not_lt_zero _))
    have hT : Cl0.T 1055500680322183127 1966023127 316543771439780984 (fun _ => 0) 0 0 = true := by
      rw [T_all, @decide_eq_true_eq _ (Classical.propDecidable _)]
      exact ⟨fun k hk => absurd hk (Nat.not_lt_zero _), rfl⟩
    rw [hT] at hA
    have e1 : ((1 : Int) != 1) = false := rfl
    have e2 : decide (((0 : Nat) : Int) > 0) = false := rfl
    have e3 : ((1 : Int) == 1) = true := rfl
    have e4 : ((0 : Int) == 0) = true := rfl
    simp only [Bool.not_true, cond_f, cond_t, n1.bBad, n1.bAll, n2.bBad, n2.bAll, e1, e2, e3, e4, s1, b1, b2, Y_batch_Bad_0, hA, awake36]
end Go.Pl
