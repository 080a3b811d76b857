/-
  One statement, plainly.
-/
import Derived.Test.YtccbdhpcblfopaaGreatDenI
import Derived.Test.YtccbdhpcblfopaaGreatPbatch
import Derived.Test.YtccbdhpcblfopaaGreatL36
import Derived.Test.YtccbdhpcblfopaaGreatPlA
import Derived.Test.YtccbdhpcblfopaaGreatPr36
import Derived.Test.YtccbdhpcblfopaaGreatEqA
import Derived.Test.YtccbdhpcblfopaaGreatEbatch
import Derived.Test.YtccbdhpcblfopaaGreatEr36
set_option linter.unusedVariables false
set_option linter.unusedSimpArgs false
set_option maxRecDepth 100000
set_option maxHeartbeats 0
namespace Go.Pl
end Go.Pl
open Go Go.Den Go.Pl
namespace Go.Pl
open Go.IntKind (i64 u64 u32 u8)
noncomputable def l36_BatchWeights' (seed : ByteArray) (n : Int) : Option (Unit) :=
 bif (decide ((((ByteArray.size seed) : Nat) : Int) > 256)) then (
 match l36_awake with
 | none => none
 | some r => (
 bif r then (
 some ())
 else (
 none)))
 else (
 match (batch_Weights seed n) with
 | none => none
 | some r1 => (
 match (r36_Weights seed n) with
 | none => none
 | some r2 => (
 match (r08_Same r1.1.1 r1.1.2 r2.1.1 r2.1.2) with
 | none => none
 | some r3 => (
 bif r3 then (
 bif (r1.2 == r2.2) then (
 match l36_awake with
 | none => none
 | some r4 => (
 bif r4 then (
 some ())
 else (
 none)))
 else (
 none))
 else (
 none)))))
end Go.Pl

namespace Go.Proofs.YtccbdhpcblfopaaGreat
noncomputable def x_l36_BatchWeights : Cx := { ti := ti, con := [(8, c_l36_awake), (15, c26_), (16, c3v_), (17, c39_)], fns := [], un := 6 }
theorem xok_l36_BatchWeights : CxOk Tryz.prog x_l36_BatchWeights := CxOk.of mixed ti_ok (fc ⟨con_l36_awake, fc ⟨con26_, fc ⟨con3v_, fc ⟨con39_, fz⟩⟩⟩⟩) fz
theorem fn_l36_BatchWeights : FnOk Tryz.prog 4 Tryz.f4 [] := ⟨Tryz.func4, Tryz.call4, lps_nil⟩
theorem e_l36_BatchWeights (seed : ByteArray) (n : Int) : bodyK x_l36_BatchWeights [] (denF x_l36_BatchWeights 8) Tryz.f4 (domV [.str, tI] (seed, n, ())) [] 0 kTrue = l36_BatchWeights' seed n := by kernel_rfl
end Go.Proofs.YtccbdhpcblfopaaGreat

namespace Go.Pl
open Go Go.Den Go.Num
theorem l36_BatchWeights_true {seed : ByteArray} {n : Int} (hs : Go.Den.Good .str seed) (hn : Go.Den.Good (.int .i64) n) : l36_BatchWeights' seed n = some () := by
  unfold l36_BatchWeights'
  by_cases h : ((seed.size : Nat) : Int) > 256
  · simp only [dec_t h, cond_t, awake36]
  · have s0 := same_nats (n := 0) (a := fun _ => fun _ => 0) (b := fun _ => fun _ => 0) (c := fun _ => 0) (by decide) (fun i hi => absurd hi (Nat.not_lt_zero _)) (fun i hi => absurd hi (Nat.not_lt_zero _))
    by_cases h1 : 16 ≤ seed.size ∧ seed.size ≤ 1024
    · by_cases h2 : 0 ≤ n ∧ n ≤ 64
      · obtain ⟨w, w1, w2⟩ := ((batch_Weights_spec seed n).2 h1).2 n.toNat (by omega) (by omega)
        obtain ⟨v, v1, v2⟩ := ((r36_Weights_spec seed n).2 h1).2 n.toNat (by omega) (by omega)
        have hS := same_nats (n := n.toNat) (by omega) w2 v2
        simp only [dec_f h, cond_f, w1, v1, hS, beq_self_eq_true, cond_t, awake36]
      · simp only [dec_f h, cond_f, ((batch_Weights_spec seed n).2 h1).1 h2, ((r36_Weights_spec seed n).2 h1).1 h2, s0, beq_self_eq_true, cond_t, awake36]
    · simp only [dec_f h, cond_f, (batch_Weights_spec seed n).1 h1, (r36_Weights_spec seed n).1 h1, s0, beq_self_eq_true, cond_t, awake36]
end Go.Pl
