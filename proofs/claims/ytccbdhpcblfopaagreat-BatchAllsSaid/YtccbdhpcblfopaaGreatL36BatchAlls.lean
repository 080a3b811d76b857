/-
  One statement, plainly.
-/
import Derived.Test.YtccbdhpcblfopaaGreatDenI
import Derived.Test.YtccbdhpcblfopaaGreatPbatch
import Derived.Test.YtccbdhpcblfopaaGreatL36
import Derived.Test.YtccbdhpcblfopaaGreatPr17
import Derived.Test.YtccbdhpcblfopaaGreatPr36
import Derived.Test.YtccbdhpcblfopaaGreatEqA
import Derived.Test.YtccbdhpcblfopaaGreatEbatch
import Derived.Test.YtccbdhpcblfopaaGreatEr17
import Derived.Test.YtccbdhpcblfopaaGreatEr36
set_option linter.unusedVariables false
set_option linter.unusedSimpArgs false
set_option maxRecDepth 100000
set_option maxHeartbeats 0
namespace Go.Pl
end Go.Pl
open Go Go.Den Go.Pl
namespace Go.Pl
open Go.IntKind (i64 u64 u32 u8)
noncomputable def l36_BatchAlls' (which : Int) (nl : Nat) (l : Nat → ((SlV NI) × (Int × NI))) (nweights : Nat) (weights : Nat → NI) : Option (Unit) :=
 match (l36_few nl l nweights weights) with
 | none => none
 | some r => (
 bif (!r) then (
 match l36_awake with
 | none => none
 | some r1 => (
 bif r1 then (
 some ())
 else (
 none)))
 else (
 match (l36_small which) with
 | none => none
 | some r2 => (
 match r2.1 with
 | none => (
 match (batch_Bad none nl l nweights weights) with
 | none => none
 | some y1 => (
 let nr1 := y1.1.1.1
 let r10 := y1.1.1.2
 let r11 := y1.1.2.1
 match (r36_Bad r2.2.1 nl l nweights weights) with
 | none => none
 | some r12 => (
 bif r2.2.2 then (
 match (batch_All none nl l nweights weights) with
 | none => none
 | some r13 => (
 match (r36_All r2.2.1 nl l nweights weights) with
 | none => none
 | some r14 => (
 bif (r13 == r14) then (
 match (r17_Numbers nr1 (fun j => r10 (0 + j)) r12.1.1 r12.1.2) with
 | none => none
 | some r15 => (
 bif r15 then (
 bif (r11 == r12.2) then (
 match l36_awake with
 | none => none
 | some r16 => (
 bif r16 then (
 some ())
 else (
 none)))
 else (
 none))
 else (
 none)))
 else (
 none))))
 else (
 none))))
 | some p => (
 match (batch_Bad (some p) nl l nweights weights) with
 | none => none
 | some y => (
 let nr := y.1.1.1
 let r3 := y.1.1.2
 let r4 := y.1.2.1
 match (r36_Bad r2.2.1 nl l nweights weights) with
 | none => none
 | some r5 => (
 bif r2.2.2 then (
 match (batch_All (some p) nl l nweights weights) with
 | none => none
 | some r6 => (
 match (r36_All r2.2.1 nl l nweights weights) with
 | none => none
 | some r7 => (
 bif (r6 == r7) then (
 match (r17_Numbers nr (fun j => r3 (0 + j)) r5.1.1 r5.1.2) with
 | none => none
 | some r8 => (
 bif r8 then (
 bif (r4 == r5.2) then (
 match l36_awake with
 | none => none
 | some r9 => (
 bif r9 then (
 some ())
 else (
 none)))
 else (
 none))
 else (
 none)))
 else (
 none))))
 else (
 none)))))))
end Go.Pl

namespace Go.Proofs.YtccbdhpcblfopaaGreat
noncomputable def x_l36_BatchAlls : Cx := { ti := ti, con := [(7, c_l36_few), (8, c_l36_awake), (9, c_l36_small), (10, c2c_), (11, c3t_), (12, c2a_), (13, c3u_), (14, c2w_)], fns := [], un := 6 }
theorem xok_l36_BatchAlls : CxOk Tryz.prog x_l36_BatchAlls := CxOk.of mixed ti_ok (fc ⟨con_l36_few, fc ⟨con_l36_awake, fc ⟨con_l36_small, fc ⟨con2c_, fc ⟨con3t_, fc ⟨con2a_, fc ⟨con3u_, fc ⟨con2w_, fz⟩⟩⟩⟩⟩⟩⟩⟩) fz
theorem fn_l36_BatchAlls : FnOk Tryz.prog 3 Tryz.f3 [] := ⟨Tryz.func3, Tryz.call3, lps_nil⟩
theorem e_l36_BatchAlls (which : Int) (nl : Nat) (l : Nat → ((SlV NI) × (Int × NI))) (nweights : Nat) (weights : Nat → NI) : bodyK x_l36_BatchAlls [] (denF x_l36_BatchAlls 8) Tryz.f3 (domV [tI, (.sl (.pair (.sl tN) (.pair tI tN))), (.sl tN)] (which, (nl, l), (nweights, weights), ())) [] 0 kTrue = l36_BatchAlls' which nl l nweights weights := by kernel_rfl
end Go.Proofs.YtccbdhpcblfopaaGreat

namespace Go.Pl
open Go Go.Den Go.Num
theorem l36_BatchAlls_true {which : Int} {nl : Nat} {l : Nat → SlV (Nat → Int) × (Int × (Nat → Int))} {k : Nat} {w : Nat → (Nat → Int)} (hwh : Go.Den.Good (.int .i64) which) (hl : Go.Den.Good (.sl (.pair (.sl (.arr 4 (.int .u64))) (.pair (.int .i64) (.arr 4 (.int .u64))))) (.fz nl l)) (hw : Go.Den.Good (.sl (.arr 4 (.int .u64))) (.fz k w)) : l36_BatchAlls' which nl l k w = some () := by
  have hnl := hl.1
  have hnk := hw.1
  obtain ⟨C, hC, hC8⟩ := good_claims hl
  obtain ⟨W, hW⟩ := good_nats hw
  obtain ⟨b, f1, f2⟩ := few_spec nl l k w (by omega) (fun i hi => (hC i hi).ms)
  unfold l36_BatchAlls'
  rw [f1]
  cases b with
  | false => simp only [WW, awake36]
  | true =>
    obtain ⟨h1, h2⟩ := f2 rfl
    obtain ⟨g, P, Q, G, s1, hg, hP, hQ⟩ := l36_small_spec which
    have hP1 : 1 < P := hg.pp.1
    simp only [WW, s1]
    by_cases hk : nl = k
    · subst hk
      obtain ⟨r, row, b1, b2⟩ := batch_Bad_spec hg (m := nl) (by omega) hC hW
      have hA := batch_All_spec hg (m := nl) (by omega) hC hW
      obtain ⟨r', row', c1, c2⟩ := looks_spec (G := G) hP1 hP hg.qpos hQ hg.gP hg.order (m := nl) (by omega) hC hC8 hW 9 0 nl (Nat.zero_le _) (Nat.le_refl _) (by omega)
      have c1' : r36_looks 10 ((P : Int), (Q : Int), (G : Int)) nl l nl w 0 (nl : Int) = some (Y_r36_looks_0 r' row') := c1
      have hRB : r36_Bad ((P : Int), (Q : Int), (G : Int)) nl l nl w = some ((r', (fun j => row' (0 + j))), 0) := by
        rw [r36_Bad_eq]; unfold r36_Bad'
        rw [dec_f (by omega), cond_f, bne_f rfl, cond_f, c1']
      have hRA : r36_All ((P : Int), (Q : Int), (G : Int)) nl l nl w = some (C.T P Q G W 0 nl) := by
        rw [r36_All_eq]; unfold r36_All'
        rw [dec_t (by omega), cond_t, beq_t rfl, cond_t, r36_Together_spec hP1 hP hg.qpos hQ hg.gP hg.order (by omega) hC hC8 hW, T_all]
      have hlen := badL_len (C.T P Q G W) 10 0 nl (Nat.zero_le _)
      have hN := r17_same (by omega) b2.shift c2.shift
      have e0 : ((0 : Int) == 0) = true := rfl
      simp only [b1, Y_batch_Bad_0, hRB, hA, hRA, beq_self_eq_true, hN, cond_t, awake36]
    · obtain ⟨b1, hA⟩ := batch_Bad_odd hg (m := nl) (k := k) (fun h => hk h.2) l w
      have hRB : r36_Bad ((P : Int), (Q : Int), (G : Int)) nl l k w = some ((0, (fun _ => 0)), 1) := by
        rw [r36_Bad_eq]; unfold r36_Bad'
        rw [dec_f (by omega), cond_f, bne_t (by omega), cond_t]
      have hRA : r36_All ((P : Int), (Q : Int), (G : Int)) nl l k w = some false := by
        rw [r36_All_eq]; unfold r36_All'
        rw [dec_t (by omega), cond_t, beq_f (by omega), cond_f]
      have hN := r17_same (n := 0) (m := 0) (f := fun j => (fun _ => 0) (0 + j)) (h := fun _ => 0) (l := []) (by decide) (IsRow.nil _) (IsRow.nil _)
      simp only [b1, Y_batch_Bad_0, hRB, hA, hRA, beq_self_eq_true, hN, cond_t, awake36]
end Go.Pl
