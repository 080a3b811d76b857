/-
  One statement, plainly.
-/
import Derived.Test.YtccbdhpcblfopaaGreatDenI
import Derived.Test.YtccbdhpcblfopaaGreatPbatch
import Derived.Test.YtccbdhpcblfopaaGreatPcommit
import Derived.Test.YtccbdhpcblfopaaGreatPlA
import Derived.Test.YtccbdhpcblfopaaGreatL36
import Derived.Test.YtccbdhpcblfopaaGreatPr17
import Derived.Test.YtccbdhpcblfopaaGreatEqA
import Derived.Test.YtccbdhpcblfopaaGreatEbatch
import Derived.Test.YtccbdhpcblfopaaGreatEcommit
import Derived.Test.YtccbdhpcblfopaaGreatEr17
import Derived.Test.YtccbdhpcblfopaaGreatMF
set_option linter.unusedVariables false
set_option linter.unusedSimpArgs false
set_option maxRecDepth 100000
set_option maxHeartbeats 0
namespace Go.Pl
end Go.Pl
open Go Go.Den Go.Pl
namespace Go.Pl
open Go.IntKind (i64 u64 u32 u8)
abbrev T_l36_BatchSound_0 (g : (((PtrV (NI × (Int × (NI × NI)))) × (PtrV (NI × (Int × (NI × NI))))) × NI)) (nc : Nat) (c : Nat → ((SlV NI) × (Int × NI))) (nweights : Nat) (weights : Nat → NI) (i : Int) (l : NI) := (((), (g, ((nc, c), ((nweights, weights), (i, ()))))), (l, ()))
abbrev Y_l36_BatchSound_0_0 (g : (((PtrV (NI × (Int × (NI × NI)))) × (PtrV (NI × (Int × (NI × NI))))) × NI)) (nc : Nat) (c : Nat → ((SlV NI) × (Int × NI))) (nweights : Nat) (weights : Nat → NI) (l : NI) := (((), (g, ((nc, c), ((nweights, weights), ())))), (l, ()))
abbrev X_l36_BatchSound_0 : Type := ((Unit × ((((PtrV (NI × (Int × (NI × NI)))) × (PtrV (NI × (Int × (NI × NI))))) × NI) × ((Nat × (Nat → ((SlV NI) × (Int × NI)))) × ((Nat × (Nat → NI)) × (Int × Unit))))) × (NI × Unit))
noncomputable def R_l36_BatchSound_0 : X_l36_BatchSound_0 → Option (X_l36_BatchSound_0 ⊕ ((Unit × ((((PtrV (NI × (Int × (NI × NI)))) × (PtrV (NI × (Int × (NI × NI))))) × NI) × ((Nat × (Nat → ((SlV NI) × (Int × NI)))) × ((Nat × (Nat → NI)) × Unit)))) × (NI × Unit))) := fun x =>
 let g := x.1.2.1
 let nc := x.1.2.2.1.1
 let c := x.1.2.2.1.2
 let nweights := x.1.2.2.2.1.1
 let weights := x.1.2.2.2.1.2
 let i := x.1.2.2.2.2.1
 let l := x.2.1
 bif (decide (i < 7)) then (
 bif (inb i 9) then (
 match (l36_of (i64.wrap (bitsOp .and .u32 (l (Int.toNat i)) 1073741823))) with
 | none => none
 | some r => (
 bif ((Nat.ble ((nweights + 1) * 32) 140737488355328) && (Nat.ble (nweights + 1) 9223372036854775807)) then (
 some (.inl (((), (g, ((nc, c), (((nweights + 1), (glue nweights weights (fun j => (upd (fun _ => (fun _ => 0)) 0 r) (0 + j)))), ((i64.wrap (i + 1)), ()))))), (l, ()))))
 else (
 none)))
 else (
 none))
 else (
 some (.inr (((), (g, ((nc, c), ((nweights, weights), ())))), (l, ()))))
noncomputable def l36_BatchSound' (which : Int) (nf : Nat) (f : Nat → NI) (l : NI) : Option (Unit) :=
 bif (decide (((nf : Nat) : Int) > 3)) then (
 match l36_awake with
 | none => none
 | some r => (
 bif r then (
 some ())
 else (
 none)))
 else (
 match r07_Least with
 | none => none
 | some r1 => (
 match r07_Other with
 | none => none
 | some r2 => (
 match r07_Great with
 | none => none
 | some r3 => (
 bif (inb (Int.tmod (bitsOp .and .i64 which 255) 3) 3) then (
 let t := (((upd (upd (upd (fun _ => (.nil, (fun _ => 0))) 0 ((.fz r1.1.1 r1.1.2), r1.2)) 1 ((.fz r2.1.1 r2.1.2), r2.2)) 2 ((.fz r3.1.1 r3.1.2), r3.2)) (0 + (Int.toNat (Int.tmod (bitsOp .and .i64 which 255) 3)))) : ((SlV (NI × Int)) × NI))
 bif (SlV.isMs t.1) then (
 none)
 else (
 match (group_New (((SlV.len t.1), (SlV.fn (((fun _ => 0), 0) : (NI × Int)) t.1)), t.2)) with
 | none => none
 | some r4 => (
 match r4.1 with
 | none => (
 match (l36_claims_m none nf f) with
 | none => none
 | some y4 => (
 let nr3 := y4.1.1.1
 let r19 := y4.1.1.2
 let r20 := y4.1.2.1
 bif (r4.2 != 0) then (
 none)
 else (
 bif (!r20) then (
 none)
 else (
 none))))
 | some p => (
 match (l36_claims_m (some p) nf f) with
 | none => none
 | some y => (
 let nr := y.1.1.1
 let r5 := y.1.1.2
 let r6 := y.1.2.1
 bif (r4.2 != 0) then (
 none)
 else (
 bif (!r6) then (
 none)
 else (
 match (loopF R_l36_BatchSound_0 (((), (p, ((nr, r5), ((0, (fun _ => (fun _ => 0))), (0, ()))))), (l, ()))) with
 | none => none
 | some y1 => (
 let g := y1.1.2.1
 let nc := y1.1.2.2.1.1
 let c := y1.1.2.2.1.2
 let nweights := y1.1.2.2.2.1.1
 let weights := y1.1.2.2.2.1.2
 let l1 := y1.2.1
 match (batch_Bad (some g) nc (fun j => c (0 + j)) nweights (fun j => weights (0 + j))) with
 | none => none
 | some y2 => (
 let nr1 := y2.1.1.1
 let r7 := y2.1.1.2
 let r8 := y2.1.2.1
 match (batch_All (some g) nc (fun j => c (0 + j)) nweights (fun j => weights (0 + j))) with
 | none => none
 | some r9 => (
 bif (!r9) then (
 none)
 else (
 bif (decide (((nr1 : Nat) : Int) > 0)) then (
 none)
 else (
 bif (r8 != 0) then (
 none)
 else (
 match (l36_of (i64.wrap (bitsOp .and .u32 (l1 8) 1073741823))) with
 | none => none
 | some r10 => (
 bif (inb (i64.wrap (Int.tmod (l1 7) 7)) nc) then (
 let t1 := (eqF (.arr 4 (.int .u64)) r10 (c (0 + (Int.toNat (i64.wrap (Int.tmod (l1 7) 7))))).2.2)
 bif (inb (i64.wrap (Int.tmod (l1 7) 7)) nc) then (
 match (batch_Bad (some g) nc (fun j => (upd c (0 + (Int.toNat (i64.wrap (Int.tmod (l1 7) 7)))) ((c (0 + (Int.toNat (i64.wrap (Int.tmod (l1 7) 7))))).1, ((c (0 + (Int.toNat (i64.wrap (Int.tmod (l1 7) 7))))).2.1, r10))) (0 + j)) nweights (fun j => weights (0 + j))) with
 | none => none
 | some y3 => (
 let nr2 := y3.1.1.1
 let r11 := y3.1.1.2
 let r12 := y3.1.2.1
 bif (r12 != 0) then (
 none)
 else (
 match (batch_All (some g) nc (fun j => (upd c (0 + (Int.toNat (i64.wrap (Int.tmod (l1 7) 7)))) ((c (0 + (Int.toNat (i64.wrap (Int.tmod (l1 7) 7))))).1, ((c (0 + (Int.toNat (i64.wrap (Int.tmod (l1 7) 7))))).2.1, r10))) (0 + j)) nweights (fun j => weights (0 + j))) with
 | none => none
 | some r13 => (
 bif (!(r13 == (((nr2 : Nat) : Int) == 0))) then (
 none)
 else (
 bif t1 then (
 bif (((nr2 : Nat) : Int) == 0) then (
 match l36_awake with
 | none => none
 | some r14 => (
 bif r14 then (
 some ())
 else (
 none)))
 else (
 none))
 else (
 bif (inb (i64.wrap (Int.tmod (l1 7) 7)) nweights) then (
 let t2 := (eqF (.arr 4 (.int .u64)) (weights (0 + (Int.toNat (i64.wrap (Int.tmod (l1 7) 7))))) (fun _ => 0))
 bif t2 then (
 bif (((nr2 : Nat) : Int) == 0) then (
 match l36_awake with
 | none => none
 | some r15 => (
 bif r15 then (
 some ())
 else (
 none)))
 else (
 none))
 else (
 match (r17_Numbers nr2 (fun j => r11 (0 + j)) 1 (fun j => (upd (fun _ => 0) 0 (i64.wrap (Int.tmod (l1 7) 7))) (0 + j))) with
 | none => none
 | some r16 => (
 bif r16 then (
 bif (inb (i64.wrap (Int.tmod (l1 7) 7)) nc) then (
 let t3 := (((upd c (0 + (Int.toNat (i64.wrap (Int.tmod (l1 7) 7)))) ((c (0 + (Int.toNat (i64.wrap (Int.tmod (l1 7) 7))))).1, ((c (0 + (Int.toNat (i64.wrap (Int.tmod (l1 7) 7))))).2.1, r10))) (0 + (Int.toNat (i64.wrap (Int.tmod (l1 7) 7))))).1 : (SlV NI))
 bif (SlV.isMs t3) then (
 none)
 else (
 bif (inb (i64.wrap (Int.tmod (l1 7) 7)) nc) then (
 match (commit_Holds (some g) (SlV.len t3) (SlV.fn ((fun _ => 0) : NI) t3) ((upd c (0 + (Int.toNat (i64.wrap (Int.tmod (l1 7) 7)))) ((c (0 + (Int.toNat (i64.wrap (Int.tmod (l1 7) 7))))).1, ((c (0 + (Int.toNat (i64.wrap (Int.tmod (l1 7) 7))))).2.1, r10))) (0 + (Int.toNat (i64.wrap (Int.tmod (l1 7) 7))))).2) with
 | none => none
 | some r17 => (
 bif (!r17) then (
 match l36_awake with
 | none => none
 | some r18 => (
 bif r18 then (
 some ())
 else (
 none)))
 else (
 none)))
 else (
 none)))
 else (
 none))
 else (
 none))))
 else (
 none)))))))
 else (
 none))
 else (
 none)))))))))))))))
 else (
 none)))))
end Go.Pl

namespace Go.Proofs.YtccbdhpcblfopaaGreat
abbrev S_l36_BatchSound_0 : Shape := { sl := [(pc 5 (.arr 9 (.int .u32)) 0), (7, (.pz (.pair (.pair (.ptr (.pair tN (.pair tU (.pair tN tN)))) (.ptr (.pair tN (.pair tU (.pair tN tN))))) tN))), (9, (.w 68 (.pair (.sl tN) (.pair tI tN)) 5)), (11, (.w 49 tN 6)), (pv 12 tI)], ob := [(pv 0 (.arr 9 (.int .u32)))], lo := 5, nx := 7 }
abbrev E_l36_BatchSound_0 : List Ex := [(.normal, { sl := [(pc 5 (.arr 9 (.int .u32)) 0), (7, (.pz (.pair (.pair (.ptr (.pair tN (.pair tU (.pair tN tN)))) (.ptr (.pair tN (.pair tU (.pair tN tN))))) tN))), (9, (.w 68 (.pair (.sl tN) (.pair tI tN)) 7)), (11, (.w 49 tN 8))], ob := [(pv 0 (.arr 9 (.int .u32)))], lo := 7, nx := 9 })]
noncomputable def L_l36_BatchSound_0 : Code := loopIn (bodyOf Tryz.f6) 0
noncomputable def P_l36_BatchSound_0 : Lp := lpOf S_l36_BatchSound_0 E_l36_BatchSound_0 162 R_l36_BatchSound_0
noncomputable def x_l36_BatchSound : Cx := { ti := ti, con := [(8, c_l36_awake), (19, c2l_), (20, c2k_), (21, c2p_), (18, c13_), (22, c_l36_claims_m), (23, c_l36_of), (10, c2c_), (12, c2a_), (14, c2w_), (24, c1k_)], fns := [], un := 6 }
theorem xok_l36_BatchSound : CxOk Tryz.prog x_l36_BatchSound := CxOk.of mixed ti_ok (fc ⟨con_l36_awake, fc ⟨con2l_, fc ⟨con2k_, fc ⟨con2p_, fc ⟨con13_, fc ⟨con_l36_claims_m, fc ⟨con_l36_of, fc ⟨con2c_, fc ⟨con2a_, fc ⟨con2w_, fc ⟨con1k_, fz⟩⟩⟩⟩⟩⟩⟩⟩⟩⟩⟩) fz
theorem r_l36_BatchSound_0 (x : S_l36_BatchSound_0.X) : denC x_l36_BatchSound [] (denF x_l36_BatchSound 8) L_l36_BatchSound_0 (S_l36_BatchSound_0.mkS 162 x) (kRound 0 S_l36_BatchSound_0 E_l36_BatchSound_0) = R_l36_BatchSound_0 x := by kernel_rfl
theorem l_l36_BatchSound_0 : LpOk Tryz.prog 0 (.loop L_l36_BatchSound_0) P_l36_BatchSound_0 := lpOf_ok xok_l36_BatchSound 8 (lps_nil) S_l36_BatchSound_0 E_l36_BatchSound_0 162 R_l36_BatchSound_0 (by decide) r_l36_BatchSound_0
theorem fn_l36_BatchSound : FnOk Tryz.prog 6 Tryz.f6 [(0, P_l36_BatchSound_0)] := ⟨Tryz.func6, Tryz.call6, lps_of (by kernel_rfl) (lps_one l_l36_BatchSound_0 (by kernel_rfl) fz)⟩
theorem e_l36_BatchSound (which : Int) (nf : Nat) (f : Nat → NI) (l : NI) : bodyK x_l36_BatchSound [(0, P_l36_BatchSound_0)] (denF x_l36_BatchSound 8) Tryz.f6 (domV [tI, (.sl tN), (.arr 9 (.int .u32))] (which, (nf, f), l, ())) [] 0 kTrue = l36_BatchSound' which nf f l := by kernel_rfl
end Go.Proofs.YtccbdhpcblfopaaGreat

namespace Go.Pl
open Go Go.Den Go.Num
theorem three_row36 {i : Nat} (hi : i < 3) : ∃ (k : Nat) (l : ChainT) (ga : Nat → Int) (g : GroupT) (P Q G : Nat), (upd (upd (upd (fun _ => (.nil, fun _ => 0)) 0 ((.fz 3 leastL), leastG)) 1 ((.fz 3 otherL), otherG)) 2 ((.fz 5 greatL), greatG) : Nat → SlV ((Nat → Int) × Int) × (Nat → Int)) (0 + i) = (.fz k l, ga) ∧ group_New ((k, l), ga) = some (some g, 0) ∧ IsGroup g P Q G ∧ 1073741824 ≤ Q := by
  match i, hi with
  | 0, _ =>
    obtain ⟨g, hg⟩ := least_pick
    exact ⟨3, leastL, leastG, g, _, _, _, rfl, hg.made, hg.group, by decide⟩
  | 1, _ =>
    obtain ⟨g, hg⟩ := other_pick
    exact ⟨3, otherL, otherG, g, _, _, _, rfl, hg.made, hg.group, by decide⟩
  | 2, _ =>
    obtain ⟨g, g1, g2, g3⟩ := great_new
    exact ⟨5, greatL, greatG, g, _, _, _, rfl, g1, g2, by decide⟩
theorem mask30 {x : Nat} (h : x < 4294967296) : IntKind.i64.wrap (bitsOp .and .u32 (x : Int) 1073741823) = ((x % 1073741824 : Nat) : Int) := by
  have e : bitsOp .and .u32 (x : Int) ((1073741823 : Nat) : Int) = ((x &&& 1073741823 : Nat) : Int) := andW h (by decide)
  have e2 : x &&& 1073741823 = x % 1073741824 := Nat.and_two_pow_sub_one_eq_mod x 30
  rw [e2] at e
  have e3 : bitsOp .and .u32 (x : Int) 1073741823 = ((x % 1073741824 : Nat) : Int) := e
  rw [e3, wrap_i64n (by omega)]
theorem holds_not {g : GroupT} {P Q G : Nat} (h : IsGroup g P Q G) (A : Nat → Nat) {nf : Nat} (hn : nf ≤ 3) {at_ y : Nat} (hat : at_ < 7) (hy : y < Q) (hne : y ≠ vlN A nf Q (at_ + 1)) {x : SlV (Nat → Int) × (Int × (Nat → Int))} (hx : IsClaim x 3 (fun j => G ^ pad A nf j % P) ((at_ + 1 : Nat) : Int) y) :
    commit_Holds (some g) (SlV.len x.1) (SlV.fn ((fun _ => 0) : Nat → Int) x.1) x.2 = some false := by
  have hv : vlN A nf Q (at_ + 1) < Q := Nat.mod_lt _ h.qpos
  rw [commit_Holds_eq]; unfold commit_Holds'
  have hI := field_In_spec h hx.yy
  have hM := commit_May_spec h hx.nats
  obtain ⟨o, o1, o2⟩ := power_Of_spec h hx.yy
  obtain ⟨z, z1, z2⟩ := commit_At_spec h (n := 3) (by decide) hx.nats (i := at_ + 1) (by omega)
  have hat2 := clOf_at h A hn at_
  have hat3 : atN P 3 (fun j => G ^ pad A nf j % P) (at_ + 1) = G ^ vlN A nf Q (at_ + 1) % P := hat2
  have hmay : MayC P Q 3 (fun j => G ^ pad A nf j % P) := (clOf_may h A nf at_ hat).1
  have heq : eqF (.arr 4 (.int .u64)) o z = false := by
    rw [o2.eqb z2, decide_eq_false_iff_not]
    intro e
    rw [hat3] at e
    have := (pow_order h.pp h.pq h.g1 h.gP h.order _ _).1 e
    rw [Nat.mod_eq_of_lt hy, Nat.mod_eq_of_lt hv] at this
    exact hne this
  rw [hx.len]
  simp only [hx.ii, dec_t (show ((at_ + 1 : Nat) : Int) ≥ 1 by omega), dec_t (show ((at_ + 1 : Nat) : Int) ≤ 7 by omega), cond_t, hI, dec_t hy, hM, @decide_eq_true _ (Classical.propDecidable _) hmay, o1, z1, heq]
theorem l36_BatchSound_true {which : Int} {nf : Nat} {f : Nat → (Nat → Int)} {l : Nat → Int} (hwh : Go.Den.Good (.int .i64) which) (hf : Go.Den.Good (.sl (.arr 4 (.int .u64))) (.fz nf f)) (hl : Go.Den.Good (.arr 9 (.int .u32)) l) : l36_BatchSound' which nf f l = some () := by
  obtain ⟨A, hA⟩ := good_nats hf
  have hln : ∀ i, i < 9 → ∃ x : Nat, l i = (x : Int) ∧ x < 4294967296 := fun i hi => by
    have h1 : (0 : Int) ≤ l i ∧ l i ≤ 4294967295 := hl i hi
    exact ⟨(l i).toNat, by omega, by omega⟩
  unfold l36_BatchSound'
  by_cases hnf : ((nf : Nat) : Int) > 3
  · simp only [dec_t hnf, cond_t, awake36]
  · obtain ⟨i, hi, hi2⟩ := three_idx which
    obtain ⟨k, ch, ga, g, P, Q, G, t1, made, hg, hQ⟩ := three_row36 hi
    have hi3 : inb ((i : Nat) : Int) 3 = true := by rw [inb_t] <;> omega
    have hn3 : nf ≤ 3 := by omega
    obtain ⟨c, c1, c2⟩ := claims_spec hg (nf := nf) hn3 hA
    -- the weights
    have hWx : ∀ j, j < 7 → ∃ x : Nat, l j = (x : Int) ∧ x < 4294967296 := fun j hj => hln j (by omega)
    generalize hWd : (fun j => (l j).toNat % 1073741824) = W
    have hWj : ∀ j, W j = (l j).toNat % 1073741824 := fun j => by rw [← hWd]
    obtain ⟨w, w1, w2⟩ := loop_for (R := R_l36_BatchSound_0) (S := Nat → (Nat → Int)) (fun k w => T_l36_BatchSound_0 g 7 c k w (k : Int) l) (fun w => Y_l36_BatchSound_0_0 g 7 c 7 w l)
      (fun k w => ∀ j, j < k → IsN (w j) (W j)) 7
      (fun k hk w hP => by
        obtain ⟨x, x1, x2⟩ := hWx k hk
        have hm := mask30 x2
        rw [← x1] at hm
        obtain ⟨a, a1, a2⟩ := l36_of_spec (n := ((x % 1073741824 : Nat) : Int)) (by omega)
        rw [Int.toNat_natCast] at a2
        refine ⟨glue k w (fun j => upd (fun _ => fun _ => 0) 0 a (0 + j)), ?_, row_snoc (A := fun j => W j) hP (a2.of_eq (by rw [hWj, x1, Int.toNat_natCast]))⟩
        have hble : ∀ a b : Nat, a ≤ b → Nat.ble a b = true := fun a b h => Nat.ble_eq_true_of_le h
        simp (disch := omega) only [R_l36_BatchSound_0, T_l36_BatchSound_0, WW, CC, hm, a1, hble, Bool.and_true])
      (fun w _ => by simp (disch := omega) only [R_l36_BatchSound_0, T_l36_BatchSound_0, WW, CC]) (fun _ => fun _ => 0) (fun j hj => absurd hj (Nat.not_lt_zero _))
    have w1' : loopF R_l36_BatchSound_0 (((), (g, ((7, c), ((0, (fun _ => (fun _ => 0))), (0, ()))))), (l, ())) = some (Y_l36_BatchSound_0_0 g 7 c 7 w l) := w1
    have hw : ∀ j, j < 7 → IsN ((fun j => w (0 + j)) j) (W j) := fun j hj => by simp only [Nat.zero_add]; exact w2 j hj
    have hc0 : (clOf A nf P Q G).Is 7 (fun j => c (0 + j)) := fun j hj => by simp only [Nat.zero_add]; exact c2 j hj
    -- what holds
    have hA1 := batch_All_spec hg (m := 7) (by decide) hc0 hw
    rw [clOf_T hg A hn3] at hA1
    obtain ⟨r1, row1, b1, b2⟩ := batch_Bad_spec hg (m := 7) (by decide) hc0 hw
    rw [badL_none (.inr (clOf_T hg A hn3 W))] at b2
    have hr1 : r1 = 0 := b2.len
    subst hr1
    -- the one that is another one
    obtain ⟨x7, x71, x72⟩ := hln 7 (by decide)
    obtain ⟨x8, x81, x82⟩ := hln 8 (by decide)
    have hat : IntKind.i64.wrap (Int.tmod (l 7) 7) = ((x7 % 7 : Nat) : Int) := by
      have : Int.tmod (x7 : Int) 7 = ((x7 % 7 : Nat) : Int) := rfl
      rw [x71, this, wrap_i64n (by omega)]
    have hm8 := mask30 x82
    rw [← x81] at hm8
    obtain ⟨z, z1, z2⟩ := l36_of_spec (n := ((x8 % 1073741824 : Nat) : Int)) (by omega)
    rw [Int.toNat_natCast] at z2
    have hat7 : x7 % 7 < 7 := Nat.mod_lt _ (by decide)
    generalize hae : x7 % 7 = at_ at *
    have hy : x8 % 1073741824 < Q := by omega
    generalize hye : x8 % 1073741824 = y at *
    have hci := clAt_is c2 hat7 z2
    have hci' : (clAt A nf P Q G at_ y).Is 7 (fun j => upd c at_ ((c at_).1, ((c at_).2.1, z)) (0 + j)) := fun j hj => by simp only [Nat.zero_add]; exact hci j hj
    have hA2 := batch_All_spec hg (m := 7) (by decide) hci' hw
    obtain ⟨r2, row2, d1, d2⟩ := batch_Bad_spec hg (m := 7) (by decide) hci' hw
    have hone := one_wrong hg A hn3 hat7 hy W
    have hsame : eqF (.arr 4 (.int .u64)) z (c at_).2.2 = decide (y = vlN A nf Q (at_ + 1)) := z2.eqb (c2 at_ hat7).yy
    have hwz : eqF (.arr 4 (.int .u64)) (w at_) (fun _ => 0) = decide (W at_ = 0) := (w2 at_ hat7).eqb IsN.zero
    have hWlt : W at_ < Q := by rw [hWj]; omega
    have f1 : SlV.isMs (.fz k ch) = false := rfl
    have f2 : SlV.len (.fz k ch) = k := rfl
    have f3 : SlV.fn (((fun _ => 0), 0) : (Nat → Int) × Int) (.fz k ch) = ch := rfl
    have ea : 0 + at_ = at_ := Nat.zero_add _
    have e0 : ((0 : Int) != 0) = false := rfl
    have e1 : decide (((0 : Nat) : Int) > 0) = false := rfl
    have ei : inb ((at_ : Nat) : Int) 7 = true := by rw [inb_t] <;> omega
    have ez : (((0 : Nat) : Int) == 0) = true := rfl
    have eo : (((1 : Nat) : Int) == 0) = false := rfl
    simp only [dec_f hnf, cond_f, group_Least_eq2, r07_Least_eq2, r07_Other_eq2, r07_Great_eq2, hi2, hi3, cond_t, Int.toNat_natCast, t1, f1, f2, f3, made, c1, Y_l36_claims_m_0, e0, Bool.not_true, w1', Y_l36_BatchSound_0_0, b1, Y_batch_Bad_0, hA1, e1, hm8, z1, hat, ei, ea]
    by_cases hs : y = vlN A nf Q (at_ + 1) ∨ W at_ % Q = 0
    · obtain ⟨_, k2, k3⟩ := hone.1 hs
      rw [k2] at d2
      have hr2 : r2 = 0 := d2.len
      subst hr2
      rw [k3] at hA2
      by_cases hs1 : y = vlN A nf Q (at_ + 1)
      · simp only [hsame, dec_t hs1, d1, hA2, e0, ez, tt_b, Bool.not_true, cond_t, cond_f, awake36]
      · have hs2 : W at_ = 0 := by
          rcases hs with h | h
          · exact absurd h hs1
          · rw [Nat.mod_eq_of_lt hWlt] at h; exact h
        simp only [hsame, dec_f hs1, d1, hA2, e0, ez, tt_b, Bool.not_true, cond_t, cond_f, hwz, dec_t hs2, awake36]
    · obtain ⟨k2, k3⟩ := hone.2 hs
      rw [k2] at d2
      have hr2 : r2 = 1 := d2.len
      subst hr2
      rw [k3] at hA2
      have hs1 : ¬ y = vlN A nf Q (at_ + 1) := fun h => hs (.inl h)
      have hs2 : ¬ W at_ = 0 := fun h => hs (.inr (by rw [h]; exact Nat.zero_mod _))
      have hN := r17_same (n := 1) (m := 1) (f := fun j => row2 (0 + j)) (h := fun j => upd (fun _ => 0) 0 ((at_ : Nat) : Int) (0 + j)) (l := [at_]) (by simp) d2.shift (IsRow.one at_ rfl)
      have hcl := hci at_ hat7
      have hms := hcl.ms
      have hH := holds_not hg A hn3 hat7 hy hs1 (x := upd c at_ ((c at_).1, ((c at_).2.1, z)) at_) ⟨hcl.ms, hcl.len, hcl.nats, hcl.ii, hcl.yy.of_eq (by show (if at_ = at_ then y else _) = y; rw [if_pos rfl])⟩
      simp only [hsame, dec_f hs1, d1, hA2, e0, eo, ff_b, Bool.not_true, Bool.not_false, cond_t, cond_f, hwz, dec_f hs2, hN, hms, hH, awake36]
end Go.Pl
