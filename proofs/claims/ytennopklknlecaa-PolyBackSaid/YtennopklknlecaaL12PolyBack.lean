/-
  One statement, plainly.
-/
import Derived.Test.YtennopklknlecaaDenD
import Derived.Test.YtennopklknlecaaPlA
import Derived.Test.YtennopklknlecaaL12
import Derived.Test.YtennopklknlecaaPpoly
import Derived.Test.YtennopklknlecaaPpolyEval
import Derived.Test.YtennopklknlecaaEqA
import Derived.Test.YtennopklknlecaaEpoly
import Derived.Test.YtennopklknlecaaEpolyEval
import Derived.Test.YtennopklknlecaaME
set_option linter.unusedVariables false
set_option linter.unusedSimpArgs false
set_option maxRecDepth 100000
set_option maxHeartbeats 0
namespace Go.Pl
end Go.Pl
open Go Go.Den Go.Pl
namespace Go.Pl
abbrev T_l12_PolyBack_0 (more : Int) (na : Nat) (a : Nat → (Nat → Int)) (nb : Nat) (b : Nat → (Nat → Int)) (g : (((PtrV ((Nat → Int) × (Int × ((Nat → Int) × (Nat → Int))))) × (PtrV ((Nat → Int) × (Int × ((Nat → Int) × (Nat → Int)))))) × (Nat → Int))) (nxs : Nat) (xs : Nat → (Nat → Int)) (nys : Nat) (ys : Nat → (Nat → Int)) (i : Int) : ((Int × ((Nat × (Nat → (Nat → Int))) × ((Nat × (Nat → (Nat → Int))) × ((((PtrV ((Nat → Int) × (Int × ((Nat → Int) × (Nat → Int))))) × (PtrV ((Nat → Int) × (Int × ((Nat → Int) × (Nat → Int)))))) × (Nat → Int)) × ((Nat × (Nat → (Nat → Int))) × ((Nat × (Nat → (Nat → Int))) × (Int × Unit))))))) × Unit) := ((more, ((na, a), ((nb, b), (g, ((nxs, xs), ((nys, ys), (i, ()))))))), ())
abbrev Y_l12_PolyBack_0_0 (na : Nat) (a : Nat → (Nat → Int)) (nb : Nat) (b : Nat → (Nat → Int)) (g : (((PtrV ((Nat → Int) × (Int × ((Nat → Int) × (Nat → Int))))) × (PtrV ((Nat → Int) × (Int × ((Nat → Int) × (Nat → Int)))))) × (Nat → Int))) (nxs : Nat) (xs : Nat → (Nat → Int)) (nys : Nat) (ys : Nat → (Nat → Int)) : (((Nat × (Nat → (Nat → Int))) × ((Nat × (Nat → (Nat → Int))) × ((((PtrV ((Nat → Int) × (Int × ((Nat → Int) × (Nat → Int))))) × (PtrV ((Nat → Int) × (Int × ((Nat → Int) × (Nat → Int)))))) × (Nat → Int)) × ((Nat × (Nat → (Nat → Int))) × ((Nat × (Nat → (Nat → Int))) × Unit))))) × Unit) := (((na, a), ((nb, b), (g, ((nxs, xs), ((nys, ys), ()))))), ())
noncomputable def R_l12_PolyBack_0 : ((Int × ((Nat × (Nat → (Nat → Int))) × ((Nat × (Nat → (Nat → Int))) × ((((PtrV ((Nat → Int) × (Int × ((Nat → Int) × (Nat → Int))))) × (PtrV ((Nat → Int) × (Int × ((Nat → Int) × (Nat → Int)))))) × (Nat → Int)) × ((Nat × (Nat → (Nat → Int))) × ((Nat × (Nat → (Nat → Int))) × (Int × Unit))))))) × Unit) → Option (((Int × ((Nat × (Nat → (Nat → Int))) × ((Nat × (Nat → (Nat → Int))) × ((((PtrV ((Nat → Int) × (Int × ((Nat → Int) × (Nat → Int))))) × (PtrV ((Nat → Int) × (Int × ((Nat → Int) × (Nat → Int)))))) × (Nat → Int)) × ((Nat × (Nat → (Nat → Int))) × ((Nat × (Nat → (Nat → Int))) × (Int × Unit))))))) × Unit) ⊕ (((Nat × (Nat → (Nat → Int))) × ((Nat × (Nat → (Nat → Int))) × ((((PtrV ((Nat → Int) × (Int × ((Nat → Int) × (Nat → Int))))) × (PtrV ((Nat → Int) × (Int × ((Nat → Int) × (Nat → Int)))))) × (Nat → Int)) × ((Nat × (Nat → (Nat → Int))) × ((Nat × (Nat → (Nat → Int))) × Unit))))) × Unit)) := fun x =>
 let more := x.1.1
 let na := x.1.2.1.1
 let a := x.1.2.1.2
 let nb := x.1.2.2.1.1
 let b := x.1.2.2.1.2
 let g := x.1.2.2.2.1
 let nxs := x.1.2.2.2.2.1.1
 let xs := x.1.2.2.2.2.1.2
 let nys := x.1.2.2.2.2.2.1.1
 let ys := x.1.2.2.2.2.2.1.2
 let i := x.1.2.2.2.2.2.2.1
 bif (decide (i < (IntKind.i64.wrap (((na : Nat) : Int) + (bitsOp .and .i64 more 3))))) then (
 match (l12_of (IntKind.i64.wrap ((IntKind.i64.wrap (3 * i)) + 1))) with
 | none => none
 | some r => (
 bif ((Nat.ble ((nxs + 1) * 32) 140737488355328) && (Nat.ble (nxs + 1) 9223372036854775807)) then (
 match (poly_Eval (some g) na a r) with
 | none => none
 | some r1 => (
 bif ((Nat.ble ((nys + 1) * 32) 140737488355328) && (Nat.ble (nys + 1) 9223372036854775807)) then (
 some (.inl ((more, ((na, a), ((nb, b), (g, (((nxs + 1), (glue nxs xs (fun j => (upd (fun _ => (fun _ => 0)) 0 r) (0 + j)))), (((nys + 1), (glue nys ys (fun j => (upd (fun _ => (fun _ => 0)) 0 r1) (0 + j)))), ((IntKind.i64.wrap (i + 1)), ()))))))), ())))
 else (
 none)))
 else (
 none)))
 else (
 some (.inr (((na, a), ((nb, b), (g, ((nxs, xs), ((nys, ys), ()))))), ())))
noncomputable def l12_PolyBack' (which : Int) (fs : Nat → (Nat × (Nat → (Nat → Int)))) (more : Int) : Option (Unit) :=
 bif (decide ((((fs 0).1 : Nat) : Int) > 6)) then (
 match l12_awake with
 | none => none
 | some r => (
 bif r then (
 some ())
 else (
 none)))
 else (
 bif (decide ((((fs 1).1 : Nat) : Int) > 6)) then (
 match l12_awake with
 | none => none
 | some r1 => (
 bif r1 then (
 some ())
 else (
 none)))
 else (
 match r07_Least with
 | none => none
 | some r2 => (
 match r07_Other with
 | none => none
 | some r3 => (
 match r07_Great with
 | none => none
 | some r4 => (
 bif (inb (Int.tmod (bitsOp .and .i64 which 255) 3) 3) then (
 let t := (((upd (upd (upd (fun _ => (.nil, (fun _ => 0))) 0 ((.fz r2.1.1 r2.1.2), r2.2)) 1 ((.fz r3.1.1 r3.1.2), r3.2)) 2 ((.fz r4.1.1 r4.1.2), r4.2)) (0 + (Int.toNat (Int.tmod (bitsOp .and .i64 which 255) 3)))) : ((SlV ((Nat → Int) × Int)) × (Nat → Int)))
 bif (SlV.isMs t.1) then (
 none)
 else (
 match (group_New (((SlV.len t.1), (SlV.fn (((fun _ => 0), 0) : ((Nat → Int) × Int)) t.1)), t.2)) with
 | none => none
 | some r5 => (
 match r5.1 with
 | none => (
 bif (r5.2 != 0) then (
 none)
 else (
 none))
 | some p => (
 bif (r5.2 != 0) then (
 none)
 else (
 match (loopF R_l12_PolyBack_0 ((more, (((fs 0).1, (fs 0).2), (((fs 1).1, (fs 1).2), (p, ((0, (fun _ => (fun _ => 0))), ((0, (fun _ => (fun _ => 0))), (0, ()))))))), ())) with
 | none => none
 | some y => (
 let na := y.1.1.1
 let a := y.1.1.2
 let nb := y.1.2.1.1
 let b := y.1.2.1.2
 let g := y.1.2.2.1
 let nxs := y.1.2.2.2.1.1
 let xs := y.1.2.2.2.1.2
 let nys := y.1.2.2.2.2.1.1
 let ys := y.1.2.2.2.2.1.2
 match (poly_Through (some g) nxs (fun j => xs (0 + j)) nys (fun j => ys (0 + j))) with
 | none => none
 | some y1 => (
 let nr := y1.1.1.1
 let r6 := y1.1.1.2
 let r7 := y1.1.2.1
 match (l12_of 77) with
 | none => none
 | some r8 => (
 match (poly_Eval (some g) na a r8) with
 | none => none
 | some r9 => (
 match (poly_Eval (some g) nb b r8) with
 | none => none
 | some r10 => (
 match (poly_Add (some g) 1 (fun j => (upd (fun _ => (fun _ => 0)) 0 r9) (0 + j)) 1 (fun j => (upd (fun _ => (fun _ => 0)) 0 r10) (0 + j))) with
 | none => none
 | some y2 => (
 let nr1 := y2.1.1.1
 let r11 := y2.1.1.2
 match (poly_Mul (some g) 1 (fun j => (upd (fun _ => (fun _ => 0)) 0 r9) (0 + j)) 1 (fun j => (upd (fun _ => (fun _ => 0)) 0 r10) (0 + j))) with
 | none => none
 | some y3 => (
 let nr2 := y3.1.1.1
 let r12 := y3.1.1.2
 bif (r7 == 0) then (
 match (poly_Trim (some g) na a) with
 | none => none
 | some y4 => (
 let nr3 := y4.1.1.1
 let r13 := y4.1.1.2
 match (r08_Same nr (fun j => r6 (0 + j)) nr3 (fun j => r13 (0 + j))) with
 | none => none
 | some r14 => (
 bif r14 then (
 match (poly_Add (some g) na a nb b) with
 | none => none
 | some y5 => (
 let nr4 := y5.1.1.1
 let r15 := y5.1.1.2
 match (poly_Eval (some g) nr4 (fun j => r15 (0 + j)) r8) with
 | none => none
 | some r16 => (
 match (poly_Eval (some g) nr1 (fun j => r11 (0 + j)) r8) with
 | none => none
 | some r17 => (
 bif (eqF (.arr 4 (.int .u64)) r16 r17) then (
 match (poly_Mul (some g) na a nb b) with
 | none => none
 | some y6 => (
 let nr5 := y6.1.1.1
 let r18 := y6.1.1.2
 match (poly_Eval (some g) nr5 (fun j => r18 (0 + j)) r8) with
 | none => none
 | some r19 => (
 match (poly_Eval (some g) nr2 (fun j => r12 (0 + j)) r8) with
 | none => none
 | some r20 => (
 bif (eqF (.arr 4 (.int .u64)) r19 r20) then (
 match l12_awake with
 | none => none
 | some r21 => (
 bif r21 then (
 some ())
 else (
 none)))
 else (
 none)))))
 else (
 none)))))
 else (
 none))))
 else (
 none)))))))))))))
 else (
 none))))))
end Go.Pl

set_option linter.unusedVariables false
set_option linter.unusedSimpArgs false
set_option maxRecDepth 100000
set_option maxHeartbeats 0
namespace Go.Pl
end Go.Pl
open Go Go.Den Go.Pl
namespace Go.Proofs.Ytennopklknlecaa
abbrev S_l12_PolyBack_0 : Shape := { sl := [(2, (.v (.int .i64))), (7, (.sz (.arr 4 (.int .u64)))), (8, (.sz (.arr 4 (.int .u64)))), (9, (.pz (.pair (.pair (.ptr (.pair (.arr 4 (.int .u64)) (.pair (.int .u64) (.pair (.arr 4 (.int .u64)) (.arr 4 (.int .u64)))))) (.ptr (.pair (.arr 4 (.int .u64)) (.pair (.int .u64) (.pair (.arr 4 (.int .u64)) (.arr 4 (.int .u64))))))) (.arr 4 (.int .u64))))), (11, (.w 35 (.arr 4 (.int .u64)) 2)), (12, (.w 35 (.arr 4 (.int .u64)) 3)), (13, (.v (.int .i64)))], ob := [], lo := 2, nx := 4 }
abbrev E_l12_PolyBack_0 : List Ex := [(.normal, { sl := [(7, (.sz (.arr 4 (.int .u64)))), (8, (.sz (.arr 4 (.int .u64)))), (9, (.pz (.pair (.pair (.ptr (.pair (.arr 4 (.int .u64)) (.pair (.int .u64) (.pair (.arr 4 (.int .u64)) (.arr 4 (.int .u64)))))) (.ptr (.pair (.arr 4 (.int .u64)) (.pair (.int .u64) (.pair (.arr 4 (.int .u64)) (.arr 4 (.int .u64))))))) (.arr 4 (.int .u64))))), (11, (.w 35 (.arr 4 (.int .u64)) 4)), (12, (.w 35 (.arr 4 (.int .u64)) 5))], ob := [], lo := 4, nx := 6 })]
noncomputable def L_l12_PolyBack_0 : Code := loopIn (bodyOf Try.f13) 0
noncomputable def P_l12_PolyBack_0 : Lp := lpOf S_l12_PolyBack_0 E_l12_PolyBack_0 142 R_l12_PolyBack_0
noncomputable def x_l12_PolyBack : Cx := { ti := ti, con := [(47, c_l12_awake), (19, c_r07_Least), (20, c_r07_Other), (21, c_r07_Great), (22, c_group_New), (54, c_l12_of), (53, c_poly_Eval), (62, c_poly_Through), (56, c_poly_Add), (58, c_poly_Mul), (51, c_poly_Trim), (27, c_r08_Same)], fns := [], un := 6 }
theorem xok_l12_PolyBack : CxOk Try.prog x_l12_PolyBack := CxOk.of mixed ti_ok (List.forall_mem_cons.2 ⟨con_l12_awake, List.forall_mem_cons.2 ⟨con_r07_Least, List.forall_mem_cons.2 ⟨con_r07_Other, List.forall_mem_cons.2 ⟨con_r07_Great, List.forall_mem_cons.2 ⟨con_group_New, List.forall_mem_cons.2 ⟨con_l12_of, List.forall_mem_cons.2 ⟨con_poly_Eval, List.forall_mem_cons.2 ⟨con_poly_Through, List.forall_mem_cons.2 ⟨con_poly_Add, List.forall_mem_cons.2 ⟨con_poly_Mul, List.forall_mem_cons.2 ⟨con_poly_Trim, List.forall_mem_cons.2 ⟨con_r08_Same, List.forall_mem_nil _⟩⟩⟩⟩⟩⟩⟩⟩⟩⟩⟩⟩) (List.forall_mem_nil _)
theorem r_l12_PolyBack_0 (x : S_l12_PolyBack_0.X) : denC x_l12_PolyBack [] (denF x_l12_PolyBack 8) L_l12_PolyBack_0 (S_l12_PolyBack_0.mkS 142 x) (kRound 0 S_l12_PolyBack_0 E_l12_PolyBack_0) = R_l12_PolyBack_0 x := by kernel_rfl
theorem l_l12_PolyBack_0 : LpOk Try.prog 0 (.loop L_l12_PolyBack_0) P_l12_PolyBack_0 := lpOf_ok xok_l12_PolyBack 8 (lps_nil) S_l12_PolyBack_0 E_l12_PolyBack_0 142 R_l12_PolyBack_0 (by decide) r_l12_PolyBack_0
theorem fn_l12_PolyBack : FnOk Try.prog 13 Try.f13 [(0, P_l12_PolyBack_0)] := ⟨Try.func13, Try.call13, lps_of (by kernel_rfl) (lps_one l_l12_PolyBack_0 (by kernel_rfl) (List.forall_mem_nil _))⟩
theorem e_l12_PolyBack (which : Int) (fs : Nat → (Nat × (Nat → (Nat → Int)))) (more : Int) : bodyK x_l12_PolyBack [(0, P_l12_PolyBack_0)] (denF x_l12_PolyBack 8) Try.f13 (domV [(.int .i64), (.arr 2 (.sl (.arr 4 (.int .u64)))), (.int .i64)] (which, (fun i => .fz (fs i).1 (fs i).2), more, ())) [] 0 kTrue = l12_PolyBack' which fs more := by kernel_rfl
end Go.Proofs.Ytennopklknlecaa

set_option linter.unusedVariables false
set_option linter.unusedSimpArgs false
namespace Go.Pl
open Go Go.Den Go.Num

/-- one of the three, out of a row -/
theorem three_row12 {i : Nat} (hi : i < 3) : ∃ (k : Nat) (l : ChainT) (ga : Nat → Int) (g : GroupT) (P Q G : Nat), (upd (upd (upd (fun _ => (.nil, fun _ => 0)) 0 ((.fz 3 leastL), leastG)) 1 ((.fz 3 otherL), otherG)) 2 ((.fz 5 greatL), greatG) : Nat → SlV ((Nat → Int) × Int) × (Nat → Int)) (0 + i) = (.fz k l, ga) ∧ IsPick k l ga g P Q G := by
  match i, hi with
  | 0, _ =>
    obtain ⟨g, hg⟩ := least_pick
    exact ⟨3, leastL, leastG, g, _, _, _, rfl, hg⟩
  | 1, _ =>
    obtain ⟨g, hg⟩ := other_pick
    exact ⟨3, otherL, otherG, g, _, _, _, rfl, hg⟩
  | 2, _ =>
    obtain ⟨g, P, Q, G, hg⟩ := great_pick
    exact ⟨5, greatL, greatG, g, P, Q, G, rfl, hg⟩
/-- what a polynomial is at a place, below q -/
def valN (A : Nat → Nat) (n q X : Nat) : Nat := dotN A (fun i => X ^ i) n % q
theorem valN_cg (A : Nat → Nat) (n q X : Nat) : Cg q ((valN A n q X : Nat) : Int) (ev (cI A) n X) := by
  refine (Cg.nat q _).trans (Cg.of_eq ?_)
  rw [dotN_cast]
  exact sumI_congr fun i _ => by rw [Int.natCast_pow]; rfl
section
variable {g : GroupT} {P Q G : Nat}
theorem eval_val (h : IsGroup g P Q G) {n : Nat} (hn : n ≤ 1000) {f : Nat → (Nat → Int)} {A : Nat → Nat} (hf : ∀ i, i < n → IsN (f i) (A i)) {x : Nat → Int} {X : Nat} (hx : IsN x X) :
    ∃ z, poly_Eval (some g) n f x = some z ∧ IsN z (valN A n Q X) := by
  obtain ⟨z, w, z1, z2, z3, z4⟩ := poly_Eval_spec h hn hf hx
  exact ⟨z, z1, z2.of_eq (Cg.eq (z4.trans (valN_cg A n Q X).symm) z3 (Nat.mod_lt _ h.qpos))⟩
/-- a polynomial at a place, out of its coefficients without the last zeros -/
theorem pol_val (h : IsGroup g P Q G) {n : Nat} (hn : n ≤ 1000) {f : Nat → (Nat → Int)} {c : Nat → Nat} (hf : IsPol Q n f c) {x : Nat → Int} {X : Nat} (hx : IsN x X) :
    ∃ z w, poly_Eval (some g) n f x = some z ∧ IsN z w ∧ w < Q ∧ Cg Q (w : Int) (E c X) := by
  obtain ⟨z, w, z1, z2, z3, z4⟩ := poly_Eval_spec h hn hf.is hx
  exact ⟨z, w, z1, z2, z3, by rw [E_eq hf.zero hn]; exact z4⟩
theorem one_val (u : Nat) (x : Int) : E (pad (fun _ => u) 1) x = u := by
  rw [E_pad (by decide)]
  show (0 : Int) + (cI (fun _ => u) 0) * x ^ 0 = _
  simp only [cI, Int.pow_zero]
  omega
theorem l12_PolyBack_true {which more : Int} {fs : Nat → Nat × (Nat → Nat → Int)} (hw : Go.Den.Good (.int .i64) which) (hfs : Go.Den.Good (.arr 2 (.sl (.arr 4 (.int .u64)))) (fun i => .fz (fs i).1 (fs i).2)) (hm : Go.Den.Good (.int .i64) more) : l12_PolyBack' which fs more = some () := by
  obtain ⟨A, hA⟩ := good_nats (hfs 0 (by decide))
  obtain ⟨B, hB⟩ := good_nats (hfs 1 (by decide))
  unfold l12_PolyBack'
  generalize (fs 0).1 = na at *
  generalize (fs 0).2 = a at *
  generalize (fs 1).1 = nb at *
  generalize (fs 1).2 = b at *
  by_cases h1 : na ≤ 6
  rotate_left
  · simp (disch := first | omega | assumption) only [add_c, add_l, l_add, mul_c, mul_l, l_mul, sub_c, sub_l, l_sub, div_c, div_l, mod_c, mod_l, tdiv_c, tdiv_l, tmod_c, tmod_l, wrap_i64n, wrapun, dec_t, dec_f, inb_t, cond_true, cond_false, Int.toNat_natCast, beq_t, beq_f, bne_t, bne_f, Bool.not_true, Bool.not_false, Int.reduceToNat, ft_b, tf_b, tt_b, ff_b, decide_true, decide_false, l12_awake_spec]
  by_cases h2 : nb ≤ 6
  rotate_left
  · simp (disch := first | omega | assumption) only [add_c, add_l, l_add, mul_c, mul_l, l_mul, sub_c, sub_l, l_sub, div_c, div_l, mod_c, mod_l, tdiv_c, tdiv_l, tmod_c, tmod_l, wrap_i64n, wrapun, dec_t, dec_f, inb_t, cond_true, cond_false, Int.toNat_natCast, beq_t, beq_f, bne_t, bne_f, Bool.not_true, Bool.not_false, Int.reduceToNat, ft_b, tf_b, tt_b, ff_b, decide_true, decide_false, l12_awake_spec]
  obtain ⟨i, hi, hi2⟩ := three_idx which
  obtain ⟨k, l, ga, g, P, Q, G, t1, hg⟩ := three_row12 hi
  have hgg := hg.group
  have hbig := hgg.big
  have hQ := hgg.qpos
  have hi3 : inb ((i : Nat) : Int) 3 = true := by
    rw [inb_t] <;> omega
  obtain ⟨v, hv, hv2⟩ : ∃ v : Nat, bitsOp .and .i64 more 3 = (v : Int) ∧ v < 4 := by
    have hm : bitsOp .and .i64 more 3 = more % (2 ^ 2 : Nat) := andMask (k := 2) (by decide)
    have h0 := Int.emod_nonneg more (show ((2 ^ 2 : Nat) : Int) ≠ 0 by decide)
    have h1 := Int.emod_lt_of_pos more (show (0 : Int) < ((2 ^ 2 : Nat) : Int) by decide)
    rw [hm]
    refine ⟨(more % (2 ^ 2 : Nat)).toNat, by omega, ?_⟩
    have : ((2 ^ 2 : Nat) : Int) = 4 := rfl
    omega
  obtain ⟨N, hN⟩ : ∃ N, N = na + v := ⟨_, rfl⟩
  have hN2 : IntKind.i64.wrap (((na : Nat) : Int) + bitsOp .and .i64 more 3) = (N : Int) := by
    rw [hv, wrap_i64 (by omega)]; omega
  obtain ⟨⟨xs, ys⟩, hy, hP⟩ := loop_for (R := R_l12_PolyBack_0) (fun i (s : (Nat → (Nat → Int)) × (Nat → (Nat → Int))) => T_l12_PolyBack_0 more na a nb b g i s.1 i s.2 (i : Int)) (fun s => Y_l12_PolyBack_0_0 na a nb b g N s.1 N s.2) (fun i s => (∀ j, j < i → IsN (s.1 j) (3 * j + 1)) ∧ ∀ j, j < i → IsN (s.2 j) (valN A na Q (3 * j + 1))) N
    (fun i hi s hP => by
      obtain ⟨xs, ys⟩ := s
      obtain ⟨x, x1, x2⟩ := l12_of_spec (n := ((3 * i + 1 : Nat) : Int)) (by omega)
      rw [Int.toNat_natCast] at x2
      obtain ⟨y, y1, y2⟩ := eval_val hgg (n := na) (by omega) hA x2
      have b1 : Nat.ble ((i + 1) * 32) 140737488355328 = true := Nat.ble_eq_true_of_le (by omega)
      have b2 : Nat.ble (i + 1) 9223372036854775807 = true := Nat.ble_eq_true_of_le (by omega)
      refine ⟨(glue i xs (fun j => upd (fun _ => fun _ => 0) 0 x (0 + j)), glue i ys (fun j => upd (fun _ => fun _ => 0) 0 y (0 + j))), ?_, row_snoc (A := fun k => 3 * k + 1) hP.1 x2, row_snoc (A := fun k => valN A na Q (3 * k + 1)) hP.2 y2⟩
      unfold R_l12_PolyBack_0
      simp (disch := omega) only [add_c, add_l, l_add, mul_c, mul_l, l_mul, sub_c, sub_l, l_sub, div_c, div_l, mod_c, mod_l, tdiv_c, tdiv_l, tmod_c, tmod_l, wrap_i64n, wrapun, dec_t, dec_f, inb_t, cond_true, cond_false, Int.toNat_natCast, beq_t, beq_f, bne_t, bne_f, Bool.not_true, Bool.not_false, Int.reduceToNat, ft_b, tf_b, tt_b, ff_b, decide_true, decide_false, hN2, x1, y1, b1, b2, Bool.and_self])
    (fun s hP => by
      unfold R_l12_PolyBack_0
      simp (disch := omega) only [add_c, add_l, l_add, mul_c, mul_l, l_mul, sub_c, sub_l, l_sub, div_c, div_l, mod_c, mod_l, tdiv_c, tdiv_l, tmod_c, tmod_l, wrap_i64n, wrapun, dec_t, dec_f, inb_t, cond_true, cond_false, Int.toNat_natCast, beq_t, beq_f, bne_t, bne_f, Bool.not_true, Bool.not_false, Int.reduceToNat, ft_b, tf_b, tt_b, ff_b, decide_true, decide_false, hN2]) (fun _ => fun _ => 0, fun _ => fun _ => 0) ⟨fun j hj => by omega, fun j hj => by omega⟩
  have hy' : loopF R_l12_PolyBack_0 ((more, ((na, a), ((nb, b), (g, ((0, fun _ => fun _ => 0), ((0, fun _ => fun _ => 0), (0, ()))))))), ()) = some (Y_l12_PolyBack_0_0 na a nb b g N xs N ys) := hy
  simp only at hP
  obtain ⟨hx, hys⟩ := hP
  rcases poly_Through_spec hgg hgg.pq (n := N) (by omega) (X := fun k => 3 * k + 1) (Y := fun k => valN A na Q (3 * k + 1)) hx hys with ⟨m, z, c, u1, u2, u3, u4, u5⟩ | ⟨_, i, j, hij, hj, hc⟩
  rotate_left
  · exact absurd (Cg.eq hc (by omega) (by omega)) (by omega)
  obtain ⟨m2, z2, p1, p2, p3⟩ := poly_Trim_spec hgg (n := na) (by omega) hA
  have hcd : ∀ k, c k = (fun k => if k < na then A k % Q else 0) k := pol_unique hgg.pq (N := N) (by omega) (X := fun j => ((3 * j + 1 : Nat) : Int)) (fun k hk => u2.zero k (by omega)) (fun k hk => if_neg (by omega)) u2.lt p3.lt u5 (fun j hj => (u4 j hj).trans ((valN_cg A na Q _).trans (by
    refine Cg.symm (Cg.trans (Cg.of_eq (E_pad (c := fun k => A k % Q) (n := na) (by omega) _)) ?_)
    exact ev_dvd fun i _ => Cg.nat Q (A i))))
  obtain rfl : c = fun k => if k < na then A k % Q else 0 := funext hcd
  obtain rfl := u2.size p3
  have s1 := same_rows (by omega) u2.is p3.is
  obtain ⟨o, o1, o2⟩ := l12_of_spec (n := 77) (by decide)
  obtain ⟨u, d1, d2⟩ := eval_val hgg (n := na) (by omega) hA o2
  obtain ⟨w, d3, d4⟩ := eval_val hgg (n := nb) (by omega) hB o2
  have hu : ∀ i, i < 1 → IsN ((fun j => upd (fun _ => fun _ => 0) 0 u (0 + j)) i) ((fun _ => valN A na Q (Int.toNat 77)) i) := fun i hi => by
    obtain rfl : i = 0 := by omega
    exact d2
  have hw : ∀ i, i < 1 → IsN ((fun j => upd (fun _ => fun _ => 0) 0 w (0 + j)) i) ((fun _ => valN B nb Q (Int.toNat 77)) i) := fun i hi => by
    obtain rfl : i = 0 := by omega
    exact d4
  obtain ⟨m3, z3, a1, a2, a3⟩ := poly_Add_spec hgg (na := na) (nb := nb) (by omega) (by omega) hA hB
  obtain ⟨m4, z4, a4, a5, a6⟩ := poly_Mul_spec hgg (na := na) (nb := nb) (by omega) (by omega) hA hB
  obtain ⟨m5, z5, a7, a8, a9⟩ := poly_Add_spec hgg (na := 1) (nb := 1) (by omega) (by omega) hu hw
  obtain ⟨m6, z6, a10, a11, a12⟩ := poly_Mul_spec hgg (na := 1) (nb := 1) (by omega) (by omega) hu hw
  obtain ⟨e3, v3, c1, c2, c3, c4⟩ := pol_val hgg (by omega) a3 o2
  obtain ⟨e4, v4, c5, c6, c7, c8⟩ := pol_val hgg (by omega) a6 o2
  obtain ⟨e5, v5, c9, c10, c11, c12⟩ := pol_val hgg (by omega) a9 o2
  obtain ⟨e6, v6, c13, c14, c15, c16⟩ := pol_val hgg (by omega) a12 o2
  have hA7 := (valN_cg A na Q (Int.toNat 77)).symm
  have hB7 := (valN_cg B nb Q (Int.toNat 77)).symm
  have q1 : v3 = v5 := by
    refine Cg.eq (c4.trans ((E_add (fun _ => rfl) _).trans (Cg.trans ?_ (c12.trans (E_add (fun _ => rfl) _)).symm))) c3 c11
    rw [E_pad (by omega), E_pad (by omega), one_val, one_val]
    exact hA7.add hB7
  have q2 : v4 = v6 := by
    refine Cg.eq (c8.trans ((E_mul (by omega) (fun _ => rfl) _).trans (Cg.trans ?_ (c16.trans (E_mul (by omega) (fun _ => rfl) _)).symm))) c7 c15
    rw [E_pad (by omega), E_pad (by omega), one_val, one_val]
    exact hA7.mul hB7
  simp (disch := first | omega | assumption) only [add_c, add_l, l_add, mul_c, mul_l, l_mul, sub_c, sub_l, l_sub, div_c, div_l, mod_c, mod_l, tdiv_c, tdiv_l, tmod_c, tmod_l, wrap_i64n, wrapun, dec_t, dec_f, inb_t, cond_true, cond_false, Int.toNat_natCast, beq_t, beq_f, bne_t, bne_f, Bool.not_true, Bool.not_false, Int.reduceToNat, ft_b, tf_b, tt_b, ff_b, decide_true, decide_false, Nat.zero_add, hi2, hi3, r07_Least_eq2, r07_Other_eq2, r07_Great_eq2] at s1 a7 a10 t1 ⊢
  simp (disch := first | omega | assumption) only [add_c, add_l, l_add, mul_c, mul_l, l_mul, sub_c, sub_l, l_sub, div_c, div_l, mod_c, mod_l, tdiv_c, tdiv_l, tmod_c, tmod_l, wrap_i64n, wrapun, dec_t, dec_f, inb_t, cond_true, cond_false, Int.toNat_natCast, beq_t, beq_f, bne_t, bne_f, Bool.not_true, Bool.not_false, Int.reduceToNat, ft_b, tf_b, tt_b, ff_b, decide_true, decide_false, Nat.zero_add, hi2, hi3, r07_Least_eq2, r07_Other_eq2, r07_Great_eq2, t1, SlV.isMs, SlV.len, SlV.fn, hg.made, hy', u1, o1, d1, d3, a7, a10, p1, s1, a1, c1, c9, c2.eqb (q1 ▸ c10), a4, c5, c13, c6.eqb (q2 ▸ c14), l12_awake_spec]
end
end Go.Pl
