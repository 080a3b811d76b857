/-
  One statement, plainly.
-/
import Derived.Test.YtennopklknlecaaDenD
import Derived.Test.YtennopklknlecaaL12
import Derived.Test.YtennopklknlecaaPpoly
import Derived.Test.YtennopklknlecaaPpolyEval
import Derived.Test.YtennopklknlecaaEqA
import Derived.Test.YtennopklknlecaaEpoly
import Derived.Test.YtennopklknlecaaEpolyEval
import Derived.Test.YtennopklknlecaaMD
set_option linter.unusedVariables false
set_option linter.unusedSimpArgs false
set_option maxRecDepth 100000
set_option maxHeartbeats 0
namespace Go.Pl
end Go.Pl
open Go Go.Den Go.Pl
namespace Go.Pl
abbrev T_l12_PolyNobody_2 (g : (((PtrV ((Nat → Int) × (Int × ((Nat → Int) × (Nat → Int))))) × (PtrV ((Nat → Int) × (Int × ((Nat → Int) × (Nat → Int)))))) × (Nat → Int))) (ok : Bool) (nmany : Nat) (many : Nat → (Nat → Int)) (i : Int) : (((((PtrV ((Nat → Int) × (Int × ((Nat → Int) × (Nat → Int))))) × (PtrV ((Nat → Int) × (Int × ((Nat → Int) × (Nat → Int)))))) × (Nat → Int)) × (Bool × ((Nat × (Nat → (Nat → Int))) × (Int × Unit)))) × Unit) := ((g, (ok, ((nmany, many), (i, ())))), ())
abbrev Y_l12_PolyNobody_2_0 (g : (((PtrV ((Nat → Int) × (Int × ((Nat → Int) × (Nat → Int))))) × (PtrV ((Nat → Int) × (Int × ((Nat → Int) × (Nat → Int)))))) × (Nat → Int))) (ok : Bool) (nmany : Nat) (many : Nat → (Nat → Int)) : (((((PtrV ((Nat → Int) × (Int × ((Nat → Int) × (Nat → Int))))) × (PtrV ((Nat → Int) × (Int × ((Nat → Int) × (Nat → Int)))))) × (Nat → Int)) × (Bool × ((Nat × (Nat → (Nat → Int))) × Unit))) × Unit) := ((g, (ok, ((nmany, many), ()))), ())
noncomputable def R_l12_PolyNobody_2 : (((((PtrV ((Nat → Int) × (Int × ((Nat → Int) × (Nat → Int))))) × (PtrV ((Nat → Int) × (Int × ((Nat → Int) × (Nat → Int)))))) × (Nat → Int)) × (Bool × ((Nat × (Nat → (Nat → Int))) × (Int × Unit)))) × Unit) → Option ((((((PtrV ((Nat → Int) × (Int × ((Nat → Int) × (Nat → Int))))) × (PtrV ((Nat → Int) × (Int × ((Nat → Int) × (Nat → Int)))))) × (Nat → Int)) × (Bool × ((Nat × (Nat → (Nat → Int))) × (Int × Unit)))) × Unit) ⊕ (((((PtrV ((Nat → Int) × (Int × ((Nat → Int) × (Nat → Int))))) × (PtrV ((Nat → Int) × (Int × ((Nat → Int) × (Nat → Int)))))) × (Nat → Int)) × (Bool × ((Nat × (Nat → (Nat → Int))) × Unit))) × Unit)) := fun x =>
 let g := x.1.1
 let ok := x.1.2.1
 let nmany := x.1.2.2.1.1
 let many := x.1.2.2.1.2
 let i := x.1.2.2.2.1
 bif (decide (i < 33)) then (
 match (l12_of i) with
 | none => none
 | some r => (
 bif ((Nat.ble ((nmany + 1) * 32) 140737488355328) && (Nat.ble (nmany + 1) 9223372036854775807)) then (
 some (.inl ((g, (ok, (((nmany + 1), (glue nmany many (fun j => (upd (fun _ => (fun _ => 0)) 0 r) (0 + j)))), ((IntKind.i64.wrap (i + 1)), ())))), ())))
 else (
 none)))
 else (
 some (.inr ((g, (ok, ((nmany, many), ()))), ())))
noncomputable def l12_PolyNobody' (na : Nat) (a : Nat → (Nat → Int)) (x : (Nat → Int)) : Option (Unit) :=
 bif (decide (((na : Nat) : Int) > 8)) then (
 match l12_awake with
 | none => none
 | some r => (
 bif r then (
 some ())
 else (
 none)))
 else (
 match (poly_Div none na a na a) with
 | none => none
 | some y => (
 let nr := y.1.1.1
 let r1 := y.1.1.2
 let nr1 := y.1.2.1.1
 let r2 := y.1.2.1.2
 let r3 := y.1.2.2.1
 match (poly_Through none na a na a) with
 | none => none
 | some y1 => (
 let nr2 := y1.1.1.1
 let r4 := y1.1.1.2
 let r5 := y1.1.2.1
 match (poly_Trim none na a) with
 | none => none
 | some y2 => (
 let nr3 := y2.1.1.1
 let r6 := y2.1.1.2
 bif (decide (((nr3 : Nat) : Int) > 0)) then (
 none)
 else (
 match (poly_Eval none na a x) with
 | none => none
 | some r7 => (
 bif (!(eqF (.arr 4 (.int .u64)) r7 (fun _ => 0))) then (
 none)
 else (
 match (poly_Add none na a na a) with
 | none => none
 | some y3 => (
 let nr4 := y3.1.1.1
 let r8 := y3.1.1.2
 bif (decide (((nr4 : Nat) : Int) > 0)) then (
 none)
 else (
 match (poly_Mul none na a na a) with
 | none => none
 | some y4 => (
 let nr5 := y4.1.1.1
 let r9 := y4.1.1.2
 bif (decide (((nr5 : Nat) : Int) > 0)) then (
 none)
 else (
 bif (decide (((nr : Nat) : Int) > 0)) then (
 none)
 else (
 bif (decide (((nr1 : Nat) : Int) > 0)) then (
 none)
 else (
 bif (r3 != 1) then (
 none)
 else (
 bif (decide (((nr2 : Nat) : Int) > 0)) then (
 none)
 else (
 bif (r5 != 1) then (
 none)
 else (
 match (poly_Div (some ((.nil, .nil), (fun _ => 0))) na a na a) with
 | none => none
 | some y5 => (
 let nr6 := y5.1.1.1
 let r10 := y5.1.1.2
 let nr7 := y5.1.2.1.1
 let r11 := y5.1.2.1.2
 let r12 := y5.1.2.2.1
 match (poly_Through (some ((.nil, .nil), (fun _ => 0))) na a na a) with
 | none => none
 | some y6 => (
 let nr8 := y6.1.1.1
 let r13 := y6.1.1.2
 let r14 := y6.1.2.1
 match (poly_Trim (some ((.nil, .nil), (fun _ => 0))) na a) with
 | none => none
 | some y7 => (
 let nr9 := y7.1.1.1
 let r15 := y7.1.1.2
 bif (decide (((nr9 : Nat) : Int) > 0)) then (
 none)
 else (
 match (poly_Eval (some ((.nil, .nil), (fun _ => 0))) na a x) with
 | none => none
 | some r16 => (
 bif (!(eqF (.arr 4 (.int .u64)) r16 (fun _ => 0))) then (
 none)
 else (
 match (poly_Add (some ((.nil, .nil), (fun _ => 0))) na a na a) with
 | none => none
 | some y8 => (
 let nr10 := y8.1.1.1
 let r17 := y8.1.1.2
 bif (decide (((nr10 : Nat) : Int) > 0)) then (
 none)
 else (
 match (poly_Mul (some ((.nil, .nil), (fun _ => 0))) na a na a) with
 | none => none
 | some y9 => (
 let nr11 := y9.1.1.1
 let r18 := y9.1.1.2
 bif (decide (((nr11 : Nat) : Int) > 0)) then (
 none)
 else (
 bif (decide (((nr6 : Nat) : Int) > 0)) then (
 none)
 else (
 bif (decide (((nr7 : Nat) : Int) > 0)) then (
 none)
 else (
 bif (r12 != 1) then (
 none)
 else (
 bif (decide (((nr8 : Nat) : Int) > 0)) then (
 none)
 else (
 bif (r14 != 1) then (
 none)
 else (
 match (l12_small 0) with
 | none => none
 | some r19 => (
 match r19.1 with
 | none => (
 none)
 | some p => (
 match (loopF R_l12_PolyNobody_2 ((p, (r19.2.2, ((0, (fun _ => (fun _ => 0))), (0, ())))), ())) with
 | none => none
 | some y10 => (
 let g := y10.1.1
 let ok := y10.1.2.1
 let nmany := y10.1.2.2.1.1
 let many := y10.1.2.2.1.2
 match (poly_Through (some g) nmany (fun j => many (0 + j)) nmany (fun j => many (0 + j))) with
 | none => none
 | some y11 => (
 let nr12 := y11.1.1.1
 let r20 := y11.1.1.2
 let r21 := y11.1.2.1
 bif (decide (32 ≤ ((nmany : Nat) : Int))) then (
 bif (decide (32 ≤ ((nmany : Nat) : Int))) then (
 match (poly_Through (some g) 32 (fun j => many (0 + j)) 32 (fun j => many (0 + j))) with
 | none => none
 | some y12 => (
 let nr13 := y12.1.1.1
 let r22 := y12.1.1.2
 let r23 := y12.1.2.1
 bif ok then (
 bif (r21 == 1) then (
 bif (r23 == 0) then (
 match l12_awake with
 | none => none
 | some r24 => (
 bif r24 then (
 some ())
 else (
 none)))
 else (
 none))
 else (
 none))
 else (
 none)))
 else (
 none))
 else (
 none))))))))))))))))))))))))))))))))))))
end Go.Pl

set_option linter.unusedVariables false
set_option linter.unusedSimpArgs false
set_option maxRecDepth 100000
set_option maxHeartbeats 0
namespace Go.Pl
end Go.Pl
open Go Go.Den Go.Pl
namespace Go.Proofs.Ytennopklknlecaa
abbrev S_l12_PolyNobody_2 : Shape := { sl := [(12, (.pz (.pair (.pair (.ptr (.pair (.arr 4 (.int .u64)) (.pair (.int .u64) (.pair (.arr 4 (.int .u64)) (.arr 4 (.int .u64)))))) (.ptr (.pair (.arr 4 (.int .u64)) (.pair (.int .u64) (.pair (.arr 4 (.int .u64)) (.arr 4 (.int .u64))))))) (.arr 4 (.int .u64))))), (14, (.v .bool)), (15, (.w 35 (.arr 4 (.int .u64)) 107)), (16, (.v (.int .i64)))], ob := [], lo := 107, nx := 108 }
abbrev E_l12_PolyNobody_2 : List Ex := [(.normal, { sl := [(12, (.pz (.pair (.pair (.ptr (.pair (.arr 4 (.int .u64)) (.pair (.int .u64) (.pair (.arr 4 (.int .u64)) (.arr 4 (.int .u64)))))) (.ptr (.pair (.arr 4 (.int .u64)) (.pair (.int .u64) (.pair (.arr 4 (.int .u64)) (.arr 4 (.int .u64))))))) (.arr 4 (.int .u64))))), (14, (.v .bool)), (15, (.w 35 (.arr 4 (.int .u64)) 108))], ob := [], lo := 108, nx := 109 })]
noncomputable def L_l12_PolyNobody_2 : Code := loopIn (bodyOf Try.f14) 2
noncomputable def P_l12_PolyNobody_2 : Lp := lpOf S_l12_PolyNobody_2 E_l12_PolyNobody_2 161 R_l12_PolyNobody_2
noncomputable def x_l12_PolyNobody : Cx := { ti := ti, con := [(47, c_l12_awake), (60, c_poly_Div), (62, c_poly_Through), (51, c_poly_Trim), (53, c_poly_Eval), (56, c_poly_Add), (58, c_poly_Mul), (48, c_l12_small), (54, c_l12_of)], fns := [], un := 6 }
theorem xok_l12_PolyNobody : CxOk Try.prog x_l12_PolyNobody := CxOk.of mixed ti_ok (List.forall_mem_cons.2 ⟨con_l12_awake, List.forall_mem_cons.2 ⟨con_poly_Div, List.forall_mem_cons.2 ⟨con_poly_Through, List.forall_mem_cons.2 ⟨con_poly_Trim, List.forall_mem_cons.2 ⟨con_poly_Eval, List.forall_mem_cons.2 ⟨con_poly_Add, List.forall_mem_cons.2 ⟨con_poly_Mul, List.forall_mem_cons.2 ⟨con_l12_small, List.forall_mem_cons.2 ⟨con_l12_of, List.forall_mem_nil _⟩⟩⟩⟩⟩⟩⟩⟩⟩) (List.forall_mem_nil _)
theorem r_l12_PolyNobody_2 (x : S_l12_PolyNobody_2.X) : denC x_l12_PolyNobody [] (denF x_l12_PolyNobody 8) L_l12_PolyNobody_2 (S_l12_PolyNobody_2.mkS 161 x) (kRound 2 S_l12_PolyNobody_2 E_l12_PolyNobody_2) = R_l12_PolyNobody_2 x := by kernel_rfl
theorem l_l12_PolyNobody_2 : LpOk Try.prog 2 (.loop L_l12_PolyNobody_2) P_l12_PolyNobody_2 := lpOf_ok xok_l12_PolyNobody 8 (lps_nil) S_l12_PolyNobody_2 E_l12_PolyNobody_2 161 R_l12_PolyNobody_2 (by decide) r_l12_PolyNobody_2
theorem fn_l12_PolyNobody : FnOk Try.prog 14 Try.f14 [(2, P_l12_PolyNobody_2)] := ⟨Try.func14, Try.call14, lps_of (by kernel_rfl) (lps_one l_l12_PolyNobody_2 (by kernel_rfl) (List.forall_mem_nil _))⟩
theorem e_l12_PolyNobody (na : Nat) (a : Nat → (Nat → Int)) (x : (Nat → Int)) : bodyK x_l12_PolyNobody [(2, P_l12_PolyNobody_2)] (denF x_l12_PolyNobody 8) Try.f14 (domV [(.sl (.arr 4 (.int .u64))), (.arr 4 (.int .u64))] ((na, a), x, ())) [] 0 kTrue = l12_PolyNobody' na a x := by kernel_rfl
end Go.Proofs.Ytennopklknlecaa

set_option linter.unusedVariables false
set_option linter.unusedSimpArgs false
namespace Go.Pl
open Go Go.Den Go.Num

abbrev Zs : Nat → (Nat → Int) := fun _ => fun _ => 0
theorem NoGroup.pTrim {g : Option GroupT} (h : NoGroup g) (n : Nat) (f : Nat → (Nat → Int)) : poly_Trim g n f = some (((0, Zs), ()), ()) := by
  rw [poly_Trim_eq]; unfold poly_Trim'
  rcases g with _ | g <;> simp only [h.Field]
theorem NoGroup.pThrough {g : Option GroupT} (h : NoGroup g) (n m : Nat) (f k : Nat → (Nat → Int)) : poly_Through g n f m k = some (((0, Zs), (1, ())), ()) := by
  rw [poly_Through_eq]; unfold poly_Through'
  rcases g with _ | g <;> simp only [h.Field]
theorem NoGroup.pDiv {g : Option GroupT} (h : NoGroup g) (n m : Nat) (f k : Nat → (Nat → Int)) : poly_Div g n f m k = some (((0, Zs), ((0, Zs), (1, ()))), ()) := by
  rw [poly_Div_eq]; unfold poly_Div'
  rcases g with _ | g <;> simp only [h.pTrim, show (((0 : Nat) : Int) == 0) = true from rfl, cond_true]
theorem NoGroup.pEval {g : Option GroupT} (h : NoGroup g) {n : Nat} (hn : n ≤ 1000) {f : Nat → (Nat → Int)} {A : Nat → Nat} (hf : ∀ i, i < n → IsN (f i) (A i)) (x : Nat → Int) : poly_Eval g n f x = some fun _ => 0 := by
  have hR : ∀ o k, k < n → poly_EvalR g x o (f k) = some fun _ => 0 := fun o k hk => by
    simp only [poly_EvalR, h.fMul, h.fAdd IsN.zero (hf k hk)]
  have hgo : ∀ m, m ≤ n → poly_EvalGo g f x m (fun _ => 0) = some fun _ => 0 := by
    intro m
    induction m with
    | zero => intro _; rfl
    | succ m ih => intro hm; simp only [poly_EvalGo, hR _ m (by omega), ih (by omega)]
  rw [poly_Eval_eq]; unfold poly_Eval'
  rw [if_pos ⟨by omega, fun _ => True, trivial, fun o k _ hk => ⟨_, hR o k hk, trivial⟩⟩, hgo n (Nat.le_refl _)]
section
variable {na nb : Nat} {a b : Nat → (Nat → Int)} {A B : Nat → Nat}
theorem pAdd_none (hna : na ≤ 1000) (hnb : nb ≤ 1000) (ha : ∀ i, i < na → IsN (a i) (A i)) (hb : ∀ i, i < nb → IsN (b i) (B i)) : poly_Add none na a nb b = some (((0, Zs), ()), ()) := by
  have hg : NoGroup none := .inl rfl
  rw [poly_Add_eq]; unfold poly_Add'
  have hmax : (if ((na : Nat) : Int) < ((nb : Nat) : Int) then ((nb : Nat) : Int) else ((na : Nat) : Int)) = ((max na nb : Nat) : Int) := by
    split <;> omega
  simp only [hmax]
  obtain ⟨N, hN⟩ : ∃ N, N = max na nb := ⟨_, rfl⟩
  rw [← hN]
  obtain ⟨z, hy, _⟩ := loop_for (R := R_poly_Add_93_0_v1) (fun i (out : Nat → (Nat → Int)) => T_poly_Add_93_0_v1 i out (N : Int) (i : Int) na a nb b) (fun out => Y_poly_Add_93_0_v1_0 N out na a nb b) (fun i out => True) N
    (fun i hi out hP => by
      obtain ⟨x, x1, x2⟩ := at_nat (by omega) ha i
      obtain ⟨y, y1, y2⟩ := at_nat (by omega) hb i
      have s1 : poly_Add_1 (i : Int) (some .nil) (some (.fz na a)) (some (.fz nb b)) = some fun _ => 0 := by
        rw [poly_Add_1_eq]; unfold poly_Add_1'
        simp only [PtrV.isRf, PtrV.isNil, SlV.isMs, SlV.len, SlV.fn, PtrV.val, cond_false, cond_true, x1, y1, hg.fAdd x2 y2]
      have b1 : Nat.ble ((i + 1) * 32) 140737488355328 = true := Nat.ble_eq_true_of_le (by omega)
      have b2 : Nat.ble (i + 1) 9223372036854775807 = true := Nat.ble_eq_true_of_le (by omega)
      refine ⟨glue i out (fun j => upd (fun _ => fun _ => 0) 0 (fun _ => 0) (0 + j)), ?_, trivial⟩
      unfold R_poly_Add_93_0_v1
      simp (disch := omega) only [add_c, add_l, l_add, mul_c, mul_l, l_mul, sub_c, sub_l, l_sub, div_c, div_l, mod_c, mod_l, tdiv_c, tdiv_l, tmod_c, tmod_l, wrap_i64n, wrapun, dec_t, dec_f, inb_t, cond_true, cond_false, Int.toNat_natCast, beq_t, beq_f, bne_t, bne_f, Bool.not_true, Bool.not_false, Int.reduceToNat, ft_b, tf_b, tt_b, ff_b, decide_true, decide_false, s1, b1, b2, Bool.and_self])
    (fun out hP => by
      unfold R_poly_Add_93_0_v1
      simp (disch := omega) only [add_c, add_l, l_add, mul_c, mul_l, l_mul, sub_c, sub_l, l_sub, div_c, div_l, mod_c, mod_l, tdiv_c, tdiv_l, tmod_c, tmod_l, wrap_i64n, wrapun, dec_t, dec_f, inb_t, cond_true, cond_false, Int.toNat_natCast, beq_t, beq_f, bne_t, bne_f, Bool.not_true, Bool.not_false, Int.reduceToNat, ft_b, tf_b, tt_b, ff_b, decide_true, decide_false]) (fun _ => fun _ => 0) trivial
  have hy' : loopF R_poly_Add_93_0_v1 (((), ((), ((0, fun _ => fun _ => 0), ((N : Int), (0, ()))))), ((), ((na, a), ((nb, b), ())))) = some (Y_poly_Add_93_0_v1_0 N z na a nb b) := hy
  simp only [hy', hg.pTrim]
theorem pMul_none (hna : na ≤ 1000) (hnb : nb ≤ 1000) (ha : ∀ i, i < na → IsN (a i) (A i)) (hb : ∀ i, i < nb → IsN (b i) (B i)) : poly_Mul none na a nb b = some (((0, Zs), ()), ()) := by
  have hg : NoGroup none := .inl rfl
  rw [poly_Mul_eq]; unfold poly_Mul'
  have e0 : IntKind.i64.wrap (((na : Nat) : Int) + ((nb : Nat) : Int)) = ((na + nb : Nat) : Int) := by rw [wrap_i64 (by omega)]; omega
  simp only [e0]
  obtain ⟨N, hN⟩ : ∃ N, N = na + nb := ⟨_, rfl⟩
  rw [← hN]
  obtain ⟨z, hy, _⟩ := loop_for (R := R_poly_Mul_93_0_v1) (fun i (out : Nat → (Nat → Int)) => T_poly_Mul_93_0_v1 i out (N : Int) (i : Int) na a nb b) (fun out => Y_poly_Mul_93_0_v1_0 N out na a nb b) (fun i out => True) N
    (fun i hi out hP => by
      obtain ⟨s, s1⟩ : ∃ s, poly_Mul_1 (i : Int) (some (.fz na a)) (some .nil) (some (.fz nb b)) = some s := by
        rw [poly_Mul_1_eq]; unfold poly_Mul_1'
        obtain ⟨z, hy, hP⟩ := loop_for (R := R_poly_Mul_1_0) (fun k (out : Nat → Int) => T_poly_Mul_1_0 (i : Int) (.fz na a) .nil (.fz nb b) (na : Int) (k : Int) (fun _ => 0) out) (fun out => Y_poly_Mul_1_0_0 (fun _ => 0) out) (fun i out => IsN out 0) na
          (fun k hk out hP => by
            have e1 : IntKind.i64.wrap ((i : Int) - (k : Int)) = (i : Int) - k := wrap_i64 (by omega)
            obtain ⟨x, x1, x2⟩ := poly_at_spec (by omega) hb ((i : Int) - k)
            refine ⟨fun _ => 0, ?_, IsN.zero⟩
            unfold R_poly_Mul_1_0
            simp (disch := omega) only [add_c, add_l, l_add, mul_c, mul_l, l_mul, sub_c, sub_l, l_sub, div_c, div_l, mod_c, mod_l, tdiv_c, tdiv_l, tmod_c, tmod_l, wrap_i64n, wrapun, dec_t, dec_f, inb_t, cond_true, cond_false, Int.toNat_natCast, beq_t, beq_f, bne_t, bne_f, Bool.not_true, Bool.not_false, Int.reduceToNat, ft_b, tf_b, tt_b, ff_b, decide_true, decide_false, PtrV.isRf, PtrV.isNil, SlV.isMs, SlV.len, SlV.fn, PtrV.val, e1, x1, hg.fMul, hg.fAdd hP IsN.zero])
          (fun out hP => by
            unfold R_poly_Mul_1_0
            simp (disch := omega) only [add_c, add_l, l_add, mul_c, mul_l, l_mul, sub_c, sub_l, l_sub, div_c, div_l, mod_c, mod_l, tdiv_c, tdiv_l, tmod_c, tmod_l, wrap_i64n, wrapun, dec_t, dec_f, inb_t, cond_true, cond_false, Int.toNat_natCast, beq_t, beq_f, bne_t, bne_f, Bool.not_true, Bool.not_false, Int.reduceToNat, ft_b, tf_b, tt_b, ff_b, decide_true, decide_false]) (fun _ => 0) IsN.zero
        have hy' : loopF R_poly_Mul_1_0 (((i : Int), (SlV.fz na a, (PtrV.nil, (SlV.fz nb b, ((), ((), ((na : Int), (0, ())))))))), ((fun _ => 0), ((fun _ => 0), ()))) = some (Y_poly_Mul_1_0_0 (fun _ => 0) z) := hy
        exact ⟨z, by simp only [SlV.isMs, SlV.len, cond_false, hy']⟩
      have b1 : Nat.ble ((i + 1) * 32) 140737488355328 = true := Nat.ble_eq_true_of_le (by omega)
      have b2 : Nat.ble (i + 1) 9223372036854775807 = true := Nat.ble_eq_true_of_le (by omega)
      refine ⟨glue i out (fun j => upd (fun _ => fun _ => 0) 0 s (0 + j)), ?_, trivial⟩
      unfold R_poly_Mul_93_0_v1
      simp (disch := omega) only [add_c, add_l, l_add, mul_c, mul_l, l_mul, sub_c, sub_l, l_sub, div_c, div_l, mod_c, mod_l, tdiv_c, tdiv_l, tmod_c, tmod_l, wrap_i64n, wrapun, dec_t, dec_f, inb_t, cond_true, cond_false, Int.toNat_natCast, beq_t, beq_f, bne_t, bne_f, Bool.not_true, Bool.not_false, Int.reduceToNat, ft_b, tf_b, tt_b, ff_b, decide_true, decide_false, s1, b1, b2, Bool.and_self])
    (fun out hP => by
      unfold R_poly_Mul_93_0_v1
      simp (disch := omega) only [add_c, add_l, l_add, mul_c, mul_l, l_mul, sub_c, sub_l, l_sub, div_c, div_l, mod_c, mod_l, tdiv_c, tdiv_l, tmod_c, tmod_l, wrap_i64n, wrapun, dec_t, dec_f, inb_t, cond_true, cond_false, Int.toNat_natCast, beq_t, beq_f, bne_t, bne_f, Bool.not_true, Bool.not_false, Int.reduceToNat, ft_b, tf_b, tt_b, ff_b, decide_true, decide_false]) (fun _ => fun _ => 0) trivial
  have hy' : loopF R_poly_Mul_93_0_v1 (((), ((), ((0, fun _ => fun _ => 0), ((N : Int), (0, ()))))), ((), ((na, a), ((nb, b), ())))) = some (Y_poly_Mul_93_0_v1_0 N z na a nb b) := hy
  simp only [hy', hg.pTrim]
theorem pAdd_bare (hna : na ≤ 1000) (hnb : nb ≤ 1000) (ha : ∀ i, i < na → IsN (a i) (A i)) (hb : ∀ i, i < nb → IsN (b i) (B i)) {g : GroupT} (hg : NoGroup (some g)) : poly_Add (some g) na a nb b = some (((0, Zs), ()), ()) := by
  rw [poly_Add_eq]; unfold poly_Add'
  have hmax : (if ((na : Nat) : Int) < ((nb : Nat) : Int) then ((nb : Nat) : Int) else ((na : Nat) : Int)) = ((max na nb : Nat) : Int) := by
    split <;> omega
  simp only [hmax]
  obtain ⟨N, hN⟩ : ∃ N, N = max na nb := ⟨_, rfl⟩
  rw [← hN]
  obtain ⟨z, hy, _⟩ := loop_for (R := R_poly_Add_93_0) (fun i (out : Nat → (Nat → Int)) => T_poly_Add_93_0 g i out (N : Int) (i : Int) g na a nb b) (fun out => Y_poly_Add_93_0_0 g N out g na a nb b) (fun i out => True) N
    (fun i hi out hP => by
      obtain ⟨x, x1, x2⟩ := at_nat (by omega) ha i
      obtain ⟨y, y1, y2⟩ := at_nat (by omega) hb i
      have s1 : poly_Add_1 (i : Int) (some (.fz g)) (some (.fz na a)) (some (.fz nb b)) = some fun _ => 0 := by
        rw [poly_Add_1_eq]; unfold poly_Add_1'
        simp only [PtrV.isRf, PtrV.isNil, SlV.isMs, SlV.len, SlV.fn, PtrV.val, cond_false, cond_true, x1, y1, hg.fAdd x2 y2]
      have b1 : Nat.ble ((i + 1) * 32) 140737488355328 = true := Nat.ble_eq_true_of_le (by omega)
      have b2 : Nat.ble (i + 1) 9223372036854775807 = true := Nat.ble_eq_true_of_le (by omega)
      refine ⟨glue i out (fun j => upd (fun _ => fun _ => 0) 0 (fun _ => 0) (0 + j)), ?_, trivial⟩
      unfold R_poly_Add_93_0
      simp (disch := omega) only [add_c, add_l, l_add, mul_c, mul_l, l_mul, sub_c, sub_l, l_sub, div_c, div_l, mod_c, mod_l, tdiv_c, tdiv_l, tmod_c, tmod_l, wrap_i64n, wrapun, dec_t, dec_f, inb_t, cond_true, cond_false, Int.toNat_natCast, beq_t, beq_f, bne_t, bne_f, Bool.not_true, Bool.not_false, Int.reduceToNat, ft_b, tf_b, tt_b, ff_b, decide_true, decide_false, s1, b1, b2, Bool.and_self])
    (fun out hP => by
      unfold R_poly_Add_93_0
      simp (disch := omega) only [add_c, add_l, l_add, mul_c, mul_l, l_mul, sub_c, sub_l, l_sub, div_c, div_l, mod_c, mod_l, tdiv_c, tdiv_l, tmod_c, tmod_l, wrap_i64n, wrapun, dec_t, dec_f, inb_t, cond_true, cond_false, Int.toNat_natCast, beq_t, beq_f, bne_t, bne_f, Bool.not_true, Bool.not_false, Int.reduceToNat, ft_b, tf_b, tt_b, ff_b, decide_true, decide_false]) (fun _ => fun _ => 0) trivial
  have hy' : loopF R_poly_Add_93_0 ((g, ((), ((0, fun _ => fun _ => 0), ((N : Int), (0, ()))))), (g, ((na, a), ((nb, b), ())))) = some (Y_poly_Add_93_0_0 g N z g na a nb b) := hy
  simp only [hy', hg.pTrim]
theorem pMul_bare (hna : na ≤ 1000) (hnb : nb ≤ 1000) (ha : ∀ i, i < na → IsN (a i) (A i)) (hb : ∀ i, i < nb → IsN (b i) (B i)) {g : GroupT} (hg : NoGroup (some g)) : poly_Mul (some g) na a nb b = some (((0, Zs), ()), ()) := by
  rw [poly_Mul_eq]; unfold poly_Mul'
  have e0 : IntKind.i64.wrap (((na : Nat) : Int) + ((nb : Nat) : Int)) = ((na + nb : Nat) : Int) := by rw [wrap_i64 (by omega)]; omega
  simp only [e0]
  obtain ⟨N, hN⟩ : ∃ N, N = na + nb := ⟨_, rfl⟩
  rw [← hN]
  obtain ⟨z, hy, _⟩ := loop_for (R := R_poly_Mul_93_0) (fun i (out : Nat → (Nat → Int)) => T_poly_Mul_93_0 g i out (N : Int) (i : Int) g na a nb b) (fun out => Y_poly_Mul_93_0_0 g N out g na a nb b) (fun i out => True) N
    (fun i hi out hP => by
      obtain ⟨s, s1⟩ : ∃ s, poly_Mul_1 (i : Int) (some (.fz na a)) (some (.fz g)) (some (.fz nb b)) = some s := by
        rw [poly_Mul_1_eq]; unfold poly_Mul_1'
        obtain ⟨z, hy, hP⟩ := loop_for (R := R_poly_Mul_1_0) (fun k (out : Nat → Int) => T_poly_Mul_1_0 (i : Int) (.fz na a) (.fz g) (.fz nb b) (na : Int) (k : Int) (fun _ => 0) out) (fun out => Y_poly_Mul_1_0_0 (fun _ => 0) out) (fun i out => IsN out 0) na
          (fun k hk out hP => by
            have e1 : IntKind.i64.wrap ((i : Int) - (k : Int)) = (i : Int) - k := wrap_i64 (by omega)
            obtain ⟨x, x1, x2⟩ := poly_at_spec (by omega) hb ((i : Int) - k)
            refine ⟨fun _ => 0, ?_, IsN.zero⟩
            unfold R_poly_Mul_1_0
            simp (disch := omega) only [add_c, add_l, l_add, mul_c, mul_l, l_mul, sub_c, sub_l, l_sub, div_c, div_l, mod_c, mod_l, tdiv_c, tdiv_l, tmod_c, tmod_l, wrap_i64n, wrapun, dec_t, dec_f, inb_t, cond_true, cond_false, Int.toNat_natCast, beq_t, beq_f, bne_t, bne_f, Bool.not_true, Bool.not_false, Int.reduceToNat, ft_b, tf_b, tt_b, ff_b, decide_true, decide_false, PtrV.isRf, PtrV.isNil, SlV.isMs, SlV.len, SlV.fn, PtrV.val, e1, x1, hg.fMul, hg.fAdd hP IsN.zero])
          (fun out hP => by
            unfold R_poly_Mul_1_0
            simp (disch := omega) only [add_c, add_l, l_add, mul_c, mul_l, l_mul, sub_c, sub_l, l_sub, div_c, div_l, mod_c, mod_l, tdiv_c, tdiv_l, tmod_c, tmod_l, wrap_i64n, wrapun, dec_t, dec_f, inb_t, cond_true, cond_false, Int.toNat_natCast, beq_t, beq_f, bne_t, bne_f, Bool.not_true, Bool.not_false, Int.reduceToNat, ft_b, tf_b, tt_b, ff_b, decide_true, decide_false]) (fun _ => 0) IsN.zero
        have hy' : loopF R_poly_Mul_1_0 (((i : Int), (SlV.fz na a, (PtrV.fz g, (SlV.fz nb b, ((), ((), ((na : Int), (0, ())))))))), ((fun _ => 0), ((fun _ => 0), ()))) = some (Y_poly_Mul_1_0_0 (fun _ => 0) z) := hy
        exact ⟨z, by simp only [SlV.isMs, SlV.len, cond_false, hy']⟩
      have b1 : Nat.ble ((i + 1) * 32) 140737488355328 = true := Nat.ble_eq_true_of_le (by omega)
      have b2 : Nat.ble (i + 1) 9223372036854775807 = true := Nat.ble_eq_true_of_le (by omega)
      refine ⟨glue i out (fun j => upd (fun _ => fun _ => 0) 0 s (0 + j)), ?_, trivial⟩
      unfold R_poly_Mul_93_0
      simp (disch := omega) only [add_c, add_l, l_add, mul_c, mul_l, l_mul, sub_c, sub_l, l_sub, div_c, div_l, mod_c, mod_l, tdiv_c, tdiv_l, tmod_c, tmod_l, wrap_i64n, wrapun, dec_t, dec_f, inb_t, cond_true, cond_false, Int.toNat_natCast, beq_t, beq_f, bne_t, bne_f, Bool.not_true, Bool.not_false, Int.reduceToNat, ft_b, tf_b, tt_b, ff_b, decide_true, decide_false, s1, b1, b2, Bool.and_self])
    (fun out hP => by
      unfold R_poly_Mul_93_0
      simp (disch := omega) only [add_c, add_l, l_add, mul_c, mul_l, l_mul, sub_c, sub_l, l_sub, div_c, div_l, mod_c, mod_l, tdiv_c, tdiv_l, tmod_c, tmod_l, wrap_i64n, wrapun, dec_t, dec_f, inb_t, cond_true, cond_false, Int.toNat_natCast, beq_t, beq_f, bne_t, bne_f, Bool.not_true, Bool.not_false, Int.reduceToNat, ft_b, tf_b, tt_b, ff_b, decide_true, decide_false]) (fun _ => fun _ => 0) trivial
  have hy' : loopF R_poly_Mul_93_0 ((g, ((), ((0, fun _ => fun _ => 0), ((N : Int), (0, ()))))), (g, ((na, a), ((nb, b), ())))) = some (Y_poly_Mul_93_0_0 g N z g na a nb b) := hy
  simp only [hy', hg.pTrim]
end
theorem l12_PolyNobody_true {na : Nat} {a : Nat → Nat → Int} {x : Nat → Int} (ha : Go.Den.Good (.sl (.arr 4 (.int .u64))) (.fz na a)) (hx : Go.Den.Good (.arr 4 (.int .u64)) x) : l12_PolyNobody' na a x = some () := by
  obtain ⟨A, hA⟩ := good_nats ha
  unfold l12_PolyNobody'
  by_cases h1 : na ≤ 8
  rotate_left
  · simp (disch := first | omega | assumption) only [add_c, add_l, l_add, mul_c, mul_l, l_mul, sub_c, sub_l, l_sub, div_c, div_l, mod_c, mod_l, tdiv_c, tdiv_l, tmod_c, tmod_l, wrap_i64n, wrapun, dec_t, dec_f, inb_t, cond_true, cond_false, Int.toNat_natCast, beq_t, beq_f, bne_t, bne_f, Bool.not_true, Bool.not_false, Int.reduceToNat, ft_b, tf_b, tt_b, ff_b, decide_true, decide_false, l12_awake_spec]
  have hn : NoGroup none := .inl rfl
  have hb : NoGroup (some ((.nil, .nil), fun _ => 0)) := .inr ⟨_, rfl⟩
  obtain ⟨k, l, ga, g, P, Q, G, s1, hg, hQ⟩ := l12_small_spec 0
  have hgg := hg.group
  have hpr := hgg.pq
  have hz : eqF (.arr 4 (.int .u64)) (fun _ => 0) (fun _ => 0) = true := IsN.zero.eqb IsN.zero
  obtain ⟨many, hy, hP⟩ := loop_for (R := R_l12_PolyNobody_2) (fun i (many : Nat → (Nat → Int)) => T_l12_PolyNobody_2 g true i many (i : Int)) (fun many => Y_l12_PolyNobody_2_0 g true 33 many) (fun i many => ∀ j, j < i → IsN (many j) j) 33
    (fun i hi many hP => by
      obtain ⟨s, s1, s2⟩ := l12_of_spec (n := (i : Int)) (by omega)
      have b1 : Nat.ble ((i + 1) * 32) 140737488355328 = true := Nat.ble_eq_true_of_le (by omega)
      have b2 : Nat.ble (i + 1) 9223372036854775807 = true := Nat.ble_eq_true_of_le (by omega)
      refine ⟨_, ?_, row_snoc (A := fun k => k) hP s2⟩
      unfold R_l12_PolyNobody_2
      simp (disch := omega) only [add_c, add_l, l_add, mul_c, mul_l, l_mul, sub_c, sub_l, l_sub, div_c, div_l, mod_c, mod_l, tdiv_c, tdiv_l, tmod_c, tmod_l, wrap_i64n, wrapun, dec_t, dec_f, inb_t, cond_true, cond_false, Int.toNat_natCast, beq_t, beq_f, bne_t, bne_f, Bool.not_true, Bool.not_false, Int.reduceToNat, ft_b, tf_b, tt_b, ff_b, decide_true, decide_false, s1, b1, b2, Bool.and_self])
    (fun many hP => by
      unfold R_l12_PolyNobody_2
      simp (disch := omega) only [add_c, add_l, l_add, mul_c, mul_l, l_mul, sub_c, sub_l, l_sub, div_c, div_l, mod_c, mod_l, tdiv_c, tdiv_l, tmod_c, tmod_l, wrap_i64n, wrapun, dec_t, dec_f, inb_t, cond_true, cond_false, Int.toNat_natCast, beq_t, beq_f, bne_t, bne_f, Bool.not_true, Bool.not_false, Int.reduceToNat, ft_b, tf_b, tt_b, ff_b, decide_true, decide_false]) (fun _ => fun _ => 0) (fun j hj => by omega)
  have hy' : loopF R_l12_PolyNobody_2 ((g, (true, ((0, fun _ => fun _ => 0), (0, ())))), ()) = some (Y_l12_PolyNobody_2_0 g true 33 many) := hy
  obtain ⟨r, r1, _⟩ := group_Field_spec hgg
  have t1 : poly_Through (some g) 33 many 33 many = some (((0, Zs), (1, ())), ()) := by
    rw [poly_Through_eq]; unfold poly_Through'
    simp (disch := omega) only [add_c, add_l, l_add, mul_c, mul_l, l_mul, sub_c, sub_l, l_sub, div_c, div_l, mod_c, mod_l, tdiv_c, tdiv_l, tmod_c, tmod_l, wrap_i64n, wrapun, dec_t, dec_f, inb_t, cond_true, cond_false, Int.toNat_natCast, beq_t, beq_f, bne_t, bne_f, Bool.not_true, Bool.not_false, Int.reduceToNat, ft_b, tf_b, tt_b, ff_b, decide_true, decide_false, r1]
  have hP32 : ∀ i, i < 32 → IsN (many i) ((fun k => k) i) := fun i hi => hP i (by omega)
  rcases poly_Through_spec hgg hpr (n := 32) (by decide) (X := fun k => k) (Y := fun k => k) hP32 hP32 with ⟨m, z, c, t2, _⟩ | ⟨_, i, j, hij, hj, hc⟩
  · simp (disch := first | omega | assumption) only [add_c, add_l, l_add, mul_c, mul_l, l_mul, sub_c, sub_l, l_sub, div_c, div_l, mod_c, mod_l, tdiv_c, tdiv_l, tmod_c, tmod_l, wrap_i64n, wrapun, dec_t, dec_f, inb_t, cond_true, cond_false, Int.toNat_natCast, beq_t, beq_f, bne_t, bne_f, Bool.not_true, Bool.not_false, Int.reduceToNat, ft_b, tf_b, tt_b, ff_b, decide_true, decide_false, Nat.zero_add, hn.pDiv, hn.pThrough, hn.pTrim, hn.pEval (n := na) (by omega) hA, hz, pAdd_none (by omega) (by omega) hA hA, pMul_none (by omega) (by omega) hA hA, hb.pDiv, hb.pThrough, hb.pTrim, hb.pEval (n := na) (by omega) hA, pAdd_bare (by omega) (by omega) hA hA hb, pMul_bare (by omega) (by omega) hA hA hb, s1, hy', t1, t2, l12_awake_spec]
  · have := hgg.big
    exact absurd (Cg.eq hc (by omega) (by omega)) (by omega)
end Go.Pl
