/-
  One statement, plainly.
-/
import Derived.Test.YtoofellokbgmaaaDenD
import Derived.Test.YtoofellokbgmaaaPlA
import Derived.Test.YtoofellokbgmaaaL09
import Derived.Test.YtoofellokbgmaaaEqA
set_option linter.unusedVariables false
set_option linter.unusedSimpArgs false
set_option maxRecDepth 100000
set_option maxHeartbeats 0
namespace Go.Pl
end Go.Pl
open Go Go.Den Go.Pl
namespace Go.Pl
noncomputable def l09_PowerNobody' (a : (Nat → Int)) (b : (Nat → Int)) : Option (Unit) :=
  match (power_Multi none 0 (fun _ => (fun _ => 0)) 0 (fun _ => (fun _ => 0))) with
  | none => none
  | some r => (
    match (power_In none a) with
    | none => none
    | some r1 => (
      bif r1 then (
        none)
      else (
        match (power_Mul none a b) with
        | none => none
        | some r2 => (
          bif (!(eqF (.arr 4 (.int .u64)) r2 (fun _ => 0))) then (
            none)
          else (
            match (power_Exp none a b) with
            | none => none
            | some r3 => (
              bif (!(eqF (.arr 4 (.int .u64)) r3 (fun _ => 0))) then (
                none)
              else (
                match (power_Of none a) with
                | none => none
                | some r4 => (
                  bif (!(eqF (.arr 4 (.int .u64)) r4 (fun _ => 0))) then (
                    none)
                  else (
                    match (power_Inv none a) with
                    | none => none
                    | some r5 => (
                      bif (!(eqF (.arr 4 (.int .u64)) r5 (fun _ => 0))) then (
                        none)
                      else (
                        bif (!(eqF (.arr 4 (.int .u64)) r.1 (fun _ => 0))) then (
                          none)
                        else (
                          bif (r.2 != 1) then (
                            none)
                          else (
                            match (power_Multi (some ((.nil, .nil), (fun _ => 0))) 0 (fun _ => (fun _ => 0)) 0 (fun _ => (fun _ => 0))) with
                            | none => none
                            | some r6 => (
                              match (power_In (some ((.nil, .nil), (fun _ => 0))) a) with
                              | none => none
                              | some r7 => (
                                bif r7 then (
                                  none)
                                else (
                                  match (power_Mul (some ((.nil, .nil), (fun _ => 0))) a b) with
                                  | none => none
                                  | some r8 => (
                                    bif (!(eqF (.arr 4 (.int .u64)) r8 (fun _ => 0))) then (
                                      none)
                                    else (
                                      match (power_Exp (some ((.nil, .nil), (fun _ => 0))) a b) with
                                      | none => none
                                      | some r9 => (
                                        bif (!(eqF (.arr 4 (.int .u64)) r9 (fun _ => 0))) then (
                                          none)
                                        else (
                                          match (power_Of (some ((.nil, .nil), (fun _ => 0))) a) with
                                          | none => none
                                          | some r10 => (
                                            bif (!(eqF (.arr 4 (.int .u64)) r10 (fun _ => 0))) then (
                                              none)
                                            else (
                                              match (power_Inv (some ((.nil, .nil), (fun _ => 0))) a) with
                                              | none => none
                                              | some r11 => (
                                                bif (!(eqF (.arr 4 (.int .u64)) r11 (fun _ => 0))) then (
                                                  none)
                                                else (
                                                  bif (!(eqF (.arr 4 (.int .u64)) r6.1 (fun _ => 0))) then (
                                                    none)
                                                  else (
                                                    bif (r6.2 != 1) then (
                                                      none)
                                                    else (
                                                      match r07_Least with
                                                      | none => none
                                                      | some r12 => (
                                                        match (group_New ((r12.1.1, r12.1.2), r12.2)) with
                                                        | none => none
                                                        | some r13 => (
                                                          match r13.1 with
                                                          | none => (
                                                            match (power_Multi none 65 (fun j => (fun _ => (fun _ => 0)) (0 + j)) 65 (fun j => (fun _ => (fun _ => 0)) (0 + j))) with
                                                            | none => none
                                                            | some r16 => (
                                                              bif (r13.2 == 0) then (
                                                                bif (r16.2 == 1) then (
                                                                  match l09_awake with
                                                                  | none => none
                                                                  | some r17 => (
                                                                    bif r17 then (
                                                                      some ())
                                                                    else (
                                                                      none)))
                                                                else (
                                                                  none))
                                                              else (
                                                                none)))
                                                          | some p => (
                                                            match (power_Multi (some p) 65 (fun j => (fun _ => (fun _ => 0)) (0 + j)) 65 (fun j => (fun _ => (fun _ => 0)) (0 + j))) with
                                                            | none => none
                                                            | some r14 => (
                                                              bif (r13.2 == 0) then (
                                                                bif (r14.2 == 1) then (
                                                                  match l09_awake with
                                                                  | none => none
                                                                  | some r15 => (
                                                                    bif r15 then (
                                                                      some ())
                                                                    else (
                                                                      none)))
                                                                else (
                                                                  none))
                                                              else (
                                                                none)))))))))))))))))))))))))))))))
end Go.Pl

set_option linter.unusedVariables false
set_option linter.unusedSimpArgs false
set_option maxRecDepth 100000
set_option maxHeartbeats 0
namespace Go.Pl
end Go.Pl
open Go Go.Den Go.Pl
namespace Go.Proofs.Ytoofellokbgmaaa
noncomputable def x_l09_PowerNobody : Cx := { ti := ti, con := [(18, c_power_Multi), (49, c_power_In), (51, c_power_Mul), (53, c_power_Exp), (55, c_power_Of), (56, c_power_Inv), (36, c_r07_Least), (17, c_group_New), (15, c_l09_awake)], fns := [], un := 6 }
theorem xok_l09_PowerNobody : CxOk Try.prog x_l09_PowerNobody := CxOk.of mixed ti_ok (List.forall_mem_cons.2 ⟨con_power_Multi, List.forall_mem_cons.2 ⟨con_power_In, List.forall_mem_cons.2 ⟨con_power_Mul, List.forall_mem_cons.2 ⟨con_power_Exp, List.forall_mem_cons.2 ⟨con_power_Of, List.forall_mem_cons.2 ⟨con_power_Inv, List.forall_mem_cons.2 ⟨con_r07_Least, List.forall_mem_cons.2 ⟨con_group_New, List.forall_mem_cons.2 ⟨con_l09_awake, List.forall_mem_nil _⟩⟩⟩⟩⟩⟩⟩⟩⟩) (List.forall_mem_nil _)
theorem fn_l09_PowerNobody : FnOk Try.prog 9 Try.f9 [] := ⟨Try.func9, Try.call9, lps_nil⟩
theorem e_l09_PowerNobody (a : (Nat → Int)) (b : (Nat → Int)) : bodyK x_l09_PowerNobody [] (denF x_l09_PowerNobody 8) Try.f9 (domV [(.arr 4 (.int .u64)), (.arr 4 (.int .u64))] (a, b, ())) [] 0 kTrue = l09_PowerNobody' a b := by kernel_rfl
end Go.Proofs.Ytoofellokbgmaaa

set_option linter.unusedVariables false
set_option linter.unusedSimpArgs false
namespace Go.Pl
open Go Go.Den Go.Num

theorem NoGroup.Multi {g : Option GroupT} (h : NoGroup g) (n k : Nat) (a b : Nat → Nat → Int) : power_Multi g n a k b = some ((fun _ => 0), 1) := by
  rw [power_Multi_eq]; unfold power_Multi'
  rcases g with _ | g <;> simp only [h.Ring, noRing_none.Prod]
theorem NoGroup.Exp {g : Option GroupT} (h : NoGroup g) (a b : Nat → Int) : power_Exp g a b = some fun _ => 0 := by
  rw [power_Exp_eq]; unfold power_Exp'
  rcases g with _ | g <;> simp only [h.Ring, noRing_none.Exp]
theorem NoGroup.Of {g : Option GroupT} (h : NoGroup g) (b : Nat → Int) : power_Of g b = some fun _ => 0 := by
  rw [power_Of_eq]; unfold power_Of'
  rcases g with _ | g
  · have e : group_Group_G none = some fun _ => 0 := by rw [group_Group_G_eq]; rfl
    simp only [e, h.Exp]
  · have e : group_Group_G (some g) = some g.2 := by rw [group_Group_G_eq]; rfl
    simp only [e, h.Exp]
theorem NoGroup.Inv {g : Option GroupT} (h : NoGroup g) (a : Nat → Int) : power_Inv g a = some fun _ => 0 := by
  rw [power_Inv_eq]; unfold power_Inv'
  obtain ⟨o, o1, o2⟩ := nat_Of_spec (n := 1) (by decide)
  obtain ⟨d, d1, d2⟩ := nat_Sub_spec IsN.zero o2
  rcases g with _ | g <;> simp only [h.Q, o1, d1, h.Exp]
theorem NoGroup.pIn {g : Option GroupT} (h : NoGroup g) {a : Nat → Int} {x : Nat} (ha : IsN a x) : power_In g a = some false := by
  rw [power_In_eq]; unfold power_In'
  by_cases h0 : x = 0
  · rcases g with _ | g <;> simp (disch := omega) only [wrap_i64n, wrapun, dec_t, dec_f, inb_t, cond_true, cond_false, Int.toNat_natCast, beq_t, beq_f, bne_t, bne_f, Bool.not_true, Bool.not_false, Int.reduceToNat, ft_b, tf_b, tt_b, ff_b, decide_true, decide_false, ha.isZero, h0]
  · rcases g with _ | g <;> simp (disch := omega) only [wrap_i64n, wrapun, dec_t, dec_f, inb_t, cond_true, cond_false, Int.toNat_natCast, beq_t, beq_f, bne_t, bne_f, Bool.not_true, Bool.not_false, Int.reduceToNat, ft_b, tf_b, tt_b, ff_b, decide_true, decide_false, ha.isZero, h0, h.Ring, noRing_none.In]
theorem product_none {n : Nat} (h0 : 0 < n) (hn : n ≤ 9223372036854775807) {l : Nat → Nat → Int} : power_product none n l = some fun _ => 0 := by
  rw [power_product_eq]; unfold power_product'
  obtain ⟨o, o1, o2⟩ := nat_Of_spec (n := 1) (by decide)
  have e : group_Group_Ring none = some none := NoGroup.Ring (.inl rfl)
  simp only [o1]
  generalize ho : loopF R_power_product_0_v1 _ = oo
  obtain ⟨z, hy, hQ⟩ := loop_for (R := R_power_product_0_v1) (fun i (z : Nat → Int) => T_power_product_0_v1 n l (n : Int) (i : Int) (fun _ => 0) z) (fun z => Y_power_product_0_v1_0 (fun _ => 0) z)
    (fun i z => 0 < i → z = fun _ => 0) n
    (fun i hi z hP => by
      refine ⟨fun _ => 0, ?_, fun _ => rfl⟩
      unfold R_power_product_0_v1
      simp (disch := omega) only [add_c, add_l, l_add, mul_c, mul_l, l_mul, sub_c, sub_l, l_sub, div_c, div_l, mod_c, mod_l, tdiv_c, tdiv_l, tmod_c, tmod_l, wrap_i64n, wrapun, dec_t, dec_f, inb_t, cond_true, cond_false, Int.toNat_natCast, beq_t, beq_f, bne_t, bne_f, Bool.not_true, Bool.not_false, Int.reduceToNat, ft_b, tf_b, tt_b, ff_b, decide_true, decide_false, e, noRing_none.Mul])
    (fun z hP => by
      unfold R_power_product_0_v1
      simp (disch := omega) only [wrap_i64n, wrapun, dec_t, dec_f, inb_t, cond_true, cond_false, Int.toNat_natCast, beq_t, beq_f, bne_t, bne_f, Bool.not_true, Bool.not_false, Int.reduceToNat, ft_b, tf_b, tt_b, ff_b, decide_true, decide_false]) o (fun h => absurd h (by omega))
  obtain rfl := ho.symm.trans hy
  rw [hQ h0]
theorem product_empty {n : Nat} (h0 : 0 < n) (hn : n ≤ 9223372036854775807) {l : Nat → Nat → Int} {g : GroupT} (hg : NoGroup (some g)) : power_product (some g) n l = some fun _ => 0 := by
  rw [power_product_eq]; unfold power_product'
  obtain ⟨o, o1, o2⟩ := nat_Of_spec (n := 1) (by decide)
  simp only [o1]
  generalize ho : loopF R_power_product_0 _ = oo
  obtain ⟨z, hy, hQ⟩ := loop_for (R := R_power_product_0) (fun i (z : Nat → Int) => T_power_product_0 g n l (n : Int) (i : Int) (fun _ => 0) z) (fun z => Y_power_product_0_0 (fun _ => 0) z)
    (fun i z => 0 < i → z = fun _ => 0) n
    (fun i hi z hP => by
      refine ⟨fun _ => 0, ?_, fun _ => rfl⟩
      unfold R_power_product_0
      simp (disch := omega) only [add_c, add_l, l_add, mul_c, mul_l, l_mul, sub_c, sub_l, l_sub, div_c, div_l, mod_c, mod_l, tdiv_c, tdiv_l, tmod_c, tmod_l, wrap_i64n, wrapun, dec_t, dec_f, inb_t, cond_true, cond_false, Int.toNat_natCast, beq_t, beq_f, bne_t, bne_f, Bool.not_true, Bool.not_false, Int.reduceToNat, ft_b, tf_b, tt_b, ff_b, decide_true, decide_false, hg.Ring, noRing_none.Mul])
    (fun z hP => by
      unfold R_power_product_0
      simp (disch := omega) only [wrap_i64n, wrapun, dec_t, dec_f, inb_t, cond_true, cond_false, Int.toNat_natCast, beq_t, beq_f, bne_t, bne_f, Bool.not_true, Bool.not_false, Int.reduceToNat, ft_b, tf_b, tt_b, ff_b, decide_true, decide_false]) o (fun h => absurd h (by omega))
  obtain rfl := ho.symm.trans hy
  rw [hQ h0]
theorem NoGroup.pMul {g : Option GroupT} (h : NoGroup g) (a b : Nat → Int) : power_Mul g a b = some fun _ => 0 := by
  rw [power_Mul_eq]; unfold power_Mul'
  rcases g with _ | g
  · simp only [product_none (n := 2) (by decide) (by decide)]
  · simp only [product_empty (n := 2) (by decide) (by decide) h]
theorem l09_PowerNobody_true {a b : Nat → Int} (ha : Go.Den.Good (.arr 4 (.int .u64)) a) (hb : Go.Den.Good (.arr 4 (.int .u64)) b) : l09_PowerNobody' a b = some () := by
  obtain ⟨x, hx⟩ := good_nat ha
  have h0 : NoGroup none := .inl rfl
  have h1 : NoGroup (some ((.nil, .nil), (fun _ => 0))) := .inr ⟨_, rfl⟩
  have hz : eqF (.arr 4 (.int .u64)) (fun _ => 0) (fun _ => 0) = true := IsN.eqb IsN.zero IsN.zero
  obtain ⟨g, hg⟩ := least_pick
  have hm := power_Multi_many hg.group (n := 65) (by decide) (bases := fun j => (fun _ => fun _ => 0) (0 + j)) (exps := fun j => (fun _ => fun _ => 0) (0 + j))
  have d1 : ((1 : Int) != 1) = false := by decide
  unfold l09_PowerNobody'
  simp (disch := omega) only [h0.Multi, h0.pIn hx, h0.pMul, h0.Exp, h0.Of, h0.Inv, h1.Multi, h1.pIn hx, h1.pMul, h1.Exp, h1.Of, h1.Inv, hz, wrap_i64n, wrapun, dec_t, dec_f, inb_t, cond_true, cond_false, Int.toNat_natCast, beq_t, beq_f, bne_t, bne_f, Bool.not_true, Bool.not_false, Int.reduceToNat, ft_b, tf_b, tt_b, ff_b, decide_true, decide_false, d1, r07_Least_eq2, hg.made, hm, l09_awake_spec]
end Go.Pl
