/-
  What the statements of a layer share.
-/
import Derived.Test.YtennopklknlecaaDenD
import Derived.Test.YtennopklknlecaaPlA
import Derived.Test.YtennopklknlecaaPcomb
import Derived.Test.YtennopklknlecaaEqA
import Derived.Test.YtennopklknlecaaEcomb
import Derived.Test.YtennopklknlecaaMF
import Derived.Test.YtennopklknlecaaPr35
set_option linter.unusedVariables false
set_option linter.unusedSimpArgs false
set_option maxRecDepth 100000
set_option maxHeartbeats 0
namespace Go.Pl
end Go.Pl
open Go Go.Den Go.Pl
namespace Go.Pl
noncomputable def l35_small' (which : Int) : Option ((Option (((PtrV ((Nat → Int) × (Int × ((Nat → Int) × (Nat → Int))))) × (PtrV ((Nat → Int) × (Int × ((Nat → Int) × (Nat → Int)))))) × (Nat → Int))) × (Int × (Int × Int)) × Bool) :=
 match (r07_Pick which) with
 | none => none
 | some r => (
  match (group_New ((r.1.1, r.1.2), r.2)) with
  | none => none
  | some r1 => (
   match r1.1 with
   | none => (
    match (r09_Of ((r.1.1, r.1.2), r.2)) with
    | none => none
    | some r3 => (
     some (none, r3, (r1.2 == 0))))
   | some p => (
    match (r09_Of ((r.1.1, r.1.2), r.2)) with
    | none => none
    | some r2 => (
     some ((some p), r2, (r1.2 == 0))))))
noncomputable def l35_small : (Int) → Option ((Option (((PtrV ((Nat → Int) × (Int × ((Nat → Int) × (Nat → Int))))) × (PtrV ((Nat → Int) × (Int × ((Nat → Int) × (Nat → Int)))))) × (Nat → Int))) × (Int × (Int × Int)) × Bool) := veil l35_small'
theorem l35_small_eq : l35_small = l35_small' := veil_eq _
noncomputable def l35_of' (n : Int) : Option ((Nat → Int)) :=
 match (r01_Int n) with
 | none => none
 | some r => (
  some r)
noncomputable def l35_of : (Int) → Option ((Nat → Int)) := veil l35_of'
theorem l35_of_eq : l35_of = l35_of' := veil_eq _
noncomputable def l35_awake'  : Option (Bool) :=
 match (l35_small 0) with
 | none => none
 | some r => (
  match r.1 with
  | none => (
   match (l35_of 3) with
   | none => none
   | some r15 => (
    match (comb_New none r15 8) with
    | none => none
    | some r16 => (
     match r16.1 with
     | none => (
      bif (!r.2.2) then (
       some false)
      else (
       bif (r16.2 != 0) then (
        some false)
       else (
        some false)))
     | some p2 => (
      bif (!r.2.2) then (
       some false)
      else (
       bif (r16.2 != 0) then (
        some false)
       else (
        match (l35_of 5) with
        | none => none
        | some r17 => (
         match (comb_Table_Exp (some p2) r17) with
         | none => none
         | some r18 => (
          match (l35_of 256) with
          | none => none
          | some r19 => (
           match (comb_Table_Exp (some p2) r19) with
           | none => none
           | some r20 => (
            match (l35_of 2) with
            | none => none
            | some r21 => (
             match (l35_of 4) with
             | none => none
             | some r22 => (
              match (comb_Multi 2 (fun j => (upd (upd (fun _ => .nil) 0 (.fz p2)) 1 (.fz p2)) (0 + j)) 2 (fun j => (upd (upd (fun _ => (fun _ => 0)) 0 r21) 1 r22) (0 + j))) with
              | none => none
              | some r23 => (
               match (l35_of 243) with
               | none => none
               | some r24 => (
                bif (eqF (.arr 4 (.int .u64)) r18.1 r24) then (
                 bif (r18.2 == 0) then (
                  bif (r20.2 == 2) then (
                   match (l35_of 729) with
                   | none => none
                   | some r25 => (
                    bif (eqF (.arr 4 (.int .u64)) r23.1 r25) then (
                     bif (r23.2 == 0) then (
                      match (comb_Table_Bits (some p2)) with
                      | none => none
                      | some r26 => (
                       bif (r26 == 8) then (
                        match (comb_Table_Base (some p2)) with
                        | none => none
                        | some r27 => (
                         match (l35_of 3) with
                         | none => none
                         | some r28 => (
                          some (eqF (.arr 4 (.int .u64)) r27 r28))))
                       else (
                        some false)))
                     else (
                      some false))
                    else (
                     some false)))
                  else (
                   some false))
                 else (
                  some false))
                else (
                 some false)))))))))))))))
  | some p => (
   match (l35_of 3) with
   | none => none
   | some r1 => (
    match (comb_New (some p) r1 8) with
    | none => none
    | some r2 => (
     match r2.1 with
     | none => (
      bif (!r.2.2) then (
       some false)
      else (
       bif (r2.2 != 0) then (
        some false)
       else (
        some false)))
     | some p1 => (
      bif (!r.2.2) then (
       some false)
      else (
       bif (r2.2 != 0) then (
        some false)
       else (
        match (l35_of 5) with
        | none => none
        | some r3 => (
         match (comb_Table_Exp (some p1) r3) with
         | none => none
         | some r4 => (
          match (l35_of 256) with
          | none => none
          | some r5 => (
           match (comb_Table_Exp (some p1) r5) with
           | none => none
           | some r6 => (
            match (l35_of 2) with
            | none => none
            | some r7 => (
             match (l35_of 4) with
             | none => none
             | some r8 => (
              match (comb_Multi 2 (fun j => (upd (upd (fun _ => .nil) 0 (.fz p1)) 1 (.fz p1)) (0 + j)) 2 (fun j => (upd (upd (fun _ => (fun _ => 0)) 0 r7) 1 r8) (0 + j))) with
              | none => none
              | some r9 => (
               match (l35_of 243) with
               | none => none
               | some r10 => (
                bif (eqF (.arr 4 (.int .u64)) r4.1 r10) then (
                 bif (r4.2 == 0) then (
                  bif (r6.2 == 2) then (
                   match (l35_of 729) with
                   | none => none
                   | some r11 => (
                    bif (eqF (.arr 4 (.int .u64)) r9.1 r11) then (
                     bif (r9.2 == 0) then (
                      match (comb_Table_Bits (some p1)) with
                      | none => none
                      | some r12 => (
                       bif (r12 == 8) then (
                        match (comb_Table_Base (some p1)) with
                        | none => none
                        | some r13 => (
                         match (l35_of 3) with
                         | none => none
                         | some r14 => (
                          some (eqF (.arr 4 (.int .u64)) r13 r14))))
                       else (
                        some false)))
                     else (
                      some false))
                    else (
                     some false)))
                  else (
                   some false))
                 else (
                  some false))
                else (
                 some false))))))))))))))))
noncomputable def l35_awake : Option (Bool) := veil l35_awake'
theorem l35_awake_eq : l35_awake = l35_awake' := veil_eq _
end Go.Pl

set_option linter.unusedVariables false
set_option linter.unusedSimpArgs false
set_option maxRecDepth 100000
set_option maxHeartbeats 0
namespace Go.Pl
end Go.Pl
open Go Go.Den Go.Pl
namespace Go.Proofs.Ytennopklknlecaa
noncomputable def c_l35_small : Con := conV false [(.int .i64)] [(.ptr (.pair (.pair (.ptr (.pair (.arr 4 (.int .u64)) (.pair (.int .u64) (.pair (.arr 4 (.int .u64)) (.arr 4 (.int .u64)))))) (.ptr (.pair (.arr 4 (.int .u64)) (.pair (.int .u64) (.pair (.arr 4 (.int .u64)) (.arr 4 (.int .u64))))))) (.arr 4 (.int .u64)))), (.pair (.int .i64) (.pair (.int .i64) (.int .i64))), .bool] fun x => l35_small x.1
noncomputable def x_l35_small : Cx := { ti := ti, con := [(28, c_r07_Pick), (22, c_group_New), (77, c_r09_Of)], fns := [], un := 6 }
theorem xok_l35_small : CxOk Try.prog x_l35_small := CxOk.of mixed ti_ok (List.forall_mem_cons.2 ⟨con_r07_Pick, List.forall_mem_cons.2 ⟨con_group_New, List.forall_mem_cons.2 ⟨con_r09_Of, List.forall_mem_nil _⟩⟩⟩) (List.forall_mem_nil _)
theorem fn_l35_small : FnOk Try.prog 32 Try.f32 [] := ⟨Try.func32, Try.call32, lps_nil⟩
theorem e_l35_small (which : Int) : bodyK x_l35_small [] (denF x_l35_small 8) Try.f32 (domV [(.int .i64)] (which, ())) [] 0 (kOut [(.ptr (.pair (.pair (.ptr (.pair (.arr 4 (.int .u64)) (.pair (.int .u64) (.pair (.arr 4 (.int .u64)) (.arr 4 (.int .u64)))))) (.ptr (.pair (.arr 4 (.int .u64)) (.pair (.int .u64) (.pair (.arr 4 (.int .u64)) (.arr 4 (.int .u64))))))) (.arr 4 (.int .u64)))), (.pair (.int .i64) (.pair (.int .i64) (.int .i64))), .bool]) = l35_small' which := by kernel_rfl
theorem con_l35_small : ConOk Try.prog 32 c_l35_small := con_ok xok_l35_small 8 fn_l35_small false [(.int .i64)] [(.ptr (.pair (.pair (.ptr (.pair (.arr 4 (.int .u64)) (.pair (.int .u64) (.pair (.arr 4 (.int .u64)) (.arr 4 (.int .u64)))))) (.ptr (.pair (.arr 4 (.int .u64)) (.pair (.int .u64) (.pair (.arr 4 (.int .u64)) (.arr 4 (.int .u64))))))) (.arr 4 (.int .u64)))), (.pair (.int .i64) (.pair (.int .i64) (.int .i64))), .bool] _ (by decide) (fun x => by rw [l35_small_eq]; exact e_l35_small x.1)
noncomputable def c_l35_of : Con := conV true [(.int .i64)] [(.arr 4 (.int .u64))] fun x => l35_of x.1
noncomputable def x_l35_of : Cx := { ti := ti, con := [(31, c_r01_Int)], fns := [], un := 6 }
theorem xok_l35_of : CxOk Try.prog x_l35_of := CxOk.of mixed ti_ok (List.forall_mem_cons.2 ⟨con_r01_Int, List.forall_mem_nil _⟩) (List.forall_mem_nil _)
theorem fn_l35_of : FnOk Try.prog 35 Try.f35 [] := ⟨Try.func35, Try.call35, lps_nil⟩
theorem e_l35_of (n : Int) : bodyK x_l35_of [] (denF x_l35_of 8) Try.f35 (domV [(.int .i64)] (n, ())) [] 0 (kOut [(.arr 4 (.int .u64))]) = l35_of' n := by kernel_rfl
theorem con_l35_of : ConOk Try.prog 35 c_l35_of := con_ok xok_l35_of 8 fn_l35_of true [(.int .i64)] [(.arr 4 (.int .u64))] _ (by decide) (fun x => by rw [l35_of_eq]; exact e_l35_of x.1)
noncomputable def c_l35_awake : Con := conV true [] [.bool] fun x => l35_awake 
noncomputable def x_l35_awake : Cx := { ti := ti, con := [(32, c_l35_small), (35, c_l35_of), (33, c_comb_New), (37, c_comb_Table_Exp), (41, c_comb_Multi), (39, c_comb_Table_Bits), (40, c_comb_Table_Base)], fns := [], un := 6 }
theorem xok_l35_awake : CxOk Try.prog x_l35_awake := CxOk.of mixed ti_ok (List.forall_mem_cons.2 ⟨con_l35_small, List.forall_mem_cons.2 ⟨con_l35_of, List.forall_mem_cons.2 ⟨con_comb_New, List.forall_mem_cons.2 ⟨con_comb_Table_Exp, List.forall_mem_cons.2 ⟨con_comb_Multi, List.forall_mem_cons.2 ⟨con_comb_Table_Bits, List.forall_mem_cons.2 ⟨con_comb_Table_Base, List.forall_mem_nil _⟩⟩⟩⟩⟩⟩⟩) (List.forall_mem_nil _)
theorem fn_l35_awake : FnOk Try.prog 36 Try.f36 [] := ⟨Try.func36, Try.call36, lps_nil⟩
theorem e_l35_awake  : bodyK x_l35_awake [] (denF x_l35_awake 8) Try.f36 (domV [] (())) [] 0 (kOut [.bool]) = l35_awake'  := by kernel_rfl
theorem con_l35_awake : ConOk Try.prog 36 c_l35_awake := con_ok xok_l35_awake 8 fn_l35_awake true [] [.bool] _ (by decide) (fun x => by rw [l35_awake_eq]; exact e_l35_awake )
end Go.Proofs.Ytennopklknlecaa

set_option linter.unusedVariables false
set_option linter.unusedSimpArgs false
namespace Go.Pl
open Go Go.Den Go.Num

section
variable {M : Nat}
/-- tables that were made, by one modulus -/
def Tabs (n : Nat) (l : Nat → PtrV TabT) (M : Nat) (X B : Nat → Nat) : Prop := ∀ i, i < n → ∃ t r, l i = .fz t ∧ IsTab t r M (X i) (B i)
theorem comb_Multi_spec {n : Nat} (hn : n ≤ 64) (hM : 1 < M) {l : Nat → PtrV TabT} {X B E : Nat → Nat} (hl : Tabs n l M X B) {exps : Nat → Nat → Int} (hE : ∀ i, i < n → IsN (exps i) (E i)) :
    ((∀ i, i < n → E i < 2 ^ B i) → ∃ z, comb_Multi n l n exps = some (z, 0) ∧ IsN z (prodN (fun i => X i ^ E i) n % M)) ∧ (¬ (∀ i, i < n → E i < 2 ^ B i) → comb_Multi n l n exps = some ((fun _ => 0), 2)) := by
  rw [comb_Multi_eq]; unfold comb_Multi'
  simp (disch := omega) only [add_c, add_l, l_add, mul_c, mul_l, l_mul, sub_c, sub_l, l_sub, div_c, div_l, mod_c, mod_l, tdiv_c, tdiv_l, tmod_c, tmod_l, wrap_i64n, wrapun, dec_t, dec_f, inb_t, cond_true, cond_false, Int.toNat_natCast, beq_t, beq_f, bne_t, bne_f, Bool.not_true, Bool.not_false, Int.reduceToNat, ft_b, tf_b, tt_b, ff_b, decide_true, decide_false]
  have h0 : loopF R_comb_Multi_0 (((n, l), ((n, exps), ((), ((n, l), ((n : Int), (0, ())))))), ((fun _ => 0), ())) = some (Y_comb_Multi_0_1 n l n exps (fun _ => 0)) := by
    obtain ⟨_, h, _⟩ := loop_for (R := R_comb_Multi_0) (S := Unit) (fun k _ => T_comb_Multi_0 n l n exps n l (n : Int) (k : Int) (fun _ => 0)) (fun _ => Y_comb_Multi_0_1 n l n exps (fun _ => 0)) (fun _ _ => True) n
      (fun k hk _ _ => by
        obtain ⟨t, r, e1, ht⟩ := hl k hk
        obtain ⟨t0, r0, e0, ht0⟩ := hl 0 (by omega)
        have hg := comb_given_spec ht
        have hr := ht.ring
        have hr0 := ht0.ring
        obtain ⟨b, f, rfl, _, _⟩ := ht.is
        obtain ⟨b0, f0, rfl, _, _⟩ := ht0.is
        refine ⟨(), ?_, trivial⟩
        unfold R_comb_Multi_0
        simp (disch := omega) only [add_c, add_l, l_add, mul_c, mul_l, l_mul, sub_c, sub_l, l_sub, div_c, div_l, mod_c, mod_l, tdiv_c, tdiv_l, tmod_c, tmod_l, wrap_i64n, wrapun, dec_t, dec_f, inb_t, cond_true, cond_false, Int.toNat_natCast, beq_t, beq_f, bne_t, bne_f, Bool.not_true, Bool.not_false, Int.reduceToNat, ft_b, tf_b, tt_b, ff_b, decide_true, decide_false, e1, e0, PtrV.isRf, PtrV.isNil, PtrV.val, hg, mont_M_spec hr, mont_M_spec hr0, hr.m.eqb hr0.m, decide_true])
      (fun _ _ => by
        unfold R_comb_Multi_0
        simp (disch := omega) only [add_c, add_l, l_add, mul_c, mul_l, l_mul, sub_c, sub_l, l_sub, div_c, div_l, mod_c, mod_l, tdiv_c, tdiv_l, tmod_c, tmod_l, wrap_i64n, wrapun, dec_t, dec_f, inb_t, cond_true, cond_false, Int.toNat_natCast, beq_t, beq_f, bne_t, bne_f, Bool.not_true, Bool.not_false, Int.reduceToNat, ft_b, tf_b, tt_b, ff_b, decide_true, decide_false]) () trivial
    exact h
  obtain ⟨on, on1, on2⟩ := nat_Of_spec (n := 1) (by decide)
  simp only [h0, on1]
  obtain ⟨y, y1, y2⟩ := loop_seek (R := R_comb_Multi_2) (fun k (out : Nat → Int) => T_comb_Multi_2 n exps n l (n : Int) (k : Int) (fun _ => 0) out)
    (fun k out => IsN out (prodN (fun i => X i ^ E i) k % M) ∧ ∀ i, i < k → E i < 2 ^ B i)
    (fun y => match y with | .inl y1 => y1 = (((), (2, ())), ((fun _ => 0), ())) ∧ ¬ ∀ i, i < n → E i < 2 ^ B i | .inr y1 => IsN y1.2.2.1 (prodN (fun i => X i ^ E i) n % M) ∧ ∀ i, i < n → E i < 2 ^ B i) n
    (fun k hk out hP => by
      obtain ⟨t, r, e1, ht⟩ := hl k hk
      have hr := ht.ring
      have hbl := @blen_le_iff (E k) (B k)
      by_cases h : E k < 2 ^ B k
      · have := hbl.2 h
        obtain ⟨z, z1, z2⟩ := comb_exp_spec ht (hE k hk) h
        obtain ⟨u, u1, u2⟩ := mont_Mul_spec hr hP.1 z2
        obtain ⟨b, f, rfl, _, _⟩ := ht.is
        refine .inl ⟨u, ?_, u2.of_eq (by rw [← Nat.mul_mod]; rfl), fun i hi => ?_⟩
        · unfold R_comb_Multi_2
          simp (disch := omega) only [add_c, add_l, l_add, mul_c, mul_l, l_mul, sub_c, sub_l, l_sub, div_c, div_l, mod_c, mod_l, tdiv_c, tdiv_l, tmod_c, tmod_l, wrap_i64n, wrapun, dec_t, dec_f, inb_t, cond_true, cond_false, Int.toNat_natCast, beq_t, beq_f, bne_t, bne_f, Bool.not_true, Bool.not_false, Int.reduceToNat, ft_b, tf_b, tt_b, ff_b, decide_true, decide_false, e1, PtrV.isRf, PtrV.isNil, PtrV.val, nat_Len_spec (hE k hk), z1, u1]
        · rcases Nat.lt_succ_iff_lt_or_eq.1 hi with h2 | rfl
          · exact hP.2 i h2
          · exact h
      · have : ¬ blen (E k) ≤ B k := fun hh => h (hbl.1 hh)
        obtain ⟨b, f, rfl, _, _⟩ := ht.is
        refine .inr ⟨.inl (((), (2, ())), ((fun _ => 0), ())), ?_, rfl, fun hh => h (hh k hk)⟩
        unfold R_comb_Multi_2
        simp (disch := omega) only [add_c, add_l, l_add, mul_c, mul_l, l_mul, sub_c, sub_l, l_sub, div_c, div_l, mod_c, mod_l, tdiv_c, tdiv_l, tmod_c, tmod_l, wrap_i64n, wrapun, dec_t, dec_f, inb_t, cond_true, cond_false, Int.toNat_natCast, beq_t, beq_f, bne_t, bne_f, Bool.not_true, Bool.not_false, Int.reduceToNat, ft_b, tf_b, tt_b, ff_b, decide_true, decide_false, e1, PtrV.isRf, PtrV.isNil, PtrV.val, nat_Len_spec (hE k hk)])
    (fun out hP => by
      unfold R_comb_Multi_2
      refine ⟨.inr (((), ((), ())), ((fun _ => 0), (out, ()))), ?_, hP⟩
      simp (disch := omega) only [add_c, add_l, l_add, mul_c, mul_l, l_mul, sub_c, sub_l, l_sub, div_c, div_l, mod_c, mod_l, tdiv_c, tdiv_l, tmod_c, tmod_l, wrap_i64n, wrapun, dec_t, dec_f, inb_t, cond_true, cond_false, Int.toNat_natCast, beq_t, beq_f, bne_t, bne_f, Bool.not_true, Bool.not_false, Int.reduceToNat, ft_b, tf_b, tt_b, ff_b, decide_true, decide_false]) on ⟨on2.of_eq (Nat.mod_eq_of_lt hM).symm, fun i hi => absurd hi (by omega)⟩
  have y1' : loopF R_comb_Multi_2 (((n, exps), ((), ((), ((n, l), ((n : Int), (0, ())))))), ((fun _ => 0), (on, ()))) = some y := y1
  simp only [y1']
  rcases y with y | y
  · obtain ⟨rfl, h⟩ := y2
    exact ⟨fun hh => absurd hh h, fun _ => rfl⟩
  · exact ⟨fun _ => ⟨_, rfl, y2.1⟩, fun h => absurd y2.2 h⟩
theorem comb_Multi_odd {n k : Nat} (h : n ≠ k) (hn : n ≤ 9223372036854775807) (hk : k ≤ 9223372036854775807) {l : Nat → PtrV TabT} {exps : Nat → Nat → Int} : comb_Multi n l k exps = some ((fun _ => 0), 1) := by
  rw [comb_Multi_eq]; unfold comb_Multi'
  simp (disch := omega) only [add_c, add_l, l_add, mul_c, mul_l, l_mul, sub_c, sub_l, l_sub, div_c, div_l, mod_c, mod_l, tdiv_c, tdiv_l, tmod_c, tmod_l, wrap_i64n, wrapun, dec_t, dec_f, inb_t, cond_true, cond_false, Int.toNat_natCast, beq_t, beq_f, bne_t, bne_f, Bool.not_true, Bool.not_false, Int.reduceToNat, ft_b, tf_b, tt_b, ff_b, decide_true, decide_false]
end
section
variable {P Q G : Nat}
theorem r35_Exp_spec {b e : Nat → Int} {x E bits : Nat} (hb : IsN b x) (he : IsN e E) (hP : 0 < P) (p63 : P < 9223372036854775808) : ∃ z, IsN z (x ^ E % P) ∧
    r35_Exp ((P : Int), (Q : Int), (G : Int)) b (bits : Int) e = some (if E < 2 ^ bits then (z, 0) else ((fun _ => 0), 2)) := by
  rw [r35_Exp_eq]; unfold r35_Exp'
  have hbl := @blen_le_iff E bits
  have hlt := Nat.mod_lt ((x % P) ^ E) hP
  obtain ⟨z, z1, z2⟩ := r01_Int_spec (n := (((x % P) ^ E % P : Nat) : Int)) (by omega)
  refine ⟨z, z2.of_eq (by rw [Int.toNat_natCast, ← Nat.pow_mod]), ?_⟩
  by_cases h : E < 2 ^ bits
  · have := hbl.2 h
    rw [if_pos h]
    simp (disch := omega) only [add_c, add_l, l_add, mul_c, mul_l, l_mul, sub_c, sub_l, l_sub, div_c, div_l, mod_c, mod_l, tdiv_c, tdiv_l, tmod_c, tmod_l, wrap_i64n, wrapun, dec_t, dec_f, inb_t, cond_true, cond_false, Int.toNat_natCast, beq_t, beq_f, bne_t, bne_f, Bool.not_true, Bool.not_false, Int.reduceToNat, ft_b, tf_b, tt_b, ff_b, decide_true, decide_false, r01_Len_spec he, r08_By_spec hb hP p63, r09_Exp_spec he hP p63, z1]
  · have : ¬ blen E ≤ bits := fun hh => h (hbl.1 hh)
    rw [if_neg h]
    simp (disch := omega) only [add_c, add_l, l_add, mul_c, mul_l, l_mul, sub_c, sub_l, l_sub, div_c, div_l, mod_c, mod_l, tdiv_c, tdiv_l, tmod_c, tmod_l, wrap_i64n, wrapun, dec_t, dec_f, inb_t, cond_true, cond_false, Int.toNat_natCast, beq_t, beq_f, bne_t, bne_f, Bool.not_true, Bool.not_false, Int.reduceToNat, ft_b, tf_b, tt_b, ff_b, decide_true, decide_false, r01_Len_spec he]
theorem r35_Multi_spec {n : Nat} (hn : n ≤ 64) (hP : 1 < P) (p63 : P < 9223372036854775808) {bases exps : Nat → Nat → Int} {bits : Nat → Int} {X B E : Nat → Nat} (hX : ∀ i, i < n → IsN (bases i) (X i)) (hB : ∀ i, i < n → bits i = (B i : Int)) (hE : ∀ i, i < n → IsN (exps i) (E i)) :
    ∃ z, IsN z (prodN (fun i => X i ^ E i) n % P) ∧ ((∀ i, i < n → E i < 2 ^ B i) → r35_Multi ((P : Int), (Q : Int), (G : Int)) n bases n bits n exps = some (z, 0)) ∧ (¬ (∀ i, i < n → E i < 2 ^ B i) → r35_Multi ((P : Int), (Q : Int), (G : Int)) n bases n bits n exps = some ((fun _ => 0), 2)) := by
  rw [r35_Multi_eq]; unfold r35_Multi'
  have hlt := Nat.mod_lt (prodN (fun i => X i ^ E i) n) (show 0 < P by omega)
  obtain ⟨z, z1, z2⟩ := r01_Int_spec (n := ((prodN (fun i => X i ^ E i) n % P : Nat) : Int)) (by omega)
  rw [Int.toNat_natCast] at z2
  refine ⟨z, z2, ?_⟩
  simp (disch := omega) only [add_c, add_l, l_add, mul_c, mul_l, l_mul, sub_c, sub_l, l_sub, div_c, div_l, mod_c, mod_l, tdiv_c, tdiv_l, tmod_c, tmod_l, wrap_i64n, wrapun, dec_t, dec_f, inb_t, cond_true, cond_false, Int.toNat_natCast, beq_t, beq_f, bne_t, bne_f, Bool.not_true, Bool.not_false, Int.reduceToNat, ft_b, tf_b, tt_b, ff_b, decide_true, decide_false]
  obtain ⟨y, y1, y2⟩ := loop_seek (R := R_r35_Multi_0) (S := Unit) (fun k _ => T_r35_Multi_0 n bases n bits n exps (k : Int) ((P : Int), (Q : Int), (G : Int)) (fun _ => 0))
    (fun k _ => ∀ i, i < k → E i < 2 ^ B i)
    (fun y => match y with | .inl y1 => y1 = (((), (2, ())), ((fun _ => 0), ())) ∧ ¬ ∀ i, i < n → E i < 2 ^ B i | .inr y1 => y1 = (((n, bases), ((n, exps), ((), ((), ())))), (((P : Int), (Q : Int), (G : Int)), ((fun _ => 0), ()))) ∧ ∀ i, i < n → E i < 2 ^ B i) n
    (fun k hk _ hP => by
      have hbl := @blen_le_iff (E k) (B k)
      by_cases h : E k < 2 ^ B k
      · have := hbl.2 h
        refine .inl ⟨(), ?_, fun i hi => ?_⟩
        · unfold R_r35_Multi_0
          simp (disch := omega) only [add_c, add_l, l_add, mul_c, mul_l, l_mul, sub_c, sub_l, l_sub, div_c, div_l, mod_c, mod_l, tdiv_c, tdiv_l, tmod_c, tmod_l, wrap_i64n, wrapun, dec_t, dec_f, inb_t, cond_true, cond_false, Int.toNat_natCast, beq_t, beq_f, bne_t, bne_f, Bool.not_true, Bool.not_false, Int.reduceToNat, ft_b, tf_b, tt_b, ff_b, decide_true, decide_false, hB k hk, r01_Len_spec (hE k hk)]
        · rcases Nat.lt_succ_iff_lt_or_eq.1 hi with h2 | rfl
          · exact hP i h2
          · exact h
      · have : ¬ blen (E k) ≤ B k := fun hh => h (hbl.1 hh)
        refine .inr ⟨.inl (((), (2, ())), ((fun _ => 0), ())), ?_, rfl, fun hh => h (hh k hk)⟩
        unfold R_r35_Multi_0
        simp (disch := omega) only [add_c, add_l, l_add, mul_c, mul_l, l_mul, sub_c, sub_l, l_sub, div_c, div_l, mod_c, mod_l, tdiv_c, tdiv_l, tmod_c, tmod_l, wrap_i64n, wrapun, dec_t, dec_f, inb_t, cond_true, cond_false, Int.toNat_natCast, beq_t, beq_f, bne_t, bne_f, Bool.not_true, Bool.not_false, Int.reduceToNat, ft_b, tf_b, tt_b, ff_b, decide_true, decide_false, hB k hk, r01_Len_spec (hE k hk)])
    (fun _ hP => by
      unfold R_r35_Multi_0
      refine ⟨.inr (((n, bases), ((n, exps), ((), ((), ())))), (((P : Int), (Q : Int), (G : Int)), ((fun _ => 0), ()))), ?_, rfl, hP⟩
      simp (disch := omega) only [add_c, add_l, l_add, mul_c, mul_l, l_mul, sub_c, sub_l, l_sub, div_c, div_l, mod_c, mod_l, tdiv_c, tdiv_l, tmod_c, tmod_l, wrap_i64n, wrapun, dec_t, dec_f, inb_t, cond_true, cond_false, Int.toNat_natCast, beq_t, beq_f, bne_t, bne_f, Bool.not_true, Bool.not_false, Int.reduceToNat, ft_b, tf_b, tt_b, ff_b, decide_true, decide_false]) () (fun i hi => absurd hi (by omega))
  have y1' : loopF R_r35_Multi_0 (((n, bases), ((n, bits), ((n, exps), ((), ((), (0, ())))))), (((P : Int), (Q : Int), (G : Int)), ((fun _ => 0), ()))) = some y := y1
  simp only [y1']
  rcases y with y | y
  · obtain ⟨rfl, h⟩ := y2
    exact ⟨fun hh => absurd hh h, fun _ => rfl⟩
  · obtain ⟨rfl, h⟩ := y2
    refine ⟨fun _ => ?_, fun h2 => absurd h h2⟩
    simp only [r09_Multi_spec (show n ≤ 9223372036854775807 by omega) hX hE hP p63, z1]
theorem r35_Multi_odd {n m k : Nat} (h : n ≠ k) (hn : n ≤ 9223372036854775807) (hk : k ≤ 9223372036854775807) {bases exps : Nat → Nat → Int} {bits : Nat → Int} : r35_Multi ((P : Int), (Q : Int), (G : Int)) n bases m bits k exps = some ((fun _ => 0), 1) := by
  rw [r35_Multi_eq]; unfold r35_Multi'
  simp (disch := omega) only [add_c, add_l, l_add, mul_c, mul_l, l_mul, sub_c, sub_l, l_sub, div_c, div_l, mod_c, mod_l, tdiv_c, tdiv_l, tmod_c, tmod_l, wrap_i64n, wrapun, dec_t, dec_f, inb_t, cond_true, cond_false, Int.toNat_natCast, beq_t, beq_f, bne_t, bne_f, Bool.not_true, Bool.not_false, Int.reduceToNat, ft_b, tf_b, tt_b, ff_b, decide_true, decide_false]
end
/-! ## What the statements share -/
theorem l35_of_spec {n : Int} (hn : n < 9223372036854775808) : ∃ a, l35_of n = some a ∧ IsN a n.toNat := by
  rw [l35_of_eq]; unfold l35_of'
  obtain ⟨a, h1, h2⟩ := r01_Int_spec hn
  simp only [h1]
  exact ⟨a, rfl, h2⟩
theorem l35_small_of {which : Int} {k : Nat} {l : ChainT} {ga : Nat → Int} {g : GroupT} {P Q G : Nat} (p1 : r07_Pick which = some ((k, l), ga)) (hg : IsPick k l ga g P Q G) (hP : P < 4611686018427387904) (hQ : Q < 2147483648) :
    l35_small which = some (some g, ((P : Int), (Q : Int), (G : Int)), true) := by
  rw [l35_small_eq]; unfold l35_small'
  have hGP := hg.group.gP
  simp only [p1, hg.made, r09_Of_spec hg.k2 (by have := hg.k8; omega) hg.p hg.q hg.gen (show P < 9223372036854775808 by omega) (by omega) (by omega)]
  rfl
theorem l35_small_spec (which : Int) : ∃ (k : Nat) (l : ChainT) (ga : Nat → Int) (g : GroupT) (P Q G : Nat), l35_small which = some (some g, ((P : Int), (Q : Int), (G : Int)), true) ∧ IsPick k l ga g P Q G ∧ P < 4611686018427387904 ∧ Q < 2147483648 := by
  obtain ⟨k, l, ga, g, P, Q, G, p1, hg, hP, hQ⟩ := r07_Pick_spec which
  exact ⟨k, l, ga, g, P, Q, G, l35_small_of p1 hg hP hQ, hg, hP, hQ⟩
/-- the first of the two -/
theorem pick_0 : ∃ (k : Nat) (l : ChainT) (ga : Nat → Int) (g : GroupT) (P Q G : Nat), r07_Pick 0 = some ((k, l), ga) ∧ IsPick k l ga g P Q G ∧ P < 4611686018427387904 ∧ Q < 2147483648 ∧ 1073741824 < Q ∧ 1000000000000000000 < P := by
  obtain ⟨g, hg⟩ := least_pick
  refine ⟨3, leastL, leastG, g, _, _, _, ?_, hg, by decide, by decide, by decide, by decide⟩
  rw [r07_Pick_eq]; unfold r07_Pick'
  have h1 : bitsOp .and .i64 0 1 = 0 := by decide
  simp (disch := omega) only [wrap_i64n, wrapun, dec_t, dec_f, inb_t, cond_true, cond_false, Int.toNat_natCast, beq_t, beq_f, bne_t, bne_f, Bool.not_true, Bool.not_false, Int.reduceToNat, ft_b, tf_b, tt_b, ff_b, decide_true, decide_false, h1, r07_Least_eq2]
theorem pick_1 : ∃ (k : Nat) (l : ChainT) (ga : Nat → Int) (g : GroupT) (P Q G : Nat), r07_Pick 1 = some ((k, l), ga) ∧ IsPick k l ga g P Q G ∧ P < 4611686018427387904 ∧ Q < 2147483648 ∧ 1073741824 < Q ∧ 1000000 < P ∧ P < 500000000000000000 := by
  obtain ⟨g, hg⟩ := other_pick
  refine ⟨3, otherL, otherG, g, _, _, _, ?_, hg, by decide, by decide, by decide, by decide, by decide⟩
  rw [r07_Pick_eq]; unfold r07_Pick'
  have h1 : bitsOp .and .i64 1 1 = 1 := by decide
  simp (disch := omega) only [wrap_i64n, wrapun, dec_t, dec_f, inb_t, cond_true, cond_false, Int.toNat_natCast, beq_t, beq_f, bne_t, bne_f, Bool.not_true, Bool.not_false, Int.reduceToNat, ft_b, tf_b, tt_b, ff_b, decide_true, decide_false, h1, r07_Other_eq2]
theorem tabs_two {t u : TabT} {r r' : RingT} {M x y bits c : Nat} (h : IsTab t r M x bits) (h' : IsTab u r' M y c) : Tabs 2 (fun j => (upd (upd (fun _ => .nil) 0 (.fz t)) 1 (.fz u)) (0 + j)) M (fun i => if i = 0 then x else y) (fun i => if i = 0 then bits else c) := fun i hi => by
  rcases (show i = 0 ∨ i = 1 by omega) with rfl | rfl
  · exact ⟨t, r, rfl, h⟩
  · exact ⟨u, r', rfl, h'⟩
theorem l35_awake_spec : l35_awake = some true := by
  rw [l35_awake_eq]; unfold l35_awake'
  obtain ⟨k, l, ga, g, P, Q, G, p1, hg, hP, hQ, _, hP2⟩ := pick_0
  have s1 := l35_small_of p1 hg hP hQ
  have hgg := hg.group
  obtain ⟨a3, a3a, a3b⟩ := l35_of_spec (n := 3) (by decide)
  obtain ⟨a5, a5a, a5b⟩ := l35_of_spec (n := 5) (by decide)
  obtain ⟨a256, a256a, a256b⟩ := l35_of_spec (n := 256) (by decide)
  obtain ⟨a2, a2a, a2b⟩ := l35_of_spec (n := 2) (by decide)
  obtain ⟨a4, a4a, a4b⟩ := l35_of_spec (n := 4) (by decide)
  obtain ⟨a243, a243a, a243b⟩ := l35_of_spec (n := 243) (by decide)
  obtain ⟨a729, a729a, a729b⟩ := l35_of_spec (n := 729) (by decide)
  obtain ⟨t, r, t1, t2, t3⟩ := comb_New_spec hgg a3b (bits := 8) (show Int.toNat 3 < P by have : Int.toNat 3 = 3 := rfl; omega) (by decide) (by decide)
  have t1' : comb_New (some g) a3 8 = some (some t, 0) := t1
  obtain ⟨x, x1, x2⟩ := comb_Exp_spec t2 a5b (by decide)
  have y1 := comb_Exp_full t2 a256b (by decide)
  obtain ⟨m, m1, m2⟩ := (comb_Multi_spec (n := 2) (by decide) hgg.pp.1 (tabs_two t2 t2) (two_nats a2b a4b)).1 (fun i hi => by
    rcases (show i = 0 ∨ i = 1 by omega) with rfl | rfl <;> decide)
  have x3 : IsN x (Int.toNat 243) := x2.of_eq (Nat.mod_eq_of_lt (show 243 < P by omega))
  have m3 : IsN m (Int.toNat 729) := m2.of_eq (Nat.mod_eq_of_lt (show 729 < P by omega))
  have hB := comb_Bits_spec t2
  have hA := comb_Base_spec t2
  have hB' : comb_Table_Bits (some t) = some 8 := hB
  simp (disch := first | omega | decide) only [wrap_i64n, wrapun, dec_t, dec_f, inb_t, cond_true, cond_false, Int.toNat_natCast, beq_t, beq_f, bne_t, bne_f, Bool.not_true, Bool.not_false, Int.reduceToNat, ft_b, tf_b, tt_b, ff_b, decide_true, decide_false, s1, a3a, a5a, a256a, a2a, a4a, a243a, a729a, t1', x1, y1, m1, hB', hA, t3, x3.eqb a243b, m3.eqb a729b, a3b.eqb a3b]
end Go.Pl
