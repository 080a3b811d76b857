/-
  What the statements of a layer share.
-/
import Derived.Test.YtennopklknlecaaDenD
import Derived.Test.YtennopklknlecaaPlA
import Derived.Test.YtennopklknlecaaPtape
import Derived.Test.YtennopklknlecaaEqA
import Derived.Test.YtennopklknlecaaDenF
import Derived.Test.YtennopklknlecaaEtape
import Derived.Test.YtennopklknlecaaMT
import Derived.Test.YtennopklknlecaaMD
import Derived.Test.YtennopklknlecaaME
set_option linter.unusedVariables false
set_option linter.unusedSimpArgs false
set_option maxRecDepth 100000
set_option maxHeartbeats 0
namespace Go.Pl
end Go.Pl
open Go Go.Den Go.Pl
namespace Go.Pl
noncomputable def l10_awake'  : Option (Bool) :=
 match r07_Least with
 | none => none
 | some r => (
  match (group_New ((r.1.1, r.1.2), r.2)) with
  | none => none
  | some r1 => (
   match r1.1 with
   | none => (
    match (tape_New_m (ByteArray.mk #[255, 255, 255, 255, 128, 0, 0, 7, 114, 101, 115, 116])) with
    | none => none
    | some y5 => (
     match y5 with
     | .inl y6 => (
      let r12 := y6.1.2.1
      bif (r1.2 != 0) then (
       some false)
      else (
       bif (r12 != 0) then (
        some false)
       else (
        some false)))
     | .inr y6 => (
      let r13 := y6.1.2.1
      let o4 := y6.2.1
      bif (r1.2 != 0) then (
       some false)
      else (
       bif (r13 != 0) then (
        some false)
       else (
        match (tape_Tape_Draw_m none o4) with
        | none => none
        | some y7 => (
         let r14 := y7.1.1
         let r15 := y7.1.2.1
         let o5 := y7.2.1
         match (tape_Tape_Bytes_m 4 o5) with
         | none => none
         | some y8 => (
          let r16 := y8.1.1
          let r17 := y8.1.2.1
          let o6 := y8.2.1
          match (tape_Tape_Draw_m none o6) with
          | none => none
          | some y9 => (
           let r18 := y9.1.1
           let r19 := y9.1.2.1
           let o7 := y9.2.1
           match (r01_Int 7) with
           | none => none
           | some r20 => (
            bif (eqF (.arr 4 (.int .u64)) r14 r20) then (
             bif (r15 == 0) then (
              bif (sEq r16 (ByteArray.mk #[114, 101, 115, 116])) then (
               bif (r17 == 0) then (
                bif (r19 == 5) then (
                 match (tape_Tape_Left (some o7)) with
                 | none => none
                 | some r21 => (
                  some (r21 == 0)))
                else (
                 some false))
               else (
                some false))
              else (
               some false))
             else (
              some false))
            else (
             some false))))))))))
   | some p => (
    match (tape_New_m (ByteArray.mk #[255, 255, 255, 255, 128, 0, 0, 7, 114, 101, 115, 116])) with
    | none => none
    | some y => (
     match y with
     | .inl y1 => (
      let r2 := y1.1.2.1
      bif (r1.2 != 0) then (
       some false)
      else (
       bif (r2 != 0) then (
        some false)
       else (
        some false)))
     | .inr y1 => (
      let r3 := y1.1.2.1
      let o := y1.2.1
      bif (r1.2 != 0) then (
       some false)
      else (
       bif (r3 != 0) then (
        some false)
       else (
        match (tape_Tape_Draw_m (some p) o) with
        | none => none
        | some y2 => (
         let r4 := y2.1.1
         let r5 := y2.1.2.1
         let o1 := y2.2.1
         match (tape_Tape_Bytes_m 4 o1) with
         | none => none
         | some y3 => (
          let r6 := y3.1.1
          let r7 := y3.1.2.1
          let o2 := y3.2.1
          match (tape_Tape_Draw_m (some p) o2) with
          | none => none
          | some y4 => (
           let r8 := y4.1.1
           let r9 := y4.1.2.1
           let o3 := y4.2.1
           match (r01_Int 7) with
           | none => none
           | some r10 => (
            bif (eqF (.arr 4 (.int .u64)) r4 r10) then (
             bif (r5 == 0) then (
              bif (sEq r6 (ByteArray.mk #[114, 101, 115, 116])) then (
               bif (r7 == 0) then (
                bif (r9 == 5) then (
                 match (tape_Tape_Left (some o3)) with
                 | none => none
                 | some r11 => (
                  some (r11 == 0)))
                else (
                 some false))
               else (
                some false))
              else (
               some false))
             else (
              some false))
            else (
             some false))))))))))))
noncomputable def l10_awake : Option (Bool) := veil l10_awake'
theorem l10_awake_eq : l10_awake = l10_awake' := veil_eq _
end Go.Pl

set_option linter.unusedVariables false
set_option linter.unusedSimpArgs false
set_option maxRecDepth 100000
set_option maxHeartbeats 0
namespace Go.Pl
end Go.Pl
open Go Go.Den Go.Pl
namespace Go.Proofs.Ytennopklknlecaa
noncomputable def c_l10_awake : Con := conV true [] [.bool] fun x => l10_awake 
noncomputable def x_l10_awake : Cx := { ti := ti, con := [(19, c_r07_Least), (22, c_group_New), (16, c_tape_New_m), (26, conIf 0 c_tape_Tape_Draw_m c_tape_Tape_Draw), (17, conIf 0 c_tape_Tape_Bytes_m c_tape_Tape_Bytes), (31, c_r01_Int), (18, c_tape_Tape_Left)], fns := [], un := 6 }
theorem xok_l10_awake : CxOk Try.prog x_l10_awake := CxOk.of mixed ti_ok (List.forall_mem_cons.2 ⟨con_r07_Least, List.forall_mem_cons.2 ⟨con_group_New, List.forall_mem_cons.2 ⟨con_tape_New_m, List.forall_mem_cons.2 ⟨conIf_ok con_tape_Tape_Draw_m con_tape_Tape_Draw, List.forall_mem_cons.2 ⟨conIf_ok con_tape_Tape_Bytes_m con_tape_Tape_Bytes, List.forall_mem_cons.2 ⟨con_r01_Int, List.forall_mem_cons.2 ⟨con_tape_Tape_Left, List.forall_mem_nil _⟩⟩⟩⟩⟩⟩⟩) (List.forall_mem_nil _)
theorem fn_l10_awake : FnOk Try.prog 15 Try.f15 [] := ⟨Try.func15, Try.call15, lps_nil⟩
theorem e_l10_awake  : bodyK x_l10_awake [] (denF x_l10_awake 8) Try.f15 (domV [] (())) [] 0 (kOut [.bool]) = l10_awake'  := by kernel_rfl
theorem con_l10_awake : ConOk Try.prog 15 c_l10_awake := con_ok xok_l10_awake 8 fn_l10_awake true [] [.bool] _ (by decide) (fun x => by rw [l10_awake_eq]; exact e_l10_awake )
end Go.Proofs.Ytennopklknlecaa

set_option linter.unusedVariables false
set_option linter.unusedSimpArgs false
namespace Go.Pl
open Go Go.Den Go.Num

theorem tape_New_m_spec {s : ByteArray} (h : (bl s).length ≤ 65536) : tape_New_m s = some (.inr (((), (0, ())), ((true, s), ()))) := by
  rw [tape_New_m_eq]; unfold tape_New_m'
  rw [← bl_size] at h
  simp (disch := omega) only [wrap_i64n, wrapun, dec_t, dec_f, inb_t, cond_true, cond_false, Int.toNat_natCast, beq_t, beq_f, bne_t, bne_f, Bool.not_true, Bool.not_false, Int.reduceToNat, ft_b, tf_b, tt_b, ff_b, decide_true, decide_false]
theorem tape_New_m_full {s : ByteArray} (h : 65536 < (bl s).length) : tape_New_m s = some (.inl (((), (2, ())), ())) := by
  rw [tape_New_m_eq]; unfold tape_New_m'
  rw [← bl_size] at h
  simp (disch := omega) only [wrap_i64n, wrapun, dec_t, dec_f, inb_t, cond_true, cond_false, Int.toNat_natCast, beq_t, beq_f, bne_t, bne_f, Bool.not_true, Bool.not_false, Int.reduceToNat, ft_b, tf_b, tt_b, ff_b, decide_true, decide_false]
theorem blen_mid {n k : Nat} (h1 : 2 ^ k ≤ n) (h2 : n < 2 ^ (k + 1)) : blen n = k + 1 := by
  have a := blen_le_iff (n := n) (L := k + 1)
  have b := blen_le_iff (n := n) (L := k)
  omega
theorem three_row {i : Nat} (hi : i < 3) : ∃ (k : Nat) (l : ChainT) (ga : Nat → Int) (g : GroupT) (P Q G : Nat), (upd (upd (upd (fun _ => (.nil, fun _ => 0)) 0 ((.fz 3 leastL), leastG)) 1 ((.fz 3 otherL), otherG)) 2 ((.fz 5 greatL), greatG) : Nat → SlV ((Nat → Int) × Int) × (Nat → Int)) (0 + i) = (.fz k l, ga) ∧ IsPick k l ga g P Q G := by
  match i, hi with
  | 0, _ =>
    obtain ⟨g, hg⟩ := least_pick
    exact ⟨3, leastL, leastG, g, _, _, _, rfl, hg⟩
  | 1, _ =>
    obtain ⟨g, hg⟩ := other_pick
    exact ⟨3, otherL, otherG, g, _, _, _, rfl, hg⟩
  | 2, _ =>
    obtain ⟨g, P, Q, G, hg⟩ := great_pick
    exact ⟨5, greatL, greatG, g, P, Q, G, rfl, hg⟩
theorem r08_Same_spec {n : Nat} (hn : n ≤ 9223372036854775807) {a b : Nat → Nat → Int} {xs : List Nat} (hx : xs.length = n) (ha : IsNs a xs) (hb : IsNs b xs) : r08_Same n a n b = some true := by
  rw [r08_Same_eq]; unfold r08_Same'
  obtain ⟨y, y1, _⟩ := loop_for (R := R_r08_Same_0) (fun i (s : Unit) => T_r08_Same_0 n a n b (i : Int)) (fun _ => Y_r08_Same_0_1) (fun _ _ => True) n
    (fun i hi s _ => by
      refine ⟨(), ?_, trivial⟩
      unfold R_r08_Same_0
      have := (ha i (by omega)).eqb (hb i (by omega))
      simp (disch := omega) only [add_c, add_l, l_add, mul_c, mul_l, l_mul, sub_c, sub_l, l_sub, div_c, div_l, mod_c, mod_l, tdiv_c, tdiv_l, tmod_c, tmod_l, wrap_i64n, wrapun, dec_t, dec_f, inb_t, cond_true, cond_false, Int.toNat_natCast, beq_t, beq_f, bne_t, bne_f, Bool.not_true, Bool.not_false, Int.reduceToNat, ft_b, tf_b, tt_b, ff_b, decide_true, decide_false, this])
    (fun s _ => by
      unfold R_r08_Same_0
      simp (disch := omega) only [add_c, add_l, l_add, mul_c, mul_l, l_mul, sub_c, sub_l, l_sub, div_c, div_l, mod_c, mod_l, tdiv_c, tdiv_l, tmod_c, tmod_l, wrap_i64n, wrapun, dec_t, dec_f, inb_t, cond_true, cond_false, Int.toNat_natCast, beq_t, beq_f, bne_t, bne_f, Bool.not_true, Bool.not_false, Int.reduceToNat, ft_b, tf_b, tt_b, ff_b, decide_true, decide_false]) () trivial
  have y1' : loopF R_r08_Same_0 (((n, a), ((n, b), (0, ()))), ()) = some Y_r08_Same_0_1 := y1
  simp (disch := omega) only [wrap_i64n, wrapun, dec_t, dec_f, inb_t, cond_true, cond_false, Int.toNat_natCast, beq_t, beq_f, bne_t, bne_f, Bool.not_true, Bool.not_false, Int.reduceToNat, ft_b, tf_b, tt_b, ff_b, decide_true, decide_false, y1']
theorem l10_awake_spec : l10_awake = some true := by
  rw [l10_awake_eq]; unfold l10_awake'
  obtain ⟨g, hg⟩ := least_pick
  have hb : blen 1966023127 = 31 := blen_mid (k := 30) (by decide) (by decide)
  have hd : dN 1966023127 = 4 := by simp only [dN, hb]
  have d1 := Draw_m_spec hg.group (ByteArray.mk #[255, 255, 255, 255, 128, 0, 0, 7, 114, 101, 115, 116])
  rw [hb, hd] at d1
  have e1 : drawL 4 31 1966023127 ((bl (ByteArray.mk #[255, 255, 255, 255, 128, 0, 0, 7, 114, 101, 115, 116])).length + 1) (bl (ByteArray.mk #[255, 255, 255, 255, 128, 0, 0, 7, 114, 101, 115, 116])) = some (7, [114, 101, 115, 116]) := by decide +kernel
  rw [e1] at d1
  obtain ⟨z, b', z1, z2, z3⟩ := d1
  have hl : (bl b').length = 4 := by rw [z3]; rfl
  have c1 := tape_Bytes_spec (n := 4) (b := b') (by omega)
  have hs : bl (b'.extract 4 b'.size) = [] := by rw [bl_rest, z3]; rfl
  have d2 := Draw_m_spec hg.group (b'.extract 4 b'.size)
  rw [hs, hb, hd] at d2
  have e2 : drawL 4 31 1966023127 (([] : List UInt8).length + 1) [] = none := by decide +kernel
  rw [e2] at d2
  have hf : sEq (b'.extract 0 4) (ByteArray.mk #[114, 101, 115, 116]) = true := sEq_of (by rw [bl_front, z3]; rfl)
  obtain ⟨a, a1, a2⟩ := r01_Int_spec (n := 7) (by decide)
  have hn : tape_New_m (ByteArray.mk #[255, 255, 255, 255, 128, 0, 0, 7, 114, 101, 115, 116]) = _ := tape_New_m_spec (by decide +kernel)
  have hle : tape_Tape_Left (some (true, b'.extract 4 b'.size)) = some 0 := by rw [tape_Left_spec, hs]; rfl
  have c1' : tape_Tape_Bytes_m 4 (true, b') = _ := c1
  simp (disch := first | omega | decide) only [wrap_i64n, wrapun, dec_t, dec_f, inb_t, cond_true, cond_false, Int.toNat_natCast, beq_t, beq_f, bne_t, bne_f, Bool.not_true, Bool.not_false, Int.reduceToNat, ft_b, tf_b, tt_b, ff_b, decide_true, decide_false, r07_Least_eq2, hg.made, hn, z1, c1', d2, a1, z2.eqb a2, hf, hle]
end Go.Pl
