/-
  One statement, plainly.
-/
import Derived.Test.YtennopklknlecaaDenD
import Derived.Test.YtennopklknlecaaPlA
import Derived.Test.YtennopklknlecaaL10
import Derived.Test.YtennopklknlecaaPtape
import Derived.Test.YtennopklknlecaaEqA
import Derived.Test.YtennopklknlecaaDenF
import Derived.Test.YtennopklknlecaaEtape
set_option linter.unusedVariables false
set_option linter.unusedSimpArgs false
set_option maxRecDepth 100000
set_option maxHeartbeats 0
namespace Go.Pl
end Go.Pl
open Go Go.Den Go.Pl
namespace Go.Pl
noncomputable def l10_TapeEven' (which : Int) (a : (Nat → Int)) : Option (Unit) :=
 match (r07_Pick which) with
 | none => none
 | some r => (
  match (group_New ((r.1.1, r.1.2), r.2)) with
  | none => none
  | some r1 => (
   match r1.1 with
   | none => (
    match (r07_Q ((r.1.1, r.1.2), r.2)) with
    | none => none
    | some r18 => (
     match (r01_Low r18) with
     | none => none
     | some r19 => (
      match (r08_By a r19.1) with
      | none => none
      | some r20 => (
       bif (r1.2 != 0) then (
        none)
       else (
        let t2 := (bytesOf 4 (fun j => (upd (upd (upd (upd (fun _ => 0) 0 (IntKind.u8.wrap (IntKind.i64.wrap ((bitsOp .and .i64 (shrI .i64 r20 24) 255) + 0)))) 1 (IntKind.u8.wrap (bitsOp .and .i64 (shrI .i64 r20 16) 255))) 2 (IntKind.u8.wrap (bitsOp .and .i64 (shrI .i64 r20 8) 255))) 3 (IntKind.u8.wrap (bitsOp .and .i64 r20 255))) (0 + j)))
        match (tape_New_m t2) with
        | none => none
        | some y6 => (
         match y6 with
         | .inl y7 => (
          let r21 := y7.1.2.1
          bif (r21 != 0) then (
           none)
          else (
           none))
         | .inr y7 => (
          let r22 := y7.1.2.1
          let o4 := y7.2.1
          bif (r22 != 0) then (
           none)
          else (
           match (tape_Tape_Draw_m none o4) with
           | none => none
           | some y8 => (
            let r23 := y8.1.1
            let r24 := y8.1.2.1
            let o5 := y8.2.1
            match (r01_Int r20) with
            | none => none
            | some r25 => (
             bif (!(eqF (.arr 4 (.int .u64)) r23 r25)) then (
              none)
             else (
              bif (r24 != 0) then (
               none)
              else (
               match (tape_Tape_Left (some o5)) with
               | none => none
               | some r26 => (
                bif (r26 != 0) then (
                 none)
                else (
                 let t3 := (bytesOf 4 (fun j => (upd (upd (upd (upd (fun _ => 0) 0 (IntKind.u8.wrap (IntKind.i64.wrap ((bitsOp .and .i64 (shrI .i64 r20 24) 255) + 128)))) 1 (IntKind.u8.wrap (bitsOp .and .i64 (shrI .i64 r20 16) 255))) 2 (IntKind.u8.wrap (bitsOp .and .i64 (shrI .i64 r20 8) 255))) 3 (IntKind.u8.wrap (bitsOp .and .i64 r20 255))) (0 + j)))
                 match (tape_New_m t3) with
                 | none => none
                 | some y9 => (
                  match y9 with
                  | .inl y10 => (
                   let r27 := y10.1.2.1
                   bif (r27 != 0) then (
                    none)
                   else (
                    none))
                  | .inr y10 => (
                   let r28 := y10.1.2.1
                   let o6 := y10.2.1
                   bif (r28 != 0) then (
                    none)
                   else (
                    match (tape_Tape_Draw_m none o6) with
                    | none => none
                    | some y11 => (
                     let r29 := y11.1.1
                     let r30 := y11.1.2.1
                     let o7 := y11.2.1
                     match (r01_Int r20) with
                     | none => none
                     | some r31 => (
                      bif (!(eqF (.arr 4 (.int .u64)) r29 r31)) then (
                       none)
                      else (
                       bif (r30 != 0) then (
                        none)
                       else (
                        match (tape_Tape_Left (some o7)) with
                        | none => none
                        | some r32 => (
                         bif (r32 != 0) then (
                          none)
                         else (
                          match l10_awake with
                          | none => none
                          | some r33 => (
                           bif r33 then (
                            some ())
                           else (
                            none)))))))))))))))))))))))))
   | some p => (
    match (r07_Q ((r.1.1, r.1.2), r.2)) with
    | none => none
    | some r2 => (
     match (r01_Low r2) with
     | none => none
     | some r3 => (
      match (r08_By a r3.1) with
      | none => none
      | some r4 => (
       bif (r1.2 != 0) then (
        none)
       else (
        let t := (bytesOf 4 (fun j => (upd (upd (upd (upd (fun _ => 0) 0 (IntKind.u8.wrap (IntKind.i64.wrap ((bitsOp .and .i64 (shrI .i64 r4 24) 255) + 0)))) 1 (IntKind.u8.wrap (bitsOp .and .i64 (shrI .i64 r4 16) 255))) 2 (IntKind.u8.wrap (bitsOp .and .i64 (shrI .i64 r4 8) 255))) 3 (IntKind.u8.wrap (bitsOp .and .i64 r4 255))) (0 + j)))
        match (tape_New_m t) with
        | none => none
        | some y => (
         match y with
         | .inl y1 => (
          let r5 := y1.1.2.1
          bif (r5 != 0) then (
           none)
          else (
           none))
         | .inr y1 => (
          let r6 := y1.1.2.1
          let o := y1.2.1
          bif (r6 != 0) then (
           none)
          else (
           match (tape_Tape_Draw_m (some p) o) with
           | none => none
           | some y2 => (
            let r7 := y2.1.1
            let r8 := y2.1.2.1
            let o1 := y2.2.1
            match (r01_Int r4) with
            | none => none
            | some r9 => (
             bif (!(eqF (.arr 4 (.int .u64)) r7 r9)) then (
              none)
             else (
              bif (r8 != 0) then (
               none)
              else (
               match (tape_Tape_Left (some o1)) with
               | none => none
               | some r10 => (
                bif (r10 != 0) then (
                 none)
                else (
                 let t1 := (bytesOf 4 (fun j => (upd (upd (upd (upd (fun _ => 0) 0 (IntKind.u8.wrap (IntKind.i64.wrap ((bitsOp .and .i64 (shrI .i64 r4 24) 255) + 128)))) 1 (IntKind.u8.wrap (bitsOp .and .i64 (shrI .i64 r4 16) 255))) 2 (IntKind.u8.wrap (bitsOp .and .i64 (shrI .i64 r4 8) 255))) 3 (IntKind.u8.wrap (bitsOp .and .i64 r4 255))) (0 + j)))
                 match (tape_New_m t1) with
                 | none => none
                 | some y3 => (
                  match y3 with
                  | .inl y4 => (
                   let r11 := y4.1.2.1
                   bif (r11 != 0) then (
                    none)
                   else (
                    none))
                  | .inr y4 => (
                   let r12 := y4.1.2.1
                   let o2 := y4.2.1
                   bif (r12 != 0) then (
                    none)
                   else (
                    match (tape_Tape_Draw_m (some p) o2) with
                    | none => none
                    | some y5 => (
                     let r13 := y5.1.1
                     let r14 := y5.1.2.1
                     let o3 := y5.2.1
                     match (r01_Int r4) with
                     | none => none
                     | some r15 => (
                      bif (!(eqF (.arr 4 (.int .u64)) r13 r15)) then (
                       none)
                      else (
                       bif (r14 != 0) then (
                        none)
                       else (
                        match (tape_Tape_Left (some o3)) with
                        | none => none
                        | some r16 => (
                         bif (r16 != 0) then (
                          none)
                         else (
                          match l10_awake with
                          | none => none
                          | some r17 => (
                           bif r17 then (
                            some ())
                           else (
                            none)))))))))))))))))))))))))))
end Go.Pl

set_option linter.unusedVariables false
set_option linter.unusedSimpArgs false
set_option maxRecDepth 100000
set_option maxHeartbeats 0
namespace Go.Pl
end Go.Pl
open Go Go.Den Go.Pl
namespace Go.Proofs.Ytennopklknlecaa
noncomputable def x_l10_TapeEven : Cx := { ti := ti, con := [(28, c_r07_Pick), (22, c_group_New), (24, c_r07_Q), (29, c_r01_Low), (30, c_r08_By), (16, c_tape_New_m), (26, conIf 0 c_tape_Tape_Draw_m c_tape_Tape_Draw), (31, c_r01_Int), (18, c_tape_Tape_Left), (15, c_l10_awake)], fns := [], un := 6 }
theorem xok_l10_TapeEven : CxOk Try.prog x_l10_TapeEven := CxOk.of mixed ti_ok (List.forall_mem_cons.2 ⟨con_r07_Pick, List.forall_mem_cons.2 ⟨con_group_New, List.forall_mem_cons.2 ⟨con_r07_Q, List.forall_mem_cons.2 ⟨con_r01_Low, List.forall_mem_cons.2 ⟨con_r08_By, List.forall_mem_cons.2 ⟨con_tape_New_m, List.forall_mem_cons.2 ⟨conIf_ok con_tape_Tape_Draw_m con_tape_Tape_Draw, List.forall_mem_cons.2 ⟨con_r01_Int, List.forall_mem_cons.2 ⟨con_tape_Tape_Left, List.forall_mem_cons.2 ⟨con_l10_awake, List.forall_mem_nil _⟩⟩⟩⟩⟩⟩⟩⟩⟩⟩) (List.forall_mem_nil _)
theorem fn_l10_TapeEven : FnOk Try.prog 5 Try.f5 [] := ⟨Try.func5, Try.call5, lps_nil⟩
theorem e_l10_TapeEven (which : Int) (a : (Nat → Int)) : bodyK x_l10_TapeEven [] (denF x_l10_TapeEven 8) Try.f5 (domV [(.int .i64), (.arr 4 (.int .u64))] (which, a, ())) [] 0 kTrue = l10_TapeEven' which a := by kernel_rfl
end Go.Proofs.Ytennopklknlecaa

set_option linter.unusedVariables false
set_option linter.unusedSimpArgs false
namespace Go.Pl
open Go Go.Den Go.Num

/-- the two small groups: what the order is -/
theorem r07_Pick_32 (which : Int) : ∃ k l ga g P Q G, r07_Pick which = some ((k, l), ga) ∧ IsPick k l ga g P Q G ∧ 1073741824 ≤ Q ∧ Q < 2147483648 := by
  rw [r07_Pick_eq]; unfold r07_Pick'
  have hm : bitsOp .and .i64 which 1 = which % (2 ^ 1 : Nat) := andMask (k := 1) (by decide)
  by_cases h : which % 2 = 1
  · have h1 : bitsOp .and .i64 which 1 = 1 := by rw [hm]; exact h
    simp (disch := omega) only [wrap_i64n, wrapun, dec_t, dec_f, inb_t, cond_true, cond_false, Int.toNat_natCast, beq_t, beq_f, bne_t, bne_f, Bool.not_true, Bool.not_false, Int.reduceToNat, ft_b, tf_b, tt_b, ff_b, decide_true, decide_false, h1, r07_Other_eq2]
    obtain ⟨g, hg⟩ := other_pick
    exact ⟨3, otherL, otherG, g, _, _, _, rfl, hg, by decide, by decide⟩
  · have h1 : bitsOp .and .i64 which 1 = 0 := by rw [hm]; omega
    simp (disch := omega) only [wrap_i64n, wrapun, dec_t, dec_f, inb_t, cond_true, cond_false, Int.toNat_natCast, beq_t, beq_f, bne_t, bne_f, Bool.not_true, Bool.not_false, Int.reduceToNat, ft_b, tf_b, tt_b, ff_b, decide_true, decide_false, h1, r07_Least_eq2]
    obtain ⟨g, hg⟩ := least_pick
    exact ⟨3, leastL, leastG, g, _, _, _, rfl, hg, by decide, by decide⟩
/-- four bytes, drawn -/
theorem draw_four {n top : Nat} (hn : n < 2147483648) (ht : top < 2) {f : Nat → Int} (h0 : f 0 = ((n / 16777216 % 256 + top * 128 : Nat) : Int)) (h1 : f 1 = ((n / 65536 % 256 : Nat) : Int)) (h2 : f 2 = ((n / 256 % 256 : Nat) : Int)) (h3 : f 3 = ((n % 256 : Nat) : Int))
    {Q : Nat} (hQ : n < Q) {m : Nat} : drawL 4 31 Q (m + 1) (bl (bytesOf 4 f)) = some (n, []) := by
  rw [bl_bytesOf]
  have e : (List.range 4).map (fun i => UInt8.ofNat (f i).toNat) = [UInt8.ofNat (n / 16777216 % 256 + top * 128), UInt8.ofNat (n / 65536 % 256), UInt8.ofNat (n / 256 % 256), UInt8.ofNat (n % 256)] := by
    simp only [show List.range 4 = [0, 1, 2, 3] from rfl, List.map_cons, List.map_nil, h0, h1, h2, h3, Int.toNat_natCast]
  rw [e]
  have hv : numB [UInt8.ofNat (n / 16777216 % 256 + top * 128), UInt8.ofNat (n / 65536 % 256), UInt8.ofNat (n / 256 % 256), UInt8.ofNat (n % 256)] = n + top * 2147483648 := by
    simp only [numB, List.reverse_cons, List.reverse_nil, List.nil_append, List.cons_append, valB, UInt8.toNat_ofNat']
    omega
  have hv2 : (n + top * 2147483648) % 2 ^ 31 = n := by omega
  simp only [drawL, List.length_cons, List.length_nil, List.take, hv, hv2, if_pos hQ]
  simp
theorem sum_bits {n k : Nat} (hn : n < 2147483648) (hk : k < 32) : bitsOp .and .i64 (shrI .i64 (n : Int) (k : Int)) 255 = ((n / 2 ^ k % 256 : Nat) : Int) := by
  rw [shrS (by omega)]
  have hm : bitsOp .and .i64 ((n / 2 ^ k : Nat) : Int) 255 = ((n / 2 ^ k : Nat) : Int) % (2 ^ 8 : Nat) := andMask (k := 8) (by decide)
  rw [hm]; rfl
theorem l10_TapeEven_true {which : Int} {a : Nat → Int} (hw : Go.Den.Good (.int .i64) which) (ha : Go.Den.Good (.arr 4 (.int .u64)) a) : l10_TapeEven' which a = some () := by
  obtain ⟨x, hx⟩ := good_nat ha
  obtain ⟨k, l, ga, g, P, Q, G, p1, hg, hQ1, hQ2⟩ := r07_Pick_32 which
  have hgg := hg.group
  have hqpos := hgg.qpos
  have hlt := Nat.mod_lt x hqpos
  unfold l10_TapeEven'
  have hb : blen Q = 31 := blen_mid (k := 30) (by omega) (by omega)
  have hd : dN Q = 4 := by simp only [dN, hb]
  obtain ⟨n, hn⟩ : ∃ n, n = x % Q := ⟨_, rfl⟩
  rw [← hn] at hlt
  have b0 : bitsOp .and .i64 (n : Int) 255 = ((n % 256 : Nat) : Int) := by
    have hm : bitsOp .and .i64 (n : Int) 255 = (n : Int) % (2 ^ 8 : Nat) := andMask (k := 8) (by decide)
    rw [hm]; rfl
  have b1 : bitsOp .and .i64 (shrI .i64 (n : Int) 8) 255 = ((n / 256 % 256 : Nat) : Int) := sum_bits (k := 8) (by omega) (by decide)
  have b2 : bitsOp .and .i64 (shrI .i64 (n : Int) 16) 255 = ((n / 65536 % 256 : Nat) : Int) := sum_bits (k := 16) (by omega) (by decide)
  have b3 : bitsOp .and .i64 (shrI .i64 (n : Int) 24) 255 = ((n / 16777216 % 256 : Nat) : Int) := sum_bits (k := 24) (by omega) (by decide)
  have w8 : ∀ m : Nat, m < 256 → IntKind.u8.wrap (m : Int) = (m : Int) := fun m hm => by
    exact wrapu8 (by omega)
  obtain ⟨o, o1, o2⟩ := r01_Int_spec (n := (n : Int)) (by omega)
  rw [Int.toNat_natCast] at o2
  simp only [p1, hg.made, hg.rQ, r01_Low_spec hg.q, if_pos (show Q < 9223372036854775808 by omega), r08_By_spec hx hqpos (show Q < 9223372036854775808 by omega), ← hn]
  simp (disch := omega) only [add_c, add_l, l_add, mul_c, mul_l, l_mul, sub_c, sub_l, l_sub, div_c, div_l, mod_c, mod_l, tdiv_c, tdiv_l, tmod_c, tmod_l, wrap_i64n, wrapun, dec_t, dec_f, inb_t, cond_true, cond_false, Int.toNat_natCast, beq_t, beq_f, bne_t, bne_f, Bool.not_true, Bool.not_false, Int.reduceToNat, ft_b, tf_b, tt_b, ff_b, decide_true, decide_false, b0, b1, b2, b3, w8]
  have hfour : ∀ f : Nat → Int, bl (bytesOf 4 f) = (List.range 4).map (fun i => UInt8.ofNat (f i).toNat) := fun f => rfl
  have hdr : ∀ (top : Nat) (f : Nat → Int), top < 2 → f 0 = ((n / 16777216 % 256 + top * 128 : Nat) : Int) → f 1 = ((n / 65536 % 256 : Nat) : Int) → f 2 = ((n / 256 % 256 : Nat) : Int) → f 3 = ((n % 256 : Nat) : Int) →
      tape_New_m (bytesOf 4 f) = some (.inr (((), (0, ())), ((true, bytesOf 4 f), ()))) ∧ ∃ z b', tape_Tape_Draw_m (some g) (true, bytesOf 4 f) = some ((z, (0, ())), ((true, b'), ())) ∧ IsN z n ∧ bl b' = [] := fun top f ht h0 h1 h2 h3 => by
    refine ⟨tape_New_m_spec (by rw [bl_bytesOf]; simp), ?_⟩
    have q := Draw_m_spec hgg (bytesOf 4 f)
    rw [hb, hd, draw_four (by omega) ht h0 h1 h2 h3 hlt] at q
    exact q
  obtain ⟨n0, z0, c0, r0, s0, t0⟩ := hdr 0 (fun j => upd (upd (upd (upd (fun _ => 0) 0 ((n / 16777216 % 256 + 0 : Nat) : Int)) 1 ((n / 65536 % 256 : Nat) : Int)) 2 ((n / 256 % 256 : Nat) : Int)) 3 ((n % 256 : Nat) : Int) (0 + j)) (by decide) rfl rfl rfl rfl
  obtain ⟨n1, z1, c1, r1, s1, t1⟩ := hdr 1 (fun j => upd (upd (upd (upd (fun _ => 0) 0 ((n / 16777216 % 256 + 128 : Nat) : Int)) 1 ((n / 65536 % 256 : Nat) : Int)) 2 ((n / 256 % 256 : Nat) : Int)) 3 ((n % 256 : Nat) : Int) (0 + j)) (by decide) (by simp [upd]) rfl rfl rfl
  have k0 : tape_Tape_Left (some (true, c0)) = some 0 := by rw [tape_Left_spec, t0]; rfl
  have k1 : tape_Tape_Left (some (true, c1)) = some 0 := by rw [tape_Left_spec, t1]; rfl
  simp (disch := first | omega | decide) only [wrap_i64n, wrapun, dec_t, dec_f, inb_t, cond_true, cond_false, Int.toNat_natCast, beq_t, beq_f, bne_t, bne_f, Bool.not_true, Bool.not_false, Int.reduceToNat, ft_b, tf_b, tt_b, ff_b, decide_true, decide_false, n0, r0, o1, s0.eqb o2, k0, n1, r1, s1.eqb o2, k1, l10_awake_spec]
end Go.Pl
