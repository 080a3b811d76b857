/-
  One statement, plainly.
-/
import Derived.Test.YthmfddbehhgnkaaDenI
import Derived.Test.YthmfddbehhgnkaaPlA
import Derived.Test.YthmfddbehhgnkaaL37
import Derived.Test.YthmfddbehhgnkaaPseek
import Derived.Test.YthmfddbehhgnkaaEqA
import Derived.Test.YthmfddbehhgnkaaEseek
set_option linter.unusedVariables false
set_option linter.unusedSimpArgs false
set_option maxRecDepth 100000
set_option maxHeartbeats 0
namespace Go.Pl
end Go.Pl
open Go Go.Den Go.Pl
namespace Go.Pl
noncomputable def l37_SeekSound' (seed : ByteArray) (bits : (Nat → Int)) : Option (Unit) :=
 bif (decide ((((ByteArray.size seed) : Nat) : Int) < 16)) then (
  match l37_awake with
  | none => none
  | some r => (
   bif r then (
    some ())
   else (
    none)))
 else (
  bif (decide ((((ByteArray.size seed) : Nat) : Int) > 100)) then (
   match l37_awake with
   | none => none
   | some r1 => (
    bif r1 then (
     some ())
    else (
     none)))
  else (
   bif (decide ((IntKind.i64.wrap ((IntKind.i64.wrap (20 + (IntKind.i64.wrap (Int.tmod (bits 0) 11)))) - 3)) = 0)) then (
    none)
   else (
    let t := (Int.tmod (IntKind.i64.wrap (bits 1)) (IntKind.i64.wrap ((IntKind.i64.wrap (20 + (IntKind.i64.wrap (Int.tmod (bits 0) 11)))) - 3)))
    let t1 := (IntKind.i64.wrap ((IntKind.i64.wrap ((IntKind.i64.wrap (20 + (IntKind.i64.wrap (Int.tmod (bits 0) 11)))) + 2)) + t))
    match (seek_Find seed 2 (fun j => (upd (upd (fun _ => 0) 0 (IntKind.i64.wrap (20 + (IntKind.i64.wrap (Int.tmod (bits 0) 11))))) 1 t1) (0 + j))) with
    | none => none
    | some r2 => (
     match (seek_Find seed 2 (fun j => (upd (upd (fun _ => 0) 0 (IntKind.i64.wrap (20 + (IntKind.i64.wrap (Int.tmod (bits 0) 11))))) 1 t1) (0 + j))) with
     | none => none
     | some r3 => (
      bif (r2.2 != r3.2) then (
       none)
      else (
       bif (!(eqF (.arr 4 (.int .u64)) r2.1.2 r3.1.2)) then (
        none)
       else (
        bif (r2.2 != 0) then (
         bif (r2.2 == 3) then (
          bif (((r2.1.1.1 : Nat) : Int) == 0) then (
           match l37_awake with
           | none => none
           | some r4 => (
            bif r4 then (
             some ())
            else (
             none)))
          else (
           none))
         else (
          none))
        else (
         match (group_New ((r2.1.1.1, r2.1.1.2), r2.1.2)) with
         | none => none
         | some r5 => (
          match r5.1 with
          | none => (
           bif (r5.2 == 0) then (
            none)
           else (
            none))
          | some p => (
           bif (r5.2 == 0) then (
            match (group_Group_Q (some p)) with
            | none => none
            | some r6 => (
             match (r01_Len r6) with
             | none => none
             | some r7 => (
              bif (r7 == (IntKind.i64.wrap (20 + (IntKind.i64.wrap (Int.tmod (bits 0) 11))))) then (
               match (group_Group_P (some p)) with
               | none => none
               | some r8 => (
                match (r01_Len r8) with
                | none => none
                | some r9 => (
                 bif (r9 == t1) then (
                  bif (((r2.1.1.1 : Nat) : Int) == 3) then (
                   match (prime_Check r2.1.1.1 r2.1.1.2) with
                   | none => none
                   | some r10 => (
                    bif (r10 == 0) then (
                     match l37_awake with
                     | none => none
                     | some r11 => (
                      bif r11 then (
                       some ())
                      else (
                       none)))
                    else (
                     none)))
                  else (
                   none))
                 else (
                  none))))
              else (
               none))))
           else (
            none)))))))))))
end Go.Pl

set_option linter.unusedVariables false
set_option linter.unusedSimpArgs false
set_option maxRecDepth 100000
set_option maxHeartbeats 0
namespace Go.Pl
end Go.Pl
open Go Go.Den Go.Pl
namespace Go.Proofs.Ythmfddbehhgnkaa
noncomputable def x_l37_SeekSound : Cx := { ti := ti, con := [(4, c_l37_awake), (5, c_seek_Find), (6, c_group_New), (8, c_group_Group_Q), (7, c_r01_Len), (9, c_group_Group_P), (10, c_prime_Check)], fns := [], un := 6 }
theorem xok_l37_SeekSound : CxOk Try.prog x_l37_SeekSound := CxOk.of mixed ti_ok (List.forall_mem_cons.2 ⟨con_l37_awake, List.forall_mem_cons.2 ⟨con_seek_Find, List.forall_mem_cons.2 ⟨con_group_New, List.forall_mem_cons.2 ⟨con_group_Group_Q, List.forall_mem_cons.2 ⟨con_r01_Len, List.forall_mem_cons.2 ⟨con_group_Group_P, List.forall_mem_cons.2 ⟨con_prime_Check, List.forall_mem_nil _⟩⟩⟩⟩⟩⟩⟩) (List.forall_mem_nil _)
theorem fn_l37_SeekSound : FnOk Try.prog 3 Try.f3 [] := ⟨Try.func3, Try.call3, lps_nil⟩
theorem e_l37_SeekSound (seed : ByteArray) (bits : (Nat → Int)) : bodyK x_l37_SeekSound [] (denF x_l37_SeekSound 8) Try.f3 (domV [.str, (.arr 2 (.int .u8))] (seed, bits, ())) [] 0 kTrue = l37_SeekSound' seed bits := by kernel_rfl
end Go.Proofs.Ythmfddbehhgnkaa

set_option linter.unusedVariables false
set_option linter.unusedSimpArgs false
set_option maxRecDepth 4000
namespace Go.Pl
open Go Go.Den Go.Num

/-- of two numbers of bits, both fit -/
theorem chainM_two {s : SrcT} {N : Nat} {q p : Int} {acc : List (Nat × Nat)} (hN : Pr N) (h : chainM [q, p] s [(N, 0)] = .inr acc) :
    (blen (accN acc 1) : Int) = q ∧ (blen (accN acc 2) : Int) = p := by
  rw [chainM] at h
  cases hz : nextZ (List.getLastD [(N, 0)] (0, 0)).1 q (numN s 8 (q - blen (List.getLastD [(N, 0)] (0, 0)).1 - 2)) with
  | inl e => rw [hz] at h; cases h
  | inr x =>
    rw [hz] at h; simp only at h
    obtain ⟨N1, w1⟩ := x
    obtain ⟨z1, z2, _⟩ := nextZ_of (F := N) hN hz
    rw [chainM] at h
    cases hz2 : nextZ (List.getLastD ([(N, 0)] ++ [(N1, w1)]) (0, 0)).1 p (numN (toldN s) 8 (p - blen (List.getLastD ([(N, 0)] ++ [(N1, w1)]) (0, 0)).1 - 2)) with
    | inl e => rw [hz2] at h; cases h
    | inr x2 =>
      rw [hz2] at h; simp only at h
      obtain ⟨N2, w2⟩ := x2
      obtain ⟨y1, y2, _⟩ := nextZ_of (F := N1) z1 hz2
      rw [chainM] at h
      cases h
      exact ⟨z2, y2⟩
/-- of the numbers asked for, none is refused -/
theorem chainM_no {s : SrcT} {N : Nat} {q p : Int} {e : Int} (hN : Pr N) (hb : blen N = 16) (hq : 20 ≤ q ∧ q ≤ 30) (hp : q + 2 ≤ p ∧ p ≤ 2 * q - 2) (h : chainM [q, p] s [(N, 0)] = .inl e) : e = 3 := by
  have hg : ∀ {F A : Nat} {b e' : Int}, (blen F : Int) + 2 ≤ b → b ≤ 2 * (blen F : Int) - 2 → b ≤ 250 → nextZ F b A = .inl e' → e' = 3 := by
    intro F A b e' h1 h2 h3 h4
    unfold nextZ at h4
    rw [if_neg (by omega)] at h4
    cases hm : nextM F b.toNat A with
    | none => rw [hm] at h4; cases h4; rfl
    | some x => rw [hm] at h4; cases h4
  rw [chainM] at h
  cases hz : nextZ (List.getLastD [(N, 0)] (0, 0)).1 q (numN s 8 (q - blen (List.getLastD [(N, 0)] (0, 0)).1 - 2)) with
  | inl e' =>
    rw [hz] at h; cases h
    exact hg (F := N) (by omega) (by omega) (by omega) hz
  | inr x =>
    rw [hz] at h; simp only at h
    obtain ⟨N1, w1⟩ := x
    obtain ⟨z1, z2, _⟩ := nextZ_of (F := N) hN hz
    rw [chainM] at h
    cases hz2 : nextZ (List.getLastD ([(N, 0)] ++ [(N1, w1)]) (0, 0)).1 p (numN (toldN s) 8 (p - blen (List.getLastD ([(N, 0)] ++ [(N1, w1)]) (0, 0)).1 - 2)) with
    | inl e' =>
      rw [hz2] at h; cases h
      exact hg (F := N1) (by omega) (by omega) (by omega) hz2
    | inr x2 =>
      rw [hz2] at h; cases h
theorem l37_SeekSound_true {seed : ByteArray} {bits : Nat → Int} (hs : Go.Den.Good .str seed) (hb : Go.Den.Good (.arr 2 (.int .u8)) bits) : l37_SeekSound' seed bits = some () := by
  have hs' : seed.size ≤ 9223372036854775807 := hs
  have b0 : 0 ≤ bits 0 ∧ bits 0 ≤ 255 := hb 0 (by decide)
  have b1 : 0 ≤ bits 1 ∧ bits 1 ≤ 255 := hb 1 (by decide)
  unfold l37_SeekSound'
  by_cases h1 : seed.size < 16
  · simp (disch := omega) only [wrap_i64n, wrapun, dec_t, dec_f, inb_t, cond_true, cond_false, Int.toNat_natCast, beq_t, beq_f, bne_t, bne_f, Bool.not_true, Bool.not_false, Int.reduceToNat, ft_b, tf_b, tt_b, ff_b, decide_true, decide_false, l37_awake_true]
  by_cases h2 : seed.size > 100
  · simp (disch := omega) only [wrap_i64n, wrapun, dec_t, dec_f, inb_t, cond_true, cond_false, Int.toNat_natCast, beq_t, beq_f, bne_t, bne_f, Bool.not_true, Bool.not_false, Int.reduceToNat, ft_b, tf_b, tt_b, ff_b, decide_true, decide_false, l37_awake_true]
  have e1 : IntKind.i64.wrap (Int.tmod (bits 0) 11) = bits 0 % 11 := by rw [tmod_nn b0.1, wrap_i64 (by omega)]
  obtain ⟨q, hq1, hq2⟩ : ∃ q : Int, q = 20 + bits 0 % 11 ∧ (20 ≤ q ∧ q ≤ 30) := ⟨_, rfl, by omega⟩
  have e2 : IntKind.i64.wrap (20 + (bits 0 % 11)) = q := by rw [wrap_i64 (by omega)]; omega
  have e3 : IntKind.i64.wrap (q - 3) = q - 3 := wrap_i64 (by omega)
  have e4 : IntKind.i64.wrap (bits 1) = bits 1 := wrap_i64 (by omega)
  have e5 : IntKind.i64.wrap (q + 2) = q + 2 := wrap_i64 (by omega)
  obtain ⟨m, hm1, hm2⟩ : ∃ m : Int, Int.tmod (bits 1) (q - 3) = m ∧ (0 ≤ m ∧ m < q - 3) := by
    refine ⟨_, rfl, ?_⟩
    rw [tmod_nn b1.1]
    exact ⟨Int.emod_nonneg _ (by omega), Int.emod_lt_of_pos (bits 1) (show 0 < q - 3 by omega)⟩
  have e6 : IntKind.i64.wrap (q + 2 + m) = q + 2 + m := wrap_i64 (by omega)
  have d1 : decide ((seed.size : Int) < 16) = false := dec_f (by omega)
  have d2 : decide ((seed.size : Int) > 100) = false := dec_f (by omega)
  have d3 : decide (q - 3 = 0) = false := dec_f (by omega)
  simp only [e1, e2, e3, e4, e5, hm1, e6, d1, d2, d3, cond_false]
  generalize hB : (fun j => upd (upd (fun _ => 0) 0 q) 1 (q + 2 + m) (0 + j)) = B
  have B0 : B 0 = q := by rw [← hB]; rfl
  have B1 : B 1 = q + 2 + m := by rw [← hB]; rfl
  have hl : (List.range 2).map B = [q, q + 2 + m] := by
    show [B 0, B 1] = _
    rw [B0, B1]
  obtain ⟨N, hN, f1, f2⟩ := seek_Find_spec (seed := seed) (nb := 2) (bits := B) (by omega) (by decide) (by decide) (by
    intro i hi
    have : i = 0 ∨ i = 1 := by omega
    rcases this with rfl | rfl
    · rw [B0]; omega
    · rw [B1]; omega)
  rw [hl] at f1 f2
  have hN16 : blen N = 16 := by
    have h1 := hN.ge; have h2 := hN.lt
    unfold fromN at h1
    exact blen_eq (L := 16) (by omega) (.inr (by show 2 ^ 15 ≤ N; omega))
  cases hf : foundN [q, q + 2 + m] (toldN (newN seed)) N with
  | no e =>
    obtain ⟨g1, g2⟩ := f1 e hf
    have he : e = 3 := by
      unfold foundN at hf
      cases hc : chainM [q, q + 2 + m] (toldN (newN seed)) [(N, 0)] with
      | inl e' =>
        rw [hc] at hf; cases hf
        exact chainM_no hN.pr hN16 hq2 (by omega) hc
      | inr acc =>
        rw [hc] at hf; dsimp only at hf
        cases hsp : spawnN (lastN acc 1) ((lastN acc 1 - 1) / lastN acc 2) 99 2 with
        | none => rw [hsp] at hf; cases hf; rfl
        | some g =>
          rw [hsp] at hf; dsimp only at hf
          split at hf
          · cases hf
          · cases hf; rfl
    subst he
    rw [g2]
    simp only [IsN.zero.eqb IsN.zero, decide_true, Bool.not_true, cond_false, l37_awake_true]
    rfl
  | yes acc g =>
    obtain ⟨l, x, g2, g3, g4, g5⟩ := f2 acc g hf
    have hchain : chainM [q, q + 2 + m] (toldN (newN seed)) [(N, 0)] = .inr acc := by
      unfold foundN at hf
      cases hc : chainM [q, q + 2 + m] (toldN (newN seed)) [(N, 0)] with
      | inl e' => rw [hc] at hf; cases hf
      | inr acc' =>
        rw [hc] at hf; dsimp only at hf
        cases hsp : spawnN (lastN acc' 1) ((lastN acc' 1 - 1) / lastN acc' 2) 99 2 with
        | none => rw [hsp] at hf; cases hf
        | some g =>
          rw [hsp] at hf; dsimp only at hf
          split at hf
          · cases hf; rfl
          · cases hf
    obtain ⟨t1, t2⟩ := chainM_two hN.pr hchain
    have hlink : ∀ i, i < 3 → IsN (l i).1 (accN acc i) := fun i hi => (g3.link i hi).1
    have hA : ∀ i, i < 3 → (l i).2 = accA acc i := fun i hi => (g3.link i hi).2
    have hGP : GroupP 3 (accN acc) (fun i => (l i).2) g := by
      obtain ⟨a1, ⟨c1, c2, c3, c4, c5, c6, c7⟩, a3⟩ := g5
      refine ⟨a1, ⟨c1, c2, c3, c4, c5, ?_, fun i hi => ?_⟩, a3⟩
      · show (l 0).2 = 0
        rw [hA 0 (by decide)]; exact c6
      · show StepP _ _ (l (i + 1)).2
        rw [hA (i + 1) hi]; exact c7 i hi
    obtain ⟨G, n1, n2, _⟩ := (group_New_spec (k := 3) hlink g4).1 hGP
    have hck := (prime_Check_spec (k := 3) hlink).1 hGP.2.1
    obtain ⟨zp, zp1, zp2⟩ := group_P_spec n2
    obtain ⟨zq, zq1, zq2⟩ := group_Q_spec n2
    have lq := r01_Len_spec zq2
    have lp := r01_Len_spec zp2
    have q1 : (blen (accN acc (3 - 2)) : Int) = q := t1
    have p1 : (blen (accN acc (3 - 1)) : Int) = q + 2 + m := t2
    have hxx : eqF (.arr 4 (.int .u64)) x x = true := by rw [g4.eqb g4]; exact decide_eq_true rfl
    rw [g2]
    simp only [hxx, n1, zp1, zq1, lq, lp, q1, p1, hck, l37_awake_true, beq_self_eq_true, show ((0 : Int) != 0) = false from rfl, Bool.not_true, cond_false, cond_true]
    rfl
end Go.Pl
