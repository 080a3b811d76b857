/-
  One statement, plainly.
-/
import Derived.Test.YtennopklknlecaaDenD
import Derived.Test.YtennopklknlecaaPcomb
import Derived.Test.YtennopklknlecaaL35
import Derived.Test.YtennopklknlecaaPlA
import Derived.Test.YtennopklknlecaaPr35
import Derived.Test.YtennopklknlecaaEqA
import Derived.Test.YtennopklknlecaaEcomb
import Derived.Test.YtennopklknlecaaEr35
set_option linter.unusedVariables false
set_option linter.unusedSimpArgs false
set_option maxRecDepth 100000
set_option maxHeartbeats 0
namespace Go.Pl
end Go.Pl
open Go Go.Den Go.Pl
namespace Go.Pl
abbrev T_l35_CombMultis_0 (which : Int) (nbases : Nat) (bases : Nat → (Nat → Int)) (nexps : Nat) (exps : Nat → (Nat → Int)) (g : (((PtrV ((Nat → Int) × (Int × ((Nat → Int) × (Nat → Int))))) × (PtrV ((Nat → Int) × (Int × ((Nat → Int) × (Nat → Int)))))) × (Nat → Int))) (ntables : Nat) (tables : Nat → (PtrV ((PtrV ((Nat → Int) × (Int × ((Nat → Int) × (Nat → Int))))) × ((Nat → Int) × (Int × (SlV (Nat → (Nat → Int)))))))) (nbits : Nat) (bits : Nat → Int) (i : Int) (s : (Int × (Int × Int))) : ((Int × ((Nat × (Nat → (Nat → Int))) × ((Nat × (Nat → (Nat → Int))) × ((((PtrV ((Nat → Int) × (Int × ((Nat → Int) × (Nat → Int))))) × (PtrV ((Nat → Int) × (Int × ((Nat → Int) × (Nat → Int)))))) × (Nat → Int)) × (Unit × ((Nat × (Nat → (PtrV ((PtrV ((Nat → Int) × (Int × ((Nat → Int) × (Nat → Int))))) × ((Nat → Int) × (Int × (SlV (Nat → (Nat → Int))))))))) × ((Nat × (Nat → Int)) × (Int × Unit)))))))) × ((Int × (Int × Int)) × Unit)) := ((which, ((nbases, bases), ((nexps, exps), (g, ((), ((ntables, tables), ((nbits, bits), (i, ())))))))), (s, ()))
abbrev Y_l35_CombMultis_0_0 (t : Bool) : (((Bool × Unit) × Unit) ⊕ (((Nat × (Nat → (Nat → Int))) × ((Nat × (Nat → (Nat → Int))) × (Unit × ((Nat × (Nat → (PtrV ((PtrV ((Nat → Int) × (Int × ((Nat → Int) × (Nat → Int))))) × ((Nat → Int) × (Int × (SlV (Nat → (Nat → Int))))))))) × ((Nat × (Nat → Int)) × Unit))))) × ((Int × (Int × Int)) × Unit))) := (.inl ((t, ()), ()))
abbrev Y_l35_CombMultis_0_1 (nbases : Nat) (bases : Nat → (Nat → Int)) (nexps : Nat) (exps : Nat → (Nat → Int)) (ntables : Nat) (tables : Nat → (PtrV ((PtrV ((Nat → Int) × (Int × ((Nat → Int) × (Nat → Int))))) × ((Nat → Int) × (Int × (SlV (Nat → (Nat → Int)))))))) (nbits : Nat) (bits : Nat → Int) (s : (Int × (Int × Int))) : (((Bool × Unit) × Unit) ⊕ (((Nat × (Nat → (Nat → Int))) × ((Nat × (Nat → (Nat → Int))) × (Unit × ((Nat × (Nat → (PtrV ((PtrV ((Nat → Int) × (Int × ((Nat → Int) × (Nat → Int))))) × ((Nat → Int) × (Int × (SlV (Nat → (Nat → Int))))))))) × ((Nat × (Nat → Int)) × Unit))))) × ((Int × (Int × Int)) × Unit))) := (.inr (((nbases, bases), ((nexps, exps), ((), ((ntables, tables), ((nbits, bits), ()))))), (s, ())))
noncomputable def R_l35_CombMultis_0 : ((Int × ((Nat × (Nat → (Nat → Int))) × ((Nat × (Nat → (Nat → Int))) × ((((PtrV ((Nat → Int) × (Int × ((Nat → Int) × (Nat → Int))))) × (PtrV ((Nat → Int) × (Int × ((Nat → Int) × (Nat → Int)))))) × (Nat → Int)) × (Unit × ((Nat × (Nat → (PtrV ((PtrV ((Nat → Int) × (Int × ((Nat → Int) × (Nat → Int))))) × ((Nat → Int) × (Int × (SlV (Nat → (Nat → Int))))))))) × ((Nat × (Nat → Int)) × (Int × Unit)))))))) × ((Int × (Int × Int)) × Unit)) → Option (((Int × ((Nat × (Nat → (Nat → Int))) × ((Nat × (Nat → (Nat → Int))) × ((((PtrV ((Nat → Int) × (Int × ((Nat → Int) × (Nat → Int))))) × (PtrV ((Nat → Int) × (Int × ((Nat → Int) × (Nat → Int)))))) × (Nat → Int)) × (Unit × ((Nat × (Nat → (PtrV ((PtrV ((Nat → Int) × (Int × ((Nat → Int) × (Nat → Int))))) × ((Nat → Int) × (Int × (SlV (Nat → (Nat → Int))))))))) × ((Nat × (Nat → Int)) × (Int × Unit)))))))) × ((Int × (Int × Int)) × Unit)) ⊕ (((Bool × Unit) × Unit) ⊕ (((Nat × (Nat → (Nat → Int))) × ((Nat × (Nat → (Nat → Int))) × (Unit × ((Nat × (Nat → (PtrV ((PtrV ((Nat → Int) × (Int × ((Nat → Int) × (Nat → Int))))) × ((Nat → Int) × (Int × (SlV (Nat → (Nat → Int))))))))) × ((Nat × (Nat → Int)) × Unit))))) × ((Int × (Int × Int)) × Unit)))) := fun x =>
  let which := x.1.1
  let nbases := x.1.2.1.1
  let bases := x.1.2.1.2
  let nexps := x.1.2.2.1.1
  let exps := x.1.2.2.1.2
  let g := x.1.2.2.2.1
  let ntables := x.1.2.2.2.2.2.1.1
  let tables := x.1.2.2.2.2.2.1.2
  let nbits := x.1.2.2.2.2.2.2.1.1
  let bits := x.1.2.2.2.2.2.2.1.2
  let i := x.1.2.2.2.2.2.2.2.1
  let s := x.2.1
  bif (decide (i < ((nbases : Nat) : Int))) then (
    bif (decide ((IntKind.i64.wrap (1 + (IntKind.i64.wrap (8 * i)))) < 0)) then (
      none)
    else (
      let t := (IntKind.i64.wrap (1 + (bitsOp .and .i64 (shrI .i64 which (IntKind.i64.wrap (1 + (IntKind.i64.wrap (8 * i))))) 255)))
      bif (inb i nbases) then (
        match (comb_New (some g) (bases (Int.toNat i)) t) with
        | none => none
        | some r => (
          match r.1 with
          | none => (
            bif (r.2 != 0) then (
              bif (inb i nbases) then (
                match (l35_of s.1) with
                | none => none
                | some r4 => (
                  match (r01_Cmp (bases (Int.toNat i)) r4) with
                  | none => none
                  | some r5 => (
                    bif (decide (r5 ≥ 0)) then (
                      match l35_awake with
                      | none => none
                      | some r6 => (
                        some (.inr (.inl ((r6, ()), ())))))
                    else (
                      some (.inr (.inl ((false, ()), ())))))))
              else (
                none))
            else (
              bif ((Nat.ble ((ntables + 1) * 8) 140737488355328) && (Nat.ble (ntables + 1) 9223372036854775807)) then (
                bif ((Nat.ble ((nbits + 1) * 8) 140737488355328) && (Nat.ble (nbits + 1) 9223372036854775807)) then (
                  some (.inl ((which, ((nbases, bases), ((nexps, exps), (g, ((), (((ntables + 1), (glue ntables tables (fun j => (upd (fun _ => .nil) 0 .nil) (0 + j)))), (((nbits + 1), (glue nbits bits (fun j => (upd (fun _ => 0) 0 t) (0 + j)))), ((IntKind.i64.wrap (i + 1)), ())))))))), (s, ()))))
                else (
                  none))
              else (
                none)))
          | some p => (
            bif (r.2 != 0) then (
              bif (inb i nbases) then (
                match (l35_of s.1) with
                | none => none
                | some r1 => (
                  match (r01_Cmp (bases (Int.toNat i)) r1) with
                  | none => none
                  | some r2 => (
                    bif (decide (r2 ≥ 0)) then (
                      match l35_awake with
                      | none => none
                      | some r3 => (
                        some (.inr (.inl ((r3, ()), ())))))
                    else (
                      some (.inr (.inl ((false, ()), ())))))))
              else (
                none))
            else (
              bif ((Nat.ble ((ntables + 1) * 8) 140737488355328) && (Nat.ble (ntables + 1) 9223372036854775807)) then (
                bif ((Nat.ble ((nbits + 1) * 8) 140737488355328) && (Nat.ble (nbits + 1) 9223372036854775807)) then (
                  some (.inl ((which, ((nbases, bases), ((nexps, exps), (g, ((), (((ntables + 1), (glue ntables tables (fun j => (upd (fun _ => .nil) 0 (.fz p)) (0 + j)))), (((nbits + 1), (glue nbits bits (fun j => (upd (fun _ => 0) 0 t) (0 + j)))), ((IntKind.i64.wrap (i + 1)), ())))))))), (s, ()))))
                else (
                  none))
              else (
                none)))))
      else (
        none)))
  else (
    some (.inr (.inr (((nbases, bases), ((nexps, exps), ((), ((ntables, tables), ((nbits, bits), ()))))), (s, ())))))
noncomputable def l35_CombMultis' (which : Int) (nbases : Nat) (bases : Nat → (Nat → Int)) (nexps : Nat) (exps : Nat → (Nat → Int)) : Option (Unit) :=
  match (l35_small which) with
  | none => none
  | some r => (
    match r.1 with
    | none => (
      bif (!r.2.2) then (
        bif r.2.2 then (
          match l35_awake with
          | none => none
          | some r7 => (
            bif r7 then (
              some ())
            else (
              none)))
        else (
          none))
      else (
        bif (decide (((nbases : Nat) : Int) > 4)) then (
          bif r.2.2 then (
            match l35_awake with
            | none => none
            | some r8 => (
              bif r8 then (
                some ())
              else (
                none)))
          else (
            none))
        else (
          bif (decide (((nexps : Nat) : Int) > 5)) then (
            bif r.2.2 then (
              match l35_awake with
              | none => none
              | some r9 => (
                bif r9 then (
                  some ())
                else (
                  none)))
            else (
              none))
          else (
            none))))
    | some p => (
      bif (!r.2.2) then (
        bif r.2.2 then (
          match l35_awake with
          | none => none
          | some r1 => (
            bif r1 then (
              some ())
            else (
              none)))
        else (
          none))
      else (
        bif (decide (((nbases : Nat) : Int) > 4)) then (
          bif r.2.2 then (
            match l35_awake with
            | none => none
            | some r2 => (
              bif r2 then (
                some ())
              else (
                none)))
          else (
            none))
        else (
          bif (decide (((nexps : Nat) : Int) > 5)) then (
            bif r.2.2 then (
              match l35_awake with
              | none => none
              | some r3 => (
                bif r3 then (
                  some ())
                else (
                  none)))
            else (
              none))
          else (
            match (loopF R_l35_CombMultis_0 ((which, ((nbases, bases), ((nexps, exps), (p, ((), ((0, (fun _ => .nil)), ((0, (fun _ => 0)), (0, ())))))))), (r.2.1, ()))) with
            | none => none
            | some y => (
              match y with
              | .inl y1 => (
                let t := y1.1.1
                bif t then (
                  some ())
                else (
                  none))
              | .inr y1 => (
                let nbases1 := y1.1.1.1
                let bases1 := y1.1.1.2
                let nexps1 := y1.1.2.1.1
                let exps1 := y1.1.2.1.2
                let ntables := y1.1.2.2.2.1.1
                let tables := y1.1.2.2.2.1.2
                let nbits := y1.1.2.2.2.2.1.1
                let bits := y1.1.2.2.2.2.1.2
                let s := y1.2.1
                match (comb_Multi ntables (fun j => tables (0 + j)) nexps1 exps1) with
                | none => none
                | some r4 => (
                  match (r35_Multi s nbases1 bases1 nbits (fun j => bits (0 + j)) nexps1 exps1) with
                  | none => none
                  | some r5 => (
                    bif (eqF (.arr 4 (.int .u64)) r4.1 r5.1) then (
                      bif (r4.2 == r5.2) then (
                        match l35_awake with
                        | none => none
                        | some r6 => (
                          bif r6 then (
                            some ())
                          else (
                            none)))
                      else (
                        none))
                    else (
                      none))))))))))
end Go.Pl

set_option linter.unusedVariables false
set_option linter.unusedSimpArgs false
set_option maxRecDepth 100000
set_option maxHeartbeats 0
namespace Go.Pl
end Go.Pl
open Go Go.Den Go.Pl
namespace Go.Proofs.Ytennopklknlecaa
abbrev S_l35_CombMultis_0 : Shape := { sl := [(0, (.v (.int .i64))), (1, (.sz (.arr 4 (.int .u64)))), (2, (.sz (.arr 4 (.int .u64)))), (7, (.pz (.pair (.pair (.ptr (.pair (.arr 4 (.int .u64)) (.pair (.int .u64) (.pair (.arr 4 (.int .u64)) (.arr 4 (.int .u64)))))) (.ptr (.pair (.arr 4 (.int .u64)) (.pair (.int .u64) (.pair (.arr 4 (.int .u64)) (.arr 4 (.int .u64))))))) (.arr 4 (.int .u64))))), (8, (.c ⟨(.ptr (.pair (.int .i64) (.pair (.int .i64) (.int .i64)))), (.rf 0 [])⟩)), (10, (.w 70 (.ptr (.pair (.ptr (.pair (.arr 4 (.int .u64)) (.pair (.int .u64) (.pair (.arr 4 (.int .u64)) (.arr 4 (.int .u64)))))) (.pair (.arr 4 (.int .u64)) (.pair (.int .i64) (.sl (.arr 16 (.arr 4 (.int .u64)))))))) 1)), (11, (.w 3 (.int .i64) 2)), (12, (.v (.int .i64)))], ob := [(0, (.v (.pair (.int .i64) (.pair (.int .i64) (.int .i64)))))], lo := 1, nx := 3 }
abbrev E_l35_CombMultis_0 : List Ex := [(.ret, { sl := [(6, (.v .bool))], ob := [], lo := 3, nx := 3 }), (.normal, { sl := [(1, (.sz (.arr 4 (.int .u64)))), (2, (.sz (.arr 4 (.int .u64)))), (8, (.c ⟨(.ptr (.pair (.int .i64) (.pair (.int .i64) (.int .i64)))), (.rf 0 [])⟩)), (10, (.w 70 (.ptr (.pair (.ptr (.pair (.arr 4 (.int .u64)) (.pair (.int .u64) (.pair (.arr 4 (.int .u64)) (.arr 4 (.int .u64)))))) (.pair (.arr 4 (.int .u64)) (.pair (.int .i64) (.sl (.arr 16 (.arr 4 (.int .u64)))))))) 3)), (11, (.w 3 (.int .i64) 4))], ob := [(0, (.v (.pair (.int .i64) (.pair (.int .i64) (.int .i64)))))], lo := 3, nx := 5 })]
noncomputable def L_l35_CombMultis_0 : Code := loopIn (bodyOf Try.f8) 0
noncomputable def P_l35_CombMultis_0 : Lp := lpOf S_l35_CombMultis_0 E_l35_CombMultis_0 112 R_l35_CombMultis_0
noncomputable def x_l35_CombMultis : Cx := { ti := ti, con := [(32, c_l35_small), (36, c_l35_awake), (33, c_comb_New), (35, c_l35_of), (34, c_r01_Cmp), (41, c_comb_Multi), (42, c_r35_Multi)], fns := [], un := 6 }
theorem xok_l35_CombMultis : CxOk Try.prog x_l35_CombMultis := CxOk.of mixed ti_ok (List.forall_mem_cons.2 ⟨con_l35_small, List.forall_mem_cons.2 ⟨con_l35_awake, List.forall_mem_cons.2 ⟨con_comb_New, List.forall_mem_cons.2 ⟨con_l35_of, List.forall_mem_cons.2 ⟨con_r01_Cmp, List.forall_mem_cons.2 ⟨con_comb_Multi, List.forall_mem_cons.2 ⟨con_r35_Multi, List.forall_mem_nil _⟩⟩⟩⟩⟩⟩⟩) (List.forall_mem_nil _)
theorem r_l35_CombMultis_0 (x : S_l35_CombMultis_0.X) : denC x_l35_CombMultis [] (denF x_l35_CombMultis 8) L_l35_CombMultis_0 (S_l35_CombMultis_0.mkS 112 x) (kRound 0 S_l35_CombMultis_0 E_l35_CombMultis_0) = R_l35_CombMultis_0 x := by kernel_rfl
theorem l_l35_CombMultis_0 : LpOk Try.prog 0 (.loop L_l35_CombMultis_0) P_l35_CombMultis_0 := lpOf_ok xok_l35_CombMultis 8 (lps_nil) S_l35_CombMultis_0 E_l35_CombMultis_0 112 R_l35_CombMultis_0 (by decide) r_l35_CombMultis_0
theorem fn_l35_CombMultis : FnOk Try.prog 8 Try.f8 [(0, P_l35_CombMultis_0)] := ⟨Try.func8, Try.call8, lps_of (by kernel_rfl) (lps_one l_l35_CombMultis_0 (by kernel_rfl) (List.forall_mem_nil _))⟩
theorem e_l35_CombMultis (which : Int) (nbases : Nat) (bases : Nat → (Nat → Int)) (nexps : Nat) (exps : Nat → (Nat → Int)) : bodyK x_l35_CombMultis [(0, P_l35_CombMultis_0)] (denF x_l35_CombMultis 8) Try.f8 (domV [(.int .i64), (.sl (.arr 4 (.int .u64))), (.sl (.arr 4 (.int .u64)))] (which, (nbases, bases), (nexps, exps), ())) [] 0 kTrue = l35_CombMultis' which nbases bases nexps exps := by kernel_rfl
end Go.Proofs.Ytennopklknlecaa

set_option linter.unusedVariables false
set_option linter.unusedSimpArgs false
namespace Go.Pl
open Go Go.Den Go.Num

theorem l35_CombMultis_true {which : Int} {n m : Nat} {a b : Nat → Nat → Int} (hw : Go.Den.Good (.int .i64) which) (ha : Go.Den.Good (.sl (.arr 4 (.int .u64))) (.fz n a)) (hb : Go.Den.Good (.sl (.arr 4 (.int .u64))) (.fz m b)) : l35_CombMultis' which n a m b = some () := by
  obtain ⟨k, cl, ga, g, P, Q, G, s1, hg, hP, hQ⟩ := l35_small_spec which
  have hgg := hg.group
  have hppos := hgg.ppos
  obtain ⟨o, o1, o2⟩ := l35_of_spec (n := (P : Int)) (by omega)
  rw [Int.toNat_natCast] at o2
  unfold l35_CombMultis'
  by_cases hn : n ≤ 4
  · by_cases hm : m ≤ 5
    · obtain ⟨X, hX⟩ := good_nats ha
      obtain ⟨E, hE⟩ := good_nats hb
      simp (disch := omega) only [add_c, add_l, l_add, mul_c, mul_l, l_mul, sub_c, sub_l, l_sub, div_c, div_l, mod_c, mod_l, tdiv_c, tdiv_l, tmod_c, tmod_l, wrap_i64n, wrapun, dec_t, dec_f, inb_t, cond_true, cond_false, Int.toNat_natCast, beq_t, beq_f, bne_t, bne_f, Bool.not_true, Bool.not_false, Int.reduceToNat, ft_b, tf_b, tt_b, ff_b, decide_true, decide_false, s1]
      obtain ⟨y, y1, y2⟩ := loop_seek (R := R_l35_CombMultis_0) (fun k (s : (Nat → PtrV TabT) × (Nat → Int)) => T_l35_CombMultis_0 which n a m b g k s.1 k s.2 (k : Int) ((P : Int), (Q : Int), (G : Int)))
        (fun k s => Tabs k s.1 P X (fun i => (s.2 i).toNat) ∧ ∀ i, i < k → 0 ≤ s.2 i)
        (fun y => match y with | .inl y1 => y1 = ((true, ()), ()) | .inr y1 => ∃ s : (Nat → PtrV TabT) × (Nat → Int), y1 = (((n, a), ((m, b), ((), ((n, s.1), ((n, s.2), ()))))), (((P : Int), (Q : Int), (G : Int)), ())) ∧ Tabs n s.1 P X (fun i => (s.2 i).toNat) ∧ ∀ i, i < n → 0 ≤ s.2 i) n
        (fun k hk s hPs => by
          obtain ⟨tb, bt⟩ := s
          obtain ⟨p1, p2⟩ := hPs
          simp only at p1 p2
          have hm8 : bitsOp .and .i64 (shrI .i64 which ((1 + 8 * k : Nat) : Int)) 255 = shrI .i64 which ((1 + 8 * k : Nat) : Int) % (2 ^ 8 : Nat) := andMask (k := 8) (by decide)
          have h0 := Int.emod_nonneg (shrI .i64 which ((1 + 8 * k : Nat) : Int)) (show ((2 ^ 8 : Nat) : Int) ≠ 0 by decide)
          have h1 := Int.emod_lt_of_pos (shrI .i64 which ((1 + 8 * k : Nat) : Int)) (show (0 : Int) < ((2 ^ 8 : Nat) : Int) by decide)
          simp only [Nat.reducePow, Int.cast_ofNat_Int] at h1
          obtain ⟨v, hv⟩ : ∃ v : Nat, bitsOp .and .i64 (shrI .i64 which ((1 + 8 * k : Nat) : Int)) 255 = (v : Int) := ⟨(shrI .i64 which ((1 + 8 * k : Nat) : Int) % (2 ^ 8 : Nat)).toNat, by rw [hm8]; omega⟩
          have hv2 : v < 256 := by rw [hm8] at hv; omega
          have hc := r01_Cmp_spec (hX k hk) o2
          by_cases hlt : X k < P
          · obtain ⟨t, r, t1, t2, t3⟩ := comb_New_spec hgg (hX k hk) hlt (show 1 ≤ 1 + v by omega) (show 1 + v ≤ 256 by omega)
            have b1 : Nat.ble ((k + 1) * 8) 140737488355328 = true := Nat.ble_eq_true_of_le (by omega)
            have b2 : Nat.ble (k + 1) 9223372036854775807 = true := Nat.ble_eq_true_of_le (by omega)
            refine .inl ⟨(glue k tb (fun j => upd (fun _ => .nil) 0 (.fz t) (0 + j)), glue k bt (fun j => upd (fun _ => 0) 0 ((1 + v : Nat) : Int) (0 + j))), ?_, fun i hi => ?_, fun i hi => ?_⟩
            · unfold R_l35_CombMultis_0
              simp (disch := omega) only [add_c, add_l, l_add, mul_c, mul_l, l_mul, sub_c, sub_l, l_sub, div_c, div_l, mod_c, mod_l, tdiv_c, tdiv_l, tmod_c, tmod_l, wrap_i64n, wrapun, dec_t, dec_f, inb_t, cond_true, cond_false, Int.toNat_natCast, beq_t, beq_f, bne_t, bne_f, Bool.not_true, Bool.not_false, Int.reduceToNat, ft_b, tf_b, tt_b, ff_b, decide_true, decide_false, hv, t1, b1, b2, Bool.and_true]
            · rcases Nat.lt_succ_iff_lt_or_eq.1 hi with h2 | rfl
              · simp only [glue_lt h2]; exact p1 i h2
              · simp only [glue_at, Nat.add_zero, upd_same, Int.toNat_natCast]
                exact ⟨t, r, rfl, t2⟩
            · rcases Nat.lt_succ_iff_lt_or_eq.1 hi with h2 | rfl
              · simp only [glue_lt h2]; exact p2 i h2
              · simp only [glue_at, Nat.add_zero, upd_same]; omega
          · have hn := comb_New_odd hgg (hX k hk) (bits := ((1 + v : Nat) : Int)) (fun h => hlt h.1)
            have hc2 : (0 : Int) ≤ cmpI (X k) P := by unfold cmpI; rw [if_neg hlt]; split <;> decide
            refine .inr ⟨.inl ((true, ()), ()), ?_, rfl⟩
            unfold R_l35_CombMultis_0
            simp (disch := omega) only [add_c, add_l, l_add, mul_c, mul_l, l_mul, sub_c, sub_l, l_sub, div_c, div_l, mod_c, mod_l, tdiv_c, tdiv_l, tmod_c, tmod_l, wrap_i64n, wrapun, dec_t, dec_f, inb_t, cond_true, cond_false, Int.toNat_natCast, beq_t, beq_f, bne_t, bne_f, Bool.not_true, Bool.not_false, Int.reduceToNat, ft_b, tf_b, tt_b, ff_b, decide_true, decide_false, hv, hn, o1, hc, l35_awake_spec])
        (fun s hPs => by
          refine ⟨.inr (((n, a), ((m, b), ((), ((n, s.1), ((n, s.2), ()))))), (((P : Int), (Q : Int), (G : Int)), ())), ?_, s, rfl, hPs⟩
          unfold R_l35_CombMultis_0
          simp (disch := omega) only [add_c, add_l, l_add, mul_c, mul_l, l_mul, sub_c, sub_l, l_sub, div_c, div_l, mod_c, mod_l, tdiv_c, tdiv_l, tmod_c, tmod_l, wrap_i64n, wrapun, dec_t, dec_f, inb_t, cond_true, cond_false, Int.toNat_natCast, beq_t, beq_f, bne_t, bne_f, Bool.not_true, Bool.not_false, Int.reduceToNat, ft_b, tf_b, tt_b, ff_b, decide_true, decide_false]) ((fun _ => .nil), fun _ => 0) ⟨fun i hi => absurd hi (by omega), fun i hi => absurd hi (by omega)⟩
      have y1' : loopF R_l35_CombMultis_0 ((which, ((n, a), ((m, b), (g, ((), ((0, (fun _ => .nil)), ((0, (fun _ => 0)), (0, ())))))))), (((P : Int), (Q : Int), (G : Int)), ())) = some y := y1
      simp only [y1']
      rcases y with y | y
      · have e : y = ((true, ()), ()) := y2
        subst e
        rfl
      · obtain ⟨⟨tb, bt⟩, rfl, q1, q2⟩ := y2
        have hz : eqF (.arr 4 (.int .u64)) (fun _ => 0) (fun _ => 0) = true := IsN.eqb IsN.zero IsN.zero
        by_cases hnm : n = m
        · subst hnm
          have h1 := comb_Multi_spec (show n ≤ 64 by omega) hgg.pp.1 (l := fun j => tb (0 + j)) (B := fun i => (bt i).toNat) (X := X) (fun i hi => by have := q1 i hi; simpa using this) hE
          obtain ⟨z, z1, z2, z3⟩ := r35_Multi_spec (Q := Q) (G := G) (show n ≤ 64 by omega) hgg.pp.1 (show P < 9223372036854775808 by omega) (bits := fun j => bt (0 + j)) (B := fun i => (bt i).toNat) hX (fun i hi => by have := q2 i hi; simp only [Nat.zero_add] at this ⊢; omega) hE
          by_cases hfit : ∀ i, i < n → E i < 2 ^ (bt i).toNat
          · obtain ⟨w, w1, w2⟩ := h1.1 hfit
            simp (disch := omega) only [add_c, add_l, l_add, mul_c, mul_l, l_mul, sub_c, sub_l, l_sub, div_c, div_l, mod_c, mod_l, tdiv_c, tdiv_l, tmod_c, tmod_l, wrap_i64n, wrapun, dec_t, dec_f, inb_t, cond_true, cond_false, Int.toNat_natCast, beq_t, beq_f, bne_t, bne_f, Bool.not_true, Bool.not_false, Int.reduceToNat, ft_b, tf_b, tt_b, ff_b, decide_true, decide_false, w1, z2 hfit, w2.eqb z1, l35_awake_spec]
          · simp (disch := omega) only [add_c, add_l, l_add, mul_c, mul_l, l_mul, sub_c, sub_l, l_sub, div_c, div_l, mod_c, mod_l, tdiv_c, tdiv_l, tmod_c, tmod_l, wrap_i64n, wrapun, dec_t, dec_f, inb_t, cond_true, cond_false, Int.toNat_natCast, beq_t, beq_f, bne_t, bne_f, Bool.not_true, Bool.not_false, Int.reduceToNat, ft_b, tf_b, tt_b, ff_b, decide_true, decide_false, h1.2 hfit, z3 hfit, hz, l35_awake_spec]
        · simp (disch := omega) only [add_c, add_l, l_add, mul_c, mul_l, l_mul, sub_c, sub_l, l_sub, div_c, div_l, mod_c, mod_l, tdiv_c, tdiv_l, tmod_c, tmod_l, wrap_i64n, wrapun, dec_t, dec_f, inb_t, cond_true, cond_false, Int.toNat_natCast, beq_t, beq_f, bne_t, bne_f, Bool.not_true, Bool.not_false, Int.reduceToNat, ft_b, tf_b, tt_b, ff_b, decide_true, decide_false, comb_Multi_odd hnm (by omega) (by omega), r35_Multi_odd (n := n) hnm (by omega) (by omega), hz, l35_awake_spec]
    · simp (disch := omega) only [wrap_i64n, wrapun, dec_t, dec_f, inb_t, cond_true, cond_false, Int.toNat_natCast, beq_t, beq_f, bne_t, bne_f, Bool.not_true, Bool.not_false, Int.reduceToNat, ft_b, tf_b, tt_b, ff_b, decide_true, decide_false, s1, l35_awake_spec]
  · simp (disch := omega) only [wrap_i64n, wrapun, dec_t, dec_f, inb_t, cond_true, cond_false, Int.toNat_natCast, beq_t, beq_f, bne_t, bne_f, Bool.not_true, Bool.not_false, Int.reduceToNat, ft_b, tf_b, tt_b, ff_b, decide_true, decide_false, s1, l35_awake_spec]
end Go.Pl
