/-
  One statement, plainly.
-/
import Derived.Test.YtennopklknlecaaDenD
import Derived.Test.YtennopklknlecaaL10
import Derived.Test.YtennopklknlecaaPtape
import Derived.Test.YtennopklknlecaaEqA
import Derived.Test.YtennopklknlecaaDenF
import Derived.Test.YtennopklknlecaaEtape
set_option linter.unusedVariables false
set_option linter.unusedSimpArgs false
set_option maxRecDepth 100000
set_option maxHeartbeats 0
namespace Go.Pl
end Go.Pl
open Go Go.Den Go.Pl
namespace Go.Pl
abbrev T_l10_TapeBytes_0 (s : ByteArray) (nl : Nat) (l : Nat → Int) (at_ : Int) (i : Int) (t : (Bool × ByteArray)) : ((ByteArray × ((Nat × (Nat → Int)) × (Unit × (Int × (Int × Unit))))) × ((Bool × ByteArray) × Unit)) := ((s, ((nl, l), ((), (at_, (i, ()))))), (t, ()))
abbrev Y_l10_TapeBytes_0_0 (t : Bool) : (((Bool × Unit) × Unit) ⊕ (Unit × Unit)) := (.inl ((t, ()), ()))
abbrev Y_l10_TapeBytes_0_1  : (((Bool × Unit) × Unit) ⊕ (Unit × Unit)) := (.inr ((), ()))
noncomputable def R_l10_TapeBytes_0 : ((ByteArray × ((Nat × (Nat → Int)) × (Unit × (Int × (Int × Unit))))) × ((Bool × ByteArray) × Unit)) → Option (((ByteArray × ((Nat × (Nat → Int)) × (Unit × (Int × (Int × Unit))))) × ((Bool × ByteArray) × Unit)) ⊕ (((Bool × Unit) × Unit) ⊕ (Unit × Unit))) := fun x =>
 let s := x.1.1
 let nl := x.1.2.1.1
 let l := x.1.2.1.2
 let at_ := x.1.2.2.2.1
 let i := x.1.2.2.2.2.1
 let t := x.2.1
 bif (decide (i < ((nl : Nat) : Int))) then (
  bif (inb i nl) then (
   match (tape_Tape_Bytes_m (l (Int.toNat i)) t) with
   | none => none
   | some y => (
    let r := y.1.1
    let r1 := y.1.2.1
    let o := y.2.1
    bif (inb i nl) then (
     bif (decide ((l (Int.toNat i)) < 0)) then (
      bif (!(sEq r (ByteArray.mk #[]))) then (
       some (.inr (.inl ((false, ()), ()))))
      else (
       bif (r1 != 1) then (
        some (.inr (.inl ((false, ()), ()))))
       else (
        match (tape_Tape_Left (some o)) with
        | none => none
        | some r2 => (
         bif (r2 != (IntKind.i64.wrap ((((ByteArray.size s) : Nat) : Int) - at_))) then (
          some (.inr (.inl ((false, ()), ()))))
         else (
          some (.inl ((s, ((nl, l), ((), (at_, ((IntKind.i64.wrap (i + 1)), ()))))), (o, ()))))))))
     else (
      bif (inb i nl) then (
       bif (decide ((l (Int.toNat i)) > (IntKind.i64.wrap ((((ByteArray.size s) : Nat) : Int) - at_)))) then (
        bif (!(sEq r (ByteArray.mk #[]))) then (
         some (.inr (.inl ((false, ()), ()))))
        else (
         bif (r1 != 5) then (
          some (.inr (.inl ((false, ()), ()))))
         else (
          match (tape_Tape_Left (some o)) with
          | none => none
          | some r3 => (
           bif (r3 != (IntKind.i64.wrap ((((ByteArray.size s) : Nat) : Int) - at_))) then (
            some (.inr (.inl ((false, ()), ()))))
           else (
            some (.inl ((s, ((nl, l), ((), (at_, ((IntKind.i64.wrap (i + 1)), ()))))), (o, ()))))))))
       else (
        bif (inb i nl) then (
         bif ((decide (0 ≤ (IntKind.i64.wrap (at_ + (l (Int.toNat i)))))) && (decide ((IntKind.i64.wrap (at_ + (l (Int.toNat i)))) ≤ (((ByteArray.size s) : Nat) : Int)))) then (
          bif ((decide (0 ≤ at_)) && (decide (at_ ≤ (((Int.toNat (IntKind.i64.wrap (at_ + (l (Int.toNat i))))) : Nat) : Int)))) then (
           let t1 := (!(sEq r (ByteArray.extract s (Int.toNat at_) (Int.toNat (IntKind.i64.wrap (at_ + (l (Int.toNat i))))))))
           bif t1 then (
            some (.inr (.inl ((false, ()), ()))))
           else (
            bif (r1 != 0) then (
             some (.inr (.inl ((false, ()), ()))))
            else (
             bif (inb i nl) then (
              match (tape_Tape_Left (some o)) with
              | none => none
              | some r4 => (
               bif (r4 != (IntKind.i64.wrap ((((ByteArray.size s) : Nat) : Int) - (IntKind.i64.wrap (at_ + (l (Int.toNat i))))))) then (
                some (.inr (.inl ((false, ()), ()))))
               else (
                some (.inl ((s, ((nl, l), ((), ((IntKind.i64.wrap (at_ + (l (Int.toNat i)))), ((IntKind.i64.wrap (i + 1)), ()))))), (o, ()))))))
             else (
              none))))
          else (
           none))
         else (
          none))
        else (
         none)))
      else (
       none)))
    else (
     none)))
  else (
   none))
 else (
  some (.inr (.inr ((), ()))))
noncomputable def l10_TapeBytes' (s : ByteArray) (nl : Nat) (l : Nat → Int) : Option (Unit) :=
 bif (decide ((((ByteArray.size s) : Nat) : Int) > 512)) then (
  match l10_awake with
  | none => none
  | some r => (
   bif r then (
    some ())
   else (
    none)))
 else (
  bif (decide (((nl : Nat) : Int) > 20)) then (
   match l10_awake with
   | none => none
   | some r1 => (
    bif r1 then (
     some ())
    else (
     none)))
  else (
   match (tape_New_m s) with
   | none => none
   | some y => (
    match y with
    | .inl y1 => (
     let r2 := y1.1.2.1
     bif (r2 != 0) then (
      none)
     else (
      none))
    | .inr y1 => (
     let r3 := y1.1.2.1
     let o := y1.2.1
     bif (r3 != 0) then (
      none)
     else (
      match (loopF R_l10_TapeBytes_0 ((s, ((nl, l), ((), (0, (0, ()))))), (o, ()))) with
      | none => none
      | some y2 => (
       match y2 with
       | .inl y3 => (
        let t := y3.1.1
        bif t then (
         some ())
        else (
         none))
       | .inr y3 => (
        match l10_awake with
        | none => none
        | some r4 => (
         bif r4 then (
          some ())
         else (
          none)))))))))
end Go.Pl

set_option linter.unusedVariables false
set_option linter.unusedSimpArgs false
set_option maxRecDepth 100000
set_option maxHeartbeats 0
namespace Go.Pl
end Go.Pl
open Go Go.Den Go.Pl
namespace Go.Proofs.Ytennopklknlecaa
abbrev S_l10_TapeBytes_0 : Shape := { sl := [(0, (.v .str)), (1, (.sz (.int .i64))), (5, (.c ⟨(.ptr (.pair .bool .str)), (.rf 0 [])⟩)), (7, (.v (.int .i64))), (8, (.v (.int .i64)))], ob := [(0, (.v (.pair .bool .str)))], lo := 1, nx := 1 }
abbrev E_l10_TapeBytes_0 : List Ex := [(.ret, { sl := [(4, (.v .bool))], ob := [], lo := 1, nx := 1 }), (.normal, { sl := [], ob := [], lo := 1, nx := 1 })]
noncomputable def L_l10_TapeBytes_0 : Code := loopIn (bodyOf Try.f3) 0
noncomputable def P_l10_TapeBytes_0 : Lp := lpOf S_l10_TapeBytes_0 E_l10_TapeBytes_0 103 R_l10_TapeBytes_0
noncomputable def x_l10_TapeBytes : Cx := { ti := ti, con := [(15, c_l10_awake), (16, c_tape_New_m), (17, conIf 0 c_tape_Tape_Bytes_m c_tape_Tape_Bytes), (18, c_tape_Tape_Left)], fns := [], un := 6 }
theorem xok_l10_TapeBytes : CxOk Try.prog x_l10_TapeBytes := CxOk.of mixed ti_ok (List.forall_mem_cons.2 ⟨con_l10_awake, List.forall_mem_cons.2 ⟨con_tape_New_m, List.forall_mem_cons.2 ⟨conIf_ok con_tape_Tape_Bytes_m con_tape_Tape_Bytes, List.forall_mem_cons.2 ⟨con_tape_Tape_Left, List.forall_mem_nil _⟩⟩⟩⟩) (List.forall_mem_nil _)
theorem r_l10_TapeBytes_0 (x : S_l10_TapeBytes_0.X) : denC x_l10_TapeBytes [] (denF x_l10_TapeBytes 8) L_l10_TapeBytes_0 (S_l10_TapeBytes_0.mkS 103 x) (kRound 0 S_l10_TapeBytes_0 E_l10_TapeBytes_0) = R_l10_TapeBytes_0 x := by kernel_rfl
theorem l_l10_TapeBytes_0 : LpOk Try.prog 0 (.loop L_l10_TapeBytes_0) P_l10_TapeBytes_0 := lpOf_ok xok_l10_TapeBytes 8 (lps_nil) S_l10_TapeBytes_0 E_l10_TapeBytes_0 103 R_l10_TapeBytes_0 (by decide) r_l10_TapeBytes_0
theorem fn_l10_TapeBytes : FnOk Try.prog 3 Try.f3 [(0, P_l10_TapeBytes_0)] := ⟨Try.func3, Try.call3, lps_of (by kernel_rfl) (lps_one l_l10_TapeBytes_0 (by kernel_rfl) (List.forall_mem_nil _))⟩
theorem e_l10_TapeBytes (s : ByteArray) (nl : Nat) (l : Nat → Int) : bodyK x_l10_TapeBytes [(0, P_l10_TapeBytes_0)] (denF x_l10_TapeBytes 8) Try.f3 (domV [.str, (.sl (.int .i64))] (s, (nl, l), ())) [] 0 kTrue = l10_TapeBytes' s nl l := by kernel_rfl
end Go.Proofs.Ytennopklknlecaa

set_option linter.unusedVariables false
set_option linter.unusedSimpArgs false
namespace Go.Pl
open Go Go.Den Go.Num

theorem l10_TapeBytes_true {s : ByteArray} {nl : Nat} {l : Nat → Int} (hs : Go.Den.Good .str s) (hl : Go.Den.Good (.sl (.int .i64)) (.fz nl l)) : l10_TapeBytes' s nl l = some () := by
  have hlr : ∀ i, i < nl → -9223372036854775808 ≤ l i ∧ l i < 9223372036854775808 := fun i hi => by
    have := hl.2 i hi
    exact ⟨this.1, Int.lt_of_le_of_lt this.2 (by decide)⟩
  unfold l10_TapeBytes'
  simp only [bl_size]
  by_cases h1 : (bl s).length > 512
  · simp (disch := omega) only [wrap_i64n, wrapun, dec_t, dec_f, inb_t, cond_true, cond_false, Int.toNat_natCast, beq_t, beq_f, bne_t, bne_f, Bool.not_true, Bool.not_false, Int.reduceToNat, ft_b, tf_b, tt_b, ff_b, decide_true, decide_false, l10_awake_spec]
  by_cases h2 : nl > 20
  · simp (disch := omega) only [wrap_i64n, wrapun, dec_t, dec_f, inb_t, cond_true, cond_false, Int.toNat_natCast, beq_t, beq_f, bne_t, bne_f, Bool.not_true, Bool.not_false, Int.reduceToNat, ft_b, tf_b, tt_b, ff_b, decide_true, decide_false, l10_awake_spec]
  have hn := tape_New_m_spec (s := s) (by omega)
  obtain ⟨y, y1, _⟩ := loop_for (R := R_l10_TapeBytes_0) (fun i (p : Nat × ByteArray) => T_l10_TapeBytes_0 s nl l (p.1 : Int) (i : Int) (true, p.2)) (fun _ => Y_l10_TapeBytes_0_1) (fun _ p => p.1 ≤ (bl s).length ∧ bl p.2 = (bl s).drop p.1) nl
    (fun i hi p hP => by
      obtain ⟨a, b⟩ := p
      obtain ⟨ha, hb⟩ := hP
      simp only at ha hb
      have hbl : (bl b).length = (bl s).length - a := by rw [hb, List.length_drop]
      obtain ⟨g1, g2⟩ := hlr i hi
      by_cases c1 : l i < 0
      · refine ⟨(a, b), ?_, ha, hb⟩
        unfold R_l10_TapeBytes_0
        simp (disch := omega) only [add_c, add_l, l_add, mul_c, mul_l, l_mul, sub_c, sub_l, l_sub, div_c, div_l, mod_c, mod_l, tdiv_c, tdiv_l, tmod_c, tmod_l, wrap_i64n, wrapun, dec_t, dec_f, inb_t, cond_true, cond_false, Int.toNat_natCast, beq_t, beq_f, bne_t, bne_f, Bool.not_true, Bool.not_false, Int.reduceToNat, ft_b, tf_b, tt_b, ff_b, decide_true, decide_false, tape_Bytes_low c1, sEq_refl, tape_Left_spec, bl_size, hbl]
      by_cases c2 : l i > ((bl b).length : Int)
      · refine ⟨(a, b), ?_, ha, hb⟩
        unfold R_l10_TapeBytes_0
        simp (disch := omega) only [add_c, add_l, l_add, mul_c, mul_l, l_mul, sub_c, sub_l, l_sub, div_c, div_l, mod_c, mod_l, tdiv_c, tdiv_l, tmod_c, tmod_l, wrap_i64n, wrapun, dec_t, dec_f, inb_t, cond_true, cond_false, Int.toNat_natCast, beq_t, beq_f, bne_t, bne_f, Bool.not_true, Bool.not_false, Int.reduceToNat, ft_b, tf_b, tt_b, ff_b, decide_true, decide_false, tape_Bytes_more c1 c2, sEq_refl, tape_Left_spec, bl_size, hbl]
      · obtain ⟨n, hn⟩ : ∃ n : Nat, l i = n := ⟨(l i).toNat, by omega⟩
        have q := tape_Bytes_spec (n := n) (b := b) (by omega)
        have e1 : sEq (b.extract 0 n) (s.extract a (a + n)) = true := sEq_of (by
          rw [bl_front, hb, bl_extract, show a + n - a = n by omega])
        have e2 : bl (b.extract n (bl b).length) = (bl s).drop (a + n) := by rw [← bl_size, bl_rest, hb, List.drop_drop]
        refine ⟨(a + n, b.extract n b.size), ?_, by simp only; omega, e2⟩
        unfold R_l10_TapeBytes_0
        simp (disch := omega) only [add_c, add_l, l_add, mul_c, mul_l, l_mul, sub_c, sub_l, l_sub, div_c, div_l, mod_c, mod_l, tdiv_c, tdiv_l, tmod_c, tmod_l, wrap_i64n, wrapun, dec_t, dec_f, inb_t, cond_true, cond_false, Int.toNat_natCast, beq_t, beq_f, bne_t, bne_f, Bool.not_true, Bool.not_false, Int.reduceToNat, ft_b, tf_b, tt_b, ff_b, decide_true, decide_false, hn, q, e1, tape_Left_spec, bl_size, e2, List.length_drop, Bool.and_true])
    (fun s _ => by
      unfold R_l10_TapeBytes_0
      simp (disch := omega) only [add_c, add_l, l_add, mul_c, mul_l, l_mul, sub_c, sub_l, l_sub, div_c, div_l, mod_c, mod_l, tdiv_c, tdiv_l, tmod_c, tmod_l, wrap_i64n, wrapun, dec_t, dec_f, inb_t, cond_true, cond_false, Int.toNat_natCast, beq_t, beq_f, bne_t, bne_f, Bool.not_true, Bool.not_false, Int.reduceToNat, ft_b, tf_b, tt_b, ff_b, decide_true, decide_false]) (0, s) ⟨Nat.zero_le _, rfl⟩
  have y1' : loopF R_l10_TapeBytes_0 ((s, ((nl, l), ((), (0, (0, ()))))), ((true, s), ())) = some Y_l10_TapeBytes_0_1 := y1
  simp (disch := omega) only [wrap_i64n, wrapun, dec_t, dec_f, inb_t, cond_true, cond_false, Int.toNat_natCast, beq_t, beq_f, bne_t, bne_f, Bool.not_true, Bool.not_false, Int.reduceToNat, ft_b, tf_b, tt_b, ff_b, decide_true, decide_false, hn, y1', l10_awake_spec]
end Go.Pl
