/-
  One statement, plainly.
-/
import Derived.Test.YtkhhonbkgckjjaaGreatDenI
import Derived.Test.YtkhhonbkgckjjaaGreatL37
import Derived.Test.YtkhhonbkgckjjaaGreatPr37
import Derived.Test.YtkhhonbkgckjjaaGreatPseek
import Derived.Test.YtkhhonbkgckjjaaGreatEqA
import Derived.Test.YtkhhonbkgckjjaaGreatEr37
import Derived.Test.YtkhhonbkgckjjaaGreatEseek
import Derived.Test.YtkhhonbkgckjjaaGreatMH
set_option linter.unusedVariables false
set_option linter.unusedSimpArgs false
set_option maxRecDepth 100000
set_option maxHeartbeats 0
namespace Go.Pl
end Go.Pl
open Go Go.Den Go.Pl
namespace Go.Pl
open Go.IntKind (i64 u64 u32 u8)
abbrev T_l37_SeekFinds_0 (seed : ByteArray) (nbits : Nat) (bits : Nat → Int) (i : Int) := ((seed, ((nbits, bits), (i, ()))), ())
abbrev Y_l37_SeekFinds_0_0 (t : Bool) : (((Bool × Unit) × Unit) ⊕ ((ByteArray × ((Nat × NI) × Unit)) × Unit)) := (.inl ((t, ()), ()))
abbrev Y_l37_SeekFinds_0_1 (seed : ByteArray) (nbits : Nat) (bits : Nat → Int) : (((Bool × Unit) × Unit) ⊕ ((ByteArray × ((Nat × NI) × Unit)) × Unit)) := (.inr ((seed, ((nbits, bits), ())), ()))
abbrev X_l37_SeekFinds_0 : Type := ((ByteArray × ((Nat × NI) × (Int × Unit))) × Unit)
noncomputable def R_l37_SeekFinds_0 : X_l37_SeekFinds_0 → Option (X_l37_SeekFinds_0 ⊕ (((Bool × Unit) × Unit) ⊕ ((ByteArray × ((Nat × NI) × Unit)) × Unit))) := fun x =>
 let seed := x.1.1
 let nbits := x.1.2.1.1
 let bits := x.1.2.1.2
 let i := x.1.2.2.1
 bif (decide (i < ((nbits : Nat) : Int))) then (
 bif (inb i nbits) then (
 bif (decide ((bits (Int.toNat i)) > 31)) then (
 bif (inb i nbits) then (
 bif (decide ((bits (Int.toNat i)) ≤ 250)) then (
 match l37_awake with
 | none => none
 | some r => (
 some (.inr (.inl ((r, ()), ())))))
 else (
 some (.inl ((seed, ((nbits, bits), ((i64.wrap (i + 1)), ()))), ()))))
 else (
 none))
 else (
 some (.inl ((seed, ((nbits, bits), ((i64.wrap (i + 1)), ()))), ()))))
 else (
 none))
 else (
 some (.inr (.inr ((seed, ((nbits, bits), ())), ()))))
abbrev T_l37_SeekFinds_2 (i : Int) (na : Nat) (a : Nat → (NI × Int)) (a1 : NI) (nb : Nat) (b : Nat → (NI × Int)) (b1 : NI) := (((), ((), (i, ()))), (((na, a), a1), (((nb, b), b1), ())))
abbrev Y_l37_SeekFinds_2_1  : (((Bool × Unit) × Unit) ⊕ (Unit × Unit)) := (.inr ((), ()))
abbrev X_l37_SeekFinds_2 : Type := ((Unit × (Unit × (Int × Unit))) × (((Nat × (Nat → (NI × Int))) × NI) × (((Nat × (Nat → (NI × Int))) × NI) × Unit)))
noncomputable def R_l37_SeekFinds_2 : X_l37_SeekFinds_2 → Option (X_l37_SeekFinds_2 ⊕ (((Bool × Unit) × Unit) ⊕ (Unit × Unit))) := fun x =>
 let i := x.1.2.2.1
 let na := x.2.1.1.1
 let a := x.2.1.1.2
 let a1 := x.2.1.2
 let nb := x.2.2.1.1.1
 let b := x.2.2.1.1.2
 let b1 := x.2.2.1.2
 bif (decide (i < ((na : Nat) : Int))) then (
 bif (inb i na) then (
 bif (inb i nb) then (
 bif (!(eqF (.pair (.arr 4 (.int .u64)) (.int .i64)) (a (Int.toNat i)) (b (Int.toNat i)))) then (
 some (.inr (.inl ((false, ()), ()))))
 else (
 some (.inl (((), ((), ((i64.wrap (i + 1)), ()))), (((na, a), a1), (((nb, b), b1), ()))))))
 else (
 none))
 else (
 none))
 else (
 some (.inr (.inr ((), ()))))
noncomputable def l37_SeekFinds' (seed : ByteArray) (nbits : Nat) (bits : Nat → Int) : Option (Unit) :=
 bif (decide ((((ByteArray.size seed) : Nat) : Int) > 100)) then (
 match l37_awake with
 | none => none
 | some r => (
 bif r then (
 some ())
 else (
 none)))
 else (
 bif (decide (((nbits : Nat) : Int) > 3)) then (
 match l37_awake with
 | none => none
 | some r1 => (
 bif r1 then (
 some ())
 else (
 none)))
 else (
 match (loopF R_l37_SeekFinds_0 ((seed, ((nbits, bits), (0, ()))), ())) with
 | none => none
 | some y => (
 match y with
 | .inl y1 => (
 let t := y1.1.1
 bif t then (
 some ())
 else (
 none))
 | .inr y1 => (
 let seed1 := y1.1.1
 let nbits1 := y1.1.2.1.1
 let bits1 := y1.1.2.1.2
 match (seek_Find seed1 nbits1 bits1) with
 | none => none
 | some r2 => (
 match (r37_Find seed1 nbits1 bits1) with
 | none => none
 | some r3 => (
 bif (r2.2 != r3.2) then (
 none)
 else (
 bif (!(eqF (.arr 4 (.int .u64)) r2.1.2 r3.1.2)) then (
 none)
 else (
 bif (((r2.1.1.1 : Nat) : Int) != ((r3.1.1.1 : Nat) : Int)) then (
 none)
 else (
 match (loopF R_l37_SeekFinds_2 (((), ((), (0, ()))), (((r2.1.1.1, r2.1.1.2), r2.1.2), (((r3.1.1.1, r3.1.1.2), r3.1.2), ())))) with
 | none => none
 | some y2 => (
 match y2 with
 | .inl y3 => (
 let t1 := y3.1.1
 bif t1 then (
 some ())
 else (
 none))
 | .inr y3 => (
 match l37_awake with
 | none => none
 | some r4 => (
 bif r4 then (
 some ())
 else (
 none)))))))))))))
end Go.Pl

namespace Go.Proofs.YtkhhonbkgckjjaaGreat
abbrev S_l37_SeekFinds_0 : Shape := { sl := [(0, (.v .str)), (1, (.sz tI)), (pv 5 tI)], ob := [], lo := 0, nx := 0 }
abbrev E_l37_SeekFinds_0 : List Ex := [(.ret, { sl := [(4, (.v .bool))], ob := [], lo := 0, nx := 0 }), (.normal, { sl := [(0, (.v .str)), (1, (.sz tI))], ob := [], lo := 0, nx := 0 })]
noncomputable def L_l37_SeekFinds_0 : Code := loopIn (bodyOf Tryz.f3) 0
noncomputable def P_l37_SeekFinds_0 : Lp := lpOf S_l37_SeekFinds_0 E_l37_SeekFinds_0 89 R_l37_SeekFinds_0
abbrev S_l37_SeekFinds_2 : Shape := { sl := [(pc 6 (.pair (.sl (.pair tN tI)) tN) 0), (pc 8 (.pair (.sl (.pair tN tI)) tN) 1), (pv 10 tI)], ob := [(0, (.p (.sz (.pair tN tI)) (.v tN))), (1, (.p (.sz (.pair tN tI)) (.v tN)))], lo := 2, nx := 2 }
abbrev E_l37_SeekFinds_2 : List Ex := [(.ret, { sl := [(4, (.v .bool))], ob := [], lo := 2, nx := 2 }), (.normal, { sl := [], ob := [], lo := 2, nx := 2 })]
noncomputable def L_l37_SeekFinds_2 : Code := loopIn (bodyOf Tryz.f3) 2
noncomputable def P_l37_SeekFinds_2 : Lp := lpOf S_l37_SeekFinds_2 E_l37_SeekFinds_2 89 R_l37_SeekFinds_2
noncomputable def x_l37_SeekFinds : Cx := { ti := ti, con := [(4, c_l37_awake), (5, c2d_), (6, c3o_)], fns := [], un := 6 }
theorem xok_l37_SeekFinds : CxOk Tryz.prog x_l37_SeekFinds := CxOk.of mixed ti_ok (fc ⟨con_l37_awake, fc ⟨con2d_, fc ⟨con3o_, fz⟩⟩⟩) fz
theorem r_l37_SeekFinds_0 (x : S_l37_SeekFinds_0.X) : denC x_l37_SeekFinds [] (denF x_l37_SeekFinds 8) L_l37_SeekFinds_0 (S_l37_SeekFinds_0.mkS 89 x) (kRound 0 S_l37_SeekFinds_0 E_l37_SeekFinds_0) = R_l37_SeekFinds_0 x := by kernel_rfl
theorem l_l37_SeekFinds_0 : LpOk Tryz.prog 0 (.loop L_l37_SeekFinds_0) P_l37_SeekFinds_0 := lpOf_ok xok_l37_SeekFinds 8 (lps_nil) S_l37_SeekFinds_0 E_l37_SeekFinds_0 89 R_l37_SeekFinds_0 (by decide) r_l37_SeekFinds_0
theorem r_l37_SeekFinds_2 (x : S_l37_SeekFinds_2.X) : denC x_l37_SeekFinds [] (denF x_l37_SeekFinds 8) L_l37_SeekFinds_2 (S_l37_SeekFinds_2.mkS 89 x) (kRound 2 S_l37_SeekFinds_2 E_l37_SeekFinds_2) = R_l37_SeekFinds_2 x := by kernel_rfl
theorem l_l37_SeekFinds_2 : LpOk Tryz.prog 2 (.loop L_l37_SeekFinds_2) P_l37_SeekFinds_2 := lpOf_ok xok_l37_SeekFinds 8 (lps_nil) S_l37_SeekFinds_2 E_l37_SeekFinds_2 89 R_l37_SeekFinds_2 (by decide) r_l37_SeekFinds_2
theorem fn_l37_SeekFinds : FnOk Tryz.prog 3 Tryz.f3 [(0, P_l37_SeekFinds_0), (2, P_l37_SeekFinds_2)] := ⟨Tryz.func3, Tryz.call3, lps_of (by kernel_rfl) (lps_one l_l37_SeekFinds_0 (by kernel_rfl) (lps_one l_l37_SeekFinds_2 (by kernel_rfl) fz))⟩
theorem e_l37_SeekFinds (seed : ByteArray) (nbits : Nat) (bits : Nat → Int) : bodyK x_l37_SeekFinds [(0, P_l37_SeekFinds_0), (2, P_l37_SeekFinds_2)] (denF x_l37_SeekFinds 8) Tryz.f3 (domV [.str, (.sl tI)] (seed, (nbits, bits), ())) [] 0 kTrue = l37_SeekFinds' seed nbits bits := by kernel_rfl
end Go.Proofs.YtkhhonbkgckjjaaGreat

set_option maxRecDepth 4000
namespace Go.Pl
open Go Go.Den Go.Num
theorem GroupP.links {k : Nat} {acc : List (Nat × Nat)} {l : Nat → (Nat → Int) × Int} (h : AccOk acc k l) {g : Nat} : GroupP k (accN acc) (fun i => (l i).2) g ↔ GroupP k (accN acc) (accA acc) g := by
  have hp := h.pos
  have hs : ∀ i, i < k → (l i).2 = accA acc i := fun i hi => (h.link i hi).2
  unfold GroupP ChainP
  constructor
  · rintro ⟨a1, ⟨b1, b2, b3, b4, b5, b6, b7⟩, a3⟩
    exact ⟨a1, ⟨b1, b2, b3, b4, b5, by rw [← hs 0 (by omega)]; exact b6, fun i hi => by rw [← hs (i + 1) hi]; exact b7 i hi⟩, a3⟩
  · rintro ⟨a1, ⟨b1, b2, b3, b4, b5, b6, b7⟩, a3⟩
    refine ⟨a1, ⟨b1, b2, b3, b4, b5, ?_, fun i hi => ?_⟩, a3⟩
    · show (l 0).2 = 0
      rw [hs 0 (by omega)]; exact b6
    · show StepP _ _ (l (i + 1)).2
      rw [hs (i + 1) hi]; exact b7 i hi
theorem r37_Find_spec {seed : ByteArray} {nb : Nat} {bits : Nat → Int} (hseed : 16 ≤ seed.size ∧ seed.size ≤ 1024) (h2 : 2 ≤ nb) (h7 : nb ≤ 7)
    (hbits : ∀ i, i < nb → -9223372036854775808 ≤ bits i ∧ bits i < 9223372036854775808 ∧ (bits i ≤ 60 ∨ 250 < bits i)) :
    ∃ N, LeastP (fromN (newN seed)) N ∧
      (∀ e, foundN ((List.range nb).map bits) (toldN (newN seed)) N = .no e → r37_Find seed nb bits = some (((0, (fun _ => ((fun _ => 0), 0))), (fun _ => 0)), e)) ∧
      (∀ acc g, foundN ((List.range nb).map bits) (toldN (newN seed)) N = .yes acc g → ∃ l x, r37_Find seed nb bits = some (((nb + 1, l), x), 0) ∧ AccOk acc (nb + 1) l ∧ IsN x g) := by
  have hnew := (r34_New_spec seed).2 hseed
  have hs0 := newN_ok seed
  have hby : r34_Bytes (newN seed) 2 (ByteArray.mk #[]) = some (toldN (newN seed), tellN (newN seed) 2, 0) := r34_Bytes_spec hs0 (by decide) (n := 2) (by decide) (by decide)
  obtain ⟨z, z1, z2⟩ := r37_number_spec (s := newN seed) (n := 2) (by decide) 14 (by decide)
  have hlow := r01_Low_spec z2
  have hX := fromN_lt (newN seed)
  unfold fromN at hX
  rw [if_pos (by omega)] at hlow
  obtain ⟨N, f1, f3⟩ := r37_First_spec (a := 32768 + numN (newN seed) 2 14) (by omega)
  have hN3 : 3 ≤ N := by have := f3.ge; omega
  have hNl := f3.lt
  obtain ⟨x, x1, x2⟩ := r01_Int_c (n := N) (by omega)
  obtain ⟨y, y1, y2, y3⟩ := r37_chain_loop (by omega : nb ≤ 8) hbits (toldN_ok hs0) x2 f3.pr hN3
  refine ⟨N, f3, ?_⟩
  have hw0 : IntKind.i64.wrap (32768 + (numN (newN seed) 2 14 : Int)) = ((32768 + numN (newN seed) 2 14 : Nat) : Int) := by rw [wrap_i64 (by omega)]; omega
  have y1' : loopF R_r37_Find_0 (((nb, bits), ((), ((), ((1, (upd (fun _ => ((fun _ => 0), 0)) 0 (x, 0))), (0, ()))))), (((0, (fun _ => ((fun _ => 0), 0))), (fun _ => 0)), (toldN (newN seed), ()))) = some y := y1
  have hne : (List.range nb).map bits ≠ [] := by
    intro h
    have := congrArg List.length h
    simp at this; omega
  unfold foundN
  cases hc : chainM ((List.range nb).map bits) (toldN (newN seed)) [(N, 0)] with
  | inl e =>
    obtain ⟨e1, e2⟩ := y2 e hc
    subst e2
    refine ⟨fun e' h => ?_, fun acc g h => (by cases h)⟩
    cases h
    rw [r37_Find_eq, r37_Find', hnew]
    simp (disch := omega) only [WW, hby, z1, hlow, hw0, f1, x1, y1']
  | inr acc =>
    obtain ⟨l, e2, hacc⟩ := y3 acc hc
    subst e2
    have hlen := hacc.len
    obtain ⟨d1, d2, d3, d4⟩ := chainM_div (acc := [(N, 0)]) (by simp) f3.pr hc hne
    have eP : lastN acc 1 = (acc.getD nb (0, 0)).1 := by unfold lastN; rw [hlen]; rfl
    have eQ : lastN acc 2 = (acc.getD (nb - 1) (0, 0)).1 := by unfold lastN; rw [hlen, show nb + 1 - 2 = nb - 1 by omega]
    obtain ⟨lP, aP⟩ := hacc.link nb (by omega)
    obtain ⟨lQ, aQ⟩ := hacc.link (nb - 1) (by omega)
    obtain ⟨pQ, q3⟩ := hacc.pr (nb - 1) (by omega)
    rw [← eP] at lP
    rw [← eQ] at lQ pQ q3
    obtain ⟨w1, w2⟩ := r37_Spawn_spec lP lQ d1 (by omega) (by omega) d2
    have e0 : (fun j => l (0 + j)) = l := by funext j; rw [Nat.zero_add]
    have hg2 : ∀ {gx : Nat → Int} {g : Nat}, IsN gx g → ∃ b : Bool, r07_May ((nb + 1, l), gx) = some b ∧ (b = true ↔ GroupP (nb + 1) (accN acc) (accA acc) g) := by
      intro gx g hg
      obtain ⟨b, h1, h2⟩ := r07_May_spec (k := nb + 1) (l := l) (N := accN acc) (G := g) (by omega) (fun i hi => (hacc.link i hi).1) hg
      exact ⟨b, h1, h2.trans (GroupP.links hacc)⟩
    have c1 : IntKind.i64.wrap (((nb + 1 : Nat) : Int) - 1) = ((nb : Nat) : Int) := by rw [wrap_i64 (by omega)]; omega
    have c2 : IntKind.i64.wrap (((nb + 1 : Nat) : Int) - 2) = ((nb - 1 : Nat) : Int) := by rw [wrap_i64 (by omega)]; omega
    dsimp only
    cases hsp : spawnN (lastN acc 1) ((lastN acc 1 - 1) / lastN acc 2) 99 2 with
    | none =>
      refine ⟨fun e h => ?_, fun acc g h => (by cases h)⟩
      cases h
      rw [r37_Find_eq, r37_Find', hnew]
      simp (disch := omega) only [WW, hby, z1, hlow, hw0, f1, x1, y1', c1, c2, Nat.zero_add, w1 hsp]
    | some g =>
      obtain ⟨gx, g1, g2⟩ := w2 g hsp
      obtain ⟨b, q1, q2⟩ := hg2 g2
      simp only
      by_cases hgp0 : GroupP acc.length (accN acc) (accA acc) g
      · rw [if_pos hgp0]
        have hgp : GroupP (nb + 1) (accN acc) (accA acc) g := hlen ▸ hgp0
        refine ⟨fun e h => (by cases h), fun acc' g' h => ?_⟩
        cases h
        refine ⟨l, gx, ?_, hacc, g2⟩
        obtain rfl : b = true := q2.2 hgp
        rw [r37_Find_eq, r37_Find', hnew]
        simp (disch := omega) only [WW, hby, z1, hlow, hw0, f1, x1, y1', c1, c2, Nat.zero_add, g1, q1]
      · rw [if_neg hgp0]
        have hgp : ¬ GroupP (nb + 1) (accN acc) (accA acc) g := fun h => hgp0 (hlen.symm ▸ h)
        refine ⟨fun e h => ?_, fun acc g h => (by cases h)⟩
        cases h
        obtain rfl : b = false := by
          cases hb : b
          · rfl
          · exact absurd (q2.1 hb) hgp
        rw [r37_Find_eq, r37_Find', hnew]
        simp (disch := omega) only [WW, hby, z1, hlow, hw0, f1, x1, y1', c1, c2, Nat.zero_add, g1, q1]
theorem finds_same {na nb : Nat} {a b : Nat → (Nat → Int) × Int} {ga gb : Nat → Int} (h : na = nb) (hna : na < 2 ^ 40) (hl : ∀ i, i < na → eqF (.pair (.arr 4 (.int .u64)) (.int .i64)) (a i) (b i) = true) :
    loopF R_l37_SeekFinds_2 (T_l37_SeekFinds_2 0 na a ga nb b gb) = some Y_l37_SeekFinds_2_1 := by
  subst h
  obtain ⟨_, h1, _⟩ := loop_for (R := R_l37_SeekFinds_2) (S := Unit) (fun k _ => T_l37_SeekFinds_2 (k : Int) na a ga na b gb) (fun _ => Y_l37_SeekFinds_2_1) (fun _ _ => True) na
    (fun k hk _ _ => ⟨(), by simp (disch := omega) only [R_l37_SeekFinds_2, T_l37_SeekFinds_2, WW, CC, hl k hk], trivial⟩)
    (fun _ _ => by simp (disch := omega) only [R_l37_SeekFinds_2, T_l37_SeekFinds_2, WW]) () trivial
  exact h1
theorem acc_same {acc : List (Nat × Nat)} {k : Nat} {a b : Nat → (Nat → Int) × Int} (ha : AccOk acc k a) (hb : AccOk acc k b) : ∀ i, i < k → eqF (.pair (.arr 4 (.int .u64)) (.int .i64)) (a i) (b i) = true := by
  intro i hi
  obtain ⟨a1, a2⟩ := ha.link i hi
  obtain ⟨b1, b2⟩ := hb.link i hi
  have e1 : eqF (.arr 4 (.int .u64)) (a i).1 (b i).1 = true := by rw [a1.eqb b1]; exact decide_eq_true rfl
  show (eqF (.arr 4 (.int .u64)) (a i).1 (b i).1 && ((a i).2 == (b i).2)) = true
  rw [e1, a2, b2, beq_self_eq_true]; rfl
theorem l37_SeekFinds_true {seed : ByteArray} {nbits : Nat} {bits : Nat → Int} (hs : Go.Den.Good .str seed) (hb : Go.Den.Good (.sl (.int .i64)) (.fz nbits bits)) : l37_SeekFinds' seed nbits bits = some () := by
  have hs' : seed.size ≤ 9223372036854775807 := hs
  obtain ⟨hn', hbits⟩ := hb
  have hin : ∀ i, i < nbits → -9223372036854775808 ≤ bits i ∧ bits i ≤ 9223372036854775807 := fun i hi => hbits i hi
  unfold l37_SeekFinds'
  by_cases h1 : seed.size > 100
  · simp (disch := omega) only [WW, l37_awake_true]
  by_cases h2 : nbits > 3
  · simp (disch := omega) only [WW, l37_awake_true]
  have d1 : decide ((seed.size : Int) > 100) = false := dec_f (by omega)
  have d2 : decide ((nbits : Int) > 3) = false := dec_f (by omega)
  obtain ⟨y, y1, y2⟩ := loop_seek (R := R_l37_SeekFinds_0) (S := Unit) (fun k _ => T_l37_SeekFinds_0 seed nbits bits (k : Int)) (fun k _ => ∀ i, i < k → bits i ≤ 31 ∨ 250 < bits i)
    (fun y => y = Y_l37_SeekFinds_0_0 true ∨ (y = Y_l37_SeekFinds_0_1 seed nbits bits ∧ ∀ i, i < nbits → bits i ≤ 31 ∨ 250 < bits i)) nbits
    (fun k hk _ hP => by
      have hb := hin k hk
      by_cases c1 : bits k > 31
      · by_cases c2 : bits k ≤ 250
        · refine .inr ⟨_, ?_, .inl rfl⟩
          simp (disch := omega) only [R_l37_SeekFinds_0, T_l37_SeekFinds_0, WW, l37_awake_true]
        · refine .inl ⟨(), ?_, fun i hi => ?_⟩
          · simp (disch := omega) only [R_l37_SeekFinds_0, T_l37_SeekFinds_0, WW, CC]
          · by_cases hik : i = k
            · subst hik; omega
            · exact hP i (by omega)
      · refine .inl ⟨(), ?_, fun i hi => ?_⟩
        · simp (disch := omega) only [R_l37_SeekFinds_0, T_l37_SeekFinds_0, WW, CC]
        · by_cases hik : i = k
          · subst hik; omega
          · exact hP i (by omega))
    (fun _ hP => ⟨_, by simp (disch := omega) only [R_l37_SeekFinds_0, T_l37_SeekFinds_0, WW], .inr ⟨rfl, hP⟩⟩) () (fun i hi => by omega)
  have y1' : loopF R_l37_SeekFinds_0 ((seed, ((nbits, bits), (0, ()))), ()) = some y := y1
  simp only [d1, d2, cond_false, y1']
  rcases y2 with rfl | ⟨rfl, hall⟩
  · rfl
  simp only
  have zero_eq : eqF (.arr 4 (.int .u64)) (fun _ => 0) (fun _ => 0) = true := by rw [IsN.zero.eqb IsN.zero]; exact decide_eq_true rfl
  suffices key : ∃ (na : Nat) (a b : Nat → (Nat → Int) × Int) (ga gb : Nat → Int) (e : Int), seek_Find seed nbits bits = some (((na, a), ga), e) ∧ r37_Find seed nbits bits = some (((na, b), gb), e) ∧ eqF (.arr 4 (.int .u64)) ga gb = true ∧ na < 2 ^ 40 ∧ ∀ i, i < na → eqF (.pair (.arr 4 (.int .u64)) (.int .i64)) (a i) (b i) = true by
    obtain ⟨na, a, b, ga, gb, e, k1, k2, k3, k4, k5⟩ := key
    have hl := finds_same (na := na) (nb := na) (ga := ga) (gb := gb) rfl k4 k5
    simp only [T_l37_SeekFinds_2] at hl
    rw [k1, k2]
    simp only [bne_self_eq_false, cond_false, k3, Bool.not_true, hl, l37_awake_true, cond_true]
  have none_same : ∀ e : Int, seek_Find seed nbits bits = some (((0, (fun _ => ((fun _ => 0), 0))), (fun _ => 0)), e) → r37_Find seed nbits bits = some (((0, (fun _ => ((fun _ => 0), 0))), (fun _ => 0)), e) →
      ∃ (na : Nat) (a b : Nat → (Nat → Int) × Int) (ga gb : Nat → Int) (e : Int), seek_Find seed nbits bits = some (((na, a), ga), e) ∧ r37_Find seed nbits bits = some (((na, b), gb), e) ∧ eqF (.arr 4 (.int .u64)) ga gb = true ∧ na < 2 ^ 40 ∧ ∀ i, i < na → eqF (.pair (.arr 4 (.int .u64)) (.int .i64)) (a i) (b i) = true :=
    fun e h1 h2 => ⟨0, _, _, _, _, e, h1, h2, zero_eq, by decide, fun i hi => by omega⟩
  by_cases hsz : ¬ 16 ≤ seed.size
  · refine none_same 1 ?_ ?_
    · rw [seek_Find_eq, seek_Find', (drbg_New_spec seed).1 (by omega)]
      simp only [Y_drbg_New_m_0, show ((1 : Int) != 0) = true from rfl, cond_true]
    · rw [r37_Find_eq, r37_Find', (r34_New_spec seed).1 (by omega)]
      simp only [show ((1 : Int) != 0) = true from rfl, cond_true]
  rw [Classical.not_not] at hsz
  by_cases hn2 : ¬ 2 ≤ nbits
  · refine none_same 1 ?_ ?_
    · rw [seek_Find_eq, seek_Find', (drbg_New_spec seed).2 (by omega)]
      simp (disch := omega) only [Y_drbg_New_m_1, WW]
    · rw [r37_Find_eq, r37_Find', (r34_New_spec seed).2 (by omega)]
      simp (disch := omega) only [WW]
  rw [Classical.not_not] at hn2
  obtain ⟨N, n1, f1, f2⟩ := seek_Find_spec (seed := seed) (nb := nbits) (bits := bits) (by omega) hn2 (by omega) (fun i hi => by have := hin i hi; have := hall i hi; omega)
  obtain ⟨N', n1', g1, g2⟩ := r37_Find_spec (seed := seed) (nb := nbits) (bits := bits) (by omega) hn2 (by omega) (fun i hi => by have := hin i hi; have := hall i hi; omega)
  have := n1.same n1'
  subst this
  cases hf : foundN ((List.range nbits).map bits) (toldN (newN seed)) N with
  | no e => exact none_same e (f1 e hf).2 (g1 e hf)
  | yes acc g =>
    obtain ⟨l, x, a1, a2, a3, a4⟩ := f2 acc g hf
    obtain ⟨l', x', b1, b2, b3⟩ := g2 acc g hf
    have hx : eqF (.arr 4 (.int .u64)) x x' = true := by rw [a3.eqb b3]; exact decide_eq_true rfl
    exact ⟨nbits + 1, l, l', x, x', 0, a1, b1, hx, by omega, acc_same a2 b2⟩
end Go.Pl
