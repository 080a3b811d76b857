/-
  One statement, plainly.
-/
import Derived.Test.YtejjdkhjdcjbbaaDenL
import Derived.Test.YtejjdkhjdcjbbaaL22
import Derived.Test.YtejjdkhjdcjbbaaPspace
import Derived.Test.YtejjdkhjdcjbbaaEqA
import Derived.Test.YtejjdkhjdcjbbaaLib
import Derived.Test.YtejjdkhjdcjbbaaDenF
import Derived.Test.YtejjdkhjdcjbbaaEspace
import Derived.Test.YtejjdkhjdcjbbaaMF
set_option linter.unusedVariables false
set_option linter.unusedSimpArgs false
set_option maxRecDepth 100000
set_option maxHeartbeats 0
namespace Go.Pl
end Go.Pl
open Go Go.Den Go.Pl
namespace Go.Pl
open Go.IntKind (i64 u64 u32 u8)
abbrev T_l22_SpaceFull_0 (at_ : Int) (q : Int) (i : Int) (s : Int) (s1 : Int) (ns : Nat) (s2 : Nat → ByteArray) (s3 : List (Int × Int)) := (((), (at_, (q, (i, ())))), ((s, (s1, ((ns, s2), s3))), ()))
abbrev Y_l22_SpaceFull_0_1 (at_ : Int) (q : Int) (s : Int) (s1 : Int) (ns : Nat) (s2 : Nat → ByteArray) (s3 : List (Int × Int)) : (((Bool × Unit) × Unit) ⊕ ((Unit × (Int × (Int × Unit))) × ((Int × (Int × ((Nat × (Nat → ByteArray)) × (List (Int × Int))))) × Unit))) := (.inr (((), (at_, (q, ()))), ((s, (s1, ((ns, s2), s3))), ())))
abbrev X_l22_SpaceFull_0 : Type := ((Unit × (Int × (Int × (Int × Unit)))) × ((Int × (Int × ((Nat × (Nat → ByteArray)) × (List (Int × Int))))) × Unit))
noncomputable def R_l22_SpaceFull_0 : X_l22_SpaceFull_0 → Option (X_l22_SpaceFull_0 ⊕ (((Bool × Unit) × Unit) ⊕ ((Unit × (Int × (Int × Unit))) × ((Int × (Int × ((Nat × (Nat → ByteArray)) × (List (Int × Int))))) × Unit)))) := fun x =>
 let at_ := x.1.2.1
 let q := x.1.2.2.1
 let i := x.1.2.2.2.1
 let s := x.2.1.1
 let s1 := x.2.1.2.1
 let ns := x.2.1.2.2.1.1
 let s2 := x.2.1.2.2.1.2
 let s3 := x.2.1.2.2.2
 bif (decide (i < (i64.wrap (q + 1)))) then (
 match (space_Space_Open_m (bytesOf 1 (fun j => (upd (fun _ => 0) 0 (u8.wrap (i64.wrap (i + 1)))) (0 + j))) at_ s s1 ns s2 s3) with
 | none => none
 | some y => (
 let r := y.1.1
 let r1 := y.1.2.1
 let r2 := y.1.2.2.1
 let o := y.2.1.1
 let o1 := y.2.1.2.1
 let no := y.2.1.2.2.1.1
 let o2 := y.2.1.2.2.1.2
 let o3 := y.2.1.2.2.2
 bif (!((r2 == 0) == (decide (i < q)))) then (
 some (.inr (.inl ((false, ()), ()))))
 else (
 bif (!(r1 == (decide (i < q)))) then (
 some (.inr (.inl ((false, ()), ()))))
 else (
 bif (r2 != 0) then (
 bif (r2 != 7) then (
 some (.inr (.inl ((false, ()), ()))))
 else (
 some (.inl (((), (at_, (q, ((i64.wrap (i + 1)), ())))), ((o, (o1, ((no, o2), o3))), ())))))
 else (
 some (.inl (((), (at_, (q, ((i64.wrap (i + 1)), ())))), ((o, (o1, ((no, o2), o3))), ()))))))))
 else (
 some (.inr (.inr (((), (at_, (q, ()))), ((s, (s1, ((ns, s2), s3))), ())))))
noncomputable def l22_SpaceFull' (size : NI) (end_ : Int) : Option (Unit) :=
 match (space_New_m (i64.wrap (1 + (Int.tmod (bitsOp .and .i64 (size 0) 255) 3))) (i64.wrap (1 + (bitsOp .and .i64 (size 1) 1)))) with
 | none => none
 | some y => (
 match y with
 | .inl y1 => (
 let r := y1.1.2.1
 bif (r != 0) then (
 none)
 else (
 none))
 | .inr y1 => (
 let r1 := y1.1.2.1
 let o := y1.2.1.1
 let o1 := y1.2.1.2.1
 let no := y1.2.1.2.2.1.1
 let o2 := y1.2.1.2.2.1.2
 let o3 := y1.2.1.2.2.2
 bif (r1 != 0) then (
 none)
 else (
 let t := (i64.wrap ((i64.wrap (1 + (Int.tmod (bitsOp .and .i64 (size 0) 255) 3))) + (i64.wrap (1 + (bitsOp .and .i64 (size 1) 1)))))
 bif (decide (t = 0)) then (
 none)
 else (
 match (loopF R_l22_SpaceFull_0 (((), ((i64.wrap (1 + (Int.tmod (bitsOp .and .i64 end_ 255) t))), ((quotaV o o1 (i64.wrap (1 + (Int.tmod (bitsOp .and .i64 end_ 255) t)))), (0, ())))), ((o, (o1, ((no, o2), o3))), ()))) with
 | none => none
 | some y2 => (
 match y2 with
 | .inl y3 => (
 let t1 := y3.1.1
 bif t1 then (
 some ())
 else (
 none))
 | .inr y3 => (
 let at_ := y3.1.2.1
 let q := y3.1.2.2.1
 let s := y3.2.1.1
 let s1 := y3.2.1.2.1
 let ns := y3.2.1.2.2.1.1
 let s2 := y3.2.1.2.2.1.2
 let s3 := y3.2.1.2.2.2
 match (space_Space_Open none (ByteArray.mk #[107]) 1) with
 | none => none
 | some r2 => (
 match (space_Space_Find none (ByteArray.mk #[107])) with
 | none => none
 | some r3 => (
 bif (r2.1 != 0) then (
 none)
 else (
 bif r2.2.1 then (
 none)
 else (
 bif (r2.2.2 != 1) then (
 none)
 else (
 bif (r3.1 != 0) then (
 none)
 else (
 bif r3.2 then (
 none)
 else (
 match (space_Space_Keys none) with
 | none => none
 | some r4 => (
 bif (decide (((r4.1 : Nat) : Int) > 0)) then (
 none)
 else (
 match (space_Space_Used none 1) with
 | none => none
 | some r5 => (
 bif (r5 != 0) then (
 none)
 else (
 match (space_Space_Open (some (0, (0, (.nil, none)))) (ByteArray.mk #[107]) 1) with
 | none => none
 | some r6 => (
 match (space_Space_Find (some (0, (0, (.nil, none)))) (ByteArray.mk #[107])) with
 | none => none
 | some r7 => (
 bif (r6.1 != 0) then (
 none)
 else (
 bif r6.2.1 then (
 none)
 else (
 bif (r6.2.2 != 1) then (
 none)
 else (
 bif (r7.1 != 0) then (
 none)
 else (
 bif r7.2 then (
 none)
 else (
 match (space_Space_Keys (some (0, (0, (.nil, none))))) with
 | none => none
 | some r8 => (
 bif (decide (((r8.1 : Nat) : Int) > 0)) then (
 none)
 else (
 match (space_Space_Used (some (0, (0, (.nil, none)))) 1) with
 | none => none
 | some r9 => (
 bif (r9 != 0) then (
 none)
 else (
 bif ((quotaV 0 0 1) != 0) then (
 none)
 else (
 match (space_Space_Used_m at_ s s1 ns s2 s3) with
 | none => none
 | some y4 => (
 let r10 := y4.1.1
 let o4 := y4.2.1.1
 let o5 := y4.2.1.2.1
 let no1 := y4.2.1.2.2.1.1
 let o6 := y4.2.1.2.2.1.2
 let o7 := y4.2.1.2.2.2
 bif (r10 == q) then (
 match (space_Space_Keys_m o4 o5 no1 o6 o7) with
 | none => none
 | some y5 => (
 let nr := y5.1.1.1
 let r11 := y5.1.1.2
 let o8 := y5.2.1.1
 let o9 := y5.2.1.2.1
 let no2 := y5.2.1.2.2.1.1
 let o10 := y5.2.1.2.2.1.2
 let o11 := y5.2.1.2.2.2
 bif (((nr : Nat) : Int) == q) then (
 match l22_awake with
 | none => none
 | some r12 => (
 bif r12 then (
 some ())
 else (
 none)))
 else (
 none)))
 else (
 none)))))))))))))))))))))))))))))))
end Go.Pl

namespace Go.Proofs.Ytejjdkhjdcjbbaa
abbrev S_l22_SpaceFull_0 : Shape := { sl := [(pc 7 (.pair tI (.pair tI (.pair (.sl .str) .mp))) 2), (pv 9 tI), (pv 10 tI), (pv 11 tI)], ob := [(2, (.p (.v tI) (.p (.v tI) (.p (.w 9 .str 5) (.m tI tI 6)))))], lo := 5, nx := 7 }
abbrev E_l22_SpaceFull_0 : List Ex := [(.ret, { sl := [(4, (.v .bool))], ob := [], lo := 18, nx := 18 }), (.normal, { sl := [(pc 7 (.pair tI (.pair tI (.pair (.sl .str) .mp))) 2), (pv 9 tI), (pv 10 tI)], ob := [(2, (.p (.v tI) (.p (.v tI) (.p (.w 9 .str 7) (.m tI tI 8)))))], lo := 7, nx := 9 })]
noncomputable def L_l22_SpaceFull_0 : Code := loopIn (bodyOf Try.f8) 0
noncomputable def P_l22_SpaceFull_0 : Lp := lpOf S_l22_SpaceFull_0 E_l22_SpaceFull_0 174 R_l22_SpaceFull_0
noncomputable def x_l22_SpaceFull : Cx := { ti := ti, con := [(23, c06_), (30, c_sQuota), (25, conIf 0 c0b_ c0c_), (26, conIf 0 c0d_ c0e_), (33, conIf 0 c0h_ c0i_), (28, conIf 0 c0f_ c0g_), (22, c_l22_awake)], fns := [], un := 6, frz := [86] }
theorem xok_l22_SpaceFull : CxOk Try.prog x_l22_SpaceFull := CxOk.of mixed ti_ok (fc ⟨con06_, fc ⟨con_sQuota, fc ⟨conIf_ok con0b_ con0c_, fc ⟨conIf_ok con0d_ con0e_, fc ⟨conIf_ok con0h_ con0i_, fc ⟨conIf_ok con0f_ con0g_, fc ⟨con_l22_awake, fz⟩⟩⟩⟩⟩⟩⟩) fz
theorem r_l22_SpaceFull_0 (x : S_l22_SpaceFull_0.X) : denC x_l22_SpaceFull [] (denF x_l22_SpaceFull 8) L_l22_SpaceFull_0 (S_l22_SpaceFull_0.mkS 174 x) (kRound 0 S_l22_SpaceFull_0 E_l22_SpaceFull_0) = R_l22_SpaceFull_0 x := by kernel_rfl
theorem l_l22_SpaceFull_0 : LpOk Try.prog 0 (.loop L_l22_SpaceFull_0) P_l22_SpaceFull_0 := lpOf_ok xok_l22_SpaceFull 8 (lps_nil) S_l22_SpaceFull_0 E_l22_SpaceFull_0 174 R_l22_SpaceFull_0 (by decide) r_l22_SpaceFull_0
theorem fn_l22_SpaceFull : FnOk Try.prog 8 Try.f8 [(0, P_l22_SpaceFull_0)] := ⟨Try.func8, Try.call8, lps_of (by kernel_rfl) (lps_one l_l22_SpaceFull_0 (by kernel_rfl) fz)⟩
theorem e_l22_SpaceFull (size : NI) (end_ : Int) : bodyK x_l22_SpaceFull [(0, P_l22_SpaceFull_0)] (denF x_l22_SpaceFull 8) Try.f8 (domV [(.arr 2 tI), tI] (size, end_, ())) [] 0 kTrue = l22_SpaceFull' size end_ := by kernel_rfl
end Go.Proofs.Ytejjdkhjdcjbbaa

namespace Go.Pl
open Go Go.Den
def keyN (i : Nat) : ByteArray := bytesOf 1 (fun j => (upd (fun _ => 0) 0 ((i + 1 : Nat) : Int)) (0 + j))
theorem bl_keyN (i : Nat) : bl (keyN i) = [UInt8.ofNat (i + 1)] := by
  rw [keyN, bl_bytesOf]
  show [UInt8.ofNat (Int.toNat ((i + 1 : Nat) : Int))] = _
  rw [Int.toNat_natCast]
theorem keyN_size (i : Nat) : (keyN i).size = 1 := by rw [bl_size, bl_keyN]; rfl
theorem keyN_lt {i j : Nat} (h : i < j) (hj : j < 200) : lessT (keyN i) (keyN j) = true := by
  unfold lessT
  rw [bl_keyN, bl_keyN]
  have : UInt8.ofNat (i + 1) < UInt8.ofNat (j + 1) := by
    rw [UInt8.lt_iff_toNat_lt, UInt8.toNat_ofNat', UInt8.toNat_ofNat']; omega
  simp only [Op.bytesLess, this, decide_true, Bool.true_or]
theorem keyN_ne {i j : Nat} (h : i < j) (hj : j < 200) : keyN i ≠ keyN j := fun e => by
  have := keyN_lt h hj
  rw [e, lessT_irr] at this; exact absurd this (by decide)
theorem l22_SpaceFull_spec (size : Nat → Int) (end_ : Int) : l22_SpaceFull' size end_ = some () := by
  have ha : bitsOp .and .i64 (size 0) 255 = size 0 % 256 := andMask (x := size 0) (k := 8) (by decide)
  have hb : bitsOp .and .i64 (size 1) 1 = size 1 % 2 := andMask (x := size 1) (k := 1) (by decide)
  have hc : bitsOp .and .i64 end_ 255 = end_ % 256 := andMask (x := end_) (k := 8) (by decide)
  have hta : Int.tmod (size 0 % 256) 3 = size 0 % 256 % 3 := tmod_nn (by omega)
  rw [l22_SpaceFull', ha, hb, hc, hta]
  have hn0 : 0 ≤ size 0 % 256 % 3 ∧ size 0 % 256 % 3 ≤ 2 := by omega
  have hm0 : 0 ≤ size 1 % 2 ∧ size 1 % 2 ≤ 1 := by omega
  generalize size 0 % 256 % 3 = a0 at *
  generalize size 1 % 2 = b0 at *
  rw [wrap_i64 (x := 1 + a0) (by omega), wrap_i64 (x := 1 + b0) (by omega), wrap_i64 (x := 1 + a0 + (1 + b0)) (by omega)]
  rw [New_ok (by omega)]
  simp only [Y_space_New_m_1, WW, bne_self_eq_false]
  have hte : Int.tmod (end_ % 256) (1 + a0 + (1 + b0)) = end_ % 256 % (1 + a0 + (1 + b0)) := tmod_nn (by omega)
  simp only [hte]
  have he1 : 0 ≤ end_ % 256 % (1 + a0 + (1 + b0)) := Int.emod_nonneg _ (by omega)
  have he2 : end_ % 256 % (1 + a0 + (1 + b0)) < 1 + a0 + (1 + b0) := Int.emod_lt_of_pos _ (by omega)
  generalize end_ % 256 % (1 + a0 + (1 + b0)) = e0 at *
  rw [wrap_i64 (x := 1 + e0) (by omega)]
  -- the quota
  obtain ⟨q, hq, hq1, hq2⟩ : ∃ q : Nat, quotaV (1 + a0) (1 + b0) (1 + e0) = (q : Int) ∧ 1 ≤ q ∧ q ≤ 24 := by
    have hp : 1 ≤ (1 + b0) * (1 + a0) ∧ (1 + b0) * (1 + a0) ≤ 6 := by
      have : (a0 = 0 ∨ a0 = 1 ∨ a0 = 2) ∧ (b0 = 0 ∨ b0 = 1) := by omega
      rcases this with ⟨rfl | rfl | rfl, rfl | rfl⟩ <;> decide
    unfold quotaV
    rw [wrap_i64 (x := 1 + a0 + (1 + b0)) (by omega), if_neg (by omega)]
    by_cases h : 1 + e0 ≤ 1 + a0
    · rw [if_pos h]
      generalize (1 + b0) * (1 + a0) = p at *
      rw [wrap_i64 (x := p) (by omega), wrap_i64 (by omega)]
      exact ⟨(p * 4).toNat, by omega, by omega, by omega⟩
    · rw [if_neg h]; exact ⟨4, rfl, by omega, by omega⟩
  have hd : decide (1 + a0 + (1 + b0) = 0) = false := dec_f (by omega)
  rw [hd, hq]
  generalize hA : 1 + a0 = A at *
  generalize hB : 1 + b0 = Bq at *
  generalize hE : 1 + e0 = E at *
  obtain ⟨⟨n, f, u⟩, h1, h2, h3, h4⟩ := loop_for (R := R_l22_SpaceFull_0) (S := Nat × (Nat → ByteArray) × List (Int × Int))
    (fun i s => T_l22_SpaceFull_0 E (q : Int) (i : Int) A Bq s.1 s.2.1 s.2.2) (fun s => Y_l22_SpaceFull_0_1 E (q : Int) A Bq s.1 s.2.1 s.2.2)
    (fun i s => s.1 = min i q ∧ (∀ j, j < s.1 → s.2.1 j = keyN j) ∧ mf s.2.2 E = ((min i q : Nat) : Int)) (q + 1)
    (fun i hi s hs => by
      obtain ⟨n, f, u⟩ := s
      obtain ⟨g1, g2, g3⟩ := hs
      simp only at g1 g2 g3
      have hsr : SortedT n f := fun x y h1 h2 => by rw [g2 x (by omega), g2 y h2]; exact keyN_lt h1 (by omega)
      have hO := Open_m_spec hsr (show n < 1000 by omega) (keyN i) E A Bq u
      have hth : there n f (keyN i) = false := by
        cases h : there n f (keyN i) with
        | false => rfl
        | true =>
          obtain ⟨j, j1, j2⟩ := there_iff.1 h
          rw [g2 j j1] at j2
          exact absurd j2 (keyN_ne (show j < i by omega) (by omega))
      have hk : IntKind.u8.wrap ((i + 1 : Nat) : Int) = ((i + 1 : Nat) : Int) := wrapu8 (by omega)
      have hk0 : bytesOf 1 (fun j => (upd (fun _ => 0) 0 ((i + 1 : Nat) : Int)) (0 + j)) = keyN i := rfl
      by_cases hiq : i < q
      · have hbf : before n f (keyN i) = n := cnt_split (Nat.le_refl _) (fun j hj => by rw [g2 j hj]; exact keyN_lt (by omega) (by omega)) (fun t a b => by omega)
        rw [openR, if_neg (by rw [keyN_size, hq]; omega), hth, if_neg (by decide), if_neg (by rw [hq]; omega), hbf] at hO
        refine ⟨(n + 1, insF f n (keyN i), mset (.int .i64) (.int .i64) u E (IntKind.i64.wrap (mf u E + 1))), ?_, by simp only; omega, fun j hj => ?_, ?_⟩
        · simp (disch := omega) only [R_l22_SpaceFull_0, T_l22_SpaceFull_0, WW, CC, hk, hk0, hO, beq_self_eq_true, bne_self_eq_false]
        · show insF f n (keyN i) j = keyN j
          rw [insF_eq]
          by_cases hjn : j < n
          · rw [if_pos hjn]; exact g2 j hjn
          · have hjn2 : j = n := by simp only at hj; omega
            rw [if_neg hjn, if_pos hjn2, show i = n by omega, hjn2]
        · show mf (mset (.int .i64) (.int .i64) u E (IntKind.i64.wrap (mf u E + 1))) E = _
          rw [mf_mset, if_pos rfl, wrap_i64 (by omega)]; omega
      · rw [openR, if_neg (by rw [keyN_size, hq]; omega), hth, if_neg (by decide), if_pos (by rw [hq]; omega)] at hO
        refine ⟨(n, f, u), ?_, by simp only; omega, g2, by simp only; omega⟩
        have e1 : ((7 : Int) == 0) = false := rfl
        have e2 : ((7 : Int) != 0) = true := rfl
        simp (disch := omega) only [R_l22_SpaceFull_0, T_l22_SpaceFull_0, WW, CC, hk, hk0, hO, e1, e2, beq_self_eq_true, bne_self_eq_false])
    (fun s _ => by simp (disch := omega) only [R_l22_SpaceFull_0, T_l22_SpaceFull_0, WW, CC]) (0, (fun _ => ByteArray.empty), [])
    ⟨by simp, fun j hj => absurd hj (Nat.not_lt_zero _), by simp; rfl⟩
  simp only at h2 h3 h4
  have hn : n = q := by omega
  subst hn
  have h1' : loopF R_l22_SpaceFull_0 (((), (E, ((n : Int), (0, ())))), ((A, (Bq, ((0, (fun _ => ByteArray.empty)), []))), ())) = some (Y_l22_SpaceFull_0_1 E (n : Int) A Bq n f u) := h1
  have hK : space_Space_Keys_m A Bq n f u = some (((n, (fun j => f (0 + j))), ()), ((A, (Bq, ((n, f), u))), ())) := by
    rw [space_Space_Keys_m_eq, space_Space_Keys_m', Nat.ble_eq_true_of_le (by omega)]; rfl
  have hU : space_Space_Used_m E A Bq n f u = some (((n : Int), ()), ((A, (Bq, ((n, f), u))), ())) := by
    rw [space_Space_Used_m_eq]
    show some ((mf u E, ()), _) = _
    rw [h4, show min (n + 1) n = n by omega]
  have k1 : wire_Key (ByteArray.mk #[107]) = some true := by rw [key_spec]; rfl
  have k2 : space_Space_Open none (ByteArray.mk #[107]) 1 = some (0, false, 1) := by rw [space_Space_Open_eq, space_Space_Open', k1]; rfl
  have k3 : space_Space_Find none (ByteArray.mk #[107]) = some (0, false) := by rw [space_Space_Find_eq]; rfl
  have k4 : space_Space_Keys none = some (0, (fun _ => ByteArray.empty)) := by rw [space_Space_Keys_eq]; rfl
  have k5 : space_Space_Used none 1 = some 0 := by rw [space_Space_Used_eq]; rfl
  have k0 : quotaV 0 0 1 = 0 := by decide +kernel
  have k6 : space_Space_Open (some (0, (0, (.nil, none)))) (ByteArray.mk #[107]) 1 = some (0, false, 1) := by rw [space_Space_Open_eq, space_Space_Open', k1]; simp only [k0]; rfl
  have k7 : space_Space_Find (some (0, (0, (.nil, none)))) (ByteArray.mk #[107]) = some (0, false) := by
    rw [space_Space_Find_eq, space_Space_Find']
    have : space_Space_find (some (0, (0, (.nil, none)))) (ByteArray.mk #[107]) = some (0, false) := by
      rw [space_Space_find_eq, space_Space_find']
      show (match slices_BinarySearchFunc___string_string_string_ 0 (fun _ => ByteArray.empty) (ByteArray.mk #[107]) with
        | none => none
        | some r => some (r.1, r.2)) = _
      rw [bsearch_spec (sorted0 _) (by decide)]
      rfl
    rw [this]; rfl
  have k8 : space_Space_Keys (some (0, (0, (.nil, none)))) = some (0, (fun j => ByteArray.empty)) := by rw [space_Space_Keys_eq]; rfl
  have k9 : space_Space_Used (some (0, (0, (.nil, none)))) 1 = some 0 := by rw [space_Space_Used_eq]; rfl
  have e0 : ((0 : Int) != 0) = false := rfl
  have e1 : ((1 : Int) != 1) = false := rfl
  have e2 : decide (((0 : Nat) : Int) > 0) = false := rfl
  simp only [h1', k2, k3, k4, k5, k6, k7, k8, k9, k0, e0, e1, e2, hU, hK, awake22, WW, beq_self_eq_true]
theorem l22_SpaceFull_true {size : Nat → Int} {end_ : Int} (hs : Go.Den.Good (.arr 2 (.int .i64)) size) (he : Go.Den.Good (.int .i64) end_) : l22_SpaceFull' size end_ = some () :=
  l22_SpaceFull_spec size end_
end Go.Pl
