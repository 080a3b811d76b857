/-
  One statement, plainly.
-/
import Derived.Test.YtejjdkhjdcjbbaaDenL
import Derived.Test.YtejjdkhjdcjbbaaL22
import Derived.Test.YtejjdkhjdcjbbaaPr22
import Derived.Test.YtejjdkhjdcjbbaaPspace
import Derived.Test.YtejjdkhjdcjbbaaEqA
import Derived.Test.YtejjdkhjdcjbbaaLib
import Derived.Test.YtejjdkhjdcjbbaaDenF
import Derived.Test.YtejjdkhjdcjbbaaEr22
import Derived.Test.YtejjdkhjdcjbbaaEspace
import Derived.Test.YtejjdkhjdcjbbaaMF
set_option linter.unusedVariables false
set_option linter.unusedSimpArgs false
set_option maxRecDepth 100000
set_option maxHeartbeats 0
namespace Go.Pl
end Go.Pl
open Go Go.Den Go.Pl
namespace Go.Pl
open Go.IntKind (i64 u64 u32 u8)
abbrev T_l22_SpacePlays_0 (nl : Nat) (l : Nat → (ByteArray × Int)) (i : Int) (s : Int) (s1 : Int) (ns : Nat) (s2 : Nat → ByteArray) (s3 : List (Int × Int)) (m : Int) (m1 : Int) (nm : Nat) (m2 : Nat → ByteArray) (nm1 : Nat) (m3 : Nat → Int) := (((nl, l), ((), ((), (i, ())))), ((s, (s1, ((ns, s2), s3))), ((m, (m1, ((nm, m2), (nm1, m3)))), ())))
abbrev Y_l22_SpacePlays_0_1 (s : Int) (s1 : Int) (ns : Nat) (s2 : Nat → ByteArray) (s3 : List (Int × Int)) (m : Int) (m1 : Int) (nm : Nat) (m2 : Nat → ByteArray) (nm1 : Nat) (m3 : Nat → Int) : (((Bool × Unit) × Unit) ⊕ ((Unit × (Unit × Unit)) × ((Int × (Int × ((Nat × (Nat → ByteArray)) × (List (Int × Int))))) × ((Int × (Int × ((Nat × (Nat → ByteArray)) × (Nat × NI)))) × Unit)))) := (.inr (((), ((), ())), ((s, (s1, ((ns, s2), s3))), ((m, (m1, ((nm, m2), (nm1, m3)))), ()))))
abbrev X_l22_SpacePlays_0 : Type := (((Nat × (Nat → (ByteArray × Int))) × (Unit × (Unit × (Int × Unit)))) × ((Int × (Int × ((Nat × (Nat → ByteArray)) × (List (Int × Int))))) × ((Int × (Int × ((Nat × (Nat → ByteArray)) × (Nat × NI)))) × Unit)))
noncomputable def R_l22_SpacePlays_0 : X_l22_SpacePlays_0 → Option (X_l22_SpacePlays_0 ⊕ (((Bool × Unit) × Unit) ⊕ ((Unit × (Unit × Unit)) × ((Int × (Int × ((Nat × (Nat → ByteArray)) × (List (Int × Int))))) × ((Int × (Int × ((Nat × (Nat → ByteArray)) × (Nat × NI)))) × Unit))))) := fun x =>
 let nl := x.1.1.1
 let l := x.1.1.2
 let i := x.1.2.2.2.1
 let s := x.2.1.1
 let s1 := x.2.1.2.1
 let ns := x.2.1.2.2.1.1
 let s2 := x.2.1.2.2.1.2
 let s3 := x.2.1.2.2.2
 let m := x.2.2.1.1
 let m1 := x.2.2.1.2.1
 let nm := x.2.2.1.2.2.1.1
 let m2 := x.2.2.1.2.2.1.2
 let nm1 := x.2.2.1.2.2.2.1
 let m3 := x.2.2.1.2.2.2.2
 bif (decide (i < ((nl : Nat) : Int))) then (
 bif (inb i nl) then (
 bif (inb i nl) then (
 match (r22_Open (m, (m1, ((nm, m2), (nm1, m3)))) (l (Int.toNat i)).1 (l (Int.toNat i)).2) with
 | none => none
 | some r => (
 bif (inb i nl) then (
 bif (inb i nl) then (
 match (space_Space_Open_m (l (Int.toNat i)).1 (l (Int.toNat i)).2 s s1 ns s2 s3) with
 | none => none
 | some y => (
 let r1 := y.1.1
 let r2 := y.1.2.1
 let r3 := y.1.2.2.1
 let o := y.2.1.1
 let o1 := y.2.1.2.1
 let no := y.2.1.2.2.1.1
 let o2 := y.2.1.2.2.1.2
 let o3 := y.2.1.2.2.2
 bif (r1 != r.2.1) then (
 some (.inr (.inl ((false, ()), ()))))
 else (
 bif (!(r2 == r.2.2.1)) then (
 some (.inr (.inl ((false, ()), ()))))
 else (
 bif (r.2.2.2 != r3) then (
 some (.inr (.inl ((false, ()), ()))))
 else (
 bif (inb i nl) then (
 match (space_Space_Find_m (l (Int.toNat i)).1 o o1 no o2 o3) with
 | none => none
 | some y1 => (
 let r4 := y1.1.1
 let r5 := y1.1.2.1
 let o4 := y1.2.1.1
 let o5 := y1.2.1.2.1
 let no1 := y1.2.1.2.2.1.1
 let o6 := y1.2.1.2.2.1.2
 let o7 := y1.2.1.2.2.2
 bif (inb i nl) then (
 match (r22_Find (r.1.1, (r.1.2.1, ((r.1.2.2.1.1, r.1.2.2.1.2), (r.1.2.2.2.1, r.1.2.2.2.2)))) (l (Int.toNat i)).1) with
 | none => none
 | some r6 => (
 bif (r4 != r6.1) then (
 some (.inr (.inl ((false, ()), ()))))
 else (
 bif (!(r5 == r6.2)) then (
 some (.inr (.inl ((false, ()), ()))))
 else (
 bif (inb i nl) then (
 match (space_Space_Used_m (l (Int.toNat i)).2 o4 o5 no1 o6 o7) with
 | none => none
 | some y2 => (
 let r7 := y2.1.1
 let o8 := y2.2.1.1
 let o9 := y2.2.1.2.1
 let no2 := y2.2.1.2.2.1.1
 let o10 := y2.2.1.2.2.1.2
 let o11 := y2.2.1.2.2.2
 bif (inb i nl) then (
 match (r22_Used (r.1.1, (r.1.2.1, ((r.1.2.2.1.1, r.1.2.2.1.2), (r.1.2.2.2.1, r.1.2.2.2.2)))) (l (Int.toNat i)).2) with
 | none => none
 | some r8 => (
 bif (r7 != r8) then (
 some (.inr (.inl ((false, ()), ()))))
 else (
 bif (inb i nl) then (
 bif (inb i nl) then (
 match (r22_Quota (r.1.1, (r.1.2.1, ((r.1.2.2.1.1, r.1.2.2.1.2), (r.1.2.2.2.1, r.1.2.2.2.2)))) (l (Int.toNat i)).2) with
 | none => none
 | some r9 => (
 bif ((quotaV o8 o9 (l (Int.toNat i)).2) != r9) then (
 some (.inr (.inl ((false, ()), ()))))
 else (
 some (.inl (((nl, l), ((), ((), ((i64.wrap (i + 1)), ())))), ((o8, (o9, ((no2, o10), o11))), ((r.1.1, (r.1.2.1, ((r.1.2.2.1.1, r.1.2.2.1.2), (r.1.2.2.2.1, r.1.2.2.2.2)))), ())))))))
 else (
 none))
 else (
 none))))
 else (
 none)))
 else (
 none)))))
 else (
 none)))
 else (
 none))))))
 else (
 none))
 else (
 none)))
 else (
 none))
 else (
 none))
 else (
 some (.inr (.inr (((), ((), ())), ((s, (s1, ((ns, s2), s3))), ((m, (m1, ((nm, m2), (nm1, m3)))), ()))))))
noncomputable def l22_SpacePlays' (size : NI) (nl : Nat) (l : Nat → (ByteArray × Int)) : Option (Unit) :=
 match (l22_short nl l) with
 | none => none
 | some r => (
 bif (!r) then (
 match l22_awake with
 | none => none
 | some r1 => (
 bif r1 then (
 some ())
 else (
 none)))
 else (
 match (space_New_m (size 0) (size 1)) with
 | none => none
 | some y => (
 match y with
 | .inl y1 => (
 let r2 := y1.1.2.1
 bif (decide ((size 0) < 1)) then (
 bif (r2 == 1) then (
 match l22_awake with
 | none => none
 | some r3 => (
 bif r3 then (
 some ())
 else (
 none)))
 else (
 none))
 else (
 bif (decide ((size 0) > 7)) then (
 bif (r2 == 1) then (
 match l22_awake with
 | none => none
 | some r4 => (
 bif r4 then (
 some ())
 else (
 none)))
 else (
 none))
 else (
 bif (decide ((size 1) < 1)) then (
 bif (r2 == 1) then (
 match l22_awake with
 | none => none
 | some r5 => (
 bif r5 then (
 some ())
 else (
 none)))
 else (
 none))
 else (
 bif (decide ((size 1) > 4)) then (
 bif (r2 == 1) then (
 match l22_awake with
 | none => none
 | some r6 => (
 bif r6 then (
 some ())
 else (
 none)))
 else (
 none))
 else (
 bif (r2 != 0) then (
 none)
 else (
 none))))))
 | .inr y1 => (
 let r7 := y1.1.2.1
 let o := y1.2.1.1
 let o1 := y1.2.1.2.1
 let no := y1.2.1.2.2.1.1
 let o2 := y1.2.1.2.2.1.2
 let o3 := y1.2.1.2.2.2
 bif (decide ((size 0) < 1)) then (
 none)
 else (
 bif (decide ((size 0) > 7)) then (
 none)
 else (
 bif (decide ((size 1) < 1)) then (
 none)
 else (
 bif (decide ((size 1) > 4)) then (
 none)
 else (
 bif (r7 != 0) then (
 none)
 else (
 match (loopF R_l22_SpacePlays_0 (((nl, l), ((), ((), (0, ())))), ((o, (o1, ((no, o2), o3))), (((size 0), ((size 1), ((0, (fun _ => ByteArray.empty)), (0, (fun _ => 0))))), ())))) with
 | none => none
 | some y2 => (
 match y2 with
 | .inl y3 => (
 let t := y3.1.1
 bif t then (
 some ())
 else (
 none))
 | .inr y3 => (
 let s := y3.2.1.1
 let s1 := y3.2.1.2.1
 let ns := y3.2.1.2.2.1.1
 let s2 := y3.2.1.2.2.1.2
 let s3 := y3.2.1.2.2.2
 let m := y3.2.2.1.1
 let m1 := y3.2.2.1.2.1
 let nm := y3.2.2.1.2.2.1.1
 let m2 := y3.2.2.1.2.2.1.2
 let nm1 := y3.2.2.1.2.2.2.1
 let m3 := y3.2.2.1.2.2.2.2
 match (space_Space_Keys_m s s1 ns s2 s3) with
 | none => none
 | some y4 => (
 let nr := y4.1.1.1
 let r8 := y4.1.1.2
 let o4 := y4.2.1.1
 let o5 := y4.2.1.2.1
 let no1 := y4.2.1.2.2.1.1
 let o6 := y4.2.1.2.2.1.2
 let o7 := y4.2.1.2.2.2
 match (r22_Sorted (m, (m1, ((nm, m2), (nm1, m3))))) with
 | none => none
 | some r9 => (
 match (r22_Same nr r8 r9.1 r9.2) with
 | none => none
 | some r10 => (
 bif r10 then (
 match l22_awake with
 | none => none
 | some r11 => (
 bif r11 then (
 some ())
 else (
 none)))
 else (
 none)))))))))))))))
end Go.Pl

namespace Go.Proofs.Ytejjdkhjdcjbbaa
abbrev S_l22_SpacePlays_0 : Shape := { sl := [(1, (.sz (.pair .str tI))), (pc 5 (.pair tI (.pair tI (.pair (.sl .str) .mp))) 2), (pc 7 (.pair tI (.pair tI (.pair (.sl .str) (.sl tI)))) 5), (pv 8 tI)], ob := [(2, (.p (.v tI) (.p (.v tI) (.p (.w 9 .str 6) (.m tI tI 7))))), (5, (.p (.v tI) (.p (.v tI) (.p (.sz .str) (.sz tI)))))], lo := 6, nx := 8 }
abbrev E_l22_SpacePlays_0 : List Ex := [(.ret, { sl := [(4, (.v .bool))], ob := [], lo := 31, nx := 31 }), (.normal, { sl := [(pc 5 (.pair tI (.pair tI (.pair (.sl .str) .mp))) 2), (pc 7 (.pair tI (.pair tI (.pair (.sl .str) (.sl tI)))) 5)], ob := [(2, (.p (.v tI) (.p (.v tI) (.p (.w 9 .str 8) (.m tI tI 9))))), (5, (.p (.v tI) (.p (.v tI) (.p (.sz .str) (.sz tI)))))], lo := 8, nx := 10 })]
noncomputable def L_l22_SpacePlays_0 : Code := loopIn (bodyOf Try.f6) 0
noncomputable def P_l22_SpacePlays_0 : Lp := lpOf S_l22_SpacePlays_0 E_l22_SpacePlays_0 193 R_l22_SpacePlays_0
noncomputable def x_l22_SpacePlays : Cx := { ti := ti, con := [(21, c_l22_short), (22, c_l22_awake), (23, c07_), (24, c04_), (25, c0c_), (26, conIf 0 c0d_ c0e_), (27, c02_), (28, conIf 0 c0f_ c0g_), (29, c03_), (30, c_sQuota), (31, c01_), (33, conIf 0 c0h_ c0i_), (34, c05_), (32, c00_)], fns := [], un := 6 }
theorem xok_l22_SpacePlays : CxOk Try.prog x_l22_SpacePlays := CxOk.of mixed ti_ok (fc ⟨con_l22_short, fc ⟨con_l22_awake, fc ⟨con07_, fc ⟨con04_, fc ⟨con0c_, fc ⟨conIf_ok con0d_ con0e_, fc ⟨con02_, fc ⟨conIf_ok con0f_ con0g_, fc ⟨con03_, fc ⟨con_sQuota, fc ⟨con01_, fc ⟨conIf_ok con0h_ con0i_, fc ⟨con05_, fc ⟨con00_, fz⟩⟩⟩⟩⟩⟩⟩⟩⟩⟩⟩⟩⟩⟩) fz
theorem r_l22_SpacePlays_0 (x : S_l22_SpacePlays_0.X) : denC x_l22_SpacePlays [] (denF x_l22_SpacePlays 8) L_l22_SpacePlays_0 (S_l22_SpacePlays_0.mkS 193 x) (kRound 0 S_l22_SpacePlays_0 E_l22_SpacePlays_0) = R_l22_SpacePlays_0 x := by kernel_rfl
theorem l_l22_SpacePlays_0 : LpOk Try.prog 0 (.loop L_l22_SpacePlays_0) P_l22_SpacePlays_0 := lpOf_ok xok_l22_SpacePlays 8 (lps_nil) S_l22_SpacePlays_0 E_l22_SpacePlays_0 193 R_l22_SpacePlays_0 (by decide) r_l22_SpacePlays_0
theorem fn_l22_SpacePlays : FnOk Try.prog 6 Try.f6 [(0, P_l22_SpacePlays_0)] := ⟨Try.func6, Try.call6, lps_of (by kernel_rfl) (lps_one l_l22_SpacePlays_0 (by kernel_rfl) fz)⟩
theorem e_l22_SpacePlays (size : NI) (nl : Nat) (l : Nat → (ByteArray × Int)) : bodyK x_l22_SpacePlays [(0, P_l22_SpacePlays_0)] (denF x_l22_SpacePlays 8) Try.f6 (domV [(.arr 2 tI), (.sl (.pair .str tI))] (size, (nl, l), ())) [] 0 kTrue = l22_SpacePlays' size nl l := by kernel_rfl
end Go.Proofs.Ytejjdkhjdcjbbaa

namespace Go.Pl
open Go Go.Den
theorem l22_SpacePlays_spec (size : Nat → Int) (nl : Nat) (l : Nat → (ByteArray × Int)) (hl : nl < 9223372036854775808) : l22_SpacePlays' size nl l = some () := by
  obtain ⟨sh, hs1, hs2⟩ := short_spec nl l hl
  rw [l22_SpacePlays', hs1]
  cases sh with
  | false => simp only [WW, awake22]
  | true =>
    have hn := hs2 rfl
    simp only [WW]
    by_cases hz : 1 ≤ size 0 ∧ size 0 ≤ 7 ∧ 1 ≤ size 1 ∧ size 1 ≤ 4
    · rw [New_ok hz]
      simp (disch := omega) only [Y_space_New_m_1, WW]
      obtain ⟨⟨n, f, u, s⟩, h1, h2, h3⟩ := loop_for (R := R_l22_SpacePlays_0) (S := Nat × (Nat → ByteArray) × List (Int × Int) × R22)
        (fun k s => T_l22_SpacePlays_0 nl l (k : Int) (size 0) (size 1) s.1 s.2.1 s.2.2.1 (size 0) (size 1) s.2.2.2.2.2.1.1 s.2.2.2.2.2.1.2 s.2.2.2.2.2.2.1 s.2.2.2.2.2.2.2)
        (fun s => Y_l22_SpacePlays_0_1 (size 0) (size 1) s.1 s.2.1 s.2.2.1 (size 0) (size 1) s.2.2.2.2.2.1.1 s.2.2.2.2.2.1.2 s.2.2.2.2.2.2.1 s.2.2.2.2.2.2.2)
        (fun k s => Agree (size 0) (size 1) s.1 s.2.1 s.2.2.1 s.2.2.2 ∧ s.1 ≤ k) nl
        (fun k hk s hs => by
          obtain ⟨n, f, u, a, b, ⟨m, g⟩, m1, g1⟩ := s
          obtain ⟨H, hle⟩ := hs
          simp only at H hle
          have e1 : a = size 0 := H.e1
          have e2 : b = size 1 := H.e2
          subst e1 e2
          obtain ⟨i, fr, er, n', f', u', s', o1, o2, H', hle'⟩ := open_both H (by omega) (l k).1 (l k).2
          obtain ⟨a', b', ⟨m', g'⟩, m1', g1'⟩ := s'
          have e1 : a' = size 0 := H'.e1
          have e2 : b' = size 1 := H'.e2
          have e3 : m' = n' := H'.len
          have e4 : m1' = n' := H'.len2
          subst e1 e2 e3 e4
          have hF := rFind_spec (size 0, (size 1, ((m1', g'), (m1', g1')))) (by show m1' < 1000000; omega) (l k).1
          have hU := rUsed_spec (size 0, (size 1, ((m1', g'), (m1', g1')))) (by show m1' < 1000000; omega) (l k).2
          have hQ := rQuota_spec (size 0, (size 1, ((m1', g'), (m1', g1')))) (l k).2 hz
          have hM := Find_m_spec H'.sorted (show m1' < 1000000 by omega) (l k).1 (size 0) (size 1) u'
          have hbf := H'.before (l k).1
          have hth := H'.there (l k).1
          have hus := H'.uses (l k).2
          simp only at hF hU hQ hbf hth hus
          rw [hbf, hth] at hF
          have hUm : space_Space_Used_m (l k).2 (size 0) (size 1) m1' f' u' = some ((((cnt (fun y => y == (l k).2) g1' m1' : Nat) : Int), ()), ((size 0, (size 1, ((m1', f'), u'))), ())) := by
            rw [space_Space_Used_m_eq, space_Space_Used_m', ← hus]
          refine ⟨(m1', f', u', size 0, size 1, (m1', g'), m1', g1'), ?_, H', by simp only; omega⟩
          unfold R_l22_SpacePlays_0
          cases ht : there m1' f' (l k).1 <;> cases fr <;>
            simp (disch := omega) only [T_l22_SpacePlays_0, WW, CC, o1, o2, hM, hF, hU, hQ, hUm, ht, if_true, if_false, Bool.false_eq_true, bne_self_eq_false, beq_self_eq_true])
        (fun s _ => by
          unfold R_l22_SpacePlays_0
          simp (disch := omega) only [T_l22_SpacePlays_0, WW])
        (0, (fun _ => ByteArray.empty), [], size 0, size 1, (0, (fun _ => ByteArray.empty)), 0, (fun _ => 0))
        ⟨⟨rfl, rfl, hz, rfl, rfl, sorted0 _, fun p => rfl, fun e => rfl⟩, Nat.le_refl _⟩
      simp only at h2 h3
      have h1' : loopF R_l22_SpacePlays_0 (((nl, l), ((), ((), (0, ())))), ((size 0, (size 1, ((0, (fun _ => ByteArray.empty)), ([] : List (Int × Int))))), ((size 0, (size 1, ((0, (fun _ => ByteArray.empty)), (0, (fun _ => 0))))), ()))) = some (Y_l22_SpacePlays_0_1 (size 0) (size 1) n f u (size 0) (size 1) s.2.2.1.1 s.2.2.1.2 s.2.2.2.1 s.2.2.2.2) := h1
      obtain ⟨a, b, ⟨m, g⟩, m1, g1⟩ := s
      have e1 : a = size 0 := h2.e1
      have e2 : b = size 1 := h2.e2
      subst e1 e2
      obtain ⟨o, p1, p2⟩ := sorted_spec h2 (by omega)
      have hK : space_Space_Keys_m (size 0) (size 1) n f u = some (((n, (fun j => f (0 + j))), ()), ((size 0, (size 1, ((n, f), u))), ())) := by
        rw [space_Space_Keys_m_eq, space_Space_Keys_m', Nat.ble_eq_true_of_le (by omega)]; rfl
      have hS : r22_Same n (fun j => f (0 + j)) n o = some true := same_spec (by omega) fun i hi => by
        show f (0 + i) = o i
        rw [Nat.zero_add]; exact p2 i hi
      rw [h1']
      simp only [Y_l22_SpacePlays_0_1, hK, p1, hS, awake22, WW, bne_self_eq_false]
    · rw [New_bad hz]
      have e : ((1 : Int) == 1) = true := rfl
      by_cases g1 : size 0 < 1
      · simp only [Y_space_New_m_0, dec_t g1, WW, e, awake22]
      · by_cases g2 : size 0 > 7
        · simp only [Y_space_New_m_0, dec_f g1, dec_t g2, WW, e, awake22]
        · by_cases g3 : size 1 < 1
          · simp only [Y_space_New_m_0, dec_f g1, dec_f g2, dec_t g3, WW, e, awake22]
          · have g4 : size 1 > 4 := by omega
            simp only [Y_space_New_m_0, dec_f g1, dec_f g2, dec_f g3, dec_t g4, WW, e, awake22]
theorem l22_SpacePlays_true {size : Nat → Int} {nl : Nat} {l : Nat → (ByteArray × Int)} (hs : Go.Den.Good (.arr 2 (.int .i64)) size) (hl : Go.Den.Good (.sl (.pair .str (.int .i64))) (.fz nl l)) : l22_SpacePlays' size nl l = some () :=
  l22_SpacePlays_spec size nl l (by have := hl.1; omega)
end Go.Pl
