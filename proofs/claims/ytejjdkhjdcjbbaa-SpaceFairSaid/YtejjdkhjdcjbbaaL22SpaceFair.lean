/-
  One statement, plainly.
-/
import Derived.Test.YtejjdkhjdcjbbaaDenI
import Derived.Test.YtejjdkhjdcjbbaaL22
import Derived.Test.YtejjdkhjdcjbbaaPspace
import Derived.Test.YtejjdkhjdcjbbaaEqA
import Derived.Test.YtejjdkhjdcjbbaaDenF
import Derived.Test.YtejjdkhjdcjbbaaEspace
import Derived.Test.YtejjdkhjdcjbbaaMF
set_option linter.unusedVariables false
set_option linter.unusedSimpArgs false
set_option maxRecDepth 100000
set_option maxHeartbeats 0
namespace Go.Pl
end Go.Pl
open Go Go.Den Go.Pl
namespace Go.Pl
open Go.IntKind (i64 u64 u32 u8)
abbrev T_l22_SpaceFair_2 (nl : Nat) (l : Nat → (ByteArray × Int)) (i : Int) (k : Int) (own : (Nat → ByteArray)) (when : NI) (s : Int) (s1 : Int) (ns : Nat) (s2 : Nat → ByteArray) (s3 : List (Int × Int)) := (((nl, l), ((), ((), ((), (i, (k, ())))))), (own, (when, ((s, (s1, ((ns, s2), s3))), ()))))
abbrev Y_l22_SpaceFair_2_1 (nl : Nat) (l : Nat → (ByteArray × Int)) (i : Int) (own : (Nat → ByteArray)) (when : NI) (s : Int) (s1 : Int) (ns : Nat) (s2 : Nat → ByteArray) (s3 : List (Int × Int)) : (((Bool × Unit) × Unit) ⊕ (((Nat × (Nat → (ByteArray × Int))) × (Unit × (Unit × (Unit × (Int × Unit))))) × ((Nat → ByteArray) × (NI × ((Int × (Int × ((Nat × (Nat → ByteArray)) × (List (Int × Int))))) × Unit))))) := (.inr (((nl, l), ((), ((), ((), (i, ()))))), (own, (when, ((s, (s1, ((ns, s2), s3))), ())))))
abbrev X_l22_SpaceFair_2 : Type := (((Nat × (Nat → (ByteArray × Int))) × (Unit × (Unit × (Unit × (Int × (Int × Unit)))))) × ((Nat → ByteArray) × (NI × ((Int × (Int × ((Nat × (Nat → ByteArray)) × (List (Int × Int))))) × Unit))))
noncomputable def R_l22_SpaceFair_2 : X_l22_SpaceFair_2 → Option (X_l22_SpaceFair_2 ⊕ (((Bool × Unit) × Unit) ⊕ (((Nat × (Nat → (ByteArray × Int))) × (Unit × (Unit × (Unit × (Int × Unit))))) × ((Nat → ByteArray) × (NI × ((Int × (Int × ((Nat × (Nat → ByteArray)) × (List (Int × Int))))) × Unit)))))) := fun x =>
 let nl := x.1.1.1
 let l := x.1.1.2
 let i := x.1.2.2.2.2.1
 let k := x.1.2.2.2.2.2.1
 let own := x.2.1
 let when := x.2.2.1
 let s := x.2.2.2.1.1
 let s1 := x.2.2.2.1.2.1
 let ns := x.2.2.2.1.2.2.1.1
 let s2 := x.2.2.2.1.2.2.1.2
 let s3 := x.2.2.2.1.2.2.2
 bif (decide (k < 4)) then (
 bif (inb k 4) then (
 bif ((bitsOp .and .i64 (when (Int.toNat k)) 63) == i) then (
 bif (inb k 4) then (
 bif (decide ((((ByteArray.size (own (Int.toNat k))) : Nat) : Int) ≥ 1)) then (
 bif (inb k 4) then (
 bif (decide ((((ByteArray.size (own (Int.toNat k))) : Nat) : Int) ≤ 8)) then (
 bif (inb k 4) then (
 match (space_Space_Open_m (own (Int.toNat k)) 7 s s1 ns s2 s3) with
 | none => none
 | some y => (
 let r := y.1.1
 let r1 := y.1.2.1
 let r2 := y.1.2.2.1
 let o := y.2.1.1
 let o1 := y.2.1.2.1
 let no := y.2.1.2.2.1.1
 let o2 := y.2.1.2.2.1.2
 let o3 := y.2.1.2.2.2
 bif (r2 != 0) then (
 some (.inr (.inl ((false, ()), ()))))
 else (
 some (.inl (((nl, l), ((), ((), ((), (i, ((i64.wrap (k + 1)), ())))))), (own, (when, ((o, (o1, ((no, o2), o3))), ()))))))))
 else (
 none))
 else (
 some (.inl (((nl, l), ((), ((), ((), (i, ((i64.wrap (k + 1)), ())))))), (own, (when, ((s, (s1, ((ns, s2), s3))), ())))))))
 else (
 none))
 else (
 some (.inl (((nl, l), ((), ((), ((), (i, ((i64.wrap (k + 1)), ())))))), (own, (when, ((s, (s1, ((ns, s2), s3))), ())))))))
 else (
 none))
 else (
 some (.inl (((nl, l), ((), ((), ((), (i, ((i64.wrap (k + 1)), ())))))), (own, (when, ((s, (s1, ((ns, s2), s3))), ())))))))
 else (
 none))
 else (
 some (.inr (.inr (((nl, l), ((), ((), ((), (i, ()))))), (own, (when, ((s, (s1, ((ns, s2), s3))), ())))))))
abbrev T_l22_SpaceFair_0 (nl : Nat) (l : Nat → (ByteArray × Int)) (i : Int) (own : (Nat → ByteArray)) (when : NI) (s : Int) (s1 : Int) (ns : Nat) (s2 : Nat → ByteArray) (s3 : List (Int × Int)) := (((nl, l), ((), ((), ((), (i, ()))))), (own, (when, ((s, (s1, ((ns, s2), s3))), ()))))
abbrev Y_l22_SpaceFair_0_1 (s : Int) (s1 : Int) (ns : Nat) (s2 : Nat → ByteArray) (s3 : List (Int × Int)) : (((Bool × Unit) × Unit) ⊕ ((Unit × Unit) × ((Int × (Int × ((Nat × (Nat → ByteArray)) × (List (Int × Int))))) × Unit))) := (.inr (((), ()), ((s, (s1, ((ns, s2), s3))), ())))
abbrev X_l22_SpaceFair_0 : Type := (((Nat × (Nat → (ByteArray × Int))) × (Unit × (Unit × (Unit × (Int × Unit))))) × ((Nat → ByteArray) × (NI × ((Int × (Int × ((Nat × (Nat → ByteArray)) × (List (Int × Int))))) × Unit))))
noncomputable def R_l22_SpaceFair_0 : X_l22_SpaceFair_0 → Option (X_l22_SpaceFair_0 ⊕ (((Bool × Unit) × Unit) ⊕ ((Unit × Unit) × ((Int × (Int × ((Nat × (Nat → ByteArray)) × (List (Int × Int))))) × Unit)))) := fun x =>
 let nl := x.1.1.1
 let l := x.1.1.2
 let i := x.1.2.2.2.2.1
 let own := x.2.1
 let when := x.2.2.1
 let s := x.2.2.2.1.1
 let s1 := x.2.2.2.1.2.1
 let ns := x.2.2.2.1.2.2.1.1
 let s2 := x.2.2.2.1.2.2.1.2
 let s3 := x.2.2.2.1.2.2.2
 bif (decide (i ≤ ((nl : Nat) : Int))) then (
 match (loopF R_l22_SpaceFair_2 (((nl, l), ((), ((), ((), (i, (0, ())))))), (own, (when, ((s, (s1, ((ns, s2), s3))), ()))))) with
 | none => none
 | some y => (
 match y with
 | .inl y1 => (
 let t := y1.1.1
 some (.inr (.inl ((t, ()), ()))))
 | .inr y1 => (
 let nl1 := y1.1.1.1
 let l1 := y1.1.1.2
 let i1 := y1.1.2.2.2.2.1
 let own1 := y1.2.1
 let when1 := y1.2.2.1
 let s4 := y1.2.2.2.1.1
 let s5 := y1.2.2.2.1.2.1
 let ns1 := y1.2.2.2.1.2.2.1.1
 let s6 := y1.2.2.2.1.2.2.1.2
 let s7 := y1.2.2.2.1.2.2.2
 bif (decide (i1 < ((nl1 : Nat) : Int))) then (
 bif (inb i1 nl1) then (
 bif ((l1 (Int.toNat i1)).2 != 7) then (
 bif (inb i1 nl1) then (
 bif (inb i1 nl1) then (
 match (space_Space_Open_m (l1 (Int.toNat i1)).1 (l1 (Int.toNat i1)).2 s4 s5 ns1 s6 s7) with
 | none => none
 | some y2 => (
 let r := y2.1.1
 let r1 := y2.1.2.1
 let r2 := y2.1.2.2.1
 let o := y2.2.1.1
 let o1 := y2.2.1.2.1
 let no := y2.2.1.2.2.1.1
 let o2 := y2.2.1.2.2.1.2
 let o3 := y2.2.1.2.2.2
 some (.inl (((nl1, l1), ((), ((), ((), ((i64.wrap (i1 + 1)), ()))))), (own1, (when1, ((o, (o1, ((no, o2), o3))), ())))))))
 else (
 none))
 else (
 none))
 else (
 some (.inl (((nl1, l1), ((), ((), ((), ((i64.wrap (i1 + 1)), ()))))), (own1, (when1, ((s4, (s5, ((ns1, s6), s7))), ())))))))
 else (
 none))
 else (
 some (.inl (((nl1, l1), ((), ((), ((), ((i64.wrap (i1 + 1)), ()))))), (own1, (when1, ((s4, (s5, ((ns1, s6), s7))), ())))))))))
 else (
 some (.inr (.inr (((), ()), ((s, (s1, ((ns, s2), s3))), ())))))
abbrev T_l22_SpaceFair_4 (nkeys : Nat) (keys : Nat → ByteArray) (i : Int) (s : Int) (s1 : Int) (ns : Nat) (s2 : Nat → ByteArray) (s3 : List (Int × Int)) := (((), ((nkeys, keys), (i, ()))), ((s, (s1, ((ns, s2), s3))), ()))
abbrev Y_l22_SpaceFair_4_1 (s : Int) (s1 : Int) (ns : Nat) (s2 : Nat → ByteArray) (s3 : List (Int × Int)) : (((Bool × Unit) × Unit) ⊕ ((Unit × Unit) × ((Int × (Int × ((Nat × (Nat → ByteArray)) × (List (Int × Int))))) × Unit))) := (.inr (((), ()), ((s, (s1, ((ns, s2), s3))), ())))
abbrev X_l22_SpaceFair_4 : Type := ((Unit × ((Nat × (Nat → ByteArray)) × (Int × Unit))) × ((Int × (Int × ((Nat × (Nat → ByteArray)) × (List (Int × Int))))) × Unit))
noncomputable def R_l22_SpaceFair_4 : X_l22_SpaceFair_4 → Option (X_l22_SpaceFair_4 ⊕ (((Bool × Unit) × Unit) ⊕ ((Unit × Unit) × ((Int × (Int × ((Nat × (Nat → ByteArray)) × (List (Int × Int))))) × Unit)))) := fun x =>
 let nkeys := x.1.2.1.1
 let keys := x.1.2.1.2
 let i := x.1.2.2.1
 let s := x.2.1.1
 let s1 := x.2.1.2.1
 let ns := x.2.1.2.2.1.1
 let s2 := x.2.1.2.2.1.2
 let s3 := x.2.1.2.2.2
 bif (decide ((i64.wrap (i + 1)) < ((nkeys : Nat) : Int))) then (
 bif (inb i nkeys) then (
 bif (inb (i64.wrap (i + 1)) nkeys) then (
 let t := (!(Op.bytesLess (ByteArray.toList (keys (Int.toNat i))) (ByteArray.toList (keys (Int.toNat (i64.wrap (i + 1)))))))
 bif t then (
 some (.inr (.inl ((false, ()), ()))))
 else (
 some (.inl (((), ((nkeys, keys), ((i64.wrap (i + 1)), ()))), ((s, (s1, ((ns, s2), s3))), ())))))
 else (
 none))
 else (
 none))
 else (
 some (.inr (.inr (((), ()), ((s, (s1, ((ns, s2), s3))), ())))))
noncomputable def l22_SpaceFair' (nl : Nat) (l : Nat → (ByteArray × Int)) (own : (Nat → ByteArray)) (when : NI) : Option (Unit) :=
 match (l22_short nl l) with
 | none => none
 | some r => (
 bif (!r) then (
 match l22_awake with
 | none => none
 | some r1 => (
 bif r1 then (
 some ())
 else (
 none)))
 else (
 match (space_New_m 4 3) with
 | none => none
 | some y => (
 match y with
 | .inl y1 => (
 let r2 := y1.1.2.1
 bif (r2 != 0) then (
 none)
 else (
 none))
 | .inr y1 => (
 let r3 := y1.1.2.1
 let o := y1.2.1.1
 let o1 := y1.2.1.2.1
 let no := y1.2.1.2.2.1.1
 let o2 := y1.2.1.2.2.1.2
 let o3 := y1.2.1.2.2.2
 bif (r3 != 0) then (
 none)
 else (
 match (loopF R_l22_SpaceFair_0 (((nl, l), ((), ((), ((), (0, ()))))), (own, (when, ((o, (o1, ((no, o2), o3))), ()))))) with
 | none => none
 | some y2 => (
 match y2 with
 | .inl y3 => (
 let t := y3.1.1
 bif t then (
 some ())
 else (
 none))
 | .inr y3 => (
 let s := y3.2.1.1
 let s1 := y3.2.1.2.1
 let ns := y3.2.1.2.2.1.1
 let s2 := y3.2.1.2.2.1.2
 let s3 := y3.2.1.2.2.2
 match (space_Space_Keys_m s s1 ns s2 s3) with
 | none => none
 | some y4 => (
 let nr := y4.1.1.1
 let r4 := y4.1.1.2
 let o4 := y4.2.1.1
 let o5 := y4.2.1.2.1
 let no1 := y4.2.1.2.2.1.1
 let o6 := y4.2.1.2.2.1.2
 let o7 := y4.2.1.2.2.2
 match (loopF R_l22_SpaceFair_4 (((), ((nr, r4), (0, ()))), ((o4, (o5, ((no1, o6), o7))), ()))) with
 | none => none
 | some y5 => (
 match y5 with
 | .inl y6 => (
 let t1 := y6.1.1
 bif t1 then (
 some ())
 else (
 none))
 | .inr y6 => (
 let s4 := y6.2.1.1
 let s5 := y6.2.1.2.1
 let ns1 := y6.2.1.2.2.1.1
 let s6 := y6.2.1.2.2.1.2
 let s7 := y6.2.1.2.2.2
 match (space_Space_Used_m 7 s4 s5 ns1 s6 s7) with
 | none => none
 | some y7 => (
 let r5 := y7.1.1
 let o8 := y7.2.1.1
 let o9 := y7.2.1.2.1
 let no2 := y7.2.1.2.2.1.1
 let o10 := y7.2.1.2.2.1.2
 let o11 := y7.2.1.2.2.2
 bif (decide (r5 ≤ 4)) then (
 match l22_awake with
 | none => none
 | some r6 => (
 bif r6 then (
 some ())
 else (
 none)))
 else (
 none))))))))))))
end Go.Pl

namespace Go.Proofs.Ytejjdkhjdcjbbaa
abbrev S_l22_SpaceFair_2 : Shape := { sl := [(0, (.sz (.pair .str tI))), (pc 4 (.arr 4 .str) 0), (pc 5 (.arr 4 tI) 1), (pc 7 (.pair tI (.pair tI (.pair (.sl .str) .mp))) 3), (pv 9 tI), (pv 10 tI)], ob := [(pv 0 (.arr 4 .str)), (pv 1 (.arr 4 tI)), (3, (.p (.v tI) (.p (.v tI) (.p (.w 9 .str 8) (.m tI tI 9)))))], lo := 8, nx := 10 }
abbrev E_l22_SpaceFair_2 : List Ex := [(.ret, { sl := [(6, (.v .bool))], ob := [], lo := 20, nx := 20 }), (.normal, { sl := [(0, (.sz (.pair .str tI))), (pc 4 (.arr 4 .str) 0), (pc 5 (.arr 4 tI) 1), (pc 7 (.pair tI (.pair tI (.pair (.sl .str) .mp))) 3), (pv 9 tI)], ob := [(pv 0 (.arr 4 .str)), (pv 1 (.arr 4 tI)), (3, (.p (.v tI) (.p (.v tI) (.p (.w 9 .str 10) (.m tI tI 11)))))], lo := 10, nx := 12 })]
noncomputable def L_l22_SpaceFair_2 : Code := loopIn (bodyOf Try.f7) 2
noncomputable def P_l22_SpaceFair_2 : Lp := lpOf S_l22_SpaceFair_2 E_l22_SpaceFair_2 120 R_l22_SpaceFair_2
abbrev S_l22_SpaceFair_0 : Shape := { sl := [(0, (.sz (.pair .str tI))), (pc 4 (.arr 4 .str) 0), (pc 5 (.arr 4 tI) 1), (pc 7 (.pair tI (.pair tI (.pair (.sl .str) .mp))) 3), (pv 9 tI)], ob := [(pv 0 (.arr 4 .str)), (pv 1 (.arr 4 tI)), (3, (.p (.v tI) (.p (.v tI) (.p (.w 9 .str 6) (.m tI tI 7)))))], lo := 6, nx := 8 }
abbrev E_l22_SpaceFair_0 : List Ex := [(.ret, { sl := [(6, (.v .bool))], ob := [], lo := 20, nx := 20 }), (.normal, { sl := [(pc 7 (.pair tI (.pair tI (.pair (.sl .str) .mp))) 3)], ob := [(3, (.p (.v tI) (.p (.v tI) (.p (.w 9 .str 8) (.m tI tI 9)))))], lo := 8, nx := 10 })]
noncomputable def L_l22_SpaceFair_0 : Code := loopIn (bodyOf Try.f7) 0
noncomputable def P_l22_SpaceFair_0 : Lp := lpOf S_l22_SpaceFair_0 E_l22_SpaceFair_0 120 R_l22_SpaceFair_0
abbrev S_l22_SpaceFair_4 : Shape := { sl := [(pc 7 (.pair tI (.pair tI (.pair (.sl .str) .mp))) 3), (14, (.sz .str)), (pv 15 tI)], ob := [(3, (.p (.v tI) (.p (.v tI) (.p (.w 9 .str 15) (.m tI tI 16)))))], lo := 15, nx := 17 }
abbrev E_l22_SpaceFair_4 : List Ex := [(.ret, { sl := [(6, (.v .bool))], ob := [], lo := 17, nx := 17 }), (.normal, { sl := [(pc 7 (.pair tI (.pair tI (.pair (.sl .str) .mp))) 3)], ob := [(3, (.p (.v tI) (.p (.v tI) (.p (.w 9 .str 17) (.m tI tI 18)))))], lo := 17, nx := 19 })]
noncomputable def L_l22_SpaceFair_4 : Code := loopIn (bodyOf Try.f7) 4
noncomputable def P_l22_SpaceFair_4 : Lp := lpOf S_l22_SpaceFair_4 E_l22_SpaceFair_4 120 R_l22_SpaceFair_4
noncomputable def x_l22_SpaceFair : Cx := { ti := ti, con := [(21, c_l22_short), (22, c_l22_awake), (23, c06_), (25, conIf 0 c0b_ c0c_), (33, conIf 0 c0h_ c0i_), (28, conIf 0 c0f_ c0g_)], fns := [], un := 6 }
theorem xok_l22_SpaceFair : CxOk Try.prog x_l22_SpaceFair := CxOk.of mixed ti_ok (fc ⟨con_l22_short, fc ⟨con_l22_awake, fc ⟨con06_, fc ⟨conIf_ok con0b_ con0c_, fc ⟨conIf_ok con0h_ con0i_, fc ⟨conIf_ok con0f_ con0g_, fz⟩⟩⟩⟩⟩⟩) fz
theorem r_l22_SpaceFair_2 (x : S_l22_SpaceFair_2.X) : denC x_l22_SpaceFair [] (denF x_l22_SpaceFair 8) L_l22_SpaceFair_2 (S_l22_SpaceFair_2.mkS 120 x) (kRound 2 S_l22_SpaceFair_2 E_l22_SpaceFair_2) = R_l22_SpaceFair_2 x := by kernel_rfl
theorem l_l22_SpaceFair_2 : LpOk Try.prog 2 (.loop L_l22_SpaceFair_2) P_l22_SpaceFair_2 := lpOf_ok xok_l22_SpaceFair 8 (lps_nil) S_l22_SpaceFair_2 E_l22_SpaceFair_2 120 R_l22_SpaceFair_2 (by decide) r_l22_SpaceFair_2
theorem r_l22_SpaceFair_0 (x : S_l22_SpaceFair_0.X) : denC x_l22_SpaceFair [(2, P_l22_SpaceFair_2)] (denF x_l22_SpaceFair 8) L_l22_SpaceFair_0 (S_l22_SpaceFair_0.mkS 120 x) (kRound 0 S_l22_SpaceFair_0 E_l22_SpaceFair_0) = R_l22_SpaceFair_0 x := by kernel_rfl
theorem l_l22_SpaceFair_0 : LpOk Try.prog 0 (.loop L_l22_SpaceFair_0) P_l22_SpaceFair_0 := lpOf_ok xok_l22_SpaceFair 8 (lps_of (by kernel_rfl) (lps_one l_l22_SpaceFair_2 (by kernel_rfl) fz)) S_l22_SpaceFair_0 E_l22_SpaceFair_0 120 R_l22_SpaceFair_0 (by decide) r_l22_SpaceFair_0
theorem r_l22_SpaceFair_4 (x : S_l22_SpaceFair_4.X) : denC x_l22_SpaceFair [] (denF x_l22_SpaceFair 8) L_l22_SpaceFair_4 (S_l22_SpaceFair_4.mkS 120 x) (kRound 4 S_l22_SpaceFair_4 E_l22_SpaceFair_4) = R_l22_SpaceFair_4 x := by kernel_rfl
theorem l_l22_SpaceFair_4 : LpOk Try.prog 4 (.loop L_l22_SpaceFair_4) P_l22_SpaceFair_4 := lpOf_ok xok_l22_SpaceFair 8 (lps_nil) S_l22_SpaceFair_4 E_l22_SpaceFair_4 120 R_l22_SpaceFair_4 (by decide) r_l22_SpaceFair_4
theorem fn_l22_SpaceFair : FnOk Try.prog 7 Try.f7 [(2, P_l22_SpaceFair_2), (0, P_l22_SpaceFair_0), (4, P_l22_SpaceFair_4)] := ⟨Try.func7, Try.call7, lps_of (by kernel_rfl) (lps_one l_l22_SpaceFair_2 (by kernel_rfl) (lps_one l_l22_SpaceFair_0 (by kernel_rfl) (lps_one l_l22_SpaceFair_4 (by kernel_rfl) fz)))⟩
theorem e_l22_SpaceFair (nl : Nat) (l : Nat → (ByteArray × Int)) (own : (Nat → ByteArray)) (when : NI) : bodyK x_l22_SpaceFair [(2, P_l22_SpaceFair_2), (0, P_l22_SpaceFair_0), (4, P_l22_SpaceFair_4)] (denF x_l22_SpaceFair 8) Try.f7 (domV [(.sl (.pair .str tI)), (.arr 4 .str), (.arr 4 tI)] ((nl, l), own, when, ())) [] 0 kTrue = l22_SpaceFair' nl l own when := by kernel_rfl
end Go.Proofs.Ytejjdkhjdcjbbaa

namespace Go.Pl
open Go Go.Den
def fairP (w : Nat → Nat) (i k j : Nat) : Nat := if w j < i ∨ (w j = i ∧ j < k) then 1 else 0
def fairC (w : Nat → Nat) (i k : Nat) : Nat := fairP w i k 0 + fairP w i k 1 + fairP w i k 2 + fairP w i k 3
theorem fairP_le (w : Nat → Nat) (i k j : Nat) : fairP w i k j ≤ 1 := by unfold fairP; split <;> omega
theorem fairC_le (w : Nat → Nat) (i k : Nat) : fairC w i k ≤ 4 := by
  have := fairP_le w i k 0; have := fairP_le w i k 1; have := fairP_le w i k 2; have := fairP_le w i k 3
  unfold fairC; omega
theorem fairP_ne {w : Nat → Nat} {i k j : Nat} (h : j ≠ k ∨ w k ≠ i) : fairP w i (k + 1) j = fairP w i k j := by
  have e : (w j < i ∨ (w j = i ∧ j < k + 1)) = (w j < i ∨ (w j = i ∧ j < k)) := by
    apply propext
    constructor
    · rintro (h1 | ⟨h1, h2⟩)
      · exact .inl h1
      · by_cases hj : j = k
        · subst hj; rcases h with h | h <;> exact absurd (by assumption) (by first | exact fun _ => h rfl | exact fun _ => h h1)
        · exact .inr ⟨h1, by omega⟩
    · rintro (h1 | ⟨h1, h2⟩)
      · exact .inl h1
      · exact .inr ⟨h1, by omega⟩
  simp only [fairP, e]
theorem fairP_eq {w : Nat → Nat} {i k : Nat} (h : w k = i) : fairP w i k k = 0 ∧ fairP w i (k + 1) k = 1 := by
  constructor
  · unfold fairP; rw [if_neg (by omega)]
  · unfold fairP; rw [if_pos (by omega)]
theorem fairC_ne {w : Nat → Nat} {i k : Nat} (h : w k ≠ i) : fairC w i (k + 1) = fairC w i k := by
  unfold fairC; rw [fairP_ne (.inr h), fairP_ne (.inr h), fairP_ne (.inr h), fairP_ne (.inr h)]
theorem fairC_eq {w : Nat → Nat} {i k : Nat} (hk : k < 4) (h : w k = i) : fairC w i (k + 1) = fairC w i k + 1 := by
  obtain ⟨h1, h2⟩ := fairP_eq h
  have hk' : k = 0 ∨ k = 1 ∨ k = 2 ∨ k = 3 := by omega
  unfold fairC
  rcases hk' with rfl | rfl | rfl | rfl
  · rw [h1, h2, fairP_ne (j := 1) (.inl (by decide)), fairP_ne (j := 2) (.inl (by decide)), fairP_ne (j := 3) (.inl (by decide))]; omega
  · rw [h1, h2, fairP_ne (j := 0) (.inl (by decide)), fairP_ne (j := 2) (.inl (by decide)), fairP_ne (j := 3) (.inl (by decide))]; omega
  · rw [h1, h2, fairP_ne (j := 0) (.inl (by decide)), fairP_ne (j := 1) (.inl (by decide)), fairP_ne (j := 3) (.inl (by decide))]; omega
  · rw [h1, h2, fairP_ne (j := 0) (.inl (by decide)), fairP_ne (j := 1) (.inl (by decide)), fairP_ne (j := 2) (.inl (by decide))]
theorem fairP_end {w : Nat → Nat} {i j : Nat} (hj : j < 4) : fairP w i 4 j = fairP w (i + 1) 0 j := by
  have e : (w j < i ∨ (w j = i ∧ j < 4)) = (w j < i + 1 ∨ (w j = i + 1 ∧ j < 0)) := by
    apply propext
    omega
  simp only [fairP, e]
theorem fairC_end {w : Nat → Nat} {i : Nat} : fairC w i 4 = fairC w (i + 1) 0 := by
  unfold fairC; rw [fairP_end (by decide), fairP_end (by decide), fairP_end (by decide), fairP_end (by decide)]
theorem openR_used {x : ByteArray} {e a b : Int} {n : Nat} {f : Nat → ByteArray} {u : List (Int × Int)} {z : Int} (h : 0 ≤ mf u e ∧ mf u e < 1000) :
    mf (openR x e a b n f u).2.1.2.2.2 z = mf u z ∨ (z = e ∧ mf (openR x e a b n f u).2.1.2.2.2 z = mf u z + 1) := by
  unfold openR
  split
  · exact .inl rfl
  · split
    · exact .inl rfl
    · split
      · exact .inl rfl
      · show mf (mset (.int .i64) (.int .i64) u e (IntKind.i64.wrap (mf u e + 1))) z = mf u z ∨ (z = e ∧ mf (mset (.int .i64) (.int .i64) u e (IntKind.i64.wrap (mf u e + 1))) z = mf u z + 1)
        rw [mf_mset, wrap_i64 (by omega)]
        by_cases hz : z = e
        · rw [if_pos hz, hz]; exact .inr ⟨rfl, rfl⟩
        · rw [if_neg hz]; exact .inl rfl
theorem openR_other {x : ByteArray} {e a b : Int} {n : Nat} {f : Nat → ByteArray} {u : List (Int × Int)} {z : Int} (h : z ≠ e) :
    mf (openR x e a b n f u).2.1.2.2.2 z = mf u z := by
  unfold openR
  split
  · rfl
  · split
    · rfl
    · split
      · rfl
      · show mf (mset (.int .i64) (.int .i64) u e (IntKind.i64.wrap (mf u e + 1))) z = mf u z
        rw [mf_mset, if_neg h]
theorem openR_may {x : ByteArray} {e a b : Int} {n : Nat} {f : Nat → ByteArray} {u : List (Int × Int)} (h1 : 1 ≤ x.size ∧ x.size ≤ 8) (h2 : mf u e < quotaV a b e) (h3 : quotaV a b e ≠ 0) :
    (openR x e a b n f u).1.2.2.1 = 0 := by
  unfold openR
  rw [if_neg (by intro h; rcases h with h | h; exact h h1; exact h3 h)]
  split
  · rfl
  · rw [if_neg (by omega)]
theorem q7 : quotaV 4 3 7 = 4 := by decide +kernel
theorem l22_SpaceFair_spec (nl : Nat) (l : Nat → (ByteArray × Int)) (own : Nat → ByteArray) (when : Nat → Int) (hl : nl < 9223372036854775808) : l22_SpaceFair' nl l own when = some () := by
  obtain ⟨sh, hs1, hs2⟩ := short_spec nl l hl
  rw [l22_SpaceFair', hs1]
  cases sh with
  | false => simp only [WW, awake22]
  | true =>
    have hn := hs2 rfl
    simp only [WW]
    rw [New_ok (by decide)]
    simp (disch := omega) only [Y_space_New_m_1, WW]
    generalize hw : (fun k => (when k % 64).toNat) = w
    have hwk : ∀ k, bitsOp .and .i64 (when k) 63 = ((w k : Nat) : Int) := fun k => by
      rw [← hw]
      have := andMask (x := when k) (k := 6) (by decide)
      rw [show ((2 ^ 6 - 1 : Nat) : Int) = 63 from rfl] at this
      rw [this]
      show _ = (((when k % 64).toNat : Nat) : Int)
      have h0 : 0 ≤ when k % 64 := Int.emod_nonneg _ (by decide)
      rw [Int.toNat_of_nonneg h0]; rfl
    -- the inner loop
    have inner : ∀ (i : Nat) (n : Nat) (f : Nat → ByteArray) (u : List (Int × Int)), i ≤ 60 → SortedT n f → n ≤ 5 * i → 0 ≤ mf u 7 ∧ mf u 7 ≤ (fairC w i 0 : Nat) →
        ∃ n' f' u', loopF R_l22_SpaceFair_2 (T_l22_SpaceFair_2 nl l (i : Int) 0 own when 4 3 n f u) = some (Y_l22_SpaceFair_2_1 nl l (i : Int) own when 4 3 n' f' u') ∧
          SortedT n' f' ∧ n' ≤ 5 * i + 4 ∧ 0 ≤ mf u' 7 ∧ mf u' 7 ≤ (fairC w (i + 1) 0 : Nat) := by
      intro i n f u hi hsr hnn hu
      obtain ⟨⟨n', f', u'⟩, h1, h2, h3, h4⟩ := loop_for (R := R_l22_SpaceFair_2) (S := Nat × (Nat → ByteArray) × List (Int × Int))
        (fun k s => T_l22_SpaceFair_2 nl l (i : Int) (k : Int) own when 4 3 s.1 s.2.1 s.2.2) (fun s => Y_l22_SpaceFair_2_1 nl l (i : Int) own when 4 3 s.1 s.2.1 s.2.2)
        (fun k s => SortedT s.1 s.2.1 ∧ s.1 ≤ 5 * i + k ∧ 0 ≤ mf s.2.2 7 ∧ mf s.2.2 7 ≤ (fairC w i k : Nat)) 4
        (fun k hk s hs => by
          obtain ⟨n, f, u⟩ := s
          obtain ⟨g1, g2, g3, g4⟩ := hs
          simp only at g1 g2 g3 g4
          have hbw := hwk k
          by_cases hik : w k = i
          · have hc := fairC_eq hk hik
            have hle := fairC_le w i (k + 1)
            by_cases hz : 1 ≤ (own k).size ∧ (own k).size ≤ 8
            · have hO := Open_m_spec g1 (show n < 1000 by omega) (own k) 7 4 3 u
              have hm := openR_may (x := own k) (e := 7) (a := 4) (b := 3) (n := n) (f := f) (u := u) hz (by rw [q7]; omega) (by rw [q7]; decide)
              obtain ⟨o1, o2, o3, o4⟩ := openR_sorted g1 (own k) 7 4 3 u
              have hus := openR_used (x := own k) (e := 7) (a := 4) (b := 3) (n := n) (f := f) (u := u) (z := 7) (by omega)
              generalize openR (own k) 7 4 3 n f u = y at *
              obtain ⟨⟨y1, y2, y3, _⟩, ⟨y4, y5, ⟨y6, y7⟩, y8⟩, _⟩ := y
              simp only at hm o1 o2 o3 o4 hus
              subst hm o3 o4
              refine ⟨(y6, y7, y8), ?_, o1, by simp only; omega, by simp only; omega, by simp only; rw [hc]; omega⟩
              simp (disch := omega) only [R_l22_SpaceFair_2, T_l22_SpaceFair_2, WW, CC, hbw, hik, beq_self_eq_true, hO, bne_self_eq_false]
            · refine ⟨(n, f, u), ?_, g1, by simp only; omega, g3, by simp only; omega⟩
              by_cases hz1 : 1 ≤ (own k).size
              · have hz2 : ¬ (own k).size ≤ 8 := fun h => hz ⟨hz1, h⟩
                simp (disch := omega) only [R_l22_SpaceFair_2, T_l22_SpaceFair_2, WW, CC, hbw, hik, beq_self_eq_true]
              · simp (disch := omega) only [R_l22_SpaceFair_2, T_l22_SpaceFair_2, WW, CC, hbw, hik, beq_self_eq_true]
          · have hc := fairC_ne hik
            refine ⟨(n, f, u), ?_, g1, by simp only; omega, g3, by simp only; omega⟩
            simp (disch := omega) only [R_l22_SpaceFair_2, T_l22_SpaceFair_2, WW, CC, hbw])
        (fun s _ => by simp (disch := omega) only [R_l22_SpaceFair_2, T_l22_SpaceFair_2, WW]) (n, f, u) ⟨hsr, by simp only; omega, hu.1, hu.2⟩
      exact ⟨n', f', u', h1, h2, h3, h4.1, by rw [← fairC_end]; exact h4.2⟩
    obtain ⟨⟨n, f, u⟩, h1, h2, h3, h4, h5⟩ := loop_for (R := R_l22_SpaceFair_0) (S := Nat × (Nat → ByteArray) × List (Int × Int))
      (fun i s => T_l22_SpaceFair_0 nl l (i : Int) own when 4 3 s.1 s.2.1 s.2.2) (fun s => Y_l22_SpaceFair_0_1 4 3 s.1 s.2.1 s.2.2)
      (fun i s => SortedT s.1 s.2.1 ∧ s.1 ≤ 5 * i ∧ 0 ≤ mf s.2.2 7 ∧ mf s.2.2 7 ≤ (fairC w i 0 : Nat)) (nl + 1)
      (fun i hi s hs => by
        obtain ⟨n, f, u⟩ := s
        obtain ⟨g1, g2, g3, g4⟩ := hs
        obtain ⟨n', f', u', i1, i2, i3, i4, i5⟩ := inner i n f u (by omega) g1 g2 ⟨g3, g4⟩
        have i1' : loopF R_l22_SpaceFair_2 (((nl, l), ((), ((), ((), ((i : Int), (0, ())))))), (own, (when, ((4, (3, ((n, f), u))), ())))) = some (Y_l22_SpaceFair_2_1 nl l (i : Int) own when 4 3 n' f' u') := i1
        by_cases hin : i < nl
        · by_cases he : (l i).2 = 7
          · refine ⟨(n', f', u'), ?_, i2, by simp only; omega, i4, i5⟩
            simp (disch := omega) only [R_l22_SpaceFair_0, T_l22_SpaceFair_0, Y_l22_SpaceFair_2_1, i1', WW, CC, bne_f he]
          · have hO := Open_m_spec i2 (show n' < 1000 by omega) (l i).1 (l i).2 4 3 u'
            obtain ⟨o1, o2, o3, o4⟩ := openR_sorted i2 (l i).1 (l i).2 4 3 u'
            have hus := openR_other (x := (l i).1) (e := (l i).2) (a := 4) (b := 3) (n := n') (f := f') (u := u') (z := 7) (fun h => he h.symm)
            generalize openR (l i).1 (l i).2 4 3 n' f' u' = y at *
            obtain ⟨⟨y1, y2, y3, _⟩, ⟨y4, y5, ⟨y6, y7⟩, y8⟩, _⟩ := y
            simp only at o1 o2 o3 o4 hus
            subst o3 o4
            refine ⟨(y6, y7, y8), ?_, o1, by simp only; omega, by simp only; omega, by simp only; omega⟩
            simp (disch := omega) only [R_l22_SpaceFair_0, T_l22_SpaceFair_0, Y_l22_SpaceFair_2_1, i1', WW, CC, bne_t he, hO]
        · refine ⟨(n', f', u'), ?_, i2, by simp only; omega, i4, i5⟩
          simp (disch := omega) only [R_l22_SpaceFair_0, T_l22_SpaceFair_0, Y_l22_SpaceFair_2_1, i1', WW, CC])
      (fun s _ => by simp (disch := omega) only [R_l22_SpaceFair_0, T_l22_SpaceFair_0, WW]) (0, (fun _ => ByteArray.empty), [])
      ⟨sorted0 _, Nat.le_refl _, Int.le_refl _, by show (0 : Int) ≤ _; omega⟩
    simp only at h2 h3 h4 h5
    have h1' : loopF R_l22_SpaceFair_0 (((nl, l), ((), ((), ((), (0, ()))))), (own, (when, ((4, (3, ((0, (fun _ => ByteArray.empty)), []))), ())))) = some (Y_l22_SpaceFair_0_1 4 3 n f u) := h1
    have hK : space_Space_Keys_m 4 3 n f u = some (((n, (fun j => f (0 + j))), ()), ((4, (3, ((n, f), u))), ())) := by
      rw [space_Space_Keys_m_eq, space_Space_Keys_m', Nat.ble_eq_true_of_le (by omega)]; rfl
    have hU : space_Space_Used_m 7 4 3 n f u = some ((mf u 7, ()), ((4, (3, ((n, f), u))), ())) := by rw [space_Space_Used_m_eq]; rfl
    obtain ⟨_, p1, rfl⟩ := loop_for (R := R_l22_SpaceFair_4) (S := Unit)
      (fun i _ => T_l22_SpaceFair_4 n (fun j => f (0 + j)) (i : Int) 4 3 n f u) (fun _ => Y_l22_SpaceFair_4_1 4 3 n f u) (fun _ s => s = ()) (n - 1)
      (fun i hi s _ => by
        refine ⟨(), ?_, rfl⟩
        have hlt := h2 i (i + 1) (by omega) (by omega)
        simp (disch := omega) only [R_l22_SpaceFair_4, T_l22_SpaceFair_4, WW, CC, less_toList, Nat.zero_add, hlt])
      (fun _ _ => by simp (disch := omega) only [R_l22_SpaceFair_4, T_l22_SpaceFair_4, WW, CC]) () rfl
    have p1' : loopF R_l22_SpaceFair_4 (((), ((n, (fun j => f (0 + j))), (0, ()))), ((4, (3, ((n, f), u))), ())) = some (Y_l22_SpaceFair_4_1 4 3 n f u) := p1
    have hle := fairC_le w (nl + 1) 0
    have hd : decide (mf u 7 ≤ 4) = true := dec_t (by omega)
    simp only [h1', hK, p1', hU, hd, awake22, WW, bne_self_eq_false]
theorem l22_SpaceFair_true {nl : Nat} {l : Nat → (ByteArray × Int)} {own : Nat → ByteArray} {when : Nat → Int} (hl : Go.Den.Good (.sl (.pair .str (.int .i64))) (.fz nl l)) (ho : Go.Den.Good (.arr 4 .str) own) (hw : Go.Den.Good (.arr 4 (.int .i64)) when) : l22_SpaceFair' nl l own when = some () :=
  l22_SpaceFair_spec nl l own when (by have := hl.1; omega)
end Go.Pl
