/-
  One statement, plainly.
-/
import Derived.Test.YtennopklknlecaaDenD
import Derived.Test.YtennopklknlecaaPlA
import Derived.Test.YtennopklknlecaaL10
import Derived.Test.YtennopklknlecaaPr10
import Derived.Test.YtennopklknlecaaPtape
import Derived.Test.YtennopklknlecaaEqA
import Derived.Test.YtennopklknlecaaDenF
import Derived.Test.YtennopklknlecaaEr10
import Derived.Test.YtennopklknlecaaEtape
set_option linter.unusedVariables false
set_option linter.unusedSimpArgs false
set_option maxRecDepth 100000
set_option maxHeartbeats 0
namespace Go.Pl
end Go.Pl
open Go Go.Den Go.Pl
namespace Go.Pl
abbrev T_l10_TapeDraws_0 (s : ByteArray) (nl : Nat) (l : Nat → Int) (g : (((PtrV ((Nat → Int) × (Int × ((Nat → Int) × (Nat → Int))))) × (PtrV ((Nat → Int) × (Int × ((Nat → Int) × (Nat → Int)))))) × (Nat → Int))) (at_ : Int) (i : Int) (np : Nat) (p : Nat → ((Nat → Int) × Int)) (p1 : (Nat → Int)) (t : (Bool × ByteArray)) : ((ByteArray × ((Nat × (Nat → Int)) × (Unit × ((((PtrV ((Nat → Int) × (Int × ((Nat → Int) × (Nat → Int))))) × (PtrV ((Nat → Int) × (Int × ((Nat → Int) × (Nat → Int)))))) × (Nat → Int)) × (Unit × (Int × (Int × Unit))))))) × (((Nat × (Nat → ((Nat → Int) × Int))) × (Nat → Int)) × ((Bool × ByteArray) × Unit))) := ((s, ((nl, l), ((), (g, ((), (at_, (i, ()))))))), (((np, p), p1), (t, ())))
abbrev Y_l10_TapeDraws_0_0 (t : Bool) : (((Bool × Unit) × Unit) ⊕ (Unit × Unit)) := (.inl ((t, ()), ()))
abbrev Y_l10_TapeDraws_0_1  : (((Bool × Unit) × Unit) ⊕ (Unit × Unit)) := (.inr ((), ()))
noncomputable def R_l10_TapeDraws_0 : ((ByteArray × ((Nat × (Nat → Int)) × (Unit × ((((PtrV ((Nat → Int) × (Int × ((Nat → Int) × (Nat → Int))))) × (PtrV ((Nat → Int) × (Int × ((Nat → Int) × (Nat → Int)))))) × (Nat → Int)) × (Unit × (Int × (Int × Unit))))))) × (((Nat × (Nat → ((Nat → Int) × Int))) × (Nat → Int)) × ((Bool × ByteArray) × Unit))) → Option (((ByteArray × ((Nat × (Nat → Int)) × (Unit × ((((PtrV ((Nat → Int) × (Int × ((Nat → Int) × (Nat → Int))))) × (PtrV ((Nat → Int) × (Int × ((Nat → Int) × (Nat → Int)))))) × (Nat → Int)) × (Unit × (Int × (Int × Unit))))))) × (((Nat × (Nat → ((Nat → Int) × Int))) × (Nat → Int)) × ((Bool × ByteArray) × Unit))) ⊕ (((Bool × Unit) × Unit) ⊕ (Unit × Unit))) := fun x =>
 let s := x.1.1
 let nl := x.1.2.1.1
 let l := x.1.2.1.2
 let g := x.1.2.2.2.1
 let at_ := x.1.2.2.2.2.2.1
 let i := x.1.2.2.2.2.2.2.1
 let np := x.2.1.1.1
 let p := x.2.1.1.2
 let p1 := x.2.1.2
 let t := x.2.2.1
 bif (decide (i < ((nl : Nat) : Int))) then (
 bif (inb i nl) then (
 bif ((decide (0 ≤ at_)) && (decide (at_ ≤ (((ByteArray.size s) : Nat) : Int)))) then (
 match (r07_Q ((np, p), p1)) with
 | none => none
 | some r => (
 match (r10_Draws (ByteArray.extract s (Int.toNat at_) (ByteArray.size s)) r (bitsOp .and .i64 (l (Int.toNat i)) 15)) with
 | none => none
 | some r1 => (
 match (tape_Tape_Draws_m (some g) (bitsOp .and .i64 (l (Int.toNat i)) 15) t) with
 | none => none
 | some y => (
 let nr := y.1.1.1
 let r2 := y.1.1.2
 let r3 := y.1.2.1
 let o := y.2.1
 bif ((bitsOp .and .i64 (l (Int.toNat i)) 15) == 1) then (
 bif ((bitsOp .and .i64 i 1) == 1) then (
 match (tape_Tape_Draw_m (some g) o) with
 | none => none
 | some y1 => (
 let r4 := y1.1.1
 let r5 := y1.1.2.1
 let o1 := y1.2.1
 let t1 := (if (IntKind.i64.wrap (at_ + r1.2.1)) < (((ByteArray.size s) : Nat) : Int) then (IntKind.i64.wrap (at_ + r1.2.1)) else (((ByteArray.size s) : Nat) : Int))
 bif ((decide (0 ≤ t1)) && (decide (t1 ≤ (((ByteArray.size s) : Nat) : Int)))) then (
 match (r07_Q ((np, p), p1)) with
 | none => none
 | some r6 => (
 match (r10_Draws (ByteArray.extract s (Int.toNat t1) (ByteArray.size s)) r6 1) with
 | none => none
 | some r7 => (
 bif r1.2.2 then (
 bif (!((r5 == 0) == r7.2.2)) then (
 some (.inr (.inl ((false, ()), ()))))
 else (
 bif r7.2.2 then (
 bif (inb 0 r7.1.1) then (
 bif (!(eqF (.arr 4 (.int .u64)) r4 (r7.1.2 0))) then (
 some (.inr (.inl ((false, ()), ()))))
 else (
 bif r1.2.2 then (
 bif r7.2.2 then (
 bif (!((r3 == 0) == r1.2.2)) then (
 some (.inr (.inl ((false, ()), ()))))
 else (
 bif (r3 != 0) then (
 bif (r3 != 5) then (
 some (.inr (.inl ((false, ()), ()))))
 else (
 match (r08_Same r1.1.1 r1.1.2 nr r2) with
 | none => none
 | some r8 => (
 bif (!r8) then (
 some (.inr (.inl ((false, ()), ()))))
 else (
 match (tape_Tape_Left (some o1)) with
 | none => none
 | some r9 => (
 let t2 := (IntKind.i64.wrap ((((ByteArray.size s) : Nat) : Int) - (IntKind.i64.wrap (at_ + (IntKind.i64.wrap (r1.2.1 + r7.2.1))))))
 bif (r9 != t2) then (
 some (.inr (.inl ((false, ()), ()))))
 else (
 some (.inl ((s, ((nl, l), ((), (g, ((), ((IntKind.i64.wrap (at_ + (IntKind.i64.wrap (r1.2.1 + r7.2.1)))), ((IntKind.i64.wrap (i + 1)), ()))))))), (((np, p), p1), (o1, ()))))))))))
 else (
 match (r08_Same r1.1.1 r1.1.2 nr r2) with
 | none => none
 | some r10 => (
 bif (!r10) then (
 some (.inr (.inl ((false, ()), ()))))
 else (
 match (tape_Tape_Left (some o1)) with
 | none => none
 | some r11 => (
 let t3 := (IntKind.i64.wrap ((((ByteArray.size s) : Nat) : Int) - (IntKind.i64.wrap (at_ + (IntKind.i64.wrap (r1.2.1 + r7.2.1))))))
 bif (r11 != t3) then (
 some (.inr (.inl ((false, ()), ()))))
 else (
 some (.inl ((s, ((nl, l), ((), (g, ((), ((IntKind.i64.wrap (at_ + (IntKind.i64.wrap (r1.2.1 + r7.2.1)))), ((IntKind.i64.wrap (i + 1)), ()))))))), (((np, p), p1), (o1, ())))))))))))
 else (
 bif (!((r3 == 0) == r1.2.2)) then (
 some (.inr (.inl ((false, ()), ()))))
 else (
 bif (r3 != 0) then (
 bif (r3 != 5) then (
 some (.inr (.inl ((false, ()), ()))))
 else (
 match (r08_Same r1.1.1 r1.1.2 nr r2) with
 | none => none
 | some r12 => (
 bif (!r12) then (
 some (.inr (.inl ((false, ()), ()))))
 else (
 match (tape_Tape_Left (some o1)) with
 | none => none
 | some r13 => (
 bif (r13 != (IntKind.i64.wrap ((((ByteArray.size s) : Nat) : Int) - (IntKind.i64.wrap (at_ + r1.2.1))))) then (
 some (.inr (.inl ((false, ()), ()))))
 else (
 some (.inl ((s, ((nl, l), ((), (g, ((), ((IntKind.i64.wrap (at_ + r1.2.1)), ((IntKind.i64.wrap (i + 1)), ()))))))), (((np, p), p1), (o1, ()))))))))))
 else (
 match (r08_Same r1.1.1 r1.1.2 nr r2) with
 | none => none
 | some r14 => (
 bif (!r14) then (
 some (.inr (.inl ((false, ()), ()))))
 else (
 match (tape_Tape_Left (some o1)) with
 | none => none
 | some r15 => (
 bif (r15 != (IntKind.i64.wrap ((((ByteArray.size s) : Nat) : Int) - (IntKind.i64.wrap (at_ + r1.2.1))))) then (
 some (.inr (.inl ((false, ()), ()))))
 else (
 some (.inl ((s, ((nl, l), ((), (g, ((), ((IntKind.i64.wrap (at_ + r1.2.1)), ((IntKind.i64.wrap (i + 1)), ()))))))), (((np, p), p1), (o1, ()))))))))))))
 else (
 bif (!((r3 == 0) == r1.2.2)) then (
 some (.inr (.inl ((false, ()), ()))))
 else (
 bif (r3 != 0) then (
 bif (r3 != 5) then (
 some (.inr (.inl ((false, ()), ()))))
 else (
 match (r08_Same r1.1.1 r1.1.2 nr r2) with
 | none => none
 | some r16 => (
 bif (!r16) then (
 some (.inr (.inl ((false, ()), ()))))
 else (
 match (tape_Tape_Left (some o1)) with
 | none => none
 | some r17 => (
 bif (r17 != (IntKind.i64.wrap ((((ByteArray.size s) : Nat) : Int) - (IntKind.i64.wrap (at_ + r1.2.1))))) then (
 some (.inr (.inl ((false, ()), ()))))
 else (
 some (.inl ((s, ((nl, l), ((), (g, ((), ((IntKind.i64.wrap (at_ + r1.2.1)), ((IntKind.i64.wrap (i + 1)), ()))))))), (((np, p), p1), (o1, ()))))))))))
 else (
 match (r08_Same r1.1.1 r1.1.2 nr r2) with
 | none => none
 | some r18 => (
 bif (!r18) then (
 some (.inr (.inl ((false, ()), ()))))
 else (
 match (tape_Tape_Left (some o1)) with
 | none => none
 | some r19 => (
 bif (r19 != (IntKind.i64.wrap ((((ByteArray.size s) : Nat) : Int) - (IntKind.i64.wrap (at_ + r1.2.1))))) then (
 some (.inr (.inl ((false, ()), ()))))
 else (
 some (.inl ((s, ((nl, l), ((), (g, ((), ((IntKind.i64.wrap (at_ + r1.2.1)), ((IntKind.i64.wrap (i + 1)), ()))))))), (((np, p), p1), (o1, ())))))))))))))
 else (
 none))
 else (
 bif r1.2.2 then (
 bif r7.2.2 then (
 bif (!((r3 == 0) == r1.2.2)) then (
 some (.inr (.inl ((false, ()), ()))))
 else (
 bif (r3 != 0) then (
 bif (r3 != 5) then (
 some (.inr (.inl ((false, ()), ()))))
 else (
 match (r08_Same r1.1.1 r1.1.2 nr r2) with
 | none => none
 | some r20 => (
 bif (!r20) then (
 some (.inr (.inl ((false, ()), ()))))
 else (
 match (tape_Tape_Left (some o1)) with
 | none => none
 | some r21 => (
 let t4 := (IntKind.i64.wrap ((((ByteArray.size s) : Nat) : Int) - (IntKind.i64.wrap (at_ + (IntKind.i64.wrap (r1.2.1 + r7.2.1))))))
 bif (r21 != t4) then (
 some (.inr (.inl ((false, ()), ()))))
 else (
 some (.inl ((s, ((nl, l), ((), (g, ((), ((IntKind.i64.wrap (at_ + (IntKind.i64.wrap (r1.2.1 + r7.2.1)))), ((IntKind.i64.wrap (i + 1)), ()))))))), (((np, p), p1), (o1, ()))))))))))
 else (
 match (r08_Same r1.1.1 r1.1.2 nr r2) with
 | none => none
 | some r22 => (
 bif (!r22) then (
 some (.inr (.inl ((false, ()), ()))))
 else (
 match (tape_Tape_Left (some o1)) with
 | none => none
 | some r23 => (
 let t5 := (IntKind.i64.wrap ((((ByteArray.size s) : Nat) : Int) - (IntKind.i64.wrap (at_ + (IntKind.i64.wrap (r1.2.1 + r7.2.1))))))
 bif (r23 != t5) then (
 some (.inr (.inl ((false, ()), ()))))
 else (
 some (.inl ((s, ((nl, l), ((), (g, ((), ((IntKind.i64.wrap (at_ + (IntKind.i64.wrap (r1.2.1 + r7.2.1)))), ((IntKind.i64.wrap (i + 1)), ()))))))), (((np, p), p1), (o1, ())))))))))))
 else (
 bif (!((r3 == 0) == r1.2.2)) then (
 some (.inr (.inl ((false, ()), ()))))
 else (
 bif (r3 != 0) then (
 bif (r3 != 5) then (
 some (.inr (.inl ((false, ()), ()))))
 else (
 match (r08_Same r1.1.1 r1.1.2 nr r2) with
 | none => none
 | some r24 => (
 bif (!r24) then (
 some (.inr (.inl ((false, ()), ()))))
 else (
 match (tape_Tape_Left (some o1)) with
 | none => none
 | some r25 => (
 bif (r25 != (IntKind.i64.wrap ((((ByteArray.size s) : Nat) : Int) - (IntKind.i64.wrap (at_ + r1.2.1))))) then (
 some (.inr (.inl ((false, ()), ()))))
 else (
 some (.inl ((s, ((nl, l), ((), (g, ((), ((IntKind.i64.wrap (at_ + r1.2.1)), ((IntKind.i64.wrap (i + 1)), ()))))))), (((np, p), p1), (o1, ()))))))))))
 else (
 match (r08_Same r1.1.1 r1.1.2 nr r2) with
 | none => none
 | some r26 => (
 bif (!r26) then (
 some (.inr (.inl ((false, ()), ()))))
 else (
 match (tape_Tape_Left (some o1)) with
 | none => none
 | some r27 => (
 bif (r27 != (IntKind.i64.wrap ((((ByteArray.size s) : Nat) : Int) - (IntKind.i64.wrap (at_ + r1.2.1))))) then (
 some (.inr (.inl ((false, ()), ()))))
 else (
 some (.inl ((s, ((nl, l), ((), (g, ((), ((IntKind.i64.wrap (at_ + r1.2.1)), ((IntKind.i64.wrap (i + 1)), ()))))))), (((np, p), p1), (o1, ()))))))))))))
 else (
 bif (!((r3 == 0) == r1.2.2)) then (
 some (.inr (.inl ((false, ()), ()))))
 else (
 bif (r3 != 0) then (
 bif (r3 != 5) then (
 some (.inr (.inl ((false, ()), ()))))
 else (
 match (r08_Same r1.1.1 r1.1.2 nr r2) with
 | none => none
 | some r28 => (
 bif (!r28) then (
 some (.inr (.inl ((false, ()), ()))))
 else (
 match (tape_Tape_Left (some o1)) with
 | none => none
 | some r29 => (
 bif (r29 != (IntKind.i64.wrap ((((ByteArray.size s) : Nat) : Int) - (IntKind.i64.wrap (at_ + r1.2.1))))) then (
 some (.inr (.inl ((false, ()), ()))))
 else (
 some (.inl ((s, ((nl, l), ((), (g, ((), ((IntKind.i64.wrap (at_ + r1.2.1)), ((IntKind.i64.wrap (i + 1)), ()))))))), (((np, p), p1), (o1, ()))))))))))
 else (
 match (r08_Same r1.1.1 r1.1.2 nr r2) with
 | none => none
 | some r30 => (
 bif (!r30) then (
 some (.inr (.inl ((false, ()), ()))))
 else (
 match (tape_Tape_Left (some o1)) with
 | none => none
 | some r31 => (
 bif (r31 != (IntKind.i64.wrap ((((ByteArray.size s) : Nat) : Int) - (IntKind.i64.wrap (at_ + r1.2.1))))) then (
 some (.inr (.inl ((false, ()), ()))))
 else (
 some (.inl ((s, ((nl, l), ((), (g, ((), ((IntKind.i64.wrap (at_ + r1.2.1)), ((IntKind.i64.wrap (i + 1)), ()))))))), (((np, p), p1), (o1, ()))))))))))))))
 else (
 bif r1.2.2 then (
 bif r7.2.2 then (
 bif (!((r3 == 0) == r1.2.2)) then (
 some (.inr (.inl ((false, ()), ()))))
 else (
 bif (r3 != 0) then (
 bif (r3 != 5) then (
 some (.inr (.inl ((false, ()), ()))))
 else (
 match (r08_Same r1.1.1 r1.1.2 nr r2) with
 | none => none
 | some r32 => (
 bif (!r32) then (
 some (.inr (.inl ((false, ()), ()))))
 else (
 match (tape_Tape_Left (some o1)) with
 | none => none
 | some r33 => (
 let t6 := (IntKind.i64.wrap ((((ByteArray.size s) : Nat) : Int) - (IntKind.i64.wrap (at_ + (IntKind.i64.wrap (r1.2.1 + r7.2.1))))))
 bif (r33 != t6) then (
 some (.inr (.inl ((false, ()), ()))))
 else (
 some (.inl ((s, ((nl, l), ((), (g, ((), ((IntKind.i64.wrap (at_ + (IntKind.i64.wrap (r1.2.1 + r7.2.1)))), ((IntKind.i64.wrap (i + 1)), ()))))))), (((np, p), p1), (o1, ()))))))))))
 else (
 match (r08_Same r1.1.1 r1.1.2 nr r2) with
 | none => none
 | some r34 => (
 bif (!r34) then (
 some (.inr (.inl ((false, ()), ()))))
 else (
 match (tape_Tape_Left (some o1)) with
 | none => none
 | some r35 => (
 let t7 := (IntKind.i64.wrap ((((ByteArray.size s) : Nat) : Int) - (IntKind.i64.wrap (at_ + (IntKind.i64.wrap (r1.2.1 + r7.2.1))))))
 bif (r35 != t7) then (
 some (.inr (.inl ((false, ()), ()))))
 else (
 some (.inl ((s, ((nl, l), ((), (g, ((), ((IntKind.i64.wrap (at_ + (IntKind.i64.wrap (r1.2.1 + r7.2.1)))), ((IntKind.i64.wrap (i + 1)), ()))))))), (((np, p), p1), (o1, ())))))))))))
 else (
 bif (!((r3 == 0) == r1.2.2)) then (
 some (.inr (.inl ((false, ()), ()))))
 else (
 bif (r3 != 0) then (
 bif (r3 != 5) then (
 some (.inr (.inl ((false, ()), ()))))
 else (
 match (r08_Same r1.1.1 r1.1.2 nr r2) with
 | none => none
 | some r36 => (
 bif (!r36) then (
 some (.inr (.inl ((false, ()), ()))))
 else (
 match (tape_Tape_Left (some o1)) with
 | none => none
 | some r37 => (
 bif (r37 != (IntKind.i64.wrap ((((ByteArray.size s) : Nat) : Int) - (IntKind.i64.wrap (at_ + r1.2.1))))) then (
 some (.inr (.inl ((false, ()), ()))))
 else (
 some (.inl ((s, ((nl, l), ((), (g, ((), ((IntKind.i64.wrap (at_ + r1.2.1)), ((IntKind.i64.wrap (i + 1)), ()))))))), (((np, p), p1), (o1, ()))))))))))
 else (
 match (r08_Same r1.1.1 r1.1.2 nr r2) with
 | none => none
 | some r38 => (
 bif (!r38) then (
 some (.inr (.inl ((false, ()), ()))))
 else (
 match (tape_Tape_Left (some o1)) with
 | none => none
 | some r39 => (
 bif (r39 != (IntKind.i64.wrap ((((ByteArray.size s) : Nat) : Int) - (IntKind.i64.wrap (at_ + r1.2.1))))) then (
 some (.inr (.inl ((false, ()), ()))))
 else (
 some (.inl ((s, ((nl, l), ((), (g, ((), ((IntKind.i64.wrap (at_ + r1.2.1)), ((IntKind.i64.wrap (i + 1)), ()))))))), (((np, p), p1), (o1, ()))))))))))))
 else (
 bif (!((r3 == 0) == r1.2.2)) then (
 some (.inr (.inl ((false, ()), ()))))
 else (
 bif (r3 != 0) then (
 bif (r3 != 5) then (
 some (.inr (.inl ((false, ()), ()))))
 else (
 match (r08_Same r1.1.1 r1.1.2 nr r2) with
 | none => none
 | some r40 => (
 bif (!r40) then (
 some (.inr (.inl ((false, ()), ()))))
 else (
 match (tape_Tape_Left (some o1)) with
 | none => none
 | some r41 => (
 bif (r41 != (IntKind.i64.wrap ((((ByteArray.size s) : Nat) : Int) - (IntKind.i64.wrap (at_ + r1.2.1))))) then (
 some (.inr (.inl ((false, ()), ()))))
 else (
 some (.inl ((s, ((nl, l), ((), (g, ((), ((IntKind.i64.wrap (at_ + r1.2.1)), ((IntKind.i64.wrap (i + 1)), ()))))))), (((np, p), p1), (o1, ()))))))))))
 else (
 match (r08_Same r1.1.1 r1.1.2 nr r2) with
 | none => none
 | some r42 => (
 bif (!r42) then (
 some (.inr (.inl ((false, ()), ()))))
 else (
 match (tape_Tape_Left (some o1)) with
 | none => none
 | some r43 => (
 bif (r43 != (IntKind.i64.wrap ((((ByteArray.size s) : Nat) : Int) - (IntKind.i64.wrap (at_ + r1.2.1))))) then (
 some (.inr (.inl ((false, ()), ()))))
 else (
 some (.inl ((s, ((nl, l), ((), (g, ((), ((IntKind.i64.wrap (at_ + r1.2.1)), ((IntKind.i64.wrap (i + 1)), ()))))))), (((np, p), p1), (o1, ())))))))))))))))
 else (
 none)))
 else (
 bif (!((r3 == 0) == r1.2.2)) then (
 some (.inr (.inl ((false, ()), ()))))
 else (
 bif (r3 != 0) then (
 bif (r3 != 5) then (
 some (.inr (.inl ((false, ()), ()))))
 else (
 match (r08_Same r1.1.1 r1.1.2 nr r2) with
 | none => none
 | some r44 => (
 bif (!r44) then (
 some (.inr (.inl ((false, ()), ()))))
 else (
 match (tape_Tape_Left (some o)) with
 | none => none
 | some r45 => (
 bif (r45 != (IntKind.i64.wrap ((((ByteArray.size s) : Nat) : Int) - (IntKind.i64.wrap (at_ + r1.2.1))))) then (
 some (.inr (.inl ((false, ()), ()))))
 else (
 some (.inl ((s, ((nl, l), ((), (g, ((), ((IntKind.i64.wrap (at_ + r1.2.1)), ((IntKind.i64.wrap (i + 1)), ()))))))), (((np, p), p1), (o, ()))))))))))
 else (
 match (r08_Same r1.1.1 r1.1.2 nr r2) with
 | none => none
 | some r46 => (
 bif (!r46) then (
 some (.inr (.inl ((false, ()), ()))))
 else (
 match (tape_Tape_Left (some o)) with
 | none => none
 | some r47 => (
 bif (r47 != (IntKind.i64.wrap ((((ByteArray.size s) : Nat) : Int) - (IntKind.i64.wrap (at_ + r1.2.1))))) then (
 some (.inr (.inl ((false, ()), ()))))
 else (
 some (.inl ((s, ((nl, l), ((), (g, ((), ((IntKind.i64.wrap (at_ + r1.2.1)), ((IntKind.i64.wrap (i + 1)), ()))))))), (((np, p), p1), (o, ()))))))))))))
 else (
 bif (!((r3 == 0) == r1.2.2)) then (
 some (.inr (.inl ((false, ()), ()))))
 else (
 bif (r3 != 0) then (
 bif (r3 != 5) then (
 some (.inr (.inl ((false, ()), ()))))
 else (
 match (r08_Same r1.1.1 r1.1.2 nr r2) with
 | none => none
 | some r48 => (
 bif (!r48) then (
 some (.inr (.inl ((false, ()), ()))))
 else (
 match (tape_Tape_Left (some o)) with
 | none => none
 | some r49 => (
 bif (r49 != (IntKind.i64.wrap ((((ByteArray.size s) : Nat) : Int) - (IntKind.i64.wrap (at_ + r1.2.1))))) then (
 some (.inr (.inl ((false, ()), ()))))
 else (
 some (.inl ((s, ((nl, l), ((), (g, ((), ((IntKind.i64.wrap (at_ + r1.2.1)), ((IntKind.i64.wrap (i + 1)), ()))))))), (((np, p), p1), (o, ()))))))))))
 else (
 match (r08_Same r1.1.1 r1.1.2 nr r2) with
 | none => none
 | some r50 => (
 bif (!r50) then (
 some (.inr (.inl ((false, ()), ()))))
 else (
 match (tape_Tape_Left (some o)) with
 | none => none
 | some r51 => (
 bif (r51 != (IntKind.i64.wrap ((((ByteArray.size s) : Nat) : Int) - (IntKind.i64.wrap (at_ + r1.2.1))))) then (
 some (.inr (.inl ((false, ()), ()))))
 else (
 some (.inl ((s, ((nl, l), ((), (g, ((), ((IntKind.i64.wrap (at_ + r1.2.1)), ((IntKind.i64.wrap (i + 1)), ()))))))), (((np, p), p1), (o, ())))))))))))))))
 else (
 none))
 else (
 none))
 else (
 some (.inr (.inr ((), ()))))
noncomputable def l10_TapeDraws' (which : Int) (s : ByteArray) (nl : Nat) (l : Nat → Int) : Option (Unit) :=
 bif (decide ((((ByteArray.size s) : Nat) : Int) > 512)) then (
 match l10_awake with
 | none => none
 | some r => (
 bif r then (
 some ())
 else (
 none)))
 else (
 bif (decide (((nl : Nat) : Int) > 10)) then (
 match l10_awake with
 | none => none
 | some r1 => (
 bif r1 then (
 some ())
 else (
 none)))
 else (
 match r07_Least with
 | none => none
 | some r2 => (
 match r07_Other with
 | none => none
 | some r3 => (
 match r07_Great with
 | none => none
 | some r4 => (
 bif (inb (Int.tmod (bitsOp .and .i64 which 255) 3) 3) then (
 let t := (((upd (upd (upd (fun _ => (.nil, (fun _ => 0))) 0 ((.fz r2.1.1 r2.1.2), r2.2)) 1 ((.fz r3.1.1 r3.1.2), r3.2)) 2 ((.fz r4.1.1 r4.1.2), r4.2)) (0 + (Int.toNat (Int.tmod (bitsOp .and .i64 which 255) 3)))) : ((SlV ((Nat → Int) × Int)) × (Nat → Int)))
 bif (SlV.isMs t.1) then (
 none)
 else (
 match (group_New (((SlV.len t.1), (SlV.fn (((fun _ => 0), 0) : ((Nat → Int) × Int)) t.1)), t.2)) with
 | none => none
 | some r5 => (
 match r5.1 with
 | none => (
 match (tape_New_m s) with
 | none => none
 | some y4 => (
 match y4 with
 | .inl y5 => (
 let r9 := y5.1.2.1
 bif (r5.2 != 0) then (
 none)
 else (
 bif (r9 != 0) then (
 none)
 else (
 none)))
 | .inr y5 => (
 let r10 := y5.1.2.1
 let o1 := y5.2.1
 bif (r5.2 != 0) then (
 none)
 else (
 bif (r10 != 0) then (
 none)
 else (
 none)))))
 | some p => (
 match (tape_New_m s) with
 | none => none
 | some y => (
 match y with
 | .inl y1 => (
 let r6 := y1.1.2.1
 bif (r5.2 != 0) then (
 none)
 else (
 bif (r6 != 0) then (
 none)
 else (
 none)))
 | .inr y1 => (
 let r7 := y1.1.2.1
 let o := y1.2.1
 bif (r5.2 != 0) then (
 none)
 else (
 bif (r7 != 0) then (
 none)
 else (
 match (loopF R_l10_TapeDraws_0 ((s, ((nl, l), ((), (p, ((), (0, (0, ()))))))), ((((SlV.len t.1), (SlV.fn (((fun _ => 0), 0) : ((Nat → Int) × Int)) t.1)), t.2), (o, ())))) with
 | none => none
 | some y2 => (
 match y2 with
 | .inl y3 => (
 let t1 := y3.1.1
 bif t1 then (
 some ())
 else (
 none))
 | .inr y3 => (
 match l10_awake with
 | none => none
 | some r8 => (
 bif r8 then (
 some ())
 else (
 none))))))))))))
 else (
 none))))))
end Go.Pl

set_option linter.unusedVariables false
set_option linter.unusedSimpArgs false
set_option maxRecDepth 100000
set_option maxHeartbeats 0
namespace Go.Pl
end Go.Pl
open Go Go.Den Go.Pl
namespace Go.Proofs.Ytennopklknlecaa
abbrev S_l10_TapeDraws_0 : Shape := { sl := [(1, (.v .str)), (2, (.sz (.int .i64))), (7, (.c ⟨(.ptr (.pair (.sl (.pair (.arr 4 (.int .u64)) (.int .i64))) (.arr 4 (.int .u64)))), (.rf 1 [])⟩)), (8, (.pz (.pair (.pair (.ptr (.pair (.arr 4 (.int .u64)) (.pair (.int .u64) (.pair (.arr 4 (.int .u64)) (.arr 4 (.int .u64)))))) (.ptr (.pair (.arr 4 (.int .u64)) (.pair (.int .u64) (.pair (.arr 4 (.int .u64)) (.arr 4 (.int .u64))))))) (.arr 4 (.int .u64))))), (10, (.c ⟨(.ptr (.pair .bool .str)), (.rf 2 [])⟩)), (12, (.v (.int .i64))), (13, (.v (.int .i64)))], ob := [(1, (.p (.sz (.pair (.arr 4 (.int .u64)) (.int .i64))) (.v (.arr 4 (.int .u64))))), (2, (.v (.pair .bool .str)))], lo := 3, nx := 3 }
abbrev E_l10_TapeDraws_0 : List Ex := [(.ret, { sl := [(6, (.v .bool))], ob := [], lo := 17, nx := 17 }), (.normal, { sl := [], ob := [], lo := 3, nx := 3 })]
noncomputable def L_l10_TapeDraws_0 : Code := loopIn (bodyOf Try.f4) 0
noncomputable def P_l10_TapeDraws_0 : Lp := lpOf S_l10_TapeDraws_0 E_l10_TapeDraws_0 173 R_l10_TapeDraws_0
noncomputable def x_l10_TapeDraws : Cx := { ti := ti, con := [(15, c_l10_awake), (19, c_r07_Least), (20, c_r07_Other), (21, c_r07_Great), (22, c_group_New), (16, c_tape_New_m), (24, c_r07_Q), (23, c_r10_Draws), (25, conIf 0 c_tape_Tape_Draws_m c_tape_Tape_Draws), (26, conIf 0 c_tape_Tape_Draw_m c_tape_Tape_Draw), (27, c_r08_Same), (18, c_tape_Tape_Left)], fns := [], un := 6 }
theorem xok_l10_TapeDraws : CxOk Try.prog x_l10_TapeDraws := CxOk.of mixed ti_ok (List.forall_mem_cons.2 ⟨con_l10_awake, List.forall_mem_cons.2 ⟨con_r07_Least, List.forall_mem_cons.2 ⟨con_r07_Other, List.forall_mem_cons.2 ⟨con_r07_Great, List.forall_mem_cons.2 ⟨con_group_New, List.forall_mem_cons.2 ⟨con_tape_New_m, List.forall_mem_cons.2 ⟨con_r07_Q, List.forall_mem_cons.2 ⟨con_r10_Draws, List.forall_mem_cons.2 ⟨conIf_ok con_tape_Tape_Draws_m con_tape_Tape_Draws, List.forall_mem_cons.2 ⟨conIf_ok con_tape_Tape_Draw_m con_tape_Tape_Draw, List.forall_mem_cons.2 ⟨con_r08_Same, List.forall_mem_cons.2 ⟨con_tape_Tape_Left, List.forall_mem_nil _⟩⟩⟩⟩⟩⟩⟩⟩⟩⟩⟩⟩) (List.forall_mem_nil _)
theorem r_l10_TapeDraws_0 (x : S_l10_TapeDraws_0.X) : denC x_l10_TapeDraws [] (denF x_l10_TapeDraws 8) L_l10_TapeDraws_0 (S_l10_TapeDraws_0.mkS 173 x) (kRound 0 S_l10_TapeDraws_0 E_l10_TapeDraws_0) = R_l10_TapeDraws_0 x := by kernel_rfl
theorem l_l10_TapeDraws_0 : LpOk Try.prog 0 (.loop L_l10_TapeDraws_0) P_l10_TapeDraws_0 := lpOf_ok xok_l10_TapeDraws 8 (lps_nil) S_l10_TapeDraws_0 E_l10_TapeDraws_0 173 R_l10_TapeDraws_0 (by decide) r_l10_TapeDraws_0
theorem fn_l10_TapeDraws : FnOk Try.prog 4 Try.f4 [(0, P_l10_TapeDraws_0)] := ⟨Try.func4, Try.call4, lps_of (by kernel_rfl) (lps_one l_l10_TapeDraws_0 (by kernel_rfl) (List.forall_mem_nil _))⟩
theorem e_l10_TapeDraws (which : Int) (s : ByteArray) (nl : Nat) (l : Nat → Int) : bodyK x_l10_TapeDraws [(0, P_l10_TapeDraws_0)] (denF x_l10_TapeDraws 8) Try.f4 (domV [(.int .i64), .str, (.sl (.int .i64))] (which, s, (nl, l), ())) [] 0 kTrue = l10_TapeDraws' which s nl l := by kernel_rfl
end Go.Proofs.Ytennopklknlecaa

set_option linter.unusedVariables false
set_option linter.unusedSimpArgs false
namespace Go.Pl
open Go Go.Den Go.Num

theorem mask_15 (x : Int) : ∃ m : Nat, bitsOp .and .i64 x 15 = (m : Int) ∧ m ≤ 15 := by
  have hm : bitsOp .and .i64 x 15 = x % (2 ^ 4 : Nat) := andMask (k := 4) (by decide)
  have h0 := Int.emod_nonneg x (show ((2 ^ 4 : Nat) : Int) ≠ 0 by decide)
  have h1 := Int.emod_lt_of_pos x (show (0 : Int) < ((2 ^ 4 : Nat) : Int) by decide)
  simp only [Nat.reducePow, Int.cast_ofNat_Int] at h1
  exact ⟨(x % (2 ^ 4 : Nat)).toNat, by rw [hm]; omega, by simp only [Nat.reducePow] at *; omega⟩
theorem drawsL_one {n bits q : Nat} (l : List UInt8) : drawsL n bits q 1 l = match drawL n bits q (l.length + 1) l with
    | none => none
    | some (x, l') => some ([x], l') := by
  simp only [drawsL]
  cases drawL n bits q (l.length + 1) l with
  | none => rfl
  | some p => rfl
theorem same_nil (a b : Nat → Nat → Int) : r08_Same 0 a 0 b = some true := r08_Same_spec (n := 0) (by decide) (xs := []) rfl (fun j hj => absurd hj (by simp)) (fun j hj => absurd hj (by simp))
theorem draws_step {g : GroupT} {P Q G : Nat} (hgg : IsGroup g P Q G) {k : Nat} {L : ChainT} {ga : Nat → Int} (hg : IsPick k L ga g P Q G) {s : ByteArray} {nl : Nat} {l : Nat → Int} (hl : (bl s).length ≤ 512) {i a : Nat} (hi : i < nl) (hnl : nl ≤ 20) (ha : a ≤ (bl s).length) {b : ByteArray} (hb : bl b = (bl s).drop a) :
    ∃ (a' : Nat) (b' : ByteArray), R_l10_TapeDraws_0 (T_l10_TapeDraws_0 s nl l g (a : Int) (i : Int) k L ga (true, b)) = some (.inl (T_l10_TapeDraws_0 s nl l g (a' : Int) ((i + 1 : Nat) : Int) k L ga (true, b'))) ∧ a' ≤ (bl s).length ∧ bl b' = (bl s).drop a' := by
  have hQ := hgg.qpos
  have hn0 := dN_pos hQ
  have hbl : (bl b).length = (bl s).length - a := by rw [hb, List.length_drop]
  obtain ⟨m, m1, m2⟩ := mask_15 (l i)
  have hex : ∀ c, bl (s.extract c (bl s).length) = (bl s).drop c := fun c => by rw [← bl_size, bl_rest]
  have d1 := Draws_m_spec hgg (k := m) (by omega) b
  have d2 := r10_Draws_spec hg.q hQ (s := s.extract a (bl s).length) (by rw [hex, List.length_drop]; omega) (k := m) (by omega)
  rw [hex, ← hb] at d2
  have hi1 : bitsOp .and .i64 (i : Int) 1 = ((i % 2 : Nat) : Int) := andS1 (by omega)
  cases hd : drawsL (dN Q) (blen Q) Q m (bl b) with
  | none =>
    rw [hd] at d1 d2
    refine ⟨a, b, ?_, ha, hb⟩
    by_cases c1 : m = 1
    · subst c1
      rw [drawsL_one] at hd
      have e1 := Draw_m_spec hgg b
      have e2 := r10_Draws_spec hg.q hQ (s := s.extract a (bl s).length) (by rw [hex, List.length_drop]; omega) (k := 1) (by decide)
      rw [hex, ← hb, drawsL_one] at e2
      cases hdr : drawL (dN Q) (blen Q) Q ((bl b).length + 1) (bl b) with
      | some p => rw [hdr] at hd; cases hd
      | none =>
        rw [hdr] at e1 e2
        have e2' : r10_Draws (s.extract a (bl s).length) (L (k - 2)).1 1 = some ((0, fun _ => fun _ => 0), 0, false) := e2
        have d1' : tape_Tape_Draws_m (some g) 1 (true, b) = some (((0, fun _ => fun _ => 0), (5, ())), ((true, b), ())) := d1
        have hmin : (if (a : Int) < ((bl s).length : Int) then (a : Int) else ((bl s).length : Int)) = (a : Int) := by split <;> omega
        unfold R_l10_TapeDraws_0
        by_cases c2 : i % 2 = 1
        · simp (disch := omega) only [add_c, add_l, l_add, mul_c, mul_l, l_mul, sub_c, sub_l, l_sub, div_c, div_l, mod_c, mod_l, tdiv_c, tdiv_l, tmod_c, tmod_l, wrap_i64n, wrapun, dec_t, dec_f, inb_t, cond_true, cond_false, Int.toNat_natCast, beq_t, beq_f, bne_t, bne_f, Bool.not_true, Bool.not_false, Int.reduceToNat, ft_b, tf_b, tt_b, ff_b, decide_true, decide_false, hg.rQ, m1, Int.cast_ofNat_Int, Int.natCast_one, bl_size, e2', d1', e1, hi1, c2, Int.add_zero, hmin, same_nil, tape_Left_spec, hbl, Bool.and_true]
        · simp (disch := omega) only [add_c, add_l, l_add, mul_c, mul_l, l_mul, sub_c, sub_l, l_sub, div_c, div_l, mod_c, mod_l, tdiv_c, tdiv_l, tmod_c, tmod_l, wrap_i64n, wrapun, dec_t, dec_f, inb_t, cond_true, cond_false, Int.toNat_natCast, beq_t, beq_f, bne_t, bne_f, Bool.not_true, Bool.not_false, Int.reduceToNat, ft_b, tf_b, tt_b, ff_b, decide_true, decide_false, hg.rQ, m1, Int.cast_ofNat_Int, Int.natCast_one, bl_size, e2', d1', e1, hi1, c2, Int.add_zero, hmin, same_nil, tape_Left_spec, hbl, Bool.and_true]
    · unfold R_l10_TapeDraws_0
      simp (disch := omega) only [add_c, add_l, l_add, mul_c, mul_l, l_mul, sub_c, sub_l, l_sub, div_c, div_l, mod_c, mod_l, tdiv_c, tdiv_l, tmod_c, tmod_l, wrap_i64n, wrapun, dec_t, dec_f, inb_t, cond_true, cond_false, Int.toNat_natCast, beq_t, beq_f, bne_t, bne_f, Bool.not_true, Bool.not_false, Int.reduceToNat, ft_b, tf_b, tt_b, ff_b, decide_true, decide_false, hg.rQ, m1, bl_size, d1, d2, same_nil, tape_Left_spec, hbl, Int.add_zero, Bool.and_true]
  | some p =>
    obtain ⟨xs, l'⟩ := p
    rw [hd] at d1 d2
    obtain ⟨hxs, c, hl', hc⟩ := drawsL_len hn0 hd
    obtain ⟨f, b', d1, hf, hb'⟩ := d1
    obtain ⟨f', d2, hf'⟩ := d2
    have hu : (bl b).length - l'.length = c := by rw [hl', List.length_drop]; omega
    rw [hu] at d2
    have hbb : bl b' = (bl s).drop (a + c) := by rw [hb', hl', hb, List.drop_drop]
    have hbl' : (bl b').length = (bl s).length - (a + c) := by rw [hbb, List.length_drop]
    have hsame := r08_Same_spec (by omega) hxs hf' hf
    by_cases c1 : m = 1
    · subst c1
      have d2' : r10_Draws (s.extract a (bl s).length) (L (k - 2)).1 1 = some ((1, f'), (c : Int), true) := d2
      have d1' : tape_Tape_Draws_m (some g) 1 (true, b) = some (((1, f), (0, ())), ((true, b'), ())) := d1
      by_cases c2 : i % 2 = 1
      · have hmin : (if ((a + c : Nat) : Int) < ((bl s).length : Int) then ((a + c : Nat) : Int) else ((bl s).length : Int)) = ((a + c : Nat) : Int) := by split <;> omega
        have e1 := Draw_m_spec hgg b'
        have e2 := r10_Draws_spec hg.q hQ (s := s.extract (a + c) (bl s).length) (by rw [hex, List.length_drop]; omega) (k := 1) (by decide)
        rw [hex, ← hbb, drawsL_one] at e2
        cases hdr : drawL (dN Q) (blen Q) Q ((bl b').length + 1) (bl b') with
        | none =>
          rw [hdr] at e1 e2
          have e2' : r10_Draws (s.extract (a + c) (bl s).length) (L (k - 2)).1 1 = some ((0, fun _ => fun _ => 0), 0, false) := e2
          refine ⟨a + c, b', ?_, by omega, hbb⟩
          unfold R_l10_TapeDraws_0
          simp (disch := omega) only [add_c, add_l, l_add, mul_c, mul_l, l_mul, sub_c, sub_l, l_sub, div_c, div_l, mod_c, mod_l, tdiv_c, tdiv_l, tmod_c, tmod_l, wrap_i64n, wrapun, dec_t, dec_f, inb_t, cond_true, cond_false, Int.toNat_natCast, beq_t, beq_f, bne_t, bne_f, Bool.not_true, Bool.not_false, Int.reduceToNat, ft_b, tf_b, tt_b, ff_b, decide_true, decide_false, hg.rQ, m1, Int.cast_ofNat_Int, Int.natCast_one, bl_size, e2', d2', d1', e1, hi1, c2, Int.add_zero, hmin, hsame, tape_Left_spec, hbl', Bool.and_true]
        | some p =>
          obtain ⟨x, l2⟩ := p
          rw [hdr] at e1 e2
          obtain ⟨_, c', hl2, hc', _⟩ := drawL_len hn0 hdr
          obtain ⟨z, b2, e1, hz, hb2⟩ := e1
          obtain ⟨f2, e2, hf2⟩ := e2
          have hu2 : (bl b').length - l2.length = c' := by rw [hl2, List.length_drop]; omega
          rw [hu2] at e2
          have e2' : r10_Draws (s.extract (a + c) (bl s).length) (L (k - 2)).1 1 = some ((1, f2), (c' : Int), true) := e2
          have hbb2 : bl b2 = (bl s).drop (a + (c + c')) := by rw [hb2, hl2, hbb, List.drop_drop, Nat.add_assoc]
          have hz0 := (hz.eqb (hf2 0 (by simp))).trans (decide_eq_true rfl)
          have hbl2 : (bl b2).length = (bl s).length - (a + (c + c')) := by rw [hbb2, List.length_drop]
          refine ⟨a + (c + c'), b2, ?_, by omega, hbb2⟩
          unfold R_l10_TapeDraws_0
          simp (disch := first | omega | rfl) only [add_c, add_l, l_add, mul_c, mul_l, l_mul, sub_c, sub_l, l_sub, div_c, div_l, mod_c, mod_l, tdiv_c, tdiv_l, tmod_c, tmod_l, wrap_i64n, wrapun, dec_t, dec_f, inb_t, cond_true, cond_false, Int.toNat_natCast, beq_t, beq_f, bne_t, bne_f, Bool.not_true, Bool.not_false, Int.reduceToNat, ft_b, tf_b, tt_b, ff_b, decide_true, decide_false, hg.rQ, m1, Int.cast_ofNat_Int, Int.natCast_one, bl_size, e2', d2', d1', e1, hi1, c2, Int.add_zero, hmin, hsame, tape_Left_spec, hbl2, Bool.and_true, hz0]
      · refine ⟨a + c, b', ?_, by omega, hbb⟩
        unfold R_l10_TapeDraws_0
        simp (disch := omega) only [add_c, add_l, l_add, mul_c, mul_l, l_mul, sub_c, sub_l, l_sub, div_c, div_l, mod_c, mod_l, tdiv_c, tdiv_l, tmod_c, tmod_l, wrap_i64n, wrapun, dec_t, dec_f, inb_t, cond_true, cond_false, Int.toNat_natCast, beq_t, beq_f, bne_t, bne_f, Bool.not_true, Bool.not_false, Int.reduceToNat, ft_b, tf_b, tt_b, ff_b, decide_true, decide_false, hg.rQ, m1, Int.cast_ofNat_Int, Int.natCast_one, bl_size, d2', d1', hi1, c2, hsame, tape_Left_spec, hbl', Bool.and_true]
    · refine ⟨a + c, b', ?_, by omega, hbb⟩
      unfold R_l10_TapeDraws_0
      simp (disch := omega) only [add_c, add_l, l_add, mul_c, mul_l, l_mul, sub_c, sub_l, l_sub, div_c, div_l, mod_c, mod_l, tdiv_c, tdiv_l, tmod_c, tmod_l, wrap_i64n, wrapun, dec_t, dec_f, inb_t, cond_true, cond_false, Int.toNat_natCast, beq_t, beq_f, bne_t, bne_f, Bool.not_true, Bool.not_false, Int.reduceToNat, ft_b, tf_b, tt_b, ff_b, decide_true, decide_false, hg.rQ, m1, bl_size, d1, d2, hsame, tape_Left_spec, hbl', Bool.and_true]
theorem l10_TapeDraws_true {which : Int} {s : ByteArray} {nl : Nat} {l : Nat → Int} (hw : Go.Den.Good (.int .i64) which) (hs : Go.Den.Good .str s) (hl : Go.Den.Good (.sl (.int .i64)) (.fz nl l)) : l10_TapeDraws' which s nl l = some () := by
  unfold l10_TapeDraws'
  simp only [bl_size]
  by_cases h1 : (bl s).length > 512
  · simp (disch := omega) only [wrap_i64n, wrapun, dec_t, dec_f, inb_t, cond_true, cond_false, Int.toNat_natCast, beq_t, beq_f, bne_t, bne_f, Bool.not_true, Bool.not_false, Int.reduceToNat, ft_b, tf_b, tt_b, ff_b, decide_true, decide_false, l10_awake_spec]
  by_cases h2 : nl > 10
  · simp (disch := omega) only [wrap_i64n, wrapun, dec_t, dec_f, inb_t, cond_true, cond_false, Int.toNat_natCast, beq_t, beq_f, bne_t, bne_f, Bool.not_true, Bool.not_false, Int.reduceToNat, ft_b, tf_b, tt_b, ff_b, decide_true, decide_false, l10_awake_spec]
  have hn := tape_New_m_spec (s := s) (by omega)
  obtain ⟨i, hi, hi2⟩ := three_idx which
  obtain ⟨k, L, ga, g, P, Q, G, t1, hg⟩ := three_row hi
  have hi3 : inb ((i : Nat) : Int) 3 = true := by
    rw [inb_t] <;> omega
  obtain ⟨y, y1, _⟩ := loop_for (R := R_l10_TapeDraws_0) (fun i (p : Nat × ByteArray) => T_l10_TapeDraws_0 s nl l g (p.1 : Int) (i : Int) k L ga (true, p.2)) (fun _ => Y_l10_TapeDraws_0_1) (fun _ p => p.1 ≤ (bl s).length ∧ bl p.2 = (bl s).drop p.1) nl
    (fun i hi p hP => by
      obtain ⟨a', b', q1, q2, q3⟩ := draws_step hg.group hg (s := s) (l := l) (by omega) hi (by omega) hP.1 hP.2
      exact ⟨(a', b'), q1, q2, q3⟩)
    (fun s _ => by
      unfold R_l10_TapeDraws_0
      simp (disch := omega) only [add_c, add_l, l_add, mul_c, mul_l, l_mul, sub_c, sub_l, l_sub, div_c, div_l, mod_c, mod_l, tdiv_c, tdiv_l, tmod_c, tmod_l, wrap_i64n, wrapun, dec_t, dec_f, inb_t, cond_true, cond_false, Int.toNat_natCast, beq_t, beq_f, bne_t, bne_f, Bool.not_true, Bool.not_false, Int.reduceToNat, ft_b, tf_b, tt_b, ff_b, decide_true, decide_false]) (0, s) ⟨Nat.zero_le _, rfl⟩
  have y1' : loopF R_l10_TapeDraws_0 ((s, ((nl, l), ((), (g, ((), (0, (0, ()))))))), (((k, L), ga), ((true, s), ()))) = some Y_l10_TapeDraws_0_1 := y1
  simp (disch := omega) only [add_c, add_l, l_add, mul_c, mul_l, l_mul, sub_c, sub_l, l_sub, div_c, div_l, mod_c, mod_l, tdiv_c, tdiv_l, tmod_c, tmod_l, wrap_i64n, wrapun, dec_t, dec_f, inb_t, cond_true, cond_false, Int.toNat_natCast, beq_t, beq_f, bne_t, bne_f, Bool.not_true, Bool.not_false, Int.reduceToNat, ft_b, tf_b, tt_b, ff_b, decide_true, decide_false, hi2, hi3, r07_Least_eq2, r07_Other_eq2, r07_Great_eq2, t1, SlV.isMs, SlV.len, SlV.fn, hg.made, hn, y1', l10_awake_spec]
end Go.Pl
