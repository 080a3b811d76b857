/-
  One statement, plainly.
-/
import Derived.Test.YtennopklknlecaaDenD
import Derived.Test.YtennopklknlecaaPlA
import Derived.Test.YtennopklknlecaaL10
import Derived.Test.YtennopklknlecaaPtape
import Derived.Test.YtennopklknlecaaEqA
import Derived.Test.YtennopklknlecaaDenF
import Derived.Test.YtennopklknlecaaEtape
set_option linter.unusedVariables false
set_option linter.unusedSimpArgs false
set_option maxRecDepth 100000
set_option maxHeartbeats 0
namespace Go.Pl
end Go.Pl
open Go Go.Den Go.Pl
namespace Go.Pl
noncomputable def l10_TapeNobody' (more : Int) (n : Int) : Option (Unit) :=
 bif ((((decide (0 ≤ (IntKind.i64.wrap (65533 + (bitsOp .and .i64 more 7))))) && (decide ((IntKind.i64.wrap (65533 + (bitsOp .and .i64 more 7))) ≤ (IntKind.i64.wrap (65533 + (bitsOp .and .i64 more 7)))))) && (decide ((((1 : Nat) : Int) * (IntKind.i64.wrap (65533 + (bitsOp .and .i64 more 7)))) ≤ 281474976710656))) && (decide ((IntKind.i64.wrap (65533 + (bitsOp .and .i64 more 7))) ≤ 9223372036854775807))) then (
 match (tape_New_m (bytesOf (Int.toNat (IntKind.i64.wrap (65533 + (bitsOp .and .i64 more 7)))) (fun j => (fun _ => 0) (0 + j)))) with
 | none => none
 | some y => (
 match y with
 | .inl y1 => (
 let r := y1.1.2.1
 let t := (!((r == 0) == (decide ((IntKind.i64.wrap (65533 + (bitsOp .and .i64 more 7))) ≤ 65536))))
 bif t then (
 none)
 else (
 bif (r != 0) then (
 bif (r != 2) then (
 none)
 else (
 match r07_Least with
 | none => none
 | some r1 => (
 match (group_New ((r1.1.1, r1.1.2), r1.2)) with
 | none => none
 | some r2 => (
 match r2.1 with
 | none => (
 match (tape_Tape_Bytes none n) with
 | none => none
 | some r26 => (
 match (tape_Tape_Draw none none) with
 | none => none
 | some r27 => (
 match (tape_Tape_Draws none none n) with
 | none => none
 | some r28 => (
 match (tape_Tape_Left none) with
 | none => none
 | some r29 => (
 bif (r29 != 0) then (
 none)
 else (
 bif (!(sEq r26.1 (ByteArray.mk #[]))) then (
 none)
 else (
 bif (r26.2 != 1) then (
 none)
 else (
 bif (!(eqF (.arr 4 (.int .u64)) r27.1 (fun _ => 0))) then (
 none)
 else (
 bif (r27.2 != 1) then (
 none)
 else (
 bif (decide (((r28.1.1 : Nat) : Int) > 0)) then (
 none)
 else (
 bif (r28.2 != 1) then (
 none)
 else (
 match (tape_Tape_Bytes_m n (false, ByteArray.empty)) with
 | none => none
 | some y9 => (
 let r30 := y9.1.1
 let r31 := y9.1.2.1
 let o6 := y9.2.1
 match (tape_Tape_Draw_m none o6) with
 | none => none
 | some y10 => (
 let r32 := y10.1.1
 let r33 := y10.1.2.1
 let o7 := y10.2.1
 match (tape_Tape_Draws_m none n o7) with
 | none => none
 | some y11 => (
 let nr2 := y11.1.1.1
 let r34 := y11.1.1.2
 let r35 := y11.1.2.1
 let o8 := y11.2.1
 match (tape_Tape_Left (some o8)) with
 | none => none
 | some r36 => (
 bif (r36 != 0) then (
 none)
 else (
 bif (!(sEq r30 (ByteArray.mk #[]))) then (
 none)
 else (
 bif (r31 != 1) then (
 none)
 else (
 bif (!(eqF (.arr 4 (.int .u64)) r32 (fun _ => 0))) then (
 none)
 else (
 bif (r33 != 1) then (
 none)
 else (
 bif (decide (((nr2 : Nat) : Int) > 0)) then (
 none)
 else (
 bif (r35 != 1) then (
 none)
 else (
 match (tape_New_m (ByteArray.mk #[97, 98, 99, 100, 101, 102, 103, 104])) with
 | none => none
 | some y12 => (
 match y12 with
 | .inl y13 => (
 let r37 := y13.1.2.1
 match (tape_Tape_Draw none none) with
 | none => none
 | some r38 => (
 match (tape_Tape_Draws none none (-1)) with
 | none => none
 | some r39 => (
 bif (r37 == 0) then (
 bif (r38.2 == 1) then (
 bif (r39.2 == 1) then (
 match (tape_Tape_Left none) with
 | none => none
 | some r40 => (
 bif (r40 == 8) then (
 match l10_awake with
 | none => none
 | some r41 => (
 bif r41 then (
 some ())
 else (
 none)))
 else (
 none)))
 else (
 none))
 else (
 none))
 else (
 none))))
 | .inr y13 => (
 let r42 := y13.1.2.1
 let o9 := y13.2.1
 match (tape_Tape_Draw_m none o9) with
 | none => none
 | some y14 => (
 let r43 := y14.1.1
 let r44 := y14.1.2.1
 let o10 := y14.2.1
 match (tape_Tape_Draws_m none (-1) o10) with
 | none => none
 | some y15 => (
 let nr3 := y15.1.1.1
 let r45 := y15.1.1.2
 let r46 := y15.1.2.1
 let o11 := y15.2.1
 bif (r42 == 0) then (
 bif (r44 == 1) then (
 bif (r46 == 1) then (
 match (tape_Tape_Left (some o11)) with
 | none => none
 | some r47 => (
 bif (r47 == 8) then (
 match l10_awake with
 | none => none
 | some r48 => (
 bif r48 then (
 some ())
 else (
 none)))
 else (
 none)))
 else (
 none))
 else (
 none))
 else (
 none))))))))))))))))))))))))))))
 | some p => (
 match (tape_Tape_Bytes none n) with
 | none => none
 | some r3 => (
 match (tape_Tape_Draw none (some p)) with
 | none => none
 | some r4 => (
 match (tape_Tape_Draws none (some p) n) with
 | none => none
 | some r5 => (
 match (tape_Tape_Left none) with
 | none => none
 | some r6 => (
 bif (r6 != 0) then (
 none)
 else (
 bif (!(sEq r3.1 (ByteArray.mk #[]))) then (
 none)
 else (
 bif (r3.2 != 1) then (
 none)
 else (
 bif (!(eqF (.arr 4 (.int .u64)) r4.1 (fun _ => 0))) then (
 none)
 else (
 bif (r4.2 != 1) then (
 none)
 else (
 bif (decide (((r5.1.1 : Nat) : Int) > 0)) then (
 none)
 else (
 bif (r5.2 != 1) then (
 none)
 else (
 match (tape_Tape_Bytes_m n (false, ByteArray.empty)) with
 | none => none
 | some y2 => (
 let r7 := y2.1.1
 let r8 := y2.1.2.1
 let o := y2.2.1
 match (tape_Tape_Draw_m (some p) o) with
 | none => none
 | some y3 => (
 let r9 := y3.1.1
 let r10 := y3.1.2.1
 let o1 := y3.2.1
 match (tape_Tape_Draws_m (some p) n o1) with
 | none => none
 | some y4 => (
 let nr := y4.1.1.1
 let r11 := y4.1.1.2
 let r12 := y4.1.2.1
 let o2 := y4.2.1
 match (tape_Tape_Left (some o2)) with
 | none => none
 | some r13 => (
 bif (r13 != 0) then (
 none)
 else (
 bif (!(sEq r7 (ByteArray.mk #[]))) then (
 none)
 else (
 bif (r8 != 1) then (
 none)
 else (
 bif (!(eqF (.arr 4 (.int .u64)) r9 (fun _ => 0))) then (
 none)
 else (
 bif (r10 != 1) then (
 none)
 else (
 bif (decide (((nr : Nat) : Int) > 0)) then (
 none)
 else (
 bif (r12 != 1) then (
 none)
 else (
 match (tape_New_m (ByteArray.mk #[97, 98, 99, 100, 101, 102, 103, 104])) with
 | none => none
 | some y5 => (
 match y5 with
 | .inl y6 => (
 let r14 := y6.1.2.1
 match (tape_Tape_Draw none none) with
 | none => none
 | some r15 => (
 match (tape_Tape_Draws none (some p) (-1)) with
 | none => none
 | some r16 => (
 bif (r14 == 0) then (
 bif (r15.2 == 1) then (
 bif (r16.2 == 1) then (
 match (tape_Tape_Left none) with
 | none => none
 | some r17 => (
 bif (r17 == 8) then (
 match l10_awake with
 | none => none
 | some r18 => (
 bif r18 then (
 some ())
 else (
 none)))
 else (
 none)))
 else (
 none))
 else (
 none))
 else (
 none))))
 | .inr y6 => (
 let r19 := y6.1.2.1
 let o3 := y6.2.1
 match (tape_Tape_Draw_m none o3) with
 | none => none
 | some y7 => (
 let r20 := y7.1.1
 let r21 := y7.1.2.1
 let o4 := y7.2.1
 match (tape_Tape_Draws_m (some p) (-1) o4) with
 | none => none
 | some y8 => (
 let nr1 := y8.1.1.1
 let r22 := y8.1.1.2
 let r23 := y8.1.2.1
 let o5 := y8.2.1
 bif (r19 == 0) then (
 bif (r21 == 1) then (
 bif (r23 == 1) then (
 match (tape_Tape_Left (some o5)) with
 | none => none
 | some r24 => (
 bif (r24 == 8) then (
 match l10_awake with
 | none => none
 | some r25 => (
 bif r25 then (
 some ())
 else (
 none)))
 else (
 none)))
 else (
 none))
 else (
 none))
 else (
 none))))))))))))))))))))))))))))))))
 else (
 match r07_Least with
 | none => none
 | some r49 => (
 match (group_New ((r49.1.1, r49.1.2), r49.2)) with
 | none => none
 | some r50 => (
 match r50.1 with
 | none => (
 match (tape_Tape_Bytes none n) with
 | none => none
 | some r74 => (
 match (tape_Tape_Draw none none) with
 | none => none
 | some r75 => (
 match (tape_Tape_Draws none none n) with
 | none => none
 | some r76 => (
 match (tape_Tape_Left none) with
 | none => none
 | some r77 => (
 bif (r77 != 0) then (
 none)
 else (
 bif (!(sEq r74.1 (ByteArray.mk #[]))) then (
 none)
 else (
 bif (r74.2 != 1) then (
 none)
 else (
 bif (!(eqF (.arr 4 (.int .u64)) r75.1 (fun _ => 0))) then (
 none)
 else (
 bif (r75.2 != 1) then (
 none)
 else (
 bif (decide (((r76.1.1 : Nat) : Int) > 0)) then (
 none)
 else (
 bif (r76.2 != 1) then (
 none)
 else (
 match (tape_Tape_Bytes_m n (false, ByteArray.empty)) with
 | none => none
 | some y23 => (
 let r78 := y23.1.1
 let r79 := y23.1.2.1
 let o18 := y23.2.1
 match (tape_Tape_Draw_m none o18) with
 | none => none
 | some y24 => (
 let r80 := y24.1.1
 let r81 := y24.1.2.1
 let o19 := y24.2.1
 match (tape_Tape_Draws_m none n o19) with
 | none => none
 | some y25 => (
 let nr6 := y25.1.1.1
 let r82 := y25.1.1.2
 let r83 := y25.1.2.1
 let o20 := y25.2.1
 match (tape_Tape_Left (some o20)) with
 | none => none
 | some r84 => (
 bif (r84 != 0) then (
 none)
 else (
 bif (!(sEq r78 (ByteArray.mk #[]))) then (
 none)
 else (
 bif (r79 != 1) then (
 none)
 else (
 bif (!(eqF (.arr 4 (.int .u64)) r80 (fun _ => 0))) then (
 none)
 else (
 bif (r81 != 1) then (
 none)
 else (
 bif (decide (((nr6 : Nat) : Int) > 0)) then (
 none)
 else (
 bif (r83 != 1) then (
 none)
 else (
 match (tape_New_m (ByteArray.mk #[97, 98, 99, 100, 101, 102, 103, 104])) with
 | none => none
 | some y26 => (
 match y26 with
 | .inl y27 => (
 let r85 := y27.1.2.1
 match (tape_Tape_Draw none none) with
 | none => none
 | some r86 => (
 match (tape_Tape_Draws none none (-1)) with
 | none => none
 | some r87 => (
 bif (r85 == 0) then (
 bif (r86.2 == 1) then (
 bif (r87.2 == 1) then (
 match (tape_Tape_Left none) with
 | none => none
 | some r88 => (
 bif (r88 == 8) then (
 match l10_awake with
 | none => none
 | some r89 => (
 bif r89 then (
 some ())
 else (
 none)))
 else (
 none)))
 else (
 none))
 else (
 none))
 else (
 none))))
 | .inr y27 => (
 let r90 := y27.1.2.1
 let o21 := y27.2.1
 match (tape_Tape_Draw_m none o21) with
 | none => none
 | some y28 => (
 let r91 := y28.1.1
 let r92 := y28.1.2.1
 let o22 := y28.2.1
 match (tape_Tape_Draws_m none (-1) o22) with
 | none => none
 | some y29 => (
 let nr7 := y29.1.1.1
 let r93 := y29.1.1.2
 let r94 := y29.1.2.1
 let o23 := y29.2.1
 bif (r90 == 0) then (
 bif (r92 == 1) then (
 bif (r94 == 1) then (
 match (tape_Tape_Left (some o23)) with
 | none => none
 | some r95 => (
 bif (r95 == 8) then (
 match l10_awake with
 | none => none
 | some r96 => (
 bif r96 then (
 some ())
 else (
 none)))
 else (
 none)))
 else (
 none))
 else (
 none))
 else (
 none))))))))))))))))))))))))))))
 | some p1 => (
 match (tape_Tape_Bytes none n) with
 | none => none
 | some r51 => (
 match (tape_Tape_Draw none (some p1)) with
 | none => none
 | some r52 => (
 match (tape_Tape_Draws none (some p1) n) with
 | none => none
 | some r53 => (
 match (tape_Tape_Left none) with
 | none => none
 | some r54 => (
 bif (r54 != 0) then (
 none)
 else (
 bif (!(sEq r51.1 (ByteArray.mk #[]))) then (
 none)
 else (
 bif (r51.2 != 1) then (
 none)
 else (
 bif (!(eqF (.arr 4 (.int .u64)) r52.1 (fun _ => 0))) then (
 none)
 else (
 bif (r52.2 != 1) then (
 none)
 else (
 bif (decide (((r53.1.1 : Nat) : Int) > 0)) then (
 none)
 else (
 bif (r53.2 != 1) then (
 none)
 else (
 match (tape_Tape_Bytes_m n (false, ByteArray.empty)) with
 | none => none
 | some y16 => (
 let r55 := y16.1.1
 let r56 := y16.1.2.1
 let o12 := y16.2.1
 match (tape_Tape_Draw_m (some p1) o12) with
 | none => none
 | some y17 => (
 let r57 := y17.1.1
 let r58 := y17.1.2.1
 let o13 := y17.2.1
 match (tape_Tape_Draws_m (some p1) n o13) with
 | none => none
 | some y18 => (
 let nr4 := y18.1.1.1
 let r59 := y18.1.1.2
 let r60 := y18.1.2.1
 let o14 := y18.2.1
 match (tape_Tape_Left (some o14)) with
 | none => none
 | some r61 => (
 bif (r61 != 0) then (
 none)
 else (
 bif (!(sEq r55 (ByteArray.mk #[]))) then (
 none)
 else (
 bif (r56 != 1) then (
 none)
 else (
 bif (!(eqF (.arr 4 (.int .u64)) r57 (fun _ => 0))) then (
 none)
 else (
 bif (r58 != 1) then (
 none)
 else (
 bif (decide (((nr4 : Nat) : Int) > 0)) then (
 none)
 else (
 bif (r60 != 1) then (
 none)
 else (
 match (tape_New_m (ByteArray.mk #[97, 98, 99, 100, 101, 102, 103, 104])) with
 | none => none
 | some y19 => (
 match y19 with
 | .inl y20 => (
 let r62 := y20.1.2.1
 match (tape_Tape_Draw none none) with
 | none => none
 | some r63 => (
 match (tape_Tape_Draws none (some p1) (-1)) with
 | none => none
 | some r64 => (
 bif (r62 == 0) then (
 bif (r63.2 == 1) then (
 bif (r64.2 == 1) then (
 match (tape_Tape_Left none) with
 | none => none
 | some r65 => (
 bif (r65 == 8) then (
 match l10_awake with
 | none => none
 | some r66 => (
 bif r66 then (
 some ())
 else (
 none)))
 else (
 none)))
 else (
 none))
 else (
 none))
 else (
 none))))
 | .inr y20 => (
 let r67 := y20.1.2.1
 let o15 := y20.2.1
 match (tape_Tape_Draw_m none o15) with
 | none => none
 | some y21 => (
 let r68 := y21.1.1
 let r69 := y21.1.2.1
 let o16 := y21.2.1
 match (tape_Tape_Draws_m (some p1) (-1) o16) with
 | none => none
 | some y22 => (
 let nr5 := y22.1.1.1
 let r70 := y22.1.1.2
 let r71 := y22.1.2.1
 let o17 := y22.2.1
 bif (r67 == 0) then (
 bif (r69 == 1) then (
 bif (r71 == 1) then (
 match (tape_Tape_Left (some o17)) with
 | none => none
 | some r72 => (
 bif (r72 == 8) then (
 match l10_awake with
 | none => none
 | some r73 => (
 bif r73 then (
 some ())
 else (
 none)))
 else (
 none)))
 else (
 none))
 else (
 none))
 else (
 none)))))))))))))))))))))))))))))))))
 | .inr y1 => (
 let r97 := y1.1.2.1
 let o24 := y1.2.1
 let t1 := (!((r97 == 0) == (decide ((IntKind.i64.wrap (65533 + (bitsOp .and .i64 more 7))) ≤ 65536))))
 bif t1 then (
 none)
 else (
 bif (r97 != 0) then (
 bif (r97 != 2) then (
 none)
 else (
 none))
 else (
 match r07_Least with
 | none => none
 | some r98 => (
 match (group_New ((r98.1.1, r98.1.2), r98.2)) with
 | none => none
 | some r99 => (
 match r99.1 with
 | none => (
 match (tape_Tape_Bytes none n) with
 | none => none
 | some r123 => (
 match (tape_Tape_Draw none none) with
 | none => none
 | some r124 => (
 match (tape_Tape_Draws none none n) with
 | none => none
 | some r125 => (
 match (tape_Tape_Left none) with
 | none => none
 | some r126 => (
 bif (r126 != 0) then (
 none)
 else (
 bif (!(sEq r123.1 (ByteArray.mk #[]))) then (
 none)
 else (
 bif (r123.2 != 1) then (
 none)
 else (
 bif (!(eqF (.arr 4 (.int .u64)) r124.1 (fun _ => 0))) then (
 none)
 else (
 bif (r124.2 != 1) then (
 none)
 else (
 bif (decide (((r125.1.1 : Nat) : Int) > 0)) then (
 none)
 else (
 bif (r125.2 != 1) then (
 none)
 else (
 match (tape_Tape_Bytes_m n (false, ByteArray.empty)) with
 | none => none
 | some y37 => (
 let r127 := y37.1.1
 let r128 := y37.1.2.1
 let o31 := y37.2.1
 match (tape_Tape_Draw_m none o31) with
 | none => none
 | some y38 => (
 let r129 := y38.1.1
 let r130 := y38.1.2.1
 let o32 := y38.2.1
 match (tape_Tape_Draws_m none n o32) with
 | none => none
 | some y39 => (
 let nr10 := y39.1.1.1
 let r131 := y39.1.1.2
 let r132 := y39.1.2.1
 let o33 := y39.2.1
 match (tape_Tape_Left (some o33)) with
 | none => none
 | some r133 => (
 bif (r133 != 0) then (
 none)
 else (
 bif (!(sEq r127 (ByteArray.mk #[]))) then (
 none)
 else (
 bif (r128 != 1) then (
 none)
 else (
 bif (!(eqF (.arr 4 (.int .u64)) r129 (fun _ => 0))) then (
 none)
 else (
 bif (r130 != 1) then (
 none)
 else (
 bif (decide (((nr10 : Nat) : Int) > 0)) then (
 none)
 else (
 bif (r132 != 1) then (
 none)
 else (
 match (tape_New_m (ByteArray.mk #[97, 98, 99, 100, 101, 102, 103, 104])) with
 | none => none
 | some y40 => (
 match y40 with
 | .inl y41 => (
 let r134 := y41.1.2.1
 match (tape_Tape_Draw none none) with
 | none => none
 | some r135 => (
 match (tape_Tape_Draws none none (-1)) with
 | none => none
 | some r136 => (
 bif (r134 == 0) then (
 bif (r135.2 == 1) then (
 bif (r136.2 == 1) then (
 match (tape_Tape_Left none) with
 | none => none
 | some r137 => (
 bif (r137 == 8) then (
 match l10_awake with
 | none => none
 | some r138 => (
 bif r138 then (
 some ())
 else (
 none)))
 else (
 none)))
 else (
 none))
 else (
 none))
 else (
 none))))
 | .inr y41 => (
 let r139 := y41.1.2.1
 let o34 := y41.2.1
 match (tape_Tape_Draw_m none o34) with
 | none => none
 | some y42 => (
 let r140 := y42.1.1
 let r141 := y42.1.2.1
 let o35 := y42.2.1
 match (tape_Tape_Draws_m none (-1) o35) with
 | none => none
 | some y43 => (
 let nr11 := y43.1.1.1
 let r142 := y43.1.1.2
 let r143 := y43.1.2.1
 let o36 := y43.2.1
 bif (r139 == 0) then (
 bif (r141 == 1) then (
 bif (r143 == 1) then (
 match (tape_Tape_Left (some o36)) with
 | none => none
 | some r144 => (
 bif (r144 == 8) then (
 match l10_awake with
 | none => none
 | some r145 => (
 bif r145 then (
 some ())
 else (
 none)))
 else (
 none)))
 else (
 none))
 else (
 none))
 else (
 none))))))))))))))))))))))))))))
 | some p2 => (
 match (tape_Tape_Bytes none n) with
 | none => none
 | some r100 => (
 match (tape_Tape_Draw none (some p2)) with
 | none => none
 | some r101 => (
 match (tape_Tape_Draws none (some p2) n) with
 | none => none
 | some r102 => (
 match (tape_Tape_Left none) with
 | none => none
 | some r103 => (
 bif (r103 != 0) then (
 none)
 else (
 bif (!(sEq r100.1 (ByteArray.mk #[]))) then (
 none)
 else (
 bif (r100.2 != 1) then (
 none)
 else (
 bif (!(eqF (.arr 4 (.int .u64)) r101.1 (fun _ => 0))) then (
 none)
 else (
 bif (r101.2 != 1) then (
 none)
 else (
 bif (decide (((r102.1.1 : Nat) : Int) > 0)) then (
 none)
 else (
 bif (r102.2 != 1) then (
 none)
 else (
 match (tape_Tape_Bytes_m n (false, ByteArray.empty)) with
 | none => none
 | some y30 => (
 let r104 := y30.1.1
 let r105 := y30.1.2.1
 let o25 := y30.2.1
 match (tape_Tape_Draw_m (some p2) o25) with
 | none => none
 | some y31 => (
 let r106 := y31.1.1
 let r107 := y31.1.2.1
 let o26 := y31.2.1
 match (tape_Tape_Draws_m (some p2) n o26) with
 | none => none
 | some y32 => (
 let nr8 := y32.1.1.1
 let r108 := y32.1.1.2
 let r109 := y32.1.2.1
 let o27 := y32.2.1
 match (tape_Tape_Left (some o27)) with
 | none => none
 | some r110 => (
 bif (r110 != 0) then (
 none)
 else (
 bif (!(sEq r104 (ByteArray.mk #[]))) then (
 none)
 else (
 bif (r105 != 1) then (
 none)
 else (
 bif (!(eqF (.arr 4 (.int .u64)) r106 (fun _ => 0))) then (
 none)
 else (
 bif (r107 != 1) then (
 none)
 else (
 bif (decide (((nr8 : Nat) : Int) > 0)) then (
 none)
 else (
 bif (r109 != 1) then (
 none)
 else (
 match (tape_New_m (ByteArray.mk #[97, 98, 99, 100, 101, 102, 103, 104])) with
 | none => none
 | some y33 => (
 match y33 with
 | .inl y34 => (
 let r111 := y34.1.2.1
 match (tape_Tape_Draw none none) with
 | none => none
 | some r112 => (
 match (tape_Tape_Draws none (some p2) (-1)) with
 | none => none
 | some r113 => (
 bif (r111 == 0) then (
 bif (r112.2 == 1) then (
 bif (r113.2 == 1) then (
 match (tape_Tape_Left none) with
 | none => none
 | some r114 => (
 bif (r114 == 8) then (
 match l10_awake with
 | none => none
 | some r115 => (
 bif r115 then (
 some ())
 else (
 none)))
 else (
 none)))
 else (
 none))
 else (
 none))
 else (
 none))))
 | .inr y34 => (
 let r116 := y34.1.2.1
 let o28 := y34.2.1
 match (tape_Tape_Draw_m none o28) with
 | none => none
 | some y35 => (
 let r117 := y35.1.1
 let r118 := y35.1.2.1
 let o29 := y35.2.1
 match (tape_Tape_Draws_m (some p2) (-1) o29) with
 | none => none
 | some y36 => (
 let nr9 := y36.1.1.1
 let r119 := y36.1.1.2
 let r120 := y36.1.2.1
 let o30 := y36.2.1
 bif (r116 == 0) then (
 bif (r118 == 1) then (
 bif (r120 == 1) then (
 match (tape_Tape_Left (some o30)) with
 | none => none
 | some r121 => (
 bif (r121 == 8) then (
 match l10_awake with
 | none => none
 | some r122 => (
 bif r122 then (
 some ())
 else (
 none)))
 else (
 none)))
 else (
 none))
 else (
 none))
 else (
 none)))))))))))))))))))))))))))))))))))
 else (
 none)
end Go.Pl

set_option linter.unusedVariables false
set_option linter.unusedSimpArgs false
set_option maxRecDepth 100000
set_option maxHeartbeats 0
namespace Go.Pl
end Go.Pl
open Go Go.Den Go.Pl
namespace Go.Proofs.Ytennopklknlecaa
noncomputable def x_l10_TapeNobody : Cx := { ti := ti, con := [(16, c_tape_New_m), (19, c_r07_Least), (22, c_group_New), (17, conIf 0 c_tape_Tape_Bytes_m c_tape_Tape_Bytes), (26, conIf 0 c_tape_Tape_Draw_m c_tape_Tape_Draw), (25, conIf 0 c_tape_Tape_Draws_m c_tape_Tape_Draws), (18, c_tape_Tape_Left), (15, c_l10_awake)], fns := [], un := 6 }
theorem xok_l10_TapeNobody : CxOk Try.prog x_l10_TapeNobody := CxOk.of mixed ti_ok (List.forall_mem_cons.2 ⟨con_tape_New_m, List.forall_mem_cons.2 ⟨con_r07_Least, List.forall_mem_cons.2 ⟨con_group_New, List.forall_mem_cons.2 ⟨conIf_ok con_tape_Tape_Bytes_m con_tape_Tape_Bytes, List.forall_mem_cons.2 ⟨conIf_ok con_tape_Tape_Draw_m con_tape_Tape_Draw, List.forall_mem_cons.2 ⟨conIf_ok con_tape_Tape_Draws_m con_tape_Tape_Draws, List.forall_mem_cons.2 ⟨con_tape_Tape_Left, List.forall_mem_cons.2 ⟨con_l10_awake, List.forall_mem_nil _⟩⟩⟩⟩⟩⟩⟩⟩) (List.forall_mem_nil _)
theorem fn_l10_TapeNobody : FnOk Try.prog 6 Try.f6 [] := ⟨Try.func6, Try.call6, lps_nil⟩
theorem e_l10_TapeNobody (more : Int) (n : Int) : bodyK x_l10_TapeNobody [] (denF x_l10_TapeNobody 8) Try.f6 (domV [(.int .i64), (.int .i64)] (more, n, ())) [] 0 kTrue = l10_TapeNobody' more n := by kernel_rfl
end Go.Proofs.Ytennopklknlecaa

set_option linter.unusedVariables false
set_option linter.unusedSimpArgs false
namespace Go.Pl
open Go Go.Den Go.Num

theorem tape_no_Bytes (n : Int) : tape_Tape_Bytes none n = some (ByteArray.mk #[], 1) := by
  rw [tape_Tape_Bytes_eq]; rfl
theorem tape_no_Left : tape_Tape_Left none = some 0 := by
  rw [tape_Tape_Left_eq]; rfl
theorem tape_no_Draws (g : Option GroupT) (n : Int) : tape_Tape_Draws none g n = some ((0, fun _ => fun _ => 0), 1) := by
  rw [tape_Tape_Draws_eq]; unfold tape_Tape_Draws'
  rcases g with _ | g <;> rfl
theorem tape_no_Draw (g : Option GroupT) : tape_Tape_Draw none g = some (fun _ => 0, 1) := by
  rw [tape_Tape_Draw_eq]; unfold tape_Tape_Draw'
  rcases g with _ | g <;> simp (disch := omega) only [wrap_i64n, wrapun, dec_t, dec_f, inb_t, cond_true, cond_false, Int.toNat_natCast, beq_t, beq_f, bne_t, bne_f, Bool.not_true, Bool.not_false, Int.reduceToNat, ft_b, tf_b, tt_b, ff_b, decide_true, decide_false, tape_no_Draws]
theorem tape_zero_Bytes (n : Int) (b : ByteArray) : tape_Tape_Bytes_m n (false, b) = some (((ByteArray.mk #[]), (1, ())), ((false, b), ())) := by
  rw [tape_Tape_Bytes_m_eq]; rfl
theorem tape_zero_Draws (g : Option GroupT) (n : Int) (b : ByteArray) : tape_Tape_Draws_m g n (false, b) = some (((0, fun _ => fun _ => 0), (1, ())), ((false, b), ())) := by
  rw [tape_Tape_Draws_m_eq]; unfold tape_Tape_Draws_m'
  rcases g with _ | g <;> rfl
theorem tape_zero_Draw (g : Option GroupT) (b : ByteArray) : tape_Tape_Draw_m g (false, b) = some (((fun _ => 0), (1, ())), ((false, b), ())) := by
  rw [tape_Tape_Draw_m_eq]; unfold tape_Tape_Draw_m'
  rcases g with _ | g <;> simp (disch := omega) only [wrap_i64n, wrapun, dec_t, dec_f, inb_t, cond_true, cond_false, Int.toNat_natCast, beq_t, beq_f, bne_t, bne_f, Bool.not_true, Bool.not_false, Int.reduceToNat, ft_b, tf_b, tt_b, ff_b, decide_true, decide_false, tape_zero_Draws]
theorem tape_nog_Draws (n : Int) (b : ByteArray) : tape_Tape_Draws_m none n (true, b) = some (((0, fun _ => fun _ => 0), (1, ())), ((true, b), ())) := by
  rw [tape_Tape_Draws_m_eq]; unfold tape_Tape_Draws_m'
  have h : group_Group_Field none = some none := NoGroup.Field (.inl rfl)
  simp (disch := omega) only [wrap_i64n, wrapun, dec_t, dec_f, inb_t, cond_true, cond_false, Int.toNat_natCast, beq_t, beq_f, bne_t, bne_f, Bool.not_true, Bool.not_false, Int.reduceToNat, ft_b, tf_b, tt_b, ff_b, decide_true, decide_false, h]
theorem tape_nog_Draw (b : ByteArray) : tape_Tape_Draw_m none (true, b) = some (((fun _ => 0), (1, ())), ((true, b), ())) := by
  rw [tape_Tape_Draw_m_eq]; unfold tape_Tape_Draw_m'
  simp (disch := omega) only [wrap_i64n, wrapun, dec_t, dec_f, inb_t, cond_true, cond_false, Int.toNat_natCast, beq_t, beq_f, bne_t, bne_f, Bool.not_true, Bool.not_false, Int.reduceToNat, ft_b, tf_b, tt_b, ff_b, decide_true, decide_false, tape_nog_Draws]
theorem tape_low_Draws {g : GroupT} {P Q G : Nat} (h : IsGroup g P Q G) {n : Int} (hn : n < 0) (b : ByteArray) : tape_Tape_Draws_m (some g) n (true, b) = some (((0, fun _ => fun _ => 0), (1, ())), ((true, b), ())) := by
  rw [tape_Tape_Draws_m_eq]; unfold tape_Tape_Draws_m'
  obtain ⟨r, r1, hr⟩ := group_Field_spec h
  simp (disch := omega) only [wrap_i64n, wrapun, dec_t, dec_f, inb_t, cond_true, cond_false, Int.toNat_natCast, beq_t, beq_f, bne_t, bne_f, Bool.not_true, Bool.not_false, Int.reduceToNat, ft_b, tf_b, tt_b, ff_b, decide_true, decide_false, r1]
theorem l10_TapeNobody_true {more n : Int} (hw : Go.Den.Good (.int .i64) more) (hn : Go.Den.Good (.int .i64) n) : l10_TapeNobody' more n = some () := by
  unfold l10_TapeNobody'
  have hm : bitsOp .and .i64 more 7 = more % (2 ^ 3 : Nat) := andMask (k := 3) (by decide)
  obtain ⟨v, hv⟩ : ∃ v : Nat, bitsOp .and .i64 more 7 = (v : Int) := ⟨(more % (2 ^ 3 : Nat)).toNat, by rw [hm]; omega⟩
  have hv2 : v < 8 := by rw [hm] at hv; omega
  obtain ⟨g, hg⟩ := least_pick
  have hz : eqF (.arr 4 (.int .u64)) (fun _ => 0) (fun _ => 0) = true := IsN.eqb IsN.zero IsN.zero
  have e8 : tape_New_m (ByteArray.mk #[97, 98, 99, 100, 101, 102, 103, 104]) = _ := tape_New_m_spec (by decide +kernel)
  have k8 : tape_Tape_Left (some (true, ByteArray.mk #[97, 98, 99, 100, 101, 102, 103, 104])) = some 8 := by rw [tape_Left_spec]; rfl
  have k0 : tape_Tape_Left (some (false, ByteArray.empty)) = some 0 := by rw [tape_Left_spec]; rfl
  have b1 : Nat.ble (65533 + v) 281474976710656 = true := Nat.ble_eq_true_of_le (by omega)
  have hlen : (bl (bytesOf (65533 + v) (fun j => (fun _ => 0) (0 + j)))).length = 65533 + v := by rw [bl_bytesOf]; simp
  have low1 : ∀ b, tape_Tape_Draws_m (some g) (-1) (true, b) = some (((0, fun _ => fun _ => 0), (1, ())), ((true, b), ())) := fun b => tape_low_Draws hg.group (show (-1 : Int) < 0 by decide) b
  by_cases h : 65533 + v ≤ 65536
  · have hnew := tape_New_m_spec (s := bytesOf (65533 + v) (fun j => (fun _ => 0) (0 + j))) (by omega)
    simp (disch := first | omega | decide) only [add_c, add_l, l_add, mul_c, mul_l, l_mul, sub_c, sub_l, l_sub, div_c, div_l, mod_c, mod_l, tdiv_c, tdiv_l, tmod_c, tmod_l, wrap_i64n, wrapun, dec_t, dec_f, inb_t, cond_true, cond_false, Int.toNat_natCast, beq_t, beq_f, bne_t, bne_f, Bool.not_true, Bool.not_false, Int.reduceToNat, ft_b, tf_b, tt_b, ff_b, decide_true, decide_false, hv, Nat.one_mul, hnew, r07_Least_eq2, hg.made, tape_no_Bytes, tape_no_Draw, tape_no_Draws, tape_no_Left, tape_zero_Bytes, tape_zero_Draw, tape_zero_Draws, k0, hz, sEq_refl, e8, tape_nog_Draw, low1, k8, l10_awake_spec, Bool.and_true]
  · have hnew := tape_New_m_full (s := bytesOf (65533 + v) (fun j => (fun _ => 0) (0 + j))) (by omega)
    simp (disch := first | omega | decide) only [add_c, add_l, l_add, mul_c, mul_l, l_mul, sub_c, sub_l, l_sub, div_c, div_l, mod_c, mod_l, tdiv_c, tdiv_l, tmod_c, tmod_l, wrap_i64n, wrapun, dec_t, dec_f, inb_t, cond_true, cond_false, Int.toNat_natCast, beq_t, beq_f, bne_t, bne_f, Bool.not_true, Bool.not_false, Int.reduceToNat, ft_b, tf_b, tt_b, ff_b, decide_true, decide_false, hv, Nat.one_mul, hnew, r07_Least_eq2, hg.made, tape_no_Bytes, tape_no_Draw, tape_no_Draws, tape_no_Left, tape_zero_Bytes, tape_zero_Draw, tape_zero_Draws, k0, hz, sEq_refl, e8, tape_nog_Draw, low1, k8, l10_awake_spec, Bool.and_true]
end Go.Pl
