/-
  One statement, plainly.
-/
import Derived.Test.YtennopklknlecaaDenD
import Derived.Test.YtennopklknlecaaPcomb
import Derived.Test.YtennopklknlecaaPlA
import Derived.Test.YtennopklknlecaaL35
import Derived.Test.YtennopklknlecaaEqA
import Derived.Test.YtennopklknlecaaEcomb
set_option linter.unusedVariables false
set_option linter.unusedSimpArgs false
set_option maxRecDepth 100000
set_option maxHeartbeats 0
namespace Go.Pl
end Go.Pl
open Go Go.Den Go.Pl
namespace Go.Pl
noncomputable def l35_CombSame' (which : Int) (e : (Nat → Int)) (f : (Nat → Int)) : Option (Unit) :=
  match r07_Least with
  | none => none
  | some r => (
    match r07_Other with
    | none => none
    | some r1 => (
      match r07_Great with
      | none => none
      | some r2 => (
        bif (inb (Int.tmod (bitsOp .and .i64 which 255) 3) 3) then (
          let t := (((upd (upd (upd (fun _ => (.nil, (fun _ => 0))) 0 ((.fz r.1.1 r.1.2), r.2)) 1 ((.fz r1.1.1 r1.1.2), r1.2)) 2 ((.fz r2.1.1 r2.1.2), r2.2)) (0 + (Int.toNat (Int.tmod (bitsOp .and .i64 which 255) 3)))) : ((SlV ((Nat → Int) × Int)) × (Nat → Int)))
          bif (SlV.isMs t.1) then (
            none)
          else (
            match (group_New (((SlV.len t.1), (SlV.fn (((fun _ => 0), 0) : ((Nat → Int) × Int)) t.1)), t.2)) with
            | none => none
            | some r3 => (
              match r3.1 with
              | none => (
                bif (r3.2 != 0) then (
                  none)
                else (
                  match (l35_of (IntKind.i64.wrap (3 + (bitsOp .and .i64 (shrI .i64 which 8) 255)))) with
                  | none => none
                  | some r39 => (
                    match (power_Of none r39) with
                    | none => none
                    | some r40 => (
                      match (comb_New none r40 256) with
                      | none => none
                      | some r41 => (
                        match r41.1 with
                        | none => (
                          match (group_Group_G none) with
                          | none => none
                          | some r58 => (
                            match (comb_New none r58 256) with
                            | none => none
                            | some r59 => (
                              match r59.1 with
                              | none => (
                                bif (r41.2 != 0) then (
                                  none)
                                else (
                                  bif (r59.2 != 0) then (
                                    none)
                                  else (
                                    match (comb_Table_Exp none e) with
                                    | none => none
                                    | some r67 => (
                                      match (comb_Table_Exp none f) with
                                      | none => none
                                      | some r68 => (
                                        match (comb_Multi 2 (fun j => (upd (upd (fun _ => .nil) 0 .nil) 1 .nil) (0 + j)) 2 (fun j => (upd (upd (fun _ => (fun _ => 0)) 0 e) 1 f) (0 + j))) with
                                        | none => none
                                        | some r69 => (
                                          bif (r67.2 == 0) then (
                                            bif (r68.2 == 0) then (
                                              bif (r69.2 == 0) then (
                                                match (power_Exp none r40 e) with
                                                | none => none
                                                | some r70 => (
                                                  bif (eqF (.arr 4 (.int .u64)) r67.1 r70) then (
                                                    match (power_Of none f) with
                                                    | none => none
                                                    | some r71 => (
                                                      bif (eqF (.arr 4 (.int .u64)) r68.1 r71) then (
                                                        match (power_Mul none r67.1 r68.1) with
                                                        | none => none
                                                        | some r72 => (
                                                          bif (eqF (.arr 4 (.int .u64)) r69.1 r72) then (
                                                            match l35_awake with
                                                            | none => none
                                                            | some r73 => (
                                                              bif r73 then (
                                                                some ())
                                                              else (
                                                                none)))
                                                          else (
                                                            none)))
                                                      else (
                                                        none)))
                                                  else (
                                                    none)))
                                              else (
                                                none))
                                            else (
                                              none))
                                          else (
                                            none)))))))
                              | some p6 => (
                                bif (r41.2 != 0) then (
                                  none)
                                else (
                                  bif (r59.2 != 0) then (
                                    none)
                                  else (
                                    match (comb_Table_Exp none e) with
                                    | none => none
                                    | some r60 => (
                                      match (comb_Table_Exp (some p6) f) with
                                      | none => none
                                      | some r61 => (
                                        match (comb_Multi 2 (fun j => (upd (upd (fun _ => .nil) 0 .nil) 1 (.fz p6)) (0 + j)) 2 (fun j => (upd (upd (fun _ => (fun _ => 0)) 0 e) 1 f) (0 + j))) with
                                        | none => none
                                        | some r62 => (
                                          bif (r60.2 == 0) then (
                                            bif (r61.2 == 0) then (
                                              bif (r62.2 == 0) then (
                                                match (power_Exp none r40 e) with
                                                | none => none
                                                | some r63 => (
                                                  bif (eqF (.arr 4 (.int .u64)) r60.1 r63) then (
                                                    match (power_Of none f) with
                                                    | none => none
                                                    | some r64 => (
                                                      bif (eqF (.arr 4 (.int .u64)) r61.1 r64) then (
                                                        match (power_Mul none r60.1 r61.1) with
                                                        | none => none
                                                        | some r65 => (
                                                          bif (eqF (.arr 4 (.int .u64)) r62.1 r65) then (
                                                            match l35_awake with
                                                            | none => none
                                                            | some r66 => (
                                                              bif r66 then (
                                                                some ())
                                                              else (
                                                                none)))
                                                          else (
                                                            none)))
                                                      else (
                                                        none)))
                                                  else (
                                                    none)))
                                              else (
                                                none))
                                            else (
                                              none))
                                          else (
                                            none))))))))))
                        | some p4 => (
                          match (group_Group_G none) with
                          | none => none
                          | some r42 => (
                            match (comb_New none r42 256) with
                            | none => none
                            | some r43 => (
                              match r43.1 with
                              | none => (
                                bif (r41.2 != 0) then (
                                  none)
                                else (
                                  bif (r43.2 != 0) then (
                                    none)
                                  else (
                                    match (comb_Table_Exp (some p4) e) with
                                    | none => none
                                    | some r51 => (
                                      match (comb_Table_Exp none f) with
                                      | none => none
                                      | some r52 => (
                                        match (comb_Multi 2 (fun j => (upd (upd (fun _ => .nil) 0 (.fz p4)) 1 .nil) (0 + j)) 2 (fun j => (upd (upd (fun _ => (fun _ => 0)) 0 e) 1 f) (0 + j))) with
                                        | none => none
                                        | some r53 => (
                                          bif (r51.2 == 0) then (
                                            bif (r52.2 == 0) then (
                                              bif (r53.2 == 0) then (
                                                match (power_Exp none r40 e) with
                                                | none => none
                                                | some r54 => (
                                                  bif (eqF (.arr 4 (.int .u64)) r51.1 r54) then (
                                                    match (power_Of none f) with
                                                    | none => none
                                                    | some r55 => (
                                                      bif (eqF (.arr 4 (.int .u64)) r52.1 r55) then (
                                                        match (power_Mul none r51.1 r52.1) with
                                                        | none => none
                                                        | some r56 => (
                                                          bif (eqF (.arr 4 (.int .u64)) r53.1 r56) then (
                                                            match l35_awake with
                                                            | none => none
                                                            | some r57 => (
                                                              bif r57 then (
                                                                some ())
                                                              else (
                                                                none)))
                                                          else (
                                                            none)))
                                                      else (
                                                        none)))
                                                  else (
                                                    none)))
                                              else (
                                                none))
                                            else (
                                              none))
                                          else (
                                            none)))))))
                              | some p5 => (
                                bif (r41.2 != 0) then (
                                  none)
                                else (
                                  bif (r43.2 != 0) then (
                                    none)
                                  else (
                                    match (comb_Table_Exp (some p4) e) with
                                    | none => none
                                    | some r44 => (
                                      match (comb_Table_Exp (some p5) f) with
                                      | none => none
                                      | some r45 => (
                                        match (comb_Multi 2 (fun j => (upd (upd (fun _ => .nil) 0 (.fz p4)) 1 (.fz p5)) (0 + j)) 2 (fun j => (upd (upd (fun _ => (fun _ => 0)) 0 e) 1 f) (0 + j))) with
                                        | none => none
                                        | some r46 => (
                                          bif (r44.2 == 0) then (
                                            bif (r45.2 == 0) then (
                                              bif (r46.2 == 0) then (
                                                match (power_Exp none r40 e) with
                                                | none => none
                                                | some r47 => (
                                                  bif (eqF (.arr 4 (.int .u64)) r44.1 r47) then (
                                                    match (power_Of none f) with
                                                    | none => none
                                                    | some r48 => (
                                                      bif (eqF (.arr 4 (.int .u64)) r45.1 r48) then (
                                                        match (power_Mul none r44.1 r45.1) with
                                                        | none => none
                                                        | some r49 => (
                                                          bif (eqF (.arr 4 (.int .u64)) r46.1 r49) then (
                                                            match l35_awake with
                                                            | none => none
                                                            | some r50 => (
                                                              bif r50 then (
                                                                some ())
                                                              else (
                                                                none)))
                                                          else (
                                                            none)))
                                                      else (
                                                        none)))
                                                  else (
                                                    none)))
                                              else (
                                                none))
                                            else (
                                              none))
                                          else (
                                            none)))))))))))))))
              | some p => (
                bif (r3.2 != 0) then (
                  none)
                else (
                  match (l35_of (IntKind.i64.wrap (3 + (bitsOp .and .i64 (shrI .i64 which 8) 255)))) with
                  | none => none
                  | some r4 => (
                    match (power_Of (some p) r4) with
                    | none => none
                    | some r5 => (
                      match (comb_New (some p) r5 256) with
                      | none => none
                      | some r6 => (
                        match r6.1 with
                        | none => (
                          match (group_Group_G (some p)) with
                          | none => none
                          | some r23 => (
                            match (comb_New (some p) r23 256) with
                            | none => none
                            | some r24 => (
                              match r24.1 with
                              | none => (
                                bif (r6.2 != 0) then (
                                  none)
                                else (
                                  bif (r24.2 != 0) then (
                                    none)
                                  else (
                                    match (comb_Table_Exp none e) with
                                    | none => none
                                    | some r32 => (
                                      match (comb_Table_Exp none f) with
                                      | none => none
                                      | some r33 => (
                                        match (comb_Multi 2 (fun j => (upd (upd (fun _ => .nil) 0 .nil) 1 .nil) (0 + j)) 2 (fun j => (upd (upd (fun _ => (fun _ => 0)) 0 e) 1 f) (0 + j))) with
                                        | none => none
                                        | some r34 => (
                                          bif (r32.2 == 0) then (
                                            bif (r33.2 == 0) then (
                                              bif (r34.2 == 0) then (
                                                match (power_Exp (some p) r5 e) with
                                                | none => none
                                                | some r35 => (
                                                  bif (eqF (.arr 4 (.int .u64)) r32.1 r35) then (
                                                    match (power_Of (some p) f) with
                                                    | none => none
                                                    | some r36 => (
                                                      bif (eqF (.arr 4 (.int .u64)) r33.1 r36) then (
                                                        match (power_Mul (some p) r32.1 r33.1) with
                                                        | none => none
                                                        | some r37 => (
                                                          bif (eqF (.arr 4 (.int .u64)) r34.1 r37) then (
                                                            match l35_awake with
                                                            | none => none
                                                            | some r38 => (
                                                              bif r38 then (
                                                                some ())
                                                              else (
                                                                none)))
                                                          else (
                                                            none)))
                                                      else (
                                                        none)))
                                                  else (
                                                    none)))
                                              else (
                                                none))
                                            else (
                                              none))
                                          else (
                                            none)))))))
                              | some p3 => (
                                bif (r6.2 != 0) then (
                                  none)
                                else (
                                  bif (r24.2 != 0) then (
                                    none)
                                  else (
                                    match (comb_Table_Exp none e) with
                                    | none => none
                                    | some r25 => (
                                      match (comb_Table_Exp (some p3) f) with
                                      | none => none
                                      | some r26 => (
                                        match (comb_Multi 2 (fun j => (upd (upd (fun _ => .nil) 0 .nil) 1 (.fz p3)) (0 + j)) 2 (fun j => (upd (upd (fun _ => (fun _ => 0)) 0 e) 1 f) (0 + j))) with
                                        | none => none
                                        | some r27 => (
                                          bif (r25.2 == 0) then (
                                            bif (r26.2 == 0) then (
                                              bif (r27.2 == 0) then (
                                                match (power_Exp (some p) r5 e) with
                                                | none => none
                                                | some r28 => (
                                                  bif (eqF (.arr 4 (.int .u64)) r25.1 r28) then (
                                                    match (power_Of (some p) f) with
                                                    | none => none
                                                    | some r29 => (
                                                      bif (eqF (.arr 4 (.int .u64)) r26.1 r29) then (
                                                        match (power_Mul (some p) r25.1 r26.1) with
                                                        | none => none
                                                        | some r30 => (
                                                          bif (eqF (.arr 4 (.int .u64)) r27.1 r30) then (
                                                            match l35_awake with
                                                            | none => none
                                                            | some r31 => (
                                                              bif r31 then (
                                                                some ())
                                                              else (
                                                                none)))
                                                          else (
                                                            none)))
                                                      else (
                                                        none)))
                                                  else (
                                                    none)))
                                              else (
                                                none))
                                            else (
                                              none))
                                          else (
                                            none))))))))))
                        | some p1 => (
                          match (group_Group_G (some p)) with
                          | none => none
                          | some r7 => (
                            match (comb_New (some p) r7 256) with
                            | none => none
                            | some r8 => (
                              match r8.1 with
                              | none => (
                                bif (r6.2 != 0) then (
                                  none)
                                else (
                                  bif (r8.2 != 0) then (
                                    none)
                                  else (
                                    match (comb_Table_Exp (some p1) e) with
                                    | none => none
                                    | some r16 => (
                                      match (comb_Table_Exp none f) with
                                      | none => none
                                      | some r17 => (
                                        match (comb_Multi 2 (fun j => (upd (upd (fun _ => .nil) 0 (.fz p1)) 1 .nil) (0 + j)) 2 (fun j => (upd (upd (fun _ => (fun _ => 0)) 0 e) 1 f) (0 + j))) with
                                        | none => none
                                        | some r18 => (
                                          bif (r16.2 == 0) then (
                                            bif (r17.2 == 0) then (
                                              bif (r18.2 == 0) then (
                                                match (power_Exp (some p) r5 e) with
                                                | none => none
                                                | some r19 => (
                                                  bif (eqF (.arr 4 (.int .u64)) r16.1 r19) then (
                                                    match (power_Of (some p) f) with
                                                    | none => none
                                                    | some r20 => (
                                                      bif (eqF (.arr 4 (.int .u64)) r17.1 r20) then (
                                                        match (power_Mul (some p) r16.1 r17.1) with
                                                        | none => none
                                                        | some r21 => (
                                                          bif (eqF (.arr 4 (.int .u64)) r18.1 r21) then (
                                                            match l35_awake with
                                                            | none => none
                                                            | some r22 => (
                                                              bif r22 then (
                                                                some ())
                                                              else (
                                                                none)))
                                                          else (
                                                            none)))
                                                      else (
                                                        none)))
                                                  else (
                                                    none)))
                                              else (
                                                none))
                                            else (
                                              none))
                                          else (
                                            none)))))))
                              | some p2 => (
                                bif (r6.2 != 0) then (
                                  none)
                                else (
                                  bif (r8.2 != 0) then (
                                    none)
                                  else (
                                    match (comb_Table_Exp (some p1) e) with
                                    | none => none
                                    | some r9 => (
                                      match (comb_Table_Exp (some p2) f) with
                                      | none => none
                                      | some r10 => (
                                        match (comb_Multi 2 (fun j => (upd (upd (fun _ => .nil) 0 (.fz p1)) 1 (.fz p2)) (0 + j)) 2 (fun j => (upd (upd (fun _ => (fun _ => 0)) 0 e) 1 f) (0 + j))) with
                                        | none => none
                                        | some r11 => (
                                          bif (r9.2 == 0) then (
                                            bif (r10.2 == 0) then (
                                              bif (r11.2 == 0) then (
                                                match (power_Exp (some p) r5 e) with
                                                | none => none
                                                | some r12 => (
                                                  bif (eqF (.arr 4 (.int .u64)) r9.1 r12) then (
                                                    match (power_Of (some p) f) with
                                                    | none => none
                                                    | some r13 => (
                                                      bif (eqF (.arr 4 (.int .u64)) r10.1 r13) then (
                                                        match (power_Mul (some p) r9.1 r10.1) with
                                                        | none => none
                                                        | some r14 => (
                                                          bif (eqF (.arr 4 (.int .u64)) r11.1 r14) then (
                                                            match l35_awake with
                                                            | none => none
                                                            | some r15 => (
                                                              bif r15 then (
                                                                some ())
                                                              else (
                                                                none)))
                                                          else (
                                                            none)))
                                                      else (
                                                        none)))
                                                  else (
                                                    none)))
                                              else (
                                                none))
                                            else (
                                              none))
                                          else (
                                            none))))))))))))))))))
        else (
          none))))
end Go.Pl

set_option linter.unusedVariables false
set_option linter.unusedSimpArgs false
set_option maxRecDepth 100000
set_option maxHeartbeats 0
namespace Go.Pl
end Go.Pl
open Go Go.Den Go.Pl
namespace Go.Proofs.Ytennopklknlecaa
noncomputable def x_l35_CombSame : Cx := { ti := ti, con := [(19, c_r07_Least), (20, c_r07_Other), (21, c_r07_Great), (22, c_group_New), (35, c_l35_of), (43, c_power_Of), (33, c_comb_New), (44, c_group_Group_G), (37, c_comb_Table_Exp), (41, c_comb_Multi), (45, c_power_Exp), (46, c_power_Mul), (36, c_l35_awake)], fns := [], un := 6 }
theorem xok_l35_CombSame : CxOk Try.prog x_l35_CombSame := CxOk.of mixed ti_ok (List.forall_mem_cons.2 ⟨con_r07_Least, List.forall_mem_cons.2 ⟨con_r07_Other, List.forall_mem_cons.2 ⟨con_r07_Great, List.forall_mem_cons.2 ⟨con_group_New, List.forall_mem_cons.2 ⟨con_l35_of, List.forall_mem_cons.2 ⟨con_power_Of, List.forall_mem_cons.2 ⟨con_comb_New, List.forall_mem_cons.2 ⟨con_group_Group_G, List.forall_mem_cons.2 ⟨con_comb_Table_Exp, List.forall_mem_cons.2 ⟨con_comb_Multi, List.forall_mem_cons.2 ⟨con_power_Exp, List.forall_mem_cons.2 ⟨con_power_Mul, List.forall_mem_cons.2 ⟨con_l35_awake, List.forall_mem_nil _⟩⟩⟩⟩⟩⟩⟩⟩⟩⟩⟩⟩⟩) (List.forall_mem_nil _)
theorem fn_l35_CombSame : FnOk Try.prog 10 Try.f10 [] := ⟨Try.func10, Try.call10, lps_nil⟩
theorem e_l35_CombSame (which : Int) (e : (Nat → Int)) (f : (Nat → Int)) : bodyK x_l35_CombSame [] (denF x_l35_CombSame 8) Try.f10 (domV [(.int .i64), (.arr 4 (.int .u64)), (.arr 4 (.int .u64))] (which, e, f, ())) [] 0 kTrue = l35_CombSame' which e f := by kernel_rfl
end Go.Proofs.Ytennopklknlecaa

set_option linter.unusedVariables false
set_option linter.unusedSimpArgs false
namespace Go.Pl
open Go Go.Den Go.Num

/-- one of the three, out of a row -/
theorem three_row {i : Nat} (hi : i < 3) : ∃ (k : Nat) (l : ChainT) (ga : Nat → Int) (g : GroupT) (P Q G : Nat), (upd (upd (upd (fun _ => (.nil, fun _ => 0)) 0 ((.fz 3 leastL), leastG)) 1 ((.fz 3 otherL), otherG)) 2 ((.fz 5 greatL), greatG) : Nat → SlV ((Nat → Int) × Int) × (Nat → Int)) (0 + i) = (.fz k l, ga) ∧ IsPick k l ga g P Q G := by
  match i, hi with
  | 0, _ =>
    obtain ⟨g, hg⟩ := least_pick
    exact ⟨3, leastL, leastG, g, _, _, _, rfl, hg⟩
  | 1, _ =>
    obtain ⟨g, hg⟩ := other_pick
    exact ⟨3, otherL, otherG, g, _, _, _, rfl, hg⟩
  | 2, _ =>
    obtain ⟨g, P, Q, G, hg⟩ := great_pick
    exact ⟨5, greatL, greatG, g, P, Q, G, rfl, hg⟩
theorem l35_CombSame_true {which : Int} {a b : Nat → Int} (hw : Go.Den.Good (.int .i64) which) (ha : Go.Den.Good (.arr 4 (.int .u64)) a) (hb : Go.Den.Good (.arr 4 (.int .u64)) b) : l35_CombSame' which a b = some () := by
  obtain ⟨x, hx⟩ := good_nat ha
  obtain ⟨y, hy⟩ := good_nat hb
  obtain ⟨i, hi, hi2⟩ := three_idx which
  obtain ⟨k, l, ga, g, P, Q, G, t1, hg⟩ := three_row hi
  have hgg := hg.group
  have hi3 : inb ((i : Nat) : Int) 3 = true := by
    rw [inb_t] <;> omega
  unfold l35_CombSame'
  have hm : bitsOp .and .i64 (shrI .i64 which 8) 255 = shrI .i64 which 8 % (2 ^ 8 : Nat) := andMask (k := 8) (by decide)
  have h0 := Int.emod_nonneg (shrI .i64 which 8) (show ((2 ^ 8 : Nat) : Int) ≠ 0 by decide)
  have h1 := Int.emod_lt_of_pos (shrI .i64 which 8) (show (0 : Int) < ((2 ^ 8 : Nat) : Int) by decide)
  simp only [Nat.reducePow, Int.cast_ofNat_Int] at h1
  obtain ⟨v, hv⟩ : ∃ v : Nat, bitsOp .and .i64 (shrI .i64 which 8) 255 = (v : Int) := ⟨(shrI .i64 which 8 % (2 ^ 8 : Nat)).toNat, by rw [hm]; omega⟩
  have hv2 : v < 256 := by rw [hm] at hv; omega
  obtain ⟨o, o1, o2⟩ := l35_of_spec (n := ((3 + v : Nat) : Int)) (by omega)
  obtain ⟨A, A1, A2⟩ := power_Of_spec hgg o2
  have lt := fun n => Nat.mod_lt n hgg.ppos
  obtain ⟨t, r, n1, n2, n3⟩ := comb_New_spec hgg A2 (bits := 256) (lt _) (by decide) (by decide)
  have hG2 := hg.gen
  rw [← hg.gen2] at hG2
  obtain ⟨u, r', m1, m2, m3⟩ := comb_New_spec hgg hG2 (bits := 256) hgg.gP (by decide) (by decide)
  have n1' : comb_New (some g) A 256 = some (some t, 0) := n1
  have m1' : comb_New (some g) g.2 256 = some (some u, 0) := m1
  obtain ⟨p, p1, p2⟩ := comb_Exp_spec n2 hx hx.1
  obtain ⟨q, q1, q2⟩ := comb_Exp_spec m2 hy hy.1
  have he : ∀ i, i < 2 → (if i = 0 then x else y) < 2 ^ (if i = 0 then 256 else 256) := fun i hi => by
    rcases (show i = 0 ∨ i = 1 by omega) with rfl | rfl
    · exact hx.1
    · exact hy.1
  obtain ⟨z, z1, z2⟩ := (comb_Multi_spec (n := 2) (by decide) hgg.pp.1 (tabs_two n2 m2) (two_nats hx hy)).1 he
  obtain ⟨e, e1, e2⟩ := power_Exp_spec hgg A2 hx
  obtain ⟨f, f1, f2⟩ := power_Of_spec hgg hy
  obtain ⟨w, w1, w2⟩ := power_Mul_spec hgg p2 q2
  generalize G ^ Int.toNat ((3 + v : Nat) : Int) % P = base at *
  have z3 : IsN z (base ^ x % P * (G ^ y % P) % P) := z2.of_eq (by
    show 1 * base ^ x * G ^ y % P = _
    rw [Nat.one_mul, ← Nat.mul_mod])
  simp (disch := first | omega | assumption) only [add_c, add_l, l_add, mul_c, mul_l, l_mul, sub_c, sub_l, l_sub, div_c, div_l, mod_c, mod_l, tdiv_c, tdiv_l, tmod_c, tmod_l, wrap_i64n, wrapun, dec_t, dec_f, inb_t, cond_true, cond_false, Int.toNat_natCast, beq_t, beq_f, bne_t, bne_f, Bool.not_true, Bool.not_false, Int.reduceToNat, ft_b, tf_b, tt_b, ff_b, decide_true, decide_false, hi2, hi3, r07_Least_eq2, r07_Other_eq2, r07_Great_eq2, t1, SlV.isMs, SlV.len, SlV.fn, hg.made, hv, o1, A1, n1', group_G_spec hgg, m1', p1, q1, z1, e1, p2.eqb e2, f1, q2.eqb f2, w1, z3.eqb w2, l35_awake_spec]
end Go.Pl
