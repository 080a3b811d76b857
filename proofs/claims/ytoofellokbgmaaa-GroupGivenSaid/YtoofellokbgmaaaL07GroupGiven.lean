/-
  One statement, plainly.
-/
import Derived.Test.YtoofellokbgmaaaDenD
import Derived.Test.YtoofellokbgmaaaPlA
import Derived.Test.YtoofellokbgmaaaL07
import Derived.Test.YtoofellokbgmaaaEqA
set_option linter.unusedVariables false
set_option linter.unusedSimpArgs false
set_option maxRecDepth 100000
set_option maxHeartbeats 0
namespace Go.Pl
end Go.Pl
open Go Go.Den Go.Pl
namespace Go.Pl
noncomputable def l07_GroupGiven' (which : Int) : Option (Unit) :=
  match group_Least with
  | none => none
  | some r => (
    match r07_Least with
    | none => none
    | some r1 => (
      bif ((bitsOp .and .i64 which 3) == 1) then (
        match group_Other with
        | none => none
        | some r2 => (
          match r07_Other with
          | none => none
          | some r3 => (
            match (group_New ((r2.1.1, r2.1.2), r2.2)) with
            | none => none
            | some r4 => (
              match r4.1 with
              | none => (
                match (l07_same ((r2.1.1, r2.1.2), r2.2) ((r3.1.1, r3.1.2), r3.2)) with
                | none => none
                | some r33 => (
                  bif (!r33) then (
                    none)
                  else (
                    match (group_Check ((r2.1.1, r2.1.2), r2.2)) with
                    | none => none
                    | some r34 => (
                      bif (r34 != 0) then (
                        none)
                      else (
                        bif (r4.2 != 0) then (
                          none)
                        else (
                          none))))))
              | some p => (
                match (l07_same ((r2.1.1, r2.1.2), r2.2) ((r3.1.1, r3.1.2), r3.2)) with
                | none => none
                | some r5 => (
                  bif (!r5) then (
                    none)
                  else (
                    match (group_Check ((r2.1.1, r2.1.2), r2.2)) with
                    | none => none
                    | some r6 => (
                      bif (r6 != 0) then (
                        none)
                      else (
                        bif (r4.2 != 0) then (
                          none)
                        else (
                          match (group_Group_P (some p)) with
                          | none => none
                          | some r7 => (
                            match (r07_P ((r3.1.1, r3.1.2), r3.2)) with
                            | none => none
                            | some r8 => (
                              bif (eqF (.arr 4 (.int .u64)) r7 r8) then (
                                match (group_Group_Q (some p)) with
                                | none => none
                                | some r9 => (
                                  match (r07_Q ((r3.1.1, r3.1.2), r3.2)) with
                                  | none => none
                                  | some r10 => (
                                    bif (eqF (.arr 4 (.int .u64)) r9 r10) then (
                                      match (group_Group_G (some p)) with
                                      | none => none
                                      | some r11 => (
                                        bif (eqF (.arr 4 (.int .u64)) r11 r3.2) then (
                                          match (group_Group_Size (some p)) with
                                          | none => none
                                          | some r12 => (
                                            match (r07_Size ((r3.1.1, r3.1.2), r3.2)) with
                                            | none => none
                                            | some r13 => (
                                              bif (r12 == r13) then (
                                                match (group_Group_Ring (some p)) with
                                                | none => none
                                                | some r14 => (
                                                  match r14 with
                                                  | none => (
                                                    match (mont_Ring_M none) with
                                                    | none => none
                                                    | some r24 => (
                                                      match (r07_P ((r3.1.1, r3.1.2), r3.2)) with
                                                      | none => none
                                                      | some r25 => (
                                                        bif (eqF (.arr 4 (.int .u64)) r24 r25) then (
                                                          match (group_Group_Field (some p)) with
                                                          | none => none
                                                          | some r26 => (
                                                            match r26 with
                                                            | none => (
                                                              match (mont_Ring_M none) with
                                                              | none => none
                                                              | some r30 => (
                                                                match (r07_Q ((r3.1.1, r3.1.2), r3.2)) with
                                                                | none => none
                                                                | some r31 => (
                                                                  bif (eqF (.arr 4 (.int .u64)) r30 r31) then (
                                                                    match l07_awake with
                                                                    | none => none
                                                                    | some r32 => (
                                                                      bif r32 then (
                                                                        some ())
                                                                      else (
                                                                        none)))
                                                                  else (
                                                                    none))))
                                                            | some p3 => (
                                                              match (mont_Ring_M (some p3)) with
                                                              | none => none
                                                              | some r27 => (
                                                                match (r07_Q ((r3.1.1, r3.1.2), r3.2)) with
                                                                | none => none
                                                                | some r28 => (
                                                                  bif (eqF (.arr 4 (.int .u64)) r27 r28) then (
                                                                    match l07_awake with
                                                                    | none => none
                                                                    | some r29 => (
                                                                      bif r29 then (
                                                                        some ())
                                                                      else (
                                                                        none)))
                                                                  else (
                                                                    none))))))
                                                        else (
                                                          none))))
                                                  | some p1 => (
                                                    match (mont_Ring_M (some p1)) with
                                                    | none => none
                                                    | some r15 => (
                                                      match (r07_P ((r3.1.1, r3.1.2), r3.2)) with
                                                      | none => none
                                                      | some r16 => (
                                                        bif (eqF (.arr 4 (.int .u64)) r15 r16) then (
                                                          match (group_Group_Field (some p)) with
                                                          | none => none
                                                          | some r17 => (
                                                            match r17 with
                                                            | none => (
                                                              match (mont_Ring_M none) with
                                                              | none => none
                                                              | some r21 => (
                                                                match (r07_Q ((r3.1.1, r3.1.2), r3.2)) with
                                                                | none => none
                                                                | some r22 => (
                                                                  bif (eqF (.arr 4 (.int .u64)) r21 r22) then (
                                                                    match l07_awake with
                                                                    | none => none
                                                                    | some r23 => (
                                                                      bif r23 then (
                                                                        some ())
                                                                      else (
                                                                        none)))
                                                                  else (
                                                                    none))))
                                                            | some p2 => (
                                                              match (mont_Ring_M (some p2)) with
                                                              | none => none
                                                              | some r18 => (
                                                                match (r07_Q ((r3.1.1, r3.1.2), r3.2)) with
                                                                | none => none
                                                                | some r19 => (
                                                                  bif (eqF (.arr 4 (.int .u64)) r18 r19) then (
                                                                    match l07_awake with
                                                                    | none => none
                                                                    | some r20 => (
                                                                      bif r20 then (
                                                                        some ())
                                                                      else (
                                                                        none)))
                                                                  else (
                                                                    none))))))
                                                        else (
                                                          none))))))
                                              else (
                                                none))))
                                        else (
                                          none)))
                                    else (
                                      none))))
                              else (
                                none)))))))))))))
      else (
        bif ((bitsOp .and .i64 which 3) == 2) then (
          match group_Great with
          | none => none
          | some r35 => (
            match r07_Great with
            | none => none
            | some r36 => (
              match (group_New ((r35.1.1, r35.1.2), r35.2)) with
              | none => none
              | some r37 => (
                match r37.1 with
                | none => (
                  match (l07_same ((r35.1.1, r35.1.2), r35.2) ((r36.1.1, r36.1.2), r36.2)) with
                  | none => none
                  | some r66 => (
                    bif (!r66) then (
                      none)
                    else (
                      match (group_Check ((r35.1.1, r35.1.2), r35.2)) with
                      | none => none
                      | some r67 => (
                        bif (r67 != 0) then (
                          none)
                        else (
                          bif (r37.2 != 0) then (
                            none)
                          else (
                            none))))))
                | some p4 => (
                  match (l07_same ((r35.1.1, r35.1.2), r35.2) ((r36.1.1, r36.1.2), r36.2)) with
                  | none => none
                  | some r38 => (
                    bif (!r38) then (
                      none)
                    else (
                      match (group_Check ((r35.1.1, r35.1.2), r35.2)) with
                      | none => none
                      | some r39 => (
                        bif (r39 != 0) then (
                          none)
                        else (
                          bif (r37.2 != 0) then (
                            none)
                          else (
                            match (group_Group_P (some p4)) with
                            | none => none
                            | some r40 => (
                              match (r07_P ((r36.1.1, r36.1.2), r36.2)) with
                              | none => none
                              | some r41 => (
                                bif (eqF (.arr 4 (.int .u64)) r40 r41) then (
                                  match (group_Group_Q (some p4)) with
                                  | none => none
                                  | some r42 => (
                                    match (r07_Q ((r36.1.1, r36.1.2), r36.2)) with
                                    | none => none
                                    | some r43 => (
                                      bif (eqF (.arr 4 (.int .u64)) r42 r43) then (
                                        match (group_Group_G (some p4)) with
                                        | none => none
                                        | some r44 => (
                                          bif (eqF (.arr 4 (.int .u64)) r44 r36.2) then (
                                            match (group_Group_Size (some p4)) with
                                            | none => none
                                            | some r45 => (
                                              match (r07_Size ((r36.1.1, r36.1.2), r36.2)) with
                                              | none => none
                                              | some r46 => (
                                                bif (r45 == r46) then (
                                                  match (group_Group_Ring (some p4)) with
                                                  | none => none
                                                  | some r47 => (
                                                    match r47 with
                                                    | none => (
                                                      match (mont_Ring_M none) with
                                                      | none => none
                                                      | some r57 => (
                                                        match (r07_P ((r36.1.1, r36.1.2), r36.2)) with
                                                        | none => none
                                                        | some r58 => (
                                                          bif (eqF (.arr 4 (.int .u64)) r57 r58) then (
                                                            match (group_Group_Field (some p4)) with
                                                            | none => none
                                                            | some r59 => (
                                                              match r59 with
                                                              | none => (
                                                                match (mont_Ring_M none) with
                                                                | none => none
                                                                | some r63 => (
                                                                  match (r07_Q ((r36.1.1, r36.1.2), r36.2)) with
                                                                  | none => none
                                                                  | some r64 => (
                                                                    bif (eqF (.arr 4 (.int .u64)) r63 r64) then (
                                                                      match l07_awake with
                                                                      | none => none
                                                                      | some r65 => (
                                                                        bif r65 then (
                                                                          some ())
                                                                        else (
                                                                          none)))
                                                                    else (
                                                                      none))))
                                                              | some p7 => (
                                                                match (mont_Ring_M (some p7)) with
                                                                | none => none
                                                                | some r60 => (
                                                                  match (r07_Q ((r36.1.1, r36.1.2), r36.2)) with
                                                                  | none => none
                                                                  | some r61 => (
                                                                    bif (eqF (.arr 4 (.int .u64)) r60 r61) then (
                                                                      match l07_awake with
                                                                      | none => none
                                                                      | some r62 => (
                                                                        bif r62 then (
                                                                          some ())
                                                                        else (
                                                                          none)))
                                                                    else (
                                                                      none))))))
                                                          else (
                                                            none))))
                                                    | some p5 => (
                                                      match (mont_Ring_M (some p5)) with
                                                      | none => none
                                                      | some r48 => (
                                                        match (r07_P ((r36.1.1, r36.1.2), r36.2)) with
                                                        | none => none
                                                        | some r49 => (
                                                          bif (eqF (.arr 4 (.int .u64)) r48 r49) then (
                                                            match (group_Group_Field (some p4)) with
                                                            | none => none
                                                            | some r50 => (
                                                              match r50 with
                                                              | none => (
                                                                match (mont_Ring_M none) with
                                                                | none => none
                                                                | some r54 => (
                                                                  match (r07_Q ((r36.1.1, r36.1.2), r36.2)) with
                                                                  | none => none
                                                                  | some r55 => (
                                                                    bif (eqF (.arr 4 (.int .u64)) r54 r55) then (
                                                                      match l07_awake with
                                                                      | none => none
                                                                      | some r56 => (
                                                                        bif r56 then (
                                                                          some ())
                                                                        else (
                                                                          none)))
                                                                    else (
                                                                      none))))
                                                              | some p6 => (
                                                                match (mont_Ring_M (some p6)) with
                                                                | none => none
                                                                | some r51 => (
                                                                  match (r07_Q ((r36.1.1, r36.1.2), r36.2)) with
                                                                  | none => none
                                                                  | some r52 => (
                                                                    bif (eqF (.arr 4 (.int .u64)) r51 r52) then (
                                                                      match l07_awake with
                                                                      | none => none
                                                                      | some r53 => (
                                                                        bif r53 then (
                                                                          some ())
                                                                        else (
                                                                          none)))
                                                                    else (
                                                                      none))))))
                                                          else (
                                                            none))))))
                                                else (
                                                  none))))
                                          else (
                                            none)))
                                      else (
                                        none))))
                                else (
                                  none)))))))))))))
        else (
          match (group_New ((r.1.1, r.1.2), r.2)) with
          | none => none
          | some r68 => (
            match r68.1 with
            | none => (
              match (l07_same ((r.1.1, r.1.2), r.2) ((r1.1.1, r1.1.2), r1.2)) with
              | none => none
              | some r97 => (
                bif (!r97) then (
                  none)
                else (
                  match (group_Check ((r.1.1, r.1.2), r.2)) with
                  | none => none
                  | some r98 => (
                    bif (r98 != 0) then (
                      none)
                    else (
                      bif (r68.2 != 0) then (
                        none)
                      else (
                        none))))))
            | some p8 => (
              match (l07_same ((r.1.1, r.1.2), r.2) ((r1.1.1, r1.1.2), r1.2)) with
              | none => none
              | some r69 => (
                bif (!r69) then (
                  none)
                else (
                  match (group_Check ((r.1.1, r.1.2), r.2)) with
                  | none => none
                  | some r70 => (
                    bif (r70 != 0) then (
                      none)
                    else (
                      bif (r68.2 != 0) then (
                        none)
                      else (
                        match (group_Group_P (some p8)) with
                        | none => none
                        | some r71 => (
                          match (r07_P ((r1.1.1, r1.1.2), r1.2)) with
                          | none => none
                          | some r72 => (
                            bif (eqF (.arr 4 (.int .u64)) r71 r72) then (
                              match (group_Group_Q (some p8)) with
                              | none => none
                              | some r73 => (
                                match (r07_Q ((r1.1.1, r1.1.2), r1.2)) with
                                | none => none
                                | some r74 => (
                                  bif (eqF (.arr 4 (.int .u64)) r73 r74) then (
                                    match (group_Group_G (some p8)) with
                                    | none => none
                                    | some r75 => (
                                      bif (eqF (.arr 4 (.int .u64)) r75 r1.2) then (
                                        match (group_Group_Size (some p8)) with
                                        | none => none
                                        | some r76 => (
                                          match (r07_Size ((r1.1.1, r1.1.2), r1.2)) with
                                          | none => none
                                          | some r77 => (
                                            bif (r76 == r77) then (
                                              match (group_Group_Ring (some p8)) with
                                              | none => none
                                              | some r78 => (
                                                match r78 with
                                                | none => (
                                                  match (mont_Ring_M none) with
                                                  | none => none
                                                  | some r88 => (
                                                    match (r07_P ((r1.1.1, r1.1.2), r1.2)) with
                                                    | none => none
                                                    | some r89 => (
                                                      bif (eqF (.arr 4 (.int .u64)) r88 r89) then (
                                                        match (group_Group_Field (some p8)) with
                                                        | none => none
                                                        | some r90 => (
                                                          match r90 with
                                                          | none => (
                                                            match (mont_Ring_M none) with
                                                            | none => none
                                                            | some r94 => (
                                                              match (r07_Q ((r1.1.1, r1.1.2), r1.2)) with
                                                              | none => none
                                                              | some r95 => (
                                                                bif (eqF (.arr 4 (.int .u64)) r94 r95) then (
                                                                  match l07_awake with
                                                                  | none => none
                                                                  | some r96 => (
                                                                    bif r96 then (
                                                                      some ())
                                                                    else (
                                                                      none)))
                                                                else (
                                                                  none))))
                                                          | some p11 => (
                                                            match (mont_Ring_M (some p11)) with
                                                            | none => none
                                                            | some r91 => (
                                                              match (r07_Q ((r1.1.1, r1.1.2), r1.2)) with
                                                              | none => none
                                                              | some r92 => (
                                                                bif (eqF (.arr 4 (.int .u64)) r91 r92) then (
                                                                  match l07_awake with
                                                                  | none => none
                                                                  | some r93 => (
                                                                    bif r93 then (
                                                                      some ())
                                                                    else (
                                                                      none)))
                                                                else (
                                                                  none))))))
                                                      else (
                                                        none))))
                                                | some p9 => (
                                                  match (mont_Ring_M (some p9)) with
                                                  | none => none
                                                  | some r79 => (
                                                    match (r07_P ((r1.1.1, r1.1.2), r1.2)) with
                                                    | none => none
                                                    | some r80 => (
                                                      bif (eqF (.arr 4 (.int .u64)) r79 r80) then (
                                                        match (group_Group_Field (some p8)) with
                                                        | none => none
                                                        | some r81 => (
                                                          match r81 with
                                                          | none => (
                                                            match (mont_Ring_M none) with
                                                            | none => none
                                                            | some r85 => (
                                                              match (r07_Q ((r1.1.1, r1.1.2), r1.2)) with
                                                              | none => none
                                                              | some r86 => (
                                                                bif (eqF (.arr 4 (.int .u64)) r85 r86) then (
                                                                  match l07_awake with
                                                                  | none => none
                                                                  | some r87 => (
                                                                    bif r87 then (
                                                                      some ())
                                                                    else (
                                                                      none)))
                                                                else (
                                                                  none))))
                                                          | some p10 => (
                                                            match (mont_Ring_M (some p10)) with
                                                            | none => none
                                                            | some r82 => (
                                                              match (r07_Q ((r1.1.1, r1.1.2), r1.2)) with
                                                              | none => none
                                                              | some r83 => (
                                                                bif (eqF (.arr 4 (.int .u64)) r82 r83) then (
                                                                  match l07_awake with
                                                                  | none => none
                                                                  | some r84 => (
                                                                    bif r84 then (
                                                                      some ())
                                                                    else (
                                                                      none)))
                                                                else (
                                                                  none))))))
                                                      else (
                                                        none))))))
                                            else (
                                              none))))
                                      else (
                                        none)))
                                  else (
                                    none))))
                            else (
                              none))))))))))))))
end Go.Pl

set_option linter.unusedVariables false
set_option linter.unusedSimpArgs false
set_option maxRecDepth 100000
set_option maxHeartbeats 0
namespace Go.Pl
end Go.Pl
open Go Go.Den Go.Pl
namespace Go.Proofs.Ytoofellokbgmaaa
noncomputable def x_l07_GroupGiven : Cx := { ti := ti, con := [(35, c_group_Least), (36, c_r07_Least), (37, c_group_Other), (38, c_r07_Other), (17, c_group_New), (41, c_l07_same), (24, c_group_Check), (26, c_group_Group_P), (27, c_r07_P), (28, c_group_Group_Q), (29, c_r07_Q), (30, c_group_Group_G), (31, c_group_Group_Size), (32, c_r07_Size), (33, c_group_Group_Ring), (42, c_mont_Ring_M), (34, c_group_Group_Field), (23, c_l07_awake), (39, c_group_Great), (40, c_r07_Great)], fns := [], un := 6 }
theorem xok_l07_GroupGiven : CxOk Try.prog x_l07_GroupGiven := CxOk.of mixed ti_ok (List.forall_mem_cons.2 ⟨con_group_Least, List.forall_mem_cons.2 ⟨con_r07_Least, List.forall_mem_cons.2 ⟨con_group_Other, List.forall_mem_cons.2 ⟨con_r07_Other, List.forall_mem_cons.2 ⟨con_group_New, List.forall_mem_cons.2 ⟨con_l07_same, List.forall_mem_cons.2 ⟨con_group_Check, List.forall_mem_cons.2 ⟨con_group_Group_P, List.forall_mem_cons.2 ⟨con_r07_P, List.forall_mem_cons.2 ⟨con_group_Group_Q, List.forall_mem_cons.2 ⟨con_r07_Q, List.forall_mem_cons.2 ⟨con_group_Group_G, List.forall_mem_cons.2 ⟨con_group_Group_Size, List.forall_mem_cons.2 ⟨con_r07_Size, List.forall_mem_cons.2 ⟨con_group_Group_Ring, List.forall_mem_cons.2 ⟨con_mont_Ring_M, List.forall_mem_cons.2 ⟨con_group_Group_Field, List.forall_mem_cons.2 ⟨con_l07_awake, List.forall_mem_cons.2 ⟨con_group_Great, List.forall_mem_cons.2 ⟨con_r07_Great, List.forall_mem_nil _⟩⟩⟩⟩⟩⟩⟩⟩⟩⟩⟩⟩⟩⟩⟩⟩⟩⟩⟩⟩) (List.forall_mem_nil _)
theorem fn_l07_GroupGiven : FnOk Try.prog 6 Try.f6 [] := ⟨Try.func6, Try.call6, lps_nil⟩
theorem e_l07_GroupGiven (which : Int) : bodyK x_l07_GroupGiven [] (denF x_l07_GroupGiven 8) Try.f6 (domV [(.int .i64)] (which, ())) [] 0 kTrue = l07_GroupGiven' which := by kernel_rfl
end Go.Proofs.Ytoofellokbgmaaa

set_option linter.unusedVariables false
set_option linter.unusedSimpArgs false
namespace Go.Pl
open Go Go.Den Go.Num

/-- all that the statement asks of one of the three -/
structure IsGiven (k : Nat) (l : ChainT) (ga : Nat → Int) (g : GroupT) : Prop where
  made : group_New ((k, l), ga) = some (some g, 0)
  check : group_Check ((k, l), ga) = some 0
  p : ∃ z, group_Group_P (some g) = some z ∧ r07_P ((k, l), ga) = some (l (k - 1)).1 ∧ eqF (.arr 4 (.int .u64)) z (l (k - 1)).1 = true
  q : ∃ z, group_Group_Q (some g) = some z ∧ r07_Q ((k, l), ga) = some (l (k - 2)).1 ∧ eqF (.arr 4 (.int .u64)) z (l (k - 2)).1 = true
  gen : group_Group_G (some g) = some g.2 ∧ eqF (.arr 4 (.int .u64)) g.2 ga = true
  size : ∃ n, group_Group_Size (some g) = some n ∧ r07_Size ((k, l), ga) = some n
  ring : ∃ r, group_Group_Ring (some g) = some (some r) ∧ mont_Ring_M (some r) = some r.1 ∧ eqF (.arr 4 (.int .u64)) r.1 (l (k - 1)).1 = true
  field : ∃ r, group_Group_Field (some g) = some (some r) ∧ mont_Ring_M (some r) = some r.1 ∧ eqF (.arr 4 (.int .u64)) r.1 (l (k - 2)).1 = true
  same : l07_same ((k, l), ga) ((k, l), ga) = some true
theorem IsPick.given {k : Nat} {l : ChainT} {ga : Nat → Int} {g : GroupT} {P Q G : Nat} (h : IsPick k l ga g P Q G) (hc : group_Check ((k, l), ga) = some 0) : IsGiven k l ga g := by
  have hk := h.k8
  have hgg := h.group
  have eq : ∀ {a b : Nat → Int} {n : Nat}, IsN a n → IsN b n → eqF (.arr 4 (.int .u64)) a b = true := fun ha hb => by
    rw [ha.eqb hb]; exact decide_eq_true rfl
  obtain ⟨p, p1, p2⟩ := group_P_spec hgg
  obtain ⟨q, q1, q2⟩ := group_Q_spec hgg
  obtain ⟨r, r1, hr⟩ := group_Ring_spec hgg
  obtain ⟨f, f1, hf⟩ := group_Field_spec hgg
  exact { made := h.made, check := hc, p := ⟨p, p1, h.rP, eq p2 h.p⟩, q := ⟨q, q1, h.rQ, eq q2 h.q⟩, gen := ⟨group_G_spec hgg, eq hgg.gen h.gen⟩, size := ⟨_, group_Size_spec hgg, r07_Size_spec h.k2 (by omega) h.q hgg.big⟩, ring := ⟨r, r1, mont_M_spec hr, eq hr.m h.p⟩, field := ⟨f, f1, mont_M_spec hf, eq hf.m h.q⟩, same := l07_same_spec (by omega) }
theorem least_given : ∃ g, IsGiven 3 leastL leastG g := by
  obtain ⟨g, hg⟩ := least_pick
  exact ⟨g, hg.given ((group_Check_spec leastL_n leastG_n).1 least_group)⟩
theorem other_given : ∃ g, IsGiven 3 otherL otherG g := by
  obtain ⟨g, hg⟩ := other_pick
  exact ⟨g, hg.given ((group_Check_spec otherL_n otherG_n).1 other_group)⟩
theorem great_given : ∃ g, IsGiven 5 greatL greatG g := by
  obtain ⟨g, P, Q, G, hg⟩ := great_pick
  exact ⟨g, hg.given ((group_Check_spec greatL_n greatG_n).1 great_group)⟩
theorem l07_GroupGiven_true {which : Int} (hw : Go.Den.Good (.int .i64) which) : l07_GroupGiven' which = some () := by
  unfold l07_GroupGiven'
  generalize bitsOp .and .i64 which 3 = w
  by_cases h1 : w = 1
  · subst h1
    obtain ⟨g, made, check, ⟨p, p1, p2, p3⟩, ⟨q, q1, q2, q3⟩, ⟨g1, g2⟩, ⟨n, n1, n2⟩, ⟨r, r1, r2, r3⟩, ⟨f, f1, f2, f3⟩, same⟩ := other_given
    simp (disch := first | omega | assumption) only [wrap_i64n, wrapun, dec_t, dec_f, inb_t, cond_true, cond_false, Int.toNat_natCast, beq_t, beq_f, bne_t, bne_f, Bool.not_true, Bool.not_false, Int.reduceToNat, ft_b, tf_b, tt_b, ff_b, decide_true, decide_false, group_Least_eq2, r07_Least_eq2, group_Other_eq2, r07_Other_eq2, made, check, p1, p2, p3, q1, q2, q3, g1, g2, n1, n2, r1, r2, r3, f1, f2, f3, same, l07_awake_spec]
  · by_cases h2 : w = 2
    · subst h2
      obtain ⟨g, made, check, ⟨p, p1, p2, p3⟩, ⟨q, q1, q2, q3⟩, ⟨g1, g2⟩, ⟨n, n1, n2⟩, ⟨r, r1, r2, r3⟩, ⟨f, f1, f2, f3⟩, same⟩ := great_given
      simp (disch := first | omega | assumption) only [wrap_i64n, wrapun, dec_t, dec_f, inb_t, cond_true, cond_false, Int.toNat_natCast, beq_t, beq_f, bne_t, bne_f, Bool.not_true, Bool.not_false, Int.reduceToNat, ft_b, tf_b, tt_b, ff_b, decide_true, decide_false, group_Least_eq2, r07_Least_eq2, group_Great_eq2, r07_Great_eq2, made, check, p1, p2, p3, q1, q2, q3, g1, g2, n1, n2, r1, r2, r3, f1, f2, f3, same, l07_awake_spec]
    · obtain ⟨g, made, check, ⟨p, p1, p2, p3⟩, ⟨q, q1, q2, q3⟩, ⟨g1, g2⟩, ⟨n, n1, n2⟩, ⟨r, r1, r2, r3⟩, ⟨f, f1, f2, f3⟩, same⟩ := least_given
      simp (disch := first | omega | assumption) only [wrap_i64n, wrapun, dec_t, dec_f, inb_t, cond_true, cond_false, Int.toNat_natCast, beq_t, beq_f, bne_t, bne_f, Bool.not_true, Bool.not_false, Int.reduceToNat, ft_b, tf_b, tt_b, ff_b, decide_true, decide_false, group_Least_eq2, r07_Least_eq2, made, check, p1, p2, p3, q1, q2, q3, g1, g2, n1, n2, r1, r2, r3, f1, f2, f3, same, l07_awake_spec]
end Go.Pl
