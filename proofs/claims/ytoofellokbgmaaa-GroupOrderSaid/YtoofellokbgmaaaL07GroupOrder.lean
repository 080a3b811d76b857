/-
  One statement, plainly.
-/
import Derived.Test.YtoofellokbgmaaaDenD
import Derived.Test.YtoofellokbgmaaaPlA
import Derived.Test.YtoofellokbgmaaaL07
import Derived.Test.YtoofellokbgmaaaEqA
import Derived.Test.YtoofellokbgmaaaME
set_option linter.unusedVariables false
set_option linter.unusedSimpArgs false
set_option maxRecDepth 100000
set_option maxHeartbeats 0
namespace Go.Pl
end Go.Pl
open Go Go.Den Go.Pl
namespace Go.Pl
noncomputable def l07_GroupOrder' (which : Int) (a : (Nat → Int)) (b : (Nat → Int)) : Option (Unit) :=
  match group_Least with
  | none => none
  | some r => (
    match group_Other with
    | none => none
    | some r1 => (
      match group_Great with
      | none => none
      | some r2 => (
        bif (inb (Int.tmod (bitsOp .and .i64 which 255) 3) 3) then (
          match (takeArgs false (fun _ => none) [(.pair (.sl (.pair (.arr 4 (.int .u64)) (.int .i64))) (.arr 4 (.int .u64)))] [.v ⟨(.pair (.sl (.pair (.arr 4 (.int .u64)) (.int .i64))) (.arr 4 (.int .u64))), ((upd (upd (upd (fun _ => (.nil, (fun _ => 0))) 0 ((.fz r.1.1 r.1.2), r.2)) 1 ((.fz r1.1.1 r1.1.2), r1.2)) 2 ((.fz r2.1.1 r2.1.2), r2.2)) (0 + (Int.toNat (Int.tmod (bitsOp .and .i64 which 255) 3))))⟩]) with
          | none => none
          | some q => (
            match (group_New q.1) with
            | none => none
            | some r3 => (
              match r3.1 with
              | none => (
                bif (r3.2 != 0) then (
                  none)
                else (
                  none))
              | some p => (
                bif (r3.2 != 0) then (
                  none)
                else (
                  match (group_Group_Q (some p)) with
                  | none => none
                  | some r4 => (
                    match (r02_Rem a (fun _ => 0) r4) with
                    | none => none
                    | some r5 => (
                      match (group_Group_Q (some p)) with
                      | none => none
                      | some r6 => (
                        match (r02_Rem b (fun _ => 0) r6) with
                        | none => none
                        | some r7 => (
                          match (group_Group_Ring (some p)) with
                          | none => none
                          | some r8 => (
                            match r8 with
                            | none => (
                              match (group_Group_G (some p)) with
                              | none => none
                              | some r94 => (
                                match (mont_Ring_Exp none r94 a) with
                                | none => none
                                | some r95 => (
                                  match (group_Group_Ring (some p)) with
                                  | none => none
                                  | some r96 => (
                                    match r96 with
                                    | none => (
                                      match (group_Group_G (some p)) with
                                      | none => none
                                      | some r138 => (
                                        match (mont_Ring_Exp none r138 b) with
                                        | none => none
                                        | some r139 => (
                                          bif ((eqF (.arr 4 (.int .u64)) r95 r139) == (eqF (.arr 4 (.int .u64)) r5.1 r7.1)) then (
                                            match (group_Group_Ring (some p)) with
                                            | none => none
                                            | some r140 => (
                                              match r140 with
                                              | none => (
                                                match (group_Group_G (some p)) with
                                                | none => none
                                                | some r160 => (
                                                  match (mont_Ring_Exp none r160 r5.1) with
                                                  | none => none
                                                  | some r161 => (
                                                    bif (eqF (.arr 4 (.int .u64)) r95 r161) then (
                                                      match (group_Group_Ring (some p)) with
                                                      | none => none
                                                      | some r162 => (
                                                        match r162 with
                                                        | none => (
                                                          match (group_Group_Q (some p)) with
                                                          | none => none
                                                          | some r171 => (
                                                            match (mont_Ring_Exp none r95 r171) with
                                                            | none => none
                                                            | some r172 => (
                                                              match (r01_Int 1) with
                                                              | none => none
                                                              | some r173 => (
                                                                bif (eqF (.arr 4 (.int .u64)) r172 r173) then (
                                                                  match (group_Group_Ring (some p)) with
                                                                  | none => none
                                                                  | some r174 => (
                                                                    match r174 with
                                                                    | none => (
                                                                      match (mont_Ring_In none r95) with
                                                                      | none => none
                                                                      | some r177 => (
                                                                        bif r177 then (
                                                                          match l07_awake with
                                                                          | none => none
                                                                          | some r178 => (
                                                                            bif r178 then (
                                                                              some ())
                                                                            else (
                                                                              none)))
                                                                        else (
                                                                          none)))
                                                                    | some p31 => (
                                                                      match (mont_Ring_In (some p31) r95) with
                                                                      | none => none
                                                                      | some r175 => (
                                                                        bif r175 then (
                                                                          match l07_awake with
                                                                          | none => none
                                                                          | some r176 => (
                                                                            bif r176 then (
                                                                              some ())
                                                                            else (
                                                                              none)))
                                                                        else (
                                                                          none)))))
                                                                else (
                                                                  none)))))
                                                        | some p29 => (
                                                          match (group_Group_Q (some p)) with
                                                          | none => none
                                                          | some r163 => (
                                                            match (mont_Ring_Exp (some p29) r95 r163) with
                                                            | none => none
                                                            | some r164 => (
                                                              match (r01_Int 1) with
                                                              | none => none
                                                              | some r165 => (
                                                                bif (eqF (.arr 4 (.int .u64)) r164 r165) then (
                                                                  match (group_Group_Ring (some p)) with
                                                                  | none => none
                                                                  | some r166 => (
                                                                    match r166 with
                                                                    | none => (
                                                                      match (mont_Ring_In none r95) with
                                                                      | none => none
                                                                      | some r169 => (
                                                                        bif r169 then (
                                                                          match l07_awake with
                                                                          | none => none
                                                                          | some r170 => (
                                                                            bif r170 then (
                                                                              some ())
                                                                            else (
                                                                              none)))
                                                                        else (
                                                                          none)))
                                                                    | some p30 => (
                                                                      match (mont_Ring_In (some p30) r95) with
                                                                      | none => none
                                                                      | some r167 => (
                                                                        bif r167 then (
                                                                          match l07_awake with
                                                                          | none => none
                                                                          | some r168 => (
                                                                            bif r168 then (
                                                                              some ())
                                                                            else (
                                                                              none)))
                                                                        else (
                                                                          none)))))
                                                                else (
                                                                  none)))))))
                                                    else (
                                                      none))))
                                              | some p25 => (
                                                match (group_Group_G (some p)) with
                                                | none => none
                                                | some r141 => (
                                                  match (mont_Ring_Exp (some p25) r141 r5.1) with
                                                  | none => none
                                                  | some r142 => (
                                                    bif (eqF (.arr 4 (.int .u64)) r95 r142) then (
                                                      match (group_Group_Ring (some p)) with
                                                      | none => none
                                                      | some r143 => (
                                                        match r143 with
                                                        | none => (
                                                          match (group_Group_Q (some p)) with
                                                          | none => none
                                                          | some r152 => (
                                                            match (mont_Ring_Exp none r95 r152) with
                                                            | none => none
                                                            | some r153 => (
                                                              match (r01_Int 1) with
                                                              | none => none
                                                              | some r154 => (
                                                                bif (eqF (.arr 4 (.int .u64)) r153 r154) then (
                                                                  match (group_Group_Ring (some p)) with
                                                                  | none => none
                                                                  | some r155 => (
                                                                    match r155 with
                                                                    | none => (
                                                                      match (mont_Ring_In none r95) with
                                                                      | none => none
                                                                      | some r158 => (
                                                                        bif r158 then (
                                                                          match l07_awake with
                                                                          | none => none
                                                                          | some r159 => (
                                                                            bif r159 then (
                                                                              some ())
                                                                            else (
                                                                              none)))
                                                                        else (
                                                                          none)))
                                                                    | some p28 => (
                                                                      match (mont_Ring_In (some p28) r95) with
                                                                      | none => none
                                                                      | some r156 => (
                                                                        bif r156 then (
                                                                          match l07_awake with
                                                                          | none => none
                                                                          | some r157 => (
                                                                            bif r157 then (
                                                                              some ())
                                                                            else (
                                                                              none)))
                                                                        else (
                                                                          none)))))
                                                                else (
                                                                  none)))))
                                                        | some p26 => (
                                                          match (group_Group_Q (some p)) with
                                                          | none => none
                                                          | some r144 => (
                                                            match (mont_Ring_Exp (some p26) r95 r144) with
                                                            | none => none
                                                            | some r145 => (
                                                              match (r01_Int 1) with
                                                              | none => none
                                                              | some r146 => (
                                                                bif (eqF (.arr 4 (.int .u64)) r145 r146) then (
                                                                  match (group_Group_Ring (some p)) with
                                                                  | none => none
                                                                  | some r147 => (
                                                                    match r147 with
                                                                    | none => (
                                                                      match (mont_Ring_In none r95) with
                                                                      | none => none
                                                                      | some r150 => (
                                                                        bif r150 then (
                                                                          match l07_awake with
                                                                          | none => none
                                                                          | some r151 => (
                                                                            bif r151 then (
                                                                              some ())
                                                                            else (
                                                                              none)))
                                                                        else (
                                                                          none)))
                                                                    | some p27 => (
                                                                      match (mont_Ring_In (some p27) r95) with
                                                                      | none => none
                                                                      | some r148 => (
                                                                        bif r148 then (
                                                                          match l07_awake with
                                                                          | none => none
                                                                          | some r149 => (
                                                                            bif r149 then (
                                                                              some ())
                                                                            else (
                                                                              none)))
                                                                        else (
                                                                          none)))))
                                                                else (
                                                                  none)))))))
                                                    else (
                                                      none))))))
                                          else (
                                            none))))
                                    | some p17 => (
                                      match (group_Group_G (some p)) with
                                      | none => none
                                      | some r97 => (
                                        match (mont_Ring_Exp (some p17) r97 b) with
                                        | none => none
                                        | some r98 => (
                                          bif ((eqF (.arr 4 (.int .u64)) r95 r98) == (eqF (.arr 4 (.int .u64)) r5.1 r7.1)) then (
                                            match (group_Group_Ring (some p)) with
                                            | none => none
                                            | some r99 => (
                                              match r99 with
                                              | none => (
                                                match (group_Group_G (some p)) with
                                                | none => none
                                                | some r119 => (
                                                  match (mont_Ring_Exp none r119 r5.1) with
                                                  | none => none
                                                  | some r120 => (
                                                    bif (eqF (.arr 4 (.int .u64)) r95 r120) then (
                                                      match (group_Group_Ring (some p)) with
                                                      | none => none
                                                      | some r121 => (
                                                        match r121 with
                                                        | none => (
                                                          match (group_Group_Q (some p)) with
                                                          | none => none
                                                          | some r130 => (
                                                            match (mont_Ring_Exp none r95 r130) with
                                                            | none => none
                                                            | some r131 => (
                                                              match (r01_Int 1) with
                                                              | none => none
                                                              | some r132 => (
                                                                bif (eqF (.arr 4 (.int .u64)) r131 r132) then (
                                                                  match (group_Group_Ring (some p)) with
                                                                  | none => none
                                                                  | some r133 => (
                                                                    match r133 with
                                                                    | none => (
                                                                      match (mont_Ring_In none r95) with
                                                                      | none => none
                                                                      | some r136 => (
                                                                        bif r136 then (
                                                                          match l07_awake with
                                                                          | none => none
                                                                          | some r137 => (
                                                                            bif r137 then (
                                                                              some ())
                                                                            else (
                                                                              none)))
                                                                        else (
                                                                          none)))
                                                                    | some p24 => (
                                                                      match (mont_Ring_In (some p24) r95) with
                                                                      | none => none
                                                                      | some r134 => (
                                                                        bif r134 then (
                                                                          match l07_awake with
                                                                          | none => none
                                                                          | some r135 => (
                                                                            bif r135 then (
                                                                              some ())
                                                                            else (
                                                                              none)))
                                                                        else (
                                                                          none)))))
                                                                else (
                                                                  none)))))
                                                        | some p22 => (
                                                          match (group_Group_Q (some p)) with
                                                          | none => none
                                                          | some r122 => (
                                                            match (mont_Ring_Exp (some p22) r95 r122) with
                                                            | none => none
                                                            | some r123 => (
                                                              match (r01_Int 1) with
                                                              | none => none
                                                              | some r124 => (
                                                                bif (eqF (.arr 4 (.int .u64)) r123 r124) then (
                                                                  match (group_Group_Ring (some p)) with
                                                                  | none => none
                                                                  | some r125 => (
                                                                    match r125 with
                                                                    | none => (
                                                                      match (mont_Ring_In none r95) with
                                                                      | none => none
                                                                      | some r128 => (
                                                                        bif r128 then (
                                                                          match l07_awake with
                                                                          | none => none
                                                                          | some r129 => (
                                                                            bif r129 then (
                                                                              some ())
                                                                            else (
                                                                              none)))
                                                                        else (
                                                                          none)))
                                                                    | some p23 => (
                                                                      match (mont_Ring_In (some p23) r95) with
                                                                      | none => none
                                                                      | some r126 => (
                                                                        bif r126 then (
                                                                          match l07_awake with
                                                                          | none => none
                                                                          | some r127 => (
                                                                            bif r127 then (
                                                                              some ())
                                                                            else (
                                                                              none)))
                                                                        else (
                                                                          none)))))
                                                                else (
                                                                  none)))))))
                                                    else (
                                                      none))))
                                              | some p18 => (
                                                match (group_Group_G (some p)) with
                                                | none => none
                                                | some r100 => (
                                                  match (mont_Ring_Exp (some p18) r100 r5.1) with
                                                  | none => none
                                                  | some r101 => (
                                                    bif (eqF (.arr 4 (.int .u64)) r95 r101) then (
                                                      match (group_Group_Ring (some p)) with
                                                      | none => none
                                                      | some r102 => (
                                                        match r102 with
                                                        | none => (
                                                          match (group_Group_Q (some p)) with
                                                          | none => none
                                                          | some r111 => (
                                                            match (mont_Ring_Exp none r95 r111) with
                                                            | none => none
                                                            | some r112 => (
                                                              match (r01_Int 1) with
                                                              | none => none
                                                              | some r113 => (
                                                                bif (eqF (.arr 4 (.int .u64)) r112 r113) then (
                                                                  match (group_Group_Ring (some p)) with
                                                                  | none => none
                                                                  | some r114 => (
                                                                    match r114 with
                                                                    | none => (
                                                                      match (mont_Ring_In none r95) with
                                                                      | none => none
                                                                      | some r117 => (
                                                                        bif r117 then (
                                                                          match l07_awake with
                                                                          | none => none
                                                                          | some r118 => (
                                                                            bif r118 then (
                                                                              some ())
                                                                            else (
                                                                              none)))
                                                                        else (
                                                                          none)))
                                                                    | some p21 => (
                                                                      match (mont_Ring_In (some p21) r95) with
                                                                      | none => none
                                                                      | some r115 => (
                                                                        bif r115 then (
                                                                          match l07_awake with
                                                                          | none => none
                                                                          | some r116 => (
                                                                            bif r116 then (
                                                                              some ())
                                                                            else (
                                                                              none)))
                                                                        else (
                                                                          none)))))
                                                                else (
                                                                  none)))))
                                                        | some p19 => (
                                                          match (group_Group_Q (some p)) with
                                                          | none => none
                                                          | some r103 => (
                                                            match (mont_Ring_Exp (some p19) r95 r103) with
                                                            | none => none
                                                            | some r104 => (
                                                              match (r01_Int 1) with
                                                              | none => none
                                                              | some r105 => (
                                                                bif (eqF (.arr 4 (.int .u64)) r104 r105) then (
                                                                  match (group_Group_Ring (some p)) with
                                                                  | none => none
                                                                  | some r106 => (
                                                                    match r106 with
                                                                    | none => (
                                                                      match (mont_Ring_In none r95) with
                                                                      | none => none
                                                                      | some r109 => (
                                                                        bif r109 then (
                                                                          match l07_awake with
                                                                          | none => none
                                                                          | some r110 => (
                                                                            bif r110 then (
                                                                              some ())
                                                                            else (
                                                                              none)))
                                                                        else (
                                                                          none)))
                                                                    | some p20 => (
                                                                      match (mont_Ring_In (some p20) r95) with
                                                                      | none => none
                                                                      | some r107 => (
                                                                        bif r107 then (
                                                                          match l07_awake with
                                                                          | none => none
                                                                          | some r108 => (
                                                                            bif r108 then (
                                                                              some ())
                                                                            else (
                                                                              none)))
                                                                        else (
                                                                          none)))))
                                                                else (
                                                                  none)))))))
                                                    else (
                                                      none))))))
                                          else (
                                            none))))))))
                            | some p1 => (
                              match (group_Group_G (some p)) with
                              | none => none
                              | some r9 => (
                                match (mont_Ring_Exp (some p1) r9 a) with
                                | none => none
                                | some r10 => (
                                  match (group_Group_Ring (some p)) with
                                  | none => none
                                  | some r11 => (
                                    match r11 with
                                    | none => (
                                      match (group_Group_G (some p)) with
                                      | none => none
                                      | some r53 => (
                                        match (mont_Ring_Exp none r53 b) with
                                        | none => none
                                        | some r54 => (
                                          bif ((eqF (.arr 4 (.int .u64)) r10 r54) == (eqF (.arr 4 (.int .u64)) r5.1 r7.1)) then (
                                            match (group_Group_Ring (some p)) with
                                            | none => none
                                            | some r55 => (
                                              match r55 with
                                              | none => (
                                                match (group_Group_G (some p)) with
                                                | none => none
                                                | some r75 => (
                                                  match (mont_Ring_Exp none r75 r5.1) with
                                                  | none => none
                                                  | some r76 => (
                                                    bif (eqF (.arr 4 (.int .u64)) r10 r76) then (
                                                      match (group_Group_Ring (some p)) with
                                                      | none => none
                                                      | some r77 => (
                                                        match r77 with
                                                        | none => (
                                                          match (group_Group_Q (some p)) with
                                                          | none => none
                                                          | some r86 => (
                                                            match (mont_Ring_Exp none r10 r86) with
                                                            | none => none
                                                            | some r87 => (
                                                              match (r01_Int 1) with
                                                              | none => none
                                                              | some r88 => (
                                                                bif (eqF (.arr 4 (.int .u64)) r87 r88) then (
                                                                  match (group_Group_Ring (some p)) with
                                                                  | none => none
                                                                  | some r89 => (
                                                                    match r89 with
                                                                    | none => (
                                                                      match (mont_Ring_In none r10) with
                                                                      | none => none
                                                                      | some r92 => (
                                                                        bif r92 then (
                                                                          match l07_awake with
                                                                          | none => none
                                                                          | some r93 => (
                                                                            bif r93 then (
                                                                              some ())
                                                                            else (
                                                                              none)))
                                                                        else (
                                                                          none)))
                                                                    | some p16 => (
                                                                      match (mont_Ring_In (some p16) r10) with
                                                                      | none => none
                                                                      | some r90 => (
                                                                        bif r90 then (
                                                                          match l07_awake with
                                                                          | none => none
                                                                          | some r91 => (
                                                                            bif r91 then (
                                                                              some ())
                                                                            else (
                                                                              none)))
                                                                        else (
                                                                          none)))))
                                                                else (
                                                                  none)))))
                                                        | some p14 => (
                                                          match (group_Group_Q (some p)) with
                                                          | none => none
                                                          | some r78 => (
                                                            match (mont_Ring_Exp (some p14) r10 r78) with
                                                            | none => none
                                                            | some r79 => (
                                                              match (r01_Int 1) with
                                                              | none => none
                                                              | some r80 => (
                                                                bif (eqF (.arr 4 (.int .u64)) r79 r80) then (
                                                                  match (group_Group_Ring (some p)) with
                                                                  | none => none
                                                                  | some r81 => (
                                                                    match r81 with
                                                                    | none => (
                                                                      match (mont_Ring_In none r10) with
                                                                      | none => none
                                                                      | some r84 => (
                                                                        bif r84 then (
                                                                          match l07_awake with
                                                                          | none => none
                                                                          | some r85 => (
                                                                            bif r85 then (
                                                                              some ())
                                                                            else (
                                                                              none)))
                                                                        else (
                                                                          none)))
                                                                    | some p15 => (
                                                                      match (mont_Ring_In (some p15) r10) with
                                                                      | none => none
                                                                      | some r82 => (
                                                                        bif r82 then (
                                                                          match l07_awake with
                                                                          | none => none
                                                                          | some r83 => (
                                                                            bif r83 then (
                                                                              some ())
                                                                            else (
                                                                              none)))
                                                                        else (
                                                                          none)))))
                                                                else (
                                                                  none)))))))
                                                    else (
                                                      none))))
                                              | some p10 => (
                                                match (group_Group_G (some p)) with
                                                | none => none
                                                | some r56 => (
                                                  match (mont_Ring_Exp (some p10) r56 r5.1) with
                                                  | none => none
                                                  | some r57 => (
                                                    bif (eqF (.arr 4 (.int .u64)) r10 r57) then (
                                                      match (group_Group_Ring (some p)) with
                                                      | none => none
                                                      | some r58 => (
                                                        match r58 with
                                                        | none => (
                                                          match (group_Group_Q (some p)) with
                                                          | none => none
                                                          | some r67 => (
                                                            match (mont_Ring_Exp none r10 r67) with
                                                            | none => none
                                                            | some r68 => (
                                                              match (r01_Int 1) with
                                                              | none => none
                                                              | some r69 => (
                                                                bif (eqF (.arr 4 (.int .u64)) r68 r69) then (
                                                                  match (group_Group_Ring (some p)) with
                                                                  | none => none
                                                                  | some r70 => (
                                                                    match r70 with
                                                                    | none => (
                                                                      match (mont_Ring_In none r10) with
                                                                      | none => none
                                                                      | some r73 => (
                                                                        bif r73 then (
                                                                          match l07_awake with
                                                                          | none => none
                                                                          | some r74 => (
                                                                            bif r74 then (
                                                                              some ())
                                                                            else (
                                                                              none)))
                                                                        else (
                                                                          none)))
                                                                    | some p13 => (
                                                                      match (mont_Ring_In (some p13) r10) with
                                                                      | none => none
                                                                      | some r71 => (
                                                                        bif r71 then (
                                                                          match l07_awake with
                                                                          | none => none
                                                                          | some r72 => (
                                                                            bif r72 then (
                                                                              some ())
                                                                            else (
                                                                              none)))
                                                                        else (
                                                                          none)))))
                                                                else (
                                                                  none)))))
                                                        | some p11 => (
                                                          match (group_Group_Q (some p)) with
                                                          | none => none
                                                          | some r59 => (
                                                            match (mont_Ring_Exp (some p11) r10 r59) with
                                                            | none => none
                                                            | some r60 => (
                                                              match (r01_Int 1) with
                                                              | none => none
                                                              | some r61 => (
                                                                bif (eqF (.arr 4 (.int .u64)) r60 r61) then (
                                                                  match (group_Group_Ring (some p)) with
                                                                  | none => none
                                                                  | some r62 => (
                                                                    match r62 with
                                                                    | none => (
                                                                      match (mont_Ring_In none r10) with
                                                                      | none => none
                                                                      | some r65 => (
                                                                        bif r65 then (
                                                                          match l07_awake with
                                                                          | none => none
                                                                          | some r66 => (
                                                                            bif r66 then (
                                                                              some ())
                                                                            else (
                                                                              none)))
                                                                        else (
                                                                          none)))
                                                                    | some p12 => (
                                                                      match (mont_Ring_In (some p12) r10) with
                                                                      | none => none
                                                                      | some r63 => (
                                                                        bif r63 then (
                                                                          match l07_awake with
                                                                          | none => none
                                                                          | some r64 => (
                                                                            bif r64 then (
                                                                              some ())
                                                                            else (
                                                                              none)))
                                                                        else (
                                                                          none)))))
                                                                else (
                                                                  none)))))))
                                                    else (
                                                      none))))))
                                          else (
                                            none))))
                                    | some p2 => (
                                      match (group_Group_G (some p)) with
                                      | none => none
                                      | some r12 => (
                                        match (mont_Ring_Exp (some p2) r12 b) with
                                        | none => none
                                        | some r13 => (
                                          bif ((eqF (.arr 4 (.int .u64)) r10 r13) == (eqF (.arr 4 (.int .u64)) r5.1 r7.1)) then (
                                            match (group_Group_Ring (some p)) with
                                            | none => none
                                            | some r14 => (
                                              match r14 with
                                              | none => (
                                                match (group_Group_G (some p)) with
                                                | none => none
                                                | some r34 => (
                                                  match (mont_Ring_Exp none r34 r5.1) with
                                                  | none => none
                                                  | some r35 => (
                                                    bif (eqF (.arr 4 (.int .u64)) r10 r35) then (
                                                      match (group_Group_Ring (some p)) with
                                                      | none => none
                                                      | some r36 => (
                                                        match r36 with
                                                        | none => (
                                                          match (group_Group_Q (some p)) with
                                                          | none => none
                                                          | some r45 => (
                                                            match (mont_Ring_Exp none r10 r45) with
                                                            | none => none
                                                            | some r46 => (
                                                              match (r01_Int 1) with
                                                              | none => none
                                                              | some r47 => (
                                                                bif (eqF (.arr 4 (.int .u64)) r46 r47) then (
                                                                  match (group_Group_Ring (some p)) with
                                                                  | none => none
                                                                  | some r48 => (
                                                                    match r48 with
                                                                    | none => (
                                                                      match (mont_Ring_In none r10) with
                                                                      | none => none
                                                                      | some r51 => (
                                                                        bif r51 then (
                                                                          match l07_awake with
                                                                          | none => none
                                                                          | some r52 => (
                                                                            bif r52 then (
                                                                              some ())
                                                                            else (
                                                                              none)))
                                                                        else (
                                                                          none)))
                                                                    | some p9 => (
                                                                      match (mont_Ring_In (some p9) r10) with
                                                                      | none => none
                                                                      | some r49 => (
                                                                        bif r49 then (
                                                                          match l07_awake with
                                                                          | none => none
                                                                          | some r50 => (
                                                                            bif r50 then (
                                                                              some ())
                                                                            else (
                                                                              none)))
                                                                        else (
                                                                          none)))))
                                                                else (
                                                                  none)))))
                                                        | some p7 => (
                                                          match (group_Group_Q (some p)) with
                                                          | none => none
                                                          | some r37 => (
                                                            match (mont_Ring_Exp (some p7) r10 r37) with
                                                            | none => none
                                                            | some r38 => (
                                                              match (r01_Int 1) with
                                                              | none => none
                                                              | some r39 => (
                                                                bif (eqF (.arr 4 (.int .u64)) r38 r39) then (
                                                                  match (group_Group_Ring (some p)) with
                                                                  | none => none
                                                                  | some r40 => (
                                                                    match r40 with
                                                                    | none => (
                                                                      match (mont_Ring_In none r10) with
                                                                      | none => none
                                                                      | some r43 => (
                                                                        bif r43 then (
                                                                          match l07_awake with
                                                                          | none => none
                                                                          | some r44 => (
                                                                            bif r44 then (
                                                                              some ())
                                                                            else (
                                                                              none)))
                                                                        else (
                                                                          none)))
                                                                    | some p8 => (
                                                                      match (mont_Ring_In (some p8) r10) with
                                                                      | none => none
                                                                      | some r41 => (
                                                                        bif r41 then (
                                                                          match l07_awake with
                                                                          | none => none
                                                                          | some r42 => (
                                                                            bif r42 then (
                                                                              some ())
                                                                            else (
                                                                              none)))
                                                                        else (
                                                                          none)))))
                                                                else (
                                                                  none)))))))
                                                    else (
                                                      none))))
                                              | some p3 => (
                                                match (group_Group_G (some p)) with
                                                | none => none
                                                | some r15 => (
                                                  match (mont_Ring_Exp (some p3) r15 r5.1) with
                                                  | none => none
                                                  | some r16 => (
                                                    bif (eqF (.arr 4 (.int .u64)) r10 r16) then (
                                                      match (group_Group_Ring (some p)) with
                                                      | none => none
                                                      | some r17 => (
                                                        match r17 with
                                                        | none => (
                                                          match (group_Group_Q (some p)) with
                                                          | none => none
                                                          | some r26 => (
                                                            match (mont_Ring_Exp none r10 r26) with
                                                            | none => none
                                                            | some r27 => (
                                                              match (r01_Int 1) with
                                                              | none => none
                                                              | some r28 => (
                                                                bif (eqF (.arr 4 (.int .u64)) r27 r28) then (
                                                                  match (group_Group_Ring (some p)) with
                                                                  | none => none
                                                                  | some r29 => (
                                                                    match r29 with
                                                                    | none => (
                                                                      match (mont_Ring_In none r10) with
                                                                      | none => none
                                                                      | some r32 => (
                                                                        bif r32 then (
                                                                          match l07_awake with
                                                                          | none => none
                                                                          | some r33 => (
                                                                            bif r33 then (
                                                                              some ())
                                                                            else (
                                                                              none)))
                                                                        else (
                                                                          none)))
                                                                    | some p6 => (
                                                                      match (mont_Ring_In (some p6) r10) with
                                                                      | none => none
                                                                      | some r30 => (
                                                                        bif r30 then (
                                                                          match l07_awake with
                                                                          | none => none
                                                                          | some r31 => (
                                                                            bif r31 then (
                                                                              some ())
                                                                            else (
                                                                              none)))
                                                                        else (
                                                                          none)))))
                                                                else (
                                                                  none)))))
                                                        | some p4 => (
                                                          match (group_Group_Q (some p)) with
                                                          | none => none
                                                          | some r18 => (
                                                            match (mont_Ring_Exp (some p4) r10 r18) with
                                                            | none => none
                                                            | some r19 => (
                                                              match (r01_Int 1) with
                                                              | none => none
                                                              | some r20 => (
                                                                bif (eqF (.arr 4 (.int .u64)) r19 r20) then (
                                                                  match (group_Group_Ring (some p)) with
                                                                  | none => none
                                                                  | some r21 => (
                                                                    match r21 with
                                                                    | none => (
                                                                      match (mont_Ring_In none r10) with
                                                                      | none => none
                                                                      | some r24 => (
                                                                        bif r24 then (
                                                                          match l07_awake with
                                                                          | none => none
                                                                          | some r25 => (
                                                                            bif r25 then (
                                                                              some ())
                                                                            else (
                                                                              none)))
                                                                        else (
                                                                          none)))
                                                                    | some p5 => (
                                                                      match (mont_Ring_In (some p5) r10) with
                                                                      | none => none
                                                                      | some r22 => (
                                                                        bif r22 then (
                                                                          match l07_awake with
                                                                          | none => none
                                                                          | some r23 => (
                                                                            bif r23 then (
                                                                              some ())
                                                                            else (
                                                                              none)))
                                                                        else (
                                                                          none)))))
                                                                else (
                                                                  none)))))))
                                                    else (
                                                      none))))))
                                          else (
                                            none))))))))))))))))))
        else (
          none))))
end Go.Pl

set_option linter.unusedVariables false
set_option linter.unusedSimpArgs false
set_option maxRecDepth 100000
set_option maxHeartbeats 0
namespace Go.Pl
end Go.Pl
open Go Go.Den Go.Pl
namespace Go.Proofs.Ytoofellokbgmaaa
noncomputable def x_l07_GroupOrder : Cx := { ti := ti, con := [(35, c_group_Least), (37, c_group_Other), (39, c_group_Great), (17, c_group_New), (28, c_group_Group_Q), (43, c_r02_Rem), (33, c_group_Group_Ring), (30, c_group_Group_G), (44, c_mont_Ring_Exp), (45, c_r01_Int), (46, c_mont_Ring_In), (23, c_l07_awake)], fns := [], un := 6 }
theorem xok_l07_GroupOrder : CxOk Try.prog x_l07_GroupOrder := CxOk.of mixed ti_ok (List.forall_mem_cons.2 ⟨con_group_Least, List.forall_mem_cons.2 ⟨con_group_Other, List.forall_mem_cons.2 ⟨con_group_Great, List.forall_mem_cons.2 ⟨con_group_New, List.forall_mem_cons.2 ⟨con_group_Group_Q, List.forall_mem_cons.2 ⟨con_r02_Rem, List.forall_mem_cons.2 ⟨con_group_Group_Ring, List.forall_mem_cons.2 ⟨con_group_Group_G, List.forall_mem_cons.2 ⟨con_mont_Ring_Exp, List.forall_mem_cons.2 ⟨con_r01_Int, List.forall_mem_cons.2 ⟨con_mont_Ring_In, List.forall_mem_cons.2 ⟨con_l07_awake, List.forall_mem_nil _⟩⟩⟩⟩⟩⟩⟩⟩⟩⟩⟩⟩) (List.forall_mem_nil _)
theorem fn_l07_GroupOrder : FnOk Try.prog 7 Try.f7 [] := ⟨Try.func7, Try.call7, lps_nil⟩
theorem e_l07_GroupOrder (which : Int) (a : (Nat → Int)) (b : (Nat → Int)) : bodyK x_l07_GroupOrder [] (denF x_l07_GroupOrder 8) Try.f7 (domV [(.int .i64), (.arr 4 (.int .u64)), (.arr 4 (.int .u64))] (which, a, b, ())) [] 0 kTrue = l07_GroupOrder' which a b := by kernel_rfl
end Go.Proofs.Ytoofellokbgmaaa

set_option linter.unusedVariables false
set_option linter.unusedSimpArgs false
namespace Go.Pl
open Go Go.Den Go.Num

theorem l07_GroupOrder_true {which : Int} {a b : Nat → Int} (hw : Go.Den.Good (.int .i64) which) (ha : Go.Den.Good (.arr 4 (.int .u64)) a) (hb : Go.Den.Good (.arr 4 (.int .u64)) b) : l07_GroupOrder' which a b = some () := by
  obtain ⟨x, hx⟩ := good_nat ha
  obtain ⟨y, hy⟩ := good_nat hb
  obtain ⟨i, hi, hi2⟩ := three_idx which
  obtain ⟨k, l, ga, g, P, Q, G, t1, hg⟩ := three_spec hi
  unfold l07_GroupOrder'
  have hgg := hg.group
  have hqpos := hgg.qpos
  have hP1 := hgg.pp.1
  have hi3 : inb ((i : Nat) : Int) 3 = true := by
    rw [inb_t] <;> omega
  obtain ⟨q, q1, q2⟩ := group_Q_spec hgg
  obtain ⟨r, r1, hr⟩ := group_Ring_spec hgg
  obtain ⟨u, u1, u2⟩ := r02_Rem_spec0 hx q2 hqpos
  obtain ⟨v, v1, v2⟩ := r02_Rem_spec0 hy q2 hqpos
  obtain ⟨A, A1, A2⟩ := mont_Exp_spec hr hgg.gen hx
  obtain ⟨B, B1, B2⟩ := mont_Exp_spec hr hgg.gen hy
  obtain ⟨C, C1, C2⟩ := mont_Exp_spec hr hgg.gen u2
  obtain ⟨D, D1, D2⟩ := mont_Exp_spec hr A2 q2
  obtain ⟨o, o1, o2⟩ := r01_Int_spec (n := 1) (by decide)
  have o2' : IsN o 1 := o2
  have hp := hgg.pow_in x
  have C3 : IsN C (G ^ x % P) := C2.of_eq (pow_mod_order hP1 hgg.order x).symm
  have D3 : IsN D 1 := D2.of_eq hp.2.2
  have hs : (decide (G ^ x % P = G ^ y % P) == decide (x % Q = y % Q)) = true := by
    have h := pow_order hgg.pp hgg.pq hgg.g1 hgg.gP hgg.order x y
    by_cases h1 : x % Q = y % Q
    · rw [decide_eq_true h1, decide_eq_true (h.2 h1)]; rfl
    · rw [decide_eq_false h1, decide_eq_false (fun h2 => h1 (h.1 h2))]; rfl
  have hs' : (eqF (.arr 4 (.int .u64)) A B == eqF (.arr 4 (.int .u64)) u v) = true := by
    rw [A2.eqb B2, u2.eqb v2]; exact hs
  have hin : mont_Ring_In (some r) A = some true := by
    rw [mont_In_spec hr A2, decide_eq_true hp.2.1]
  have hac : eqF (.arr 4 (.int .u64)) A C = true := by
    rw [A2.eqb C3]; exact decide_eq_true rfl
  have hdo : eqF (.arr 4 (.int .u64)) D o = true := by
    rw [D3.eqb o2']; exact decide_eq_true rfl
  simp (disch := first | omega | assumption) only [wrap_i64n, wrapun, dec_t, dec_f, inb_t, cond_true, cond_false, Int.toNat_natCast, beq_t, beq_f, bne_t, bne_f, Bool.not_true, Bool.not_false, Int.reduceToNat, ft_b, tf_b, tt_b, ff_b, decide_true, decide_false, hi2, hi3, group_Least_eq2, group_Other_eq2, group_Great_eq2, t1, hg.made, q1, u1, v1, r1, group_G_spec hgg, A1, B1, hs', C1, hac, D1, o1, hdo, hin, l07_awake_spec]
end Go.Pl
