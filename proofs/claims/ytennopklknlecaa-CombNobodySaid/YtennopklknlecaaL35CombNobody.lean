/-
  One statement, plainly.
-/
import Derived.Test.YtennopklknlecaaDenD
import Derived.Test.YtennopklknlecaaPcomb
import Derived.Test.YtennopklknlecaaL35
import Derived.Test.YtennopklknlecaaEqA
import Derived.Test.YtennopklknlecaaEcomb
set_option linter.unusedVariables false
set_option linter.unusedSimpArgs false
set_option maxRecDepth 100000
set_option maxHeartbeats 0
namespace Go.Pl
end Go.Pl
open Go Go.Den Go.Pl
namespace Go.Pl
noncomputable def l35_CombNobody' (e : (Nat → Int)) : Option (Unit) :=
 match (comb_Table_Exp none e) with
 | none => none
 | some r => (
  match (comb_Multi 1 (fun j => (upd (fun _ => .nil) 0 .nil) (0 + j)) 1 (fun j => (upd (fun _ => (fun _ => 0)) 0 e) (0 + j))) with
  | none => none
  | some r1 => (
   bif (!(eqF (.arr 4 (.int .u64)) r.1 (fun _ => 0))) then (
    none)
   else (
    bif (r.2 != 1) then (
     none)
    else (
     bif (!(eqF (.arr 4 (.int .u64)) r1.1 (fun _ => 0))) then (
      none)
     else (
      bif (r1.2 != 1) then (
       none)
      else (
       match (comb_Table_Bits none) with
       | none => none
       | some r2 => (
        bif (r2 != 0) then (
         none)
        else (
         match (comb_Table_Base none) with
         | none => none
         | some r3 => (
          bif (!(eqF (.arr 4 (.int .u64)) r3 (fun _ => 0))) then (
           none)
          else (
           match (comb_Table_Exp (some (.nil, ((fun _ => 0), (0, .nil)))) e) with
           | none => none
           | some r4 => (
            match (comb_Multi 1 (fun j => (upd (fun _ => .nil) 0 (.fz (.nil, ((fun _ => 0), (0, .nil))))) (0 + j)) 1 (fun j => (upd (fun _ => (fun _ => 0)) 0 e) (0 + j))) with
            | none => none
            | some r5 => (
             bif (!(eqF (.arr 4 (.int .u64)) r4.1 (fun _ => 0))) then (
              none)
             else (
              bif (r4.2 != 1) then (
               none)
              else (
               bif (!(eqF (.arr 4 (.int .u64)) r5.1 (fun _ => 0))) then (
                none)
               else (
                bif (r5.2 != 1) then (
                 none)
                else (
                 match (comb_Table_Bits (some (.nil, ((fun _ => 0), (0, .nil))))) with
                 | none => none
                 | some r6 => (
                  bif (r6 != 0) then (
                   none)
                  else (
                   match (comb_Table_Base (some (.nil, ((fun _ => 0), (0, .nil))))) with
                   | none => none
                   | some r7 => (
                    bif (!(eqF (.arr 4 (.int .u64)) r7 (fun _ => 0))) then (
                     none)
                    else (
                     match (l35_small 0) with
                     | none => none
                     | some r8 => (
                      match r8.1 with
                      | none => (
                       match (l35_small 1) with
                       | none => none
                       | some r94 => (
                        match r94.1 with
                        | none => (
                         match (l35_of 3) with
                         | none => none
                         | some r137 => (
                          match (comb_New none r137 9) with
                          | none => none
                          | some r138 => (
                           match r138.1 with
                           | none => (
                            match (l35_of 3) with
                            | none => none
                            | some r159 => (
                             match (comb_New none r159 9) with
                             | none => none
                             | some r160 => (
                              match r160.1 with
                              | none => (
                               match (l35_of 1) with
                               | none => none
                               | some r170 => (
                                match (l35_of 1) with
                                | none => none
                                | some r171 => (
                                 match (comb_Multi 2 (fun j => (upd (upd (fun _ => .nil) 0 .nil) 1 .nil) (0 + j)) 2 (fun j => (upd (upd (fun _ => (fun _ => 0)) 0 r170) 1 r171) (0 + j))) with
                                 | none => none
                                 | some r172 => (
                                  match (comb_Multi 0 (fun _ => .nil) 0 (fun _ => (fun _ => 0))) with
                                  | none => none
                                  | some r173 => (
                                   match (l35_of 3) with
                                   | none => none
                                   | some r174 => (
                                    match (comb_New none r174 9) with
                                    | none => none
                                    | some r175 => (
                                     match r175.1 with
                                     | none => (
                                      bif (r138.2 == 0) then (
                                       bif (r160.2 == 0) then (
                                        bif (r172.2 == 1) then (
                                         match (l35_of 1) with
                                         | none => none
                                         | some r177 => (
                                          bif (eqF (.arr 4 (.int .u64)) r173.1 r177) then (
                                           bif (r173.2 == 0) then (
                                            bif (r175.2 == 1) then (
                                             match l35_awake with
                                             | none => none
                                             | some r178 => (
                                              bif r178 then (
                                               some ())
                                              else (
                                               none)))
                                            else (
                                             none))
                                           else (
                                            none))
                                          else (
                                           none)))
                                        else (
                                         none))
                                       else (
                                        none))
                                      else (
                                       none))
                                     | some p30 => (
                                      bif (r138.2 == 0) then (
                                       bif (r160.2 == 0) then (
                                        bif (r172.2 == 1) then (
                                         match (l35_of 1) with
                                         | none => none
                                         | some r176 => (
                                          bif (eqF (.arr 4 (.int .u64)) r173.1 r176) then (
                                           bif (r173.2 == 0) then (
                                            none)
                                           else (
                                            none))
                                          else (
                                           none)))
                                        else (
                                         none))
                                       else (
                                        none))
                                      else (
                                       none)))))))))
                              | some p28 => (
                               match (l35_of 1) with
                               | none => none
                               | some r161 => (
                                match (l35_of 1) with
                                | none => none
                                | some r162 => (
                                 match (comb_Multi 2 (fun j => (upd (upd (fun _ => .nil) 0 .nil) 1 (.fz p28)) (0 + j)) 2 (fun j => (upd (upd (fun _ => (fun _ => 0)) 0 r161) 1 r162) (0 + j))) with
                                 | none => none
                                 | some r163 => (
                                  match (comb_Multi 0 (fun _ => .nil) 0 (fun _ => (fun _ => 0))) with
                                  | none => none
                                  | some r164 => (
                                   match (l35_of 3) with
                                   | none => none
                                   | some r165 => (
                                    match (comb_New none r165 9) with
                                    | none => none
                                    | some r166 => (
                                     match r166.1 with
                                     | none => (
                                      bif (r138.2 == 0) then (
                                       bif (r160.2 == 0) then (
                                        bif (r163.2 == 1) then (
                                         match (l35_of 1) with
                                         | none => none
                                         | some r168 => (
                                          bif (eqF (.arr 4 (.int .u64)) r164.1 r168) then (
                                           bif (r164.2 == 0) then (
                                            bif (r166.2 == 1) then (
                                             match l35_awake with
                                             | none => none
                                             | some r169 => (
                                              bif r169 then (
                                               some ())
                                              else (
                                               none)))
                                            else (
                                             none))
                                           else (
                                            none))
                                          else (
                                           none)))
                                        else (
                                         none))
                                       else (
                                        none))
                                      else (
                                       none))
                                     | some p29 => (
                                      bif (r138.2 == 0) then (
                                       bif (r160.2 == 0) then (
                                        bif (r163.2 == 1) then (
                                         match (l35_of 1) with
                                         | none => none
                                         | some r167 => (
                                          bif (eqF (.arr 4 (.int .u64)) r164.1 r167) then (
                                           bif (r164.2 == 0) then (
                                            none)
                                           else (
                                            none))
                                          else (
                                           none)))
                                        else (
                                         none))
                                       else (
                                        none))
                                      else (
                                       none))))))))))))
                           | some p24 => (
                            match (l35_of 3) with
                            | none => none
                            | some r139 => (
                             match (comb_New none r139 9) with
                             | none => none
                             | some r140 => (
                              match r140.1 with
                              | none => (
                               match (l35_of 1) with
                               | none => none
                               | some r150 => (
                                match (l35_of 1) with
                                | none => none
                                | some r151 => (
                                 match (comb_Multi 2 (fun j => (upd (upd (fun _ => .nil) 0 (.fz p24)) 1 .nil) (0 + j)) 2 (fun j => (upd (upd (fun _ => (fun _ => 0)) 0 r150) 1 r151) (0 + j))) with
                                 | none => none
                                 | some r152 => (
                                  match (comb_Multi 0 (fun _ => .nil) 0 (fun _ => (fun _ => 0))) with
                                  | none => none
                                  | some r153 => (
                                   match (l35_of 3) with
                                   | none => none
                                   | some r154 => (
                                    match (comb_New none r154 9) with
                                    | none => none
                                    | some r155 => (
                                     match r155.1 with
                                     | none => (
                                      bif (r138.2 == 0) then (
                                       bif (r140.2 == 0) then (
                                        bif (r152.2 == 1) then (
                                         match (l35_of 1) with
                                         | none => none
                                         | some r157 => (
                                          bif (eqF (.arr 4 (.int .u64)) r153.1 r157) then (
                                           bif (r153.2 == 0) then (
                                            bif (r155.2 == 1) then (
                                             match l35_awake with
                                             | none => none
                                             | some r158 => (
                                              bif r158 then (
                                               some ())
                                              else (
                                               none)))
                                            else (
                                             none))
                                           else (
                                            none))
                                          else (
                                           none)))
                                        else (
                                         none))
                                       else (
                                        none))
                                      else (
                                       none))
                                     | some p27 => (
                                      bif (r138.2 == 0) then (
                                       bif (r140.2 == 0) then (
                                        bif (r152.2 == 1) then (
                                         match (l35_of 1) with
                                         | none => none
                                         | some r156 => (
                                          bif (eqF (.arr 4 (.int .u64)) r153.1 r156) then (
                                           bif (r153.2 == 0) then (
                                            none)
                                           else (
                                            none))
                                          else (
                                           none)))
                                        else (
                                         none))
                                       else (
                                        none))
                                      else (
                                       none)))))))))
                              | some p25 => (
                               match (l35_of 1) with
                               | none => none
                               | some r141 => (
                                match (l35_of 1) with
                                | none => none
                                | some r142 => (
                                 match (comb_Multi 2 (fun j => (upd (upd (fun _ => .nil) 0 (.fz p24)) 1 (.fz p25)) (0 + j)) 2 (fun j => (upd (upd (fun _ => (fun _ => 0)) 0 r141) 1 r142) (0 + j))) with
                                 | none => none
                                 | some r143 => (
                                  match (comb_Multi 0 (fun _ => .nil) 0 (fun _ => (fun _ => 0))) with
                                  | none => none
                                  | some r144 => (
                                   match (l35_of 3) with
                                   | none => none
                                   | some r145 => (
                                    match (comb_New none r145 9) with
                                    | none => none
                                    | some r146 => (
                                     match r146.1 with
                                     | none => (
                                      bif (r138.2 == 0) then (
                                       bif (r140.2 == 0) then (
                                        bif (r143.2 == 1) then (
                                         match (l35_of 1) with
                                         | none => none
                                         | some r148 => (
                                          bif (eqF (.arr 4 (.int .u64)) r144.1 r148) then (
                                           bif (r144.2 == 0) then (
                                            bif (r146.2 == 1) then (
                                             match l35_awake with
                                             | none => none
                                             | some r149 => (
                                              bif r149 then (
                                               some ())
                                              else (
                                               none)))
                                            else (
                                             none))
                                           else (
                                            none))
                                          else (
                                           none)))
                                        else (
                                         none))
                                       else (
                                        none))
                                      else (
                                       none))
                                     | some p26 => (
                                      bif (r138.2 == 0) then (
                                       bif (r140.2 == 0) then (
                                        bif (r143.2 == 1) then (
                                         match (l35_of 1) with
                                         | none => none
                                         | some r147 => (
                                          bif (eqF (.arr 4 (.int .u64)) r144.1 r147) then (
                                           bif (r144.2 == 0) then (
                                            none)
                                           else (
                                            none))
                                          else (
                                           none)))
                                        else (
                                         none))
                                       else (
                                        none))
                                      else (
                                       none)))))))))))))))
                        | some p16 => (
                         match (l35_of 3) with
                         | none => none
                         | some r95 => (
                          match (comb_New none r95 9) with
                          | none => none
                          | some r96 => (
                           match r96.1 with
                           | none => (
                            match (l35_of 3) with
                            | none => none
                            | some r117 => (
                             match (comb_New (some p16) r117 9) with
                             | none => none
                             | some r118 => (
                              match r118.1 with
                              | none => (
                               match (l35_of 1) with
                               | none => none
                               | some r128 => (
                                match (l35_of 1) with
                                | none => none
                                | some r129 => (
                                 match (comb_Multi 2 (fun j => (upd (upd (fun _ => .nil) 0 .nil) 1 .nil) (0 + j)) 2 (fun j => (upd (upd (fun _ => (fun _ => 0)) 0 r128) 1 r129) (0 + j))) with
                                 | none => none
                                 | some r130 => (
                                  match (comb_Multi 0 (fun _ => .nil) 0 (fun _ => (fun _ => 0))) with
                                  | none => none
                                  | some r131 => (
                                   match (l35_of 3) with
                                   | none => none
                                   | some r132 => (
                                    match (comb_New none r132 9) with
                                    | none => none
                                    | some r133 => (
                                     match r133.1 with
                                     | none => (
                                      bif (r96.2 == 0) then (
                                       bif (r118.2 == 0) then (
                                        bif (r130.2 == 1) then (
                                         match (l35_of 1) with
                                         | none => none
                                         | some r135 => (
                                          bif (eqF (.arr 4 (.int .u64)) r131.1 r135) then (
                                           bif (r131.2 == 0) then (
                                            bif (r133.2 == 1) then (
                                             match l35_awake with
                                             | none => none
                                             | some r136 => (
                                              bif r136 then (
                                               some ())
                                              else (
                                               none)))
                                            else (
                                             none))
                                           else (
                                            none))
                                          else (
                                           none)))
                                        else (
                                         none))
                                       else (
                                        none))
                                      else (
                                       none))
                                     | some p23 => (
                                      bif (r96.2 == 0) then (
                                       bif (r118.2 == 0) then (
                                        bif (r130.2 == 1) then (
                                         match (l35_of 1) with
                                         | none => none
                                         | some r134 => (
                                          bif (eqF (.arr 4 (.int .u64)) r131.1 r134) then (
                                           bif (r131.2 == 0) then (
                                            none)
                                           else (
                                            none))
                                          else (
                                           none)))
                                        else (
                                         none))
                                       else (
                                        none))
                                      else (
                                       none)))))))))
                              | some p21 => (
                               match (l35_of 1) with
                               | none => none
                               | some r119 => (
                                match (l35_of 1) with
                                | none => none
                                | some r120 => (
                                 match (comb_Multi 2 (fun j => (upd (upd (fun _ => .nil) 0 .nil) 1 (.fz p21)) (0 + j)) 2 (fun j => (upd (upd (fun _ => (fun _ => 0)) 0 r119) 1 r120) (0 + j))) with
                                 | none => none
                                 | some r121 => (
                                  match (comb_Multi 0 (fun _ => .nil) 0 (fun _ => (fun _ => 0))) with
                                  | none => none
                                  | some r122 => (
                                   match (l35_of 3) with
                                   | none => none
                                   | some r123 => (
                                    match (comb_New none r123 9) with
                                    | none => none
                                    | some r124 => (
                                     match r124.1 with
                                     | none => (
                                      bif (r96.2 == 0) then (
                                       bif (r118.2 == 0) then (
                                        bif (r121.2 == 1) then (
                                         match (l35_of 1) with
                                         | none => none
                                         | some r126 => (
                                          bif (eqF (.arr 4 (.int .u64)) r122.1 r126) then (
                                           bif (r122.2 == 0) then (
                                            bif (r124.2 == 1) then (
                                             match l35_awake with
                                             | none => none
                                             | some r127 => (
                                              bif r127 then (
                                               some ())
                                              else (
                                               none)))
                                            else (
                                             none))
                                           else (
                                            none))
                                          else (
                                           none)))
                                        else (
                                         none))
                                       else (
                                        none))
                                      else (
                                       none))
                                     | some p22 => (
                                      bif (r96.2 == 0) then (
                                       bif (r118.2 == 0) then (
                                        bif (r121.2 == 1) then (
                                         match (l35_of 1) with
                                         | none => none
                                         | some r125 => (
                                          bif (eqF (.arr 4 (.int .u64)) r122.1 r125) then (
                                           bif (r122.2 == 0) then (
                                            none)
                                           else (
                                            none))
                                          else (
                                           none)))
                                        else (
                                         none))
                                       else (
                                        none))
                                      else (
                                       none))))))))))))
                           | some p17 => (
                            match (l35_of 3) with
                            | none => none
                            | some r97 => (
                             match (comb_New (some p16) r97 9) with
                             | none => none
                             | some r98 => (
                              match r98.1 with
                              | none => (
                               match (l35_of 1) with
                               | none => none
                               | some r108 => (
                                match (l35_of 1) with
                                | none => none
                                | some r109 => (
                                 match (comb_Multi 2 (fun j => (upd (upd (fun _ => .nil) 0 (.fz p17)) 1 .nil) (0 + j)) 2 (fun j => (upd (upd (fun _ => (fun _ => 0)) 0 r108) 1 r109) (0 + j))) with
                                 | none => none
                                 | some r110 => (
                                  match (comb_Multi 0 (fun _ => .nil) 0 (fun _ => (fun _ => 0))) with
                                  | none => none
                                  | some r111 => (
                                   match (l35_of 3) with
                                   | none => none
                                   | some r112 => (
                                    match (comb_New none r112 9) with
                                    | none => none
                                    | some r113 => (
                                     match r113.1 with
                                     | none => (
                                      bif (r96.2 == 0) then (
                                       bif (r98.2 == 0) then (
                                        bif (r110.2 == 1) then (
                                         match (l35_of 1) with
                                         | none => none
                                         | some r115 => (
                                          bif (eqF (.arr 4 (.int .u64)) r111.1 r115) then (
                                           bif (r111.2 == 0) then (
                                            bif (r113.2 == 1) then (
                                             match l35_awake with
                                             | none => none
                                             | some r116 => (
                                              bif r116 then (
                                               some ())
                                              else (
                                               none)))
                                            else (
                                             none))
                                           else (
                                            none))
                                          else (
                                           none)))
                                        else (
                                         none))
                                       else (
                                        none))
                                      else (
                                       none))
                                     | some p20 => (
                                      bif (r96.2 == 0) then (
                                       bif (r98.2 == 0) then (
                                        bif (r110.2 == 1) then (
                                         match (l35_of 1) with
                                         | none => none
                                         | some r114 => (
                                          bif (eqF (.arr 4 (.int .u64)) r111.1 r114) then (
                                           bif (r111.2 == 0) then (
                                            none)
                                           else (
                                            none))
                                          else (
                                           none)))
                                        else (
                                         none))
                                       else (
                                        none))
                                      else (
                                       none)))))))))
                              | some p18 => (
                               match (l35_of 1) with
                               | none => none
                               | some r99 => (
                                match (l35_of 1) with
                                | none => none
                                | some r100 => (
                                 match (comb_Multi 2 (fun j => (upd (upd (fun _ => .nil) 0 (.fz p17)) 1 (.fz p18)) (0 + j)) 2 (fun j => (upd (upd (fun _ => (fun _ => 0)) 0 r99) 1 r100) (0 + j))) with
                                 | none => none
                                 | some r101 => (
                                  match (comb_Multi 0 (fun _ => .nil) 0 (fun _ => (fun _ => 0))) with
                                  | none => none
                                  | some r102 => (
                                   match (l35_of 3) with
                                   | none => none
                                   | some r103 => (
                                    match (comb_New none r103 9) with
                                    | none => none
                                    | some r104 => (
                                     match r104.1 with
                                     | none => (
                                      bif (r96.2 == 0) then (
                                       bif (r98.2 == 0) then (
                                        bif (r101.2 == 1) then (
                                         match (l35_of 1) with
                                         | none => none
                                         | some r106 => (
                                          bif (eqF (.arr 4 (.int .u64)) r102.1 r106) then (
                                           bif (r102.2 == 0) then (
                                            bif (r104.2 == 1) then (
                                             match l35_awake with
                                             | none => none
                                             | some r107 => (
                                              bif r107 then (
                                               some ())
                                              else (
                                               none)))
                                            else (
                                             none))
                                           else (
                                            none))
                                          else (
                                           none)))
                                        else (
                                         none))
                                       else (
                                        none))
                                      else (
                                       none))
                                     | some p19 => (
                                      bif (r96.2 == 0) then (
                                       bif (r98.2 == 0) then (
                                        bif (r101.2 == 1) then (
                                         match (l35_of 1) with
                                         | none => none
                                         | some r105 => (
                                          bif (eqF (.arr 4 (.int .u64)) r102.1 r105) then (
                                           bif (r102.2 == 0) then (
                                            none)
                                           else (
                                            none))
                                          else (
                                           none)))
                                        else (
                                         none))
                                       else (
                                        none))
                                      else (
                                       none)))))))))))))))))
                      | some p => (
                       match (l35_small 1) with
                       | none => none
                       | some r9 => (
                        match r9.1 with
                        | none => (
                         match (l35_of 3) with
                         | none => none
                         | some r52 => (
                          match (comb_New (some p) r52 9) with
                          | none => none
                          | some r53 => (
                           match r53.1 with
                           | none => (
                            match (l35_of 3) with
                            | none => none
                            | some r74 => (
                             match (comb_New none r74 9) with
                             | none => none
                             | some r75 => (
                              match r75.1 with
                              | none => (
                               match (l35_of 1) with
                               | none => none
                               | some r85 => (
                                match (l35_of 1) with
                                | none => none
                                | some r86 => (
                                 match (comb_Multi 2 (fun j => (upd (upd (fun _ => .nil) 0 .nil) 1 .nil) (0 + j)) 2 (fun j => (upd (upd (fun _ => (fun _ => 0)) 0 r85) 1 r86) (0 + j))) with
                                 | none => none
                                 | some r87 => (
                                  match (comb_Multi 0 (fun _ => .nil) 0 (fun _ => (fun _ => 0))) with
                                  | none => none
                                  | some r88 => (
                                   match (l35_of 3) with
                                   | none => none
                                   | some r89 => (
                                    match (comb_New none r89 9) with
                                    | none => none
                                    | some r90 => (
                                     match r90.1 with
                                     | none => (
                                      bif (r53.2 == 0) then (
                                       bif (r75.2 == 0) then (
                                        bif (r87.2 == 1) then (
                                         match (l35_of 1) with
                                         | none => none
                                         | some r92 => (
                                          bif (eqF (.arr 4 (.int .u64)) r88.1 r92) then (
                                           bif (r88.2 == 0) then (
                                            bif (r90.2 == 1) then (
                                             match l35_awake with
                                             | none => none
                                             | some r93 => (
                                              bif r93 then (
                                               some ())
                                              else (
                                               none)))
                                            else (
                                             none))
                                           else (
                                            none))
                                          else (
                                           none)))
                                        else (
                                         none))
                                       else (
                                        none))
                                      else (
                                       none))
                                     | some p15 => (
                                      bif (r53.2 == 0) then (
                                       bif (r75.2 == 0) then (
                                        bif (r87.2 == 1) then (
                                         match (l35_of 1) with
                                         | none => none
                                         | some r91 => (
                                          bif (eqF (.arr 4 (.int .u64)) r88.1 r91) then (
                                           bif (r88.2 == 0) then (
                                            none)
                                           else (
                                            none))
                                          else (
                                           none)))
                                        else (
                                         none))
                                       else (
                                        none))
                                      else (
                                       none)))))))))
                              | some p13 => (
                               match (l35_of 1) with
                               | none => none
                               | some r76 => (
                                match (l35_of 1) with
                                | none => none
                                | some r77 => (
                                 match (comb_Multi 2 (fun j => (upd (upd (fun _ => .nil) 0 .nil) 1 (.fz p13)) (0 + j)) 2 (fun j => (upd (upd (fun _ => (fun _ => 0)) 0 r76) 1 r77) (0 + j))) with
                                 | none => none
                                 | some r78 => (
                                  match (comb_Multi 0 (fun _ => .nil) 0 (fun _ => (fun _ => 0))) with
                                  | none => none
                                  | some r79 => (
                                   match (l35_of 3) with
                                   | none => none
                                   | some r80 => (
                                    match (comb_New none r80 9) with
                                    | none => none
                                    | some r81 => (
                                     match r81.1 with
                                     | none => (
                                      bif (r53.2 == 0) then (
                                       bif (r75.2 == 0) then (
                                        bif (r78.2 == 1) then (
                                         match (l35_of 1) with
                                         | none => none
                                         | some r83 => (
                                          bif (eqF (.arr 4 (.int .u64)) r79.1 r83) then (
                                           bif (r79.2 == 0) then (
                                            bif (r81.2 == 1) then (
                                             match l35_awake with
                                             | none => none
                                             | some r84 => (
                                              bif r84 then (
                                               some ())
                                              else (
                                               none)))
                                            else (
                                             none))
                                           else (
                                            none))
                                          else (
                                           none)))
                                        else (
                                         none))
                                       else (
                                        none))
                                      else (
                                       none))
                                     | some p14 => (
                                      bif (r53.2 == 0) then (
                                       bif (r75.2 == 0) then (
                                        bif (r78.2 == 1) then (
                                         match (l35_of 1) with
                                         | none => none
                                         | some r82 => (
                                          bif (eqF (.arr 4 (.int .u64)) r79.1 r82) then (
                                           bif (r79.2 == 0) then (
                                            none)
                                           else (
                                            none))
                                          else (
                                           none)))
                                        else (
                                         none))
                                       else (
                                        none))
                                      else (
                                       none))))))))))))
                           | some p9 => (
                            match (l35_of 3) with
                            | none => none
                            | some r54 => (
                             match (comb_New none r54 9) with
                             | none => none
                             | some r55 => (
                              match r55.1 with
                              | none => (
                               match (l35_of 1) with
                               | none => none
                               | some r65 => (
                                match (l35_of 1) with
                                | none => none
                                | some r66 => (
                                 match (comb_Multi 2 (fun j => (upd (upd (fun _ => .nil) 0 (.fz p9)) 1 .nil) (0 + j)) 2 (fun j => (upd (upd (fun _ => (fun _ => 0)) 0 r65) 1 r66) (0 + j))) with
                                 | none => none
                                 | some r67 => (
                                  match (comb_Multi 0 (fun _ => .nil) 0 (fun _ => (fun _ => 0))) with
                                  | none => none
                                  | some r68 => (
                                   match (l35_of 3) with
                                   | none => none
                                   | some r69 => (
                                    match (comb_New none r69 9) with
                                    | none => none
                                    | some r70 => (
                                     match r70.1 with
                                     | none => (
                                      bif (r53.2 == 0) then (
                                       bif (r55.2 == 0) then (
                                        bif (r67.2 == 1) then (
                                         match (l35_of 1) with
                                         | none => none
                                         | some r72 => (
                                          bif (eqF (.arr 4 (.int .u64)) r68.1 r72) then (
                                           bif (r68.2 == 0) then (
                                            bif (r70.2 == 1) then (
                                             match l35_awake with
                                             | none => none
                                             | some r73 => (
                                              bif r73 then (
                                               some ())
                                              else (
                                               none)))
                                            else (
                                             none))
                                           else (
                                            none))
                                          else (
                                           none)))
                                        else (
                                         none))
                                       else (
                                        none))
                                      else (
                                       none))
                                     | some p12 => (
                                      bif (r53.2 == 0) then (
                                       bif (r55.2 == 0) then (
                                        bif (r67.2 == 1) then (
                                         match (l35_of 1) with
                                         | none => none
                                         | some r71 => (
                                          bif (eqF (.arr 4 (.int .u64)) r68.1 r71) then (
                                           bif (r68.2 == 0) then (
                                            none)
                                           else (
                                            none))
                                          else (
                                           none)))
                                        else (
                                         none))
                                       else (
                                        none))
                                      else (
                                       none)))))))))
                              | some p10 => (
                               match (l35_of 1) with
                               | none => none
                               | some r56 => (
                                match (l35_of 1) with
                                | none => none
                                | some r57 => (
                                 match (comb_Multi 2 (fun j => (upd (upd (fun _ => .nil) 0 (.fz p9)) 1 (.fz p10)) (0 + j)) 2 (fun j => (upd (upd (fun _ => (fun _ => 0)) 0 r56) 1 r57) (0 + j))) with
                                 | none => none
                                 | some r58 => (
                                  match (comb_Multi 0 (fun _ => .nil) 0 (fun _ => (fun _ => 0))) with
                                  | none => none
                                  | some r59 => (
                                   match (l35_of 3) with
                                   | none => none
                                   | some r60 => (
                                    match (comb_New none r60 9) with
                                    | none => none
                                    | some r61 => (
                                     match r61.1 with
                                     | none => (
                                      bif (r53.2 == 0) then (
                                       bif (r55.2 == 0) then (
                                        bif (r58.2 == 1) then (
                                         match (l35_of 1) with
                                         | none => none
                                         | some r63 => (
                                          bif (eqF (.arr 4 (.int .u64)) r59.1 r63) then (
                                           bif (r59.2 == 0) then (
                                            bif (r61.2 == 1) then (
                                             match l35_awake with
                                             | none => none
                                             | some r64 => (
                                              bif r64 then (
                                               some ())
                                              else (
                                               none)))
                                            else (
                                             none))
                                           else (
                                            none))
                                          else (
                                           none)))
                                        else (
                                         none))
                                       else (
                                        none))
                                      else (
                                       none))
                                     | some p11 => (
                                      bif (r53.2 == 0) then (
                                       bif (r55.2 == 0) then (
                                        bif (r58.2 == 1) then (
                                         match (l35_of 1) with
                                         | none => none
                                         | some r62 => (
                                          bif (eqF (.arr 4 (.int .u64)) r59.1 r62) then (
                                           bif (r59.2 == 0) then (
                                            none)
                                           else (
                                            none))
                                          else (
                                           none)))
                                        else (
                                         none))
                                       else (
                                        none))
                                      else (
                                       none)))))))))))))))
                        | some p1 => (
                         match (l35_of 3) with
                         | none => none
                         | some r10 => (
                          match (comb_New (some p) r10 9) with
                          | none => none
                          | some r11 => (
                           match r11.1 with
                           | none => (
                            match (l35_of 3) with
                            | none => none
                            | some r32 => (
                             match (comb_New (some p1) r32 9) with
                             | none => none
                             | some r33 => (
                              match r33.1 with
                              | none => (
                               match (l35_of 1) with
                               | none => none
                               | some r43 => (
                                match (l35_of 1) with
                                | none => none
                                | some r44 => (
                                 match (comb_Multi 2 (fun j => (upd (upd (fun _ => .nil) 0 .nil) 1 .nil) (0 + j)) 2 (fun j => (upd (upd (fun _ => (fun _ => 0)) 0 r43) 1 r44) (0 + j))) with
                                 | none => none
                                 | some r45 => (
                                  match (comb_Multi 0 (fun _ => .nil) 0 (fun _ => (fun _ => 0))) with
                                  | none => none
                                  | some r46 => (
                                   match (l35_of 3) with
                                   | none => none
                                   | some r47 => (
                                    match (comb_New none r47 9) with
                                    | none => none
                                    | some r48 => (
                                     match r48.1 with
                                     | none => (
                                      bif (r11.2 == 0) then (
                                       bif (r33.2 == 0) then (
                                        bif (r45.2 == 1) then (
                                         match (l35_of 1) with
                                         | none => none
                                         | some r50 => (
                                          bif (eqF (.arr 4 (.int .u64)) r46.1 r50) then (
                                           bif (r46.2 == 0) then (
                                            bif (r48.2 == 1) then (
                                             match l35_awake with
                                             | none => none
                                             | some r51 => (
                                              bif r51 then (
                                               some ())
                                              else (
                                               none)))
                                            else (
                                             none))
                                           else (
                                            none))
                                          else (
                                           none)))
                                        else (
                                         none))
                                       else (
                                        none))
                                      else (
                                       none))
                                     | some p8 => (
                                      bif (r11.2 == 0) then (
                                       bif (r33.2 == 0) then (
                                        bif (r45.2 == 1) then (
                                         match (l35_of 1) with
                                         | none => none
                                         | some r49 => (
                                          bif (eqF (.arr 4 (.int .u64)) r46.1 r49) then (
                                           bif (r46.2 == 0) then (
                                            none)
                                           else (
                                            none))
                                          else (
                                           none)))
                                        else (
                                         none))
                                       else (
                                        none))
                                      else (
                                       none)))))))))
                              | some p6 => (
                               match (l35_of 1) with
                               | none => none
                               | some r34 => (
                                match (l35_of 1) with
                                | none => none
                                | some r35 => (
                                 match (comb_Multi 2 (fun j => (upd (upd (fun _ => .nil) 0 .nil) 1 (.fz p6)) (0 + j)) 2 (fun j => (upd (upd (fun _ => (fun _ => 0)) 0 r34) 1 r35) (0 + j))) with
                                 | none => none
                                 | some r36 => (
                                  match (comb_Multi 0 (fun _ => .nil) 0 (fun _ => (fun _ => 0))) with
                                  | none => none
                                  | some r37 => (
                                   match (l35_of 3) with
                                   | none => none
                                   | some r38 => (
                                    match (comb_New none r38 9) with
                                    | none => none
                                    | some r39 => (
                                     match r39.1 with
                                     | none => (
                                      bif (r11.2 == 0) then (
                                       bif (r33.2 == 0) then (
                                        bif (r36.2 == 1) then (
                                         match (l35_of 1) with
                                         | none => none
                                         | some r41 => (
                                          bif (eqF (.arr 4 (.int .u64)) r37.1 r41) then (
                                           bif (r37.2 == 0) then (
                                            bif (r39.2 == 1) then (
                                             match l35_awake with
                                             | none => none
                                             | some r42 => (
                                              bif r42 then (
                                               some ())
                                              else (
                                               none)))
                                            else (
                                             none))
                                           else (
                                            none))
                                          else (
                                           none)))
                                        else (
                                         none))
                                       else (
                                        none))
                                      else (
                                       none))
                                     | some p7 => (
                                      bif (r11.2 == 0) then (
                                       bif (r33.2 == 0) then (
                                        bif (r36.2 == 1) then (
                                         match (l35_of 1) with
                                         | none => none
                                         | some r40 => (
                                          bif (eqF (.arr 4 (.int .u64)) r37.1 r40) then (
                                           bif (r37.2 == 0) then (
                                            none)
                                           else (
                                            none))
                                          else (
                                           none)))
                                        else (
                                         none))
                                       else (
                                        none))
                                      else (
                                       none))))))))))))
                           | some p2 => (
                            match (l35_of 3) with
                            | none => none
                            | some r12 => (
                             match (comb_New (some p1) r12 9) with
                             | none => none
                             | some r13 => (
                              match r13.1 with
                              | none => (
                               match (l35_of 1) with
                               | none => none
                               | some r23 => (
                                match (l35_of 1) with
                                | none => none
                                | some r24 => (
                                 match (comb_Multi 2 (fun j => (upd (upd (fun _ => .nil) 0 (.fz p2)) 1 .nil) (0 + j)) 2 (fun j => (upd (upd (fun _ => (fun _ => 0)) 0 r23) 1 r24) (0 + j))) with
                                 | none => none
                                 | some r25 => (
                                  match (comb_Multi 0 (fun _ => .nil) 0 (fun _ => (fun _ => 0))) with
                                  | none => none
                                  | some r26 => (
                                   match (l35_of 3) with
                                   | none => none
                                   | some r27 => (
                                    match (comb_New none r27 9) with
                                    | none => none
                                    | some r28 => (
                                     match r28.1 with
                                     | none => (
                                      bif (r11.2 == 0) then (
                                       bif (r13.2 == 0) then (
                                        bif (r25.2 == 1) then (
                                         match (l35_of 1) with
                                         | none => none
                                         | some r30 => (
                                          bif (eqF (.arr 4 (.int .u64)) r26.1 r30) then (
                                           bif (r26.2 == 0) then (
                                            bif (r28.2 == 1) then (
                                             match l35_awake with
                                             | none => none
                                             | some r31 => (
                                              bif r31 then (
                                               some ())
                                              else (
                                               none)))
                                            else (
                                             none))
                                           else (
                                            none))
                                          else (
                                           none)))
                                        else (
                                         none))
                                       else (
                                        none))
                                      else (
                                       none))
                                     | some p5 => (
                                      bif (r11.2 == 0) then (
                                       bif (r13.2 == 0) then (
                                        bif (r25.2 == 1) then (
                                         match (l35_of 1) with
                                         | none => none
                                         | some r29 => (
                                          bif (eqF (.arr 4 (.int .u64)) r26.1 r29) then (
                                           bif (r26.2 == 0) then (
                                            none)
                                           else (
                                            none))
                                          else (
                                           none)))
                                        else (
                                         none))
                                       else (
                                        none))
                                      else (
                                       none)))))))))
                              | some p3 => (
                               match (l35_of 1) with
                               | none => none
                               | some r14 => (
                                match (l35_of 1) with
                                | none => none
                                | some r15 => (
                                 match (comb_Multi 2 (fun j => (upd (upd (fun _ => .nil) 0 (.fz p2)) 1 (.fz p3)) (0 + j)) 2 (fun j => (upd (upd (fun _ => (fun _ => 0)) 0 r14) 1 r15) (0 + j))) with
                                 | none => none
                                 | some r16 => (
                                  match (comb_Multi 0 (fun _ => .nil) 0 (fun _ => (fun _ => 0))) with
                                  | none => none
                                  | some r17 => (
                                   match (l35_of 3) with
                                   | none => none
                                   | some r18 => (
                                    match (comb_New none r18 9) with
                                    | none => none
                                    | some r19 => (
                                     match r19.1 with
                                     | none => (
                                      bif (r11.2 == 0) then (
                                       bif (r13.2 == 0) then (
                                        bif (r16.2 == 1) then (
                                         match (l35_of 1) with
                                         | none => none
                                         | some r21 => (
                                          bif (eqF (.arr 4 (.int .u64)) r17.1 r21) then (
                                           bif (r17.2 == 0) then (
                                            bif (r19.2 == 1) then (
                                             match l35_awake with
                                             | none => none
                                             | some r22 => (
                                              bif r22 then (
                                               some ())
                                              else (
                                               none)))
                                            else (
                                             none))
                                           else (
                                            none))
                                          else (
                                           none)))
                                        else (
                                         none))
                                       else (
                                        none))
                                      else (
                                       none))
                                     | some p4 => (
                                      bif (r11.2 == 0) then (
                                       bif (r13.2 == 0) then (
                                        bif (r16.2 == 1) then (
                                         match (l35_of 1) with
                                         | none => none
                                         | some r20 => (
                                          bif (eqF (.arr 4 (.int .u64)) r17.1 r20) then (
                                           bif (r17.2 == 0) then (
                                            none)
                                           else (
                                            none))
                                          else (
                                           none)))
                                        else (
                                         none))
                                       else (
                                        none))
                                      else (
                                       none))))))))))))))))))))))))))))))))))))))
end Go.Pl

set_option linter.unusedVariables false
set_option linter.unusedSimpArgs false
set_option maxRecDepth 100000
set_option maxHeartbeats 0
namespace Go.Pl
end Go.Pl
open Go Go.Den Go.Pl
namespace Go.Proofs.Ytennopklknlecaa
noncomputable def x_l35_CombNobody : Cx := { ti := ti, con := [(37, c_comb_Table_Exp), (41, c_comb_Multi), (39, c_comb_Table_Bits), (40, c_comb_Table_Base), (32, c_l35_small), (35, c_l35_of), (33, c_comb_New), (36, c_l35_awake)], fns := [], un := 6, frz := [85] }
theorem xok_l35_CombNobody : CxOk Try.prog x_l35_CombNobody := CxOk.of mixed ti_ok (List.forall_mem_cons.2 ⟨con_comb_Table_Exp, List.forall_mem_cons.2 ⟨con_comb_Multi, List.forall_mem_cons.2 ⟨con_comb_Table_Bits, List.forall_mem_cons.2 ⟨con_comb_Table_Base, List.forall_mem_cons.2 ⟨con_l35_small, List.forall_mem_cons.2 ⟨con_l35_of, List.forall_mem_cons.2 ⟨con_comb_New, List.forall_mem_cons.2 ⟨con_l35_awake, List.forall_mem_nil _⟩⟩⟩⟩⟩⟩⟩⟩) (List.forall_mem_nil _)
theorem fn_l35_CombNobody : FnOk Try.prog 9 Try.f9 [] := ⟨Try.func9, Try.call9, lps_nil⟩
theorem e_l35_CombNobody (e : (Nat → Int)) : bodyK x_l35_CombNobody [] (denF x_l35_CombNobody 8) Try.f9 (domV [(.arr 4 (.int .u64))] (e, ())) [] 0 kTrue = l35_CombNobody' e := by kernel_rfl
end Go.Proofs.Ytennopklknlecaa

set_option linter.unusedVariables false
set_option linter.unusedSimpArgs false
namespace Go.Pl
open Go Go.Den Go.Num

/-- a table that nobody made -/
theorem comb_no_given : comb_Table_given none = some false := by
  rw [comb_Table_given_eq]; rfl
theorem comb_zero_given : comb_Table_given (some (.nil, ((fun _ => 0), (0, .nil)))) = some false := by
  rw [comb_Table_given_eq]; rfl
theorem comb_no_Exp (e : Nat → Int) : comb_Table_Exp none e = some ((fun _ => 0), 1) := by
  rw [comb_Table_Exp_eq]; unfold comb_Table_Exp'
  simp only [comb_no_given]; rfl
theorem comb_zero_Exp (e : Nat → Int) : comb_Table_Exp (some (.nil, ((fun _ => 0), (0, .nil)))) e = some ((fun _ => 0), 1) := by
  rw [comb_Table_Exp_eq]; unfold comb_Table_Exp'
  simp only [comb_zero_given]; rfl
theorem comb_no_Bits : comb_Table_Bits none = some 0 := by
  rw [comb_Table_Bits_eq]; unfold comb_Table_Bits'
  simp only [comb_no_given]; rfl
theorem comb_zero_Bits : comb_Table_Bits (some (.nil, ((fun _ => 0), (0, .nil)))) = some 0 := by
  rw [comb_Table_Bits_eq]; unfold comb_Table_Bits'
  simp only [comb_zero_given]; rfl
theorem comb_no_Base : comb_Table_Base none = some fun _ => 0 := by
  rw [comb_Table_Base_eq]; unfold comb_Table_Base'
  simp only [comb_no_given]; rfl
theorem comb_zero_Base : comb_Table_Base (some (.nil, ((fun _ => 0), (0, .nil)))) = some fun _ => 0 := by
  rw [comb_Table_Base_eq]; unfold comb_Table_Base'
  simp only [comb_zero_given]; rfl
theorem comb_no_Multi (e : Nat → Nat → Int) : comb_Multi 1 (fun j => (upd (fun _ => .nil) 0 .nil) (0 + j)) 1 e = some ((fun _ => 0), 1) := by
  rw [comb_Multi_eq]; unfold comb_Multi'
  have h : R_comb_Multi_0 (((1, (fun j => (upd (fun _ => .nil) 0 .nil) (0 + j))), ((1, e), ((), ((1, (fun j => (upd (fun _ => .nil) 0 .nil) (0 + j))), (((1 : Nat) : Int), (0, ())))))), ((fun _ => 0), ())) = some (.inr (.inl (((), (1, ())), ((fun _ => 0), ())))) := by
    unfold R_comb_Multi_0
    simp (disch := omega) only [add_c, add_l, l_add, mul_c, mul_l, l_mul, sub_c, sub_l, l_sub, div_c, div_l, mod_c, mod_l, tdiv_c, tdiv_l, tmod_c, tmod_l, wrap_i64n, wrapun, dec_t, dec_f, inb_t, cond_true, cond_false, Int.toNat_natCast, beq_t, beq_f, bne_t, bne_f, Bool.not_true, Bool.not_false, Int.reduceToNat, ft_b, tf_b, tt_b, ff_b, decide_true, decide_false, upd_same, Nat.add_zero, PtrV.isRf, PtrV.isNil, comb_no_given]
  simp (disch := omega) only [add_c, add_l, l_add, mul_c, mul_l, l_mul, sub_c, sub_l, l_sub, div_c, div_l, mod_c, mod_l, tdiv_c, tdiv_l, tmod_c, tmod_l, wrap_i64n, wrapun, dec_t, dec_f, inb_t, cond_true, cond_false, Int.toNat_natCast, beq_t, beq_f, bne_t, bne_f, Bool.not_true, Bool.not_false, Int.reduceToNat, ft_b, tf_b, tt_b, ff_b, decide_true, decide_false, loopF_exit h]
theorem comb_zero_Multi (e : Nat → Nat → Int) : comb_Multi 1 (fun j => (upd (fun _ => .nil) 0 (.fz (.nil, ((fun _ => 0), (0, .nil))))) (0 + j)) 1 e = some ((fun _ => 0), 1) := by
  rw [comb_Multi_eq]; unfold comb_Multi'
  have h : R_comb_Multi_0 (((1, (fun j => (upd (fun _ => .nil) 0 (.fz (.nil, ((fun _ => 0), (0, .nil))))) (0 + j))), ((1, e), ((), ((1, (fun j => (upd (fun _ => .nil) 0 (.fz (.nil, ((fun _ => 0), (0, .nil))))) (0 + j))), (((1 : Nat) : Int), (0, ())))))), ((fun _ => 0), ())) = some (.inr (.inl (((), (1, ())), ((fun _ => 0), ())))) := by
    unfold R_comb_Multi_0
    simp (disch := omega) only [add_c, add_l, l_add, mul_c, mul_l, l_mul, sub_c, sub_l, l_sub, div_c, div_l, mod_c, mod_l, tdiv_c, tdiv_l, tmod_c, tmod_l, wrap_i64n, wrapun, dec_t, dec_f, inb_t, cond_true, cond_false, Int.toNat_natCast, beq_t, beq_f, bne_t, bne_f, Bool.not_true, Bool.not_false, Int.reduceToNat, ft_b, tf_b, tt_b, ff_b, decide_true, decide_false, upd_same, Nat.add_zero, PtrV.isRf, PtrV.isNil, PtrV.val, comb_zero_given]
  simp (disch := omega) only [add_c, add_l, l_add, mul_c, mul_l, l_mul, sub_c, sub_l, l_sub, div_c, div_l, mod_c, mod_l, tdiv_c, tdiv_l, tmod_c, tmod_l, wrap_i64n, wrapun, dec_t, dec_f, inb_t, cond_true, cond_false, Int.toNat_natCast, beq_t, beq_f, bne_t, bne_f, Bool.not_true, Bool.not_false, Int.reduceToNat, ft_b, tf_b, tt_b, ff_b, decide_true, decide_false, loopF_exit h]
theorem comb_none_Multi : ∃ z, comb_Multi 0 (fun _ => .nil) 0 (fun _ => fun _ => 0) = some (z, 0) ∧ IsN z 1 := by
  obtain ⟨z, z1, z2⟩ := (comb_Multi_spec (n := 0) (M := 2) (by decide) (by decide) (l := fun _ => .nil) (X := fun _ => 0) (B := fun _ => 0) (E := fun _ => 0) (exps := fun _ => fun _ => 0) (fun i hi => absurd hi (by omega)) (fun i hi => absurd hi (by omega))).1 (fun i hi => absurd hi (by omega))
  exact ⟨z, z1, z2⟩
/-- tables of two groups -/
theorem comb_two_Multi {t u : TabT} {r r' : RingT} {M N x y bits c : Nat} (h : IsTab t r M x bits) (h' : IsTab u r' N y c) (hMN : N ≠ M) (e : Nat → Nat → Int) : comb_Multi 2 (fun j => (upd (upd (fun _ => .nil) 0 (.fz t)) 1 (.fz u)) (0 + j)) 2 e = some ((fun _ => 0), 1) := by
  rw [comb_Multi_eq]; unfold comb_Multi'
  have g1 := comb_given_spec h
  have g2 := comb_given_spec h'
  have hr := h.ring
  have hr' := h'.ring
  have q1 : t.1 = .fz r := by obtain ⟨b, f, rfl, _, _⟩ := h.is; rfl
  have q2 : u.1 = .fz r' := by obtain ⟨b, f, rfl, _, _⟩ := h'.is; rfl
  generalize hl : (fun j => (upd (upd (fun _ => PtrV.nil) 0 (PtrV.fz t)) 1 (PtrV.fz u)) (0 + j)) = l
  have l0 : l 0 = .fz t := by subst hl; rfl
  have l1 : l 1 = .fz u := by subst hl; rfl
  have h1 : R_comb_Multi_0 (((2, l), ((2, e), ((), ((2, l), (((2 : Nat) : Int), (0, ())))))), ((fun _ => 0), ())) = some (.inl (((2, l), ((2, e), ((), ((2, l), (((2 : Nat) : Int), (1, ())))))), ((fun _ => 0), ()))) := by
    unfold R_comb_Multi_0
    simp (disch := omega) only [add_c, add_l, l_add, mul_c, mul_l, l_mul, sub_c, sub_l, l_sub, div_c, div_l, mod_c, mod_l, tdiv_c, tdiv_l, tmod_c, tmod_l, wrap_i64n, wrapun, dec_t, dec_f, inb_t, cond_true, cond_false, Int.toNat_natCast, beq_t, beq_f, bne_t, bne_f, Bool.not_true, Bool.not_false, Int.reduceToNat, ft_b, tf_b, tt_b, ff_b, decide_true, decide_false, l0, PtrV.isRf, PtrV.isNil, PtrV.val, g1, q1, mont_M_spec hr, hr.m.eqb hr.m]
    rfl
  have h2 : R_comb_Multi_0 (((2, l), ((2, e), ((), ((2, l), (((2 : Nat) : Int), (1, ())))))), ((fun _ => 0), ())) = some (.inr (.inl (((), (1, ())), ((fun _ => 0), ())))) := by
    unfold R_comb_Multi_0
    have e1 : Int.toNat 1 = 1 := rfl
    simp (disch := omega) only [add_c, add_l, l_add, mul_c, mul_l, l_mul, sub_c, sub_l, l_sub, div_c, div_l, mod_c, mod_l, tdiv_c, tdiv_l, tmod_c, tmod_l, wrap_i64n, wrapun, dec_t, dec_f, inb_t, cond_true, cond_false, Int.toNat_natCast, beq_t, beq_f, bne_t, bne_f, Bool.not_true, Bool.not_false, Int.reduceToNat, ft_b, tf_b, tt_b, ff_b, decide_true, decide_false, l0, l1, e1, PtrV.isRf, PtrV.isNil, PtrV.val, g2, q1, q2, mont_M_spec hr, mont_M_spec hr', hr'.m.eqb hr.m]
  simp (disch := omega) only [add_c, add_l, l_add, mul_c, mul_l, l_mul, sub_c, sub_l, l_sub, div_c, div_l, mod_c, mod_l, tdiv_c, tdiv_l, tmod_c, tmod_l, wrap_i64n, wrapun, dec_t, dec_f, inb_t, cond_true, cond_false, Int.toNat_natCast, beq_t, beq_f, bne_t, bne_f, Bool.not_true, Bool.not_false, Int.reduceToNat, ft_b, tf_b, tt_b, ff_b, decide_true, decide_false, loopF_next h1, loopF_exit h2]
theorem comb_New_none (a : Nat → Int) (bits : Int) : comb_New none a bits = some (none, 1) := by
  rw [comb_New_eq]; unfold comb_New'
  simp only [(show NoGroup none from .inl rfl).Ring, noRing_none.In]
  rfl
theorem l35_CombNobody_true {e : Nat → Int} (he : Go.Den.Good (.arr 4 (.int .u64)) e) : l35_CombNobody' e = some () := by
  unfold l35_CombNobody'
  have hz : eqF (.arr 4 (.int .u64)) (fun _ => 0) (fun _ => 0) = true := IsN.eqb IsN.zero IsN.zero
  obtain ⟨k, l, ga, g, P, Q, G, p1, hg, hP, hQ, _, hP2⟩ := pick_0
  obtain ⟨k', l', ga', g', P', Q', G', p1', hg', hP', hQ', _, hP2', hP3'⟩ := pick_1
  have s1 := l35_small_of p1 hg hP hQ
  have s2 := l35_small_of p1' hg' hP' hQ'
  obtain ⟨a3, a3a, a3b⟩ := l35_of_spec (n := 3) (by decide)
  obtain ⟨a1, a1a, a1b⟩ := l35_of_spec (n := 1) (by decide)
  have h3 : Int.toNat 3 = 3 := rfl
  obtain ⟨t, r, t1, t2, t3⟩ := comb_New_spec hg.group a3b (bits := 9) (show Int.toNat 3 < P by omega) (by decide) (by decide)
  obtain ⟨u, r', u1, u2, u3⟩ := comb_New_spec hg'.group a3b (bits := 9) (show Int.toNat 3 < P' by omega) (by decide) (by decide)
  have t1' : comb_New (some g) a3 9 = some (some t, 0) := t1
  have u1' : comb_New (some g') a3 9 = some (some u, 0) := u1
  obtain ⟨z, z1, z2⟩ := comb_none_Multi
  have hne : P' ≠ P := by omega
  simp (disch := first | omega | decide) only [wrap_i64n, wrapun, dec_t, dec_f, inb_t, cond_true, cond_false, Int.toNat_natCast, beq_t, beq_f, bne_t, bne_f, Bool.not_true, Bool.not_false, Int.reduceToNat, ft_b, tf_b, tt_b, ff_b, decide_true, decide_false, comb_no_Exp, comb_no_Multi, hz, comb_no_Bits, comb_no_Base, comb_zero_Exp, comb_zero_Multi, comb_zero_Bits, comb_zero_Base, s1, s2, a3a, a1a, t1', u1', comb_two_Multi t2 u2 hne, z1, comb_New_none, z2.eqb a1b, l35_awake_spec]
end Go.Pl
