/-
  One statement, plainly.
-/
import Derived.Test.YtoofellokbgmaaaDenD
import Derived.Test.YtoofellokbgmaaaPlA
import Derived.Test.YtoofellokbgmaaaL08
import Derived.Test.YtoofellokbgmaaaEqA
set_option linter.unusedVariables false
set_option linter.unusedSimpArgs false
set_option maxRecDepth 100000
set_option maxHeartbeats 0
namespace Go.Pl
end Go.Pl
open Go Go.Den Go.Pl
namespace Go.Pl
noncomputable def l08_FieldIs' (which : Int) (a : (Nat → Int)) (b : (Nat → Int)) : Option (Unit) :=
  match r07_Least with
  | none => none
  | some r => (
    match r07_Other with
    | none => none
    | some r1 => (
      match r07_Great with
      | none => none
      | some r2 => (
        bif (inb (Int.tmod (bitsOp .and .i64 which 255) 3) 3) then (
          match (takeArgs false (fun _ => none) [(.pair (.sl (.pair (.arr 4 (.int .u64)) (.int .i64))) (.arr 4 (.int .u64)))] [.v ⟨(.pair (.sl (.pair (.arr 4 (.int .u64)) (.int .i64))) (.arr 4 (.int .u64))), ((upd (upd (upd (fun _ => (.nil, (fun _ => 0))) 0 ((.fz r.1.1 r.1.2), r.2)) 1 ((.fz r1.1.1 r1.1.2), r1.2)) 2 ((.fz r2.1.1 r2.1.2), r2.2)) (0 + (Int.toNat (Int.tmod (bitsOp .and .i64 which 255) 3))))⟩]) with
          | none => none
          | some q => (
            match (group_New q.1) with
            | none => none
            | some r3 => (
              match r3.1 with
              | none => (
                bif (r3.2 != 0) then (
                  none)
                else (
                  match (field_Add none a (fun _ => 0)) with
                  | none => none
                  | some r151 => (
                    match (field_Add none a b) with
                    | none => none
                    | some r152 => (
                      match (field_Add none b a) with
                      | none => none
                      | some r153 => (
                        bif (eqF (.arr 4 (.int .u64)) r152 r153) then (
                          match (field_Add none a b) with
                          | none => none
                          | some r154 => (
                            match (field_Add none r154 (upd (upd (upd (upd (fun _ => 0) 0 (b 1)) 1 (a 0)) 2 (b 3)) 3 (a 2))) with
                            | none => none
                            | some r155 => (
                              match (field_Add none b (upd (upd (upd (upd (fun _ => 0) 0 (b 1)) 1 (a 0)) 2 (b 3)) 3 (a 2))) with
                              | none => none
                              | some r156 => (
                                match (field_Add none a r156) with
                                | none => none
                                | some r157 => (
                                  bif (eqF (.arr 4 (.int .u64)) r155 r157) then (
                                    match (field_Add none a b) with
                                    | none => none
                                    | some r158 => (
                                      match (field_Sub none r158 b) with
                                      | none => none
                                      | some r159 => (
                                        match (field_Mul none a b) with
                                        | none => none
                                        | some r160 => (
                                          match (field_Mul none b a) with
                                          | none => none
                                          | some r161 => (
                                            bif (eqF (.arr 4 (.int .u64)) r160 r161) then (
                                              match (field_Mul none a b) with
                                              | none => none
                                              | some r162 => (
                                                match (field_Mul none r162 (upd (upd (upd (upd (fun _ => 0) 0 (b 1)) 1 (a 0)) 2 (b 3)) 3 (a 2))) with
                                                | none => none
                                                | some r163 => (
                                                  match (field_Mul none b (upd (upd (upd (upd (fun _ => 0) 0 (b 1)) 1 (a 0)) 2 (b 3)) 3 (a 2))) with
                                                  | none => none
                                                  | some r164 => (
                                                    match (field_Mul none a r164) with
                                                    | none => none
                                                    | some r165 => (
                                                      bif (eqF (.arr 4 (.int .u64)) r163 r165) then (
                                                        match (l08_of 1) with
                                                        | none => none
                                                        | some r166 => (
                                                          match (field_Mul none a r166) with
                                                          | none => none
                                                          | some r167 => (
                                                            match (field_Add none b (upd (upd (upd (upd (fun _ => 0) 0 (b 1)) 1 (a 0)) 2 (b 3)) 3 (a 2))) with
                                                            | none => none
                                                            | some r168 => (
                                                              match (field_Mul none a r168) with
                                                              | none => none
                                                              | some r169 => (
                                                                match (field_Mul none a b) with
                                                                | none => none
                                                                | some r170 => (
                                                                  match (field_Mul none a (upd (upd (upd (upd (fun _ => 0) 0 (b 1)) 1 (a 0)) 2 (b 3)) 3 (a 2))) with
                                                                  | none => none
                                                                  | some r171 => (
                                                                    match (field_Add none r170 r171) with
                                                                    | none => none
                                                                    | some r172 => (
                                                                      bif (eqF (.arr 4 (.int .u64)) r151 (fun _ => 0)) then (
                                                                        match (field_Inv none a) with
                                                                        | none => none
                                                                        | some r173 => (
                                                                          bif (eqF (.arr 4 (.int .u64)) r173 (fun _ => 0)) then (
                                                                            bif (eqF (.arr 4 (.int .u64)) r159 r151) then (
                                                                              bif (eqF (.arr 4 (.int .u64)) r167 r151) then (
                                                                                bif (eqF (.arr 4 (.int .u64)) r169 r172) then (
                                                                                  match (field_In none r151) with
                                                                                  | none => none
                                                                                  | some r174 => (
                                                                                    bif r174 then (
                                                                                      match l08_awake with
                                                                                      | none => none
                                                                                      | some r175 => (
                                                                                        bif r175 then (
                                                                                          some ())
                                                                                        else (
                                                                                          none)))
                                                                                    else (
                                                                                      none)))
                                                                                else (
                                                                                  none))
                                                                              else (
                                                                                none))
                                                                            else (
                                                                              none))
                                                                          else (
                                                                            bif (!(eqF (.arr 4 (.int .u64)) r151 (fun _ => 0))) then (
                                                                              match (field_Inv none a) with
                                                                              | none => none
                                                                              | some r176 => (
                                                                                match (field_Mul none a r176) with
                                                                                | none => none
                                                                                | some r177 => (
                                                                                  match (l08_of 1) with
                                                                                  | none => none
                                                                                  | some r178 => (
                                                                                    bif (eqF (.arr 4 (.int .u64)) r159 r151) then (
                                                                                      bif (eqF (.arr 4 (.int .u64)) r167 r151) then (
                                                                                        bif (eqF (.arr 4 (.int .u64)) r169 r172) then (
                                                                                          bif (eqF (.arr 4 (.int .u64)) r177 r178) then (
                                                                                            match (field_In none r151) with
                                                                                            | none => none
                                                                                            | some r179 => (
                                                                                              bif r179 then (
                                                                                                match l08_awake with
                                                                                                | none => none
                                                                                                | some r180 => (
                                                                                                  bif r180 then (
                                                                                                    some ())
                                                                                                  else (
                                                                                                    none)))
                                                                                              else (
                                                                                                none)))
                                                                                          else (
                                                                                            none))
                                                                                        else (
                                                                                          none))
                                                                                      else (
                                                                                        none))
                                                                                    else (
                                                                                      none)))))
                                                                            else (
                                                                              bif (eqF (.arr 4 (.int .u64)) r159 r151) then (
                                                                                bif (eqF (.arr 4 (.int .u64)) r167 r151) then (
                                                                                  bif (eqF (.arr 4 (.int .u64)) r169 r172) then (
                                                                                    none)
                                                                                  else (
                                                                                    none))
                                                                                else (
                                                                                  none))
                                                                              else (
                                                                                none)))))
                                                                      else (
                                                                        bif (!(eqF (.arr 4 (.int .u64)) r151 (fun _ => 0))) then (
                                                                          match (field_Inv none a) with
                                                                          | none => none
                                                                          | some r181 => (
                                                                            match (field_Mul none a r181) with
                                                                            | none => none
                                                                            | some r182 => (
                                                                              match (l08_of 1) with
                                                                              | none => none
                                                                              | some r183 => (
                                                                                bif (eqF (.arr 4 (.int .u64)) r159 r151) then (
                                                                                  bif (eqF (.arr 4 (.int .u64)) r167 r151) then (
                                                                                    bif (eqF (.arr 4 (.int .u64)) r169 r172) then (
                                                                                      bif (eqF (.arr 4 (.int .u64)) r182 r183) then (
                                                                                        match (field_In none r151) with
                                                                                        | none => none
                                                                                        | some r184 => (
                                                                                          bif r184 then (
                                                                                            match l08_awake with
                                                                                            | none => none
                                                                                            | some r185 => (
                                                                                              bif r185 then (
                                                                                                some ())
                                                                                              else (
                                                                                                none)))
                                                                                          else (
                                                                                            none)))
                                                                                      else (
                                                                                        none))
                                                                                    else (
                                                                                      none))
                                                                                  else (
                                                                                    none))
                                                                                else (
                                                                                  none)))))
                                                                        else (
                                                                          bif (eqF (.arr 4 (.int .u64)) r159 r151) then (
                                                                            bif (eqF (.arr 4 (.int .u64)) r167 r151) then (
                                                                              bif (eqF (.arr 4 (.int .u64)) r169 r172) then (
                                                                                none)
                                                                              else (
                                                                                none))
                                                                            else (
                                                                              none))
                                                                          else (
                                                                            none)))))))))))
                                                      else (
                                                        match (field_Add none b (upd (upd (upd (upd (fun _ => 0) 0 (b 1)) 1 (a 0)) 2 (b 3)) 3 (a 2))) with
                                                        | none => none
                                                        | some r186 => (
                                                          match (field_Mul none a r186) with
                                                          | none => none
                                                          | some r187 => (
                                                            match (field_Mul none a b) with
                                                            | none => none
                                                            | some r188 => (
                                                              match (field_Mul none a (upd (upd (upd (upd (fun _ => 0) 0 (b 1)) 1 (a 0)) 2 (b 3)) 3 (a 2))) with
                                                              | none => none
                                                              | some r189 => (
                                                                match (field_Add none r188 r189) with
                                                                | none => none
                                                                | some r190 => (
                                                                  bif (eqF (.arr 4 (.int .u64)) r151 (fun _ => 0)) then (
                                                                    match (field_Inv none a) with
                                                                    | none => none
                                                                    | some r191 => (
                                                                      bif (eqF (.arr 4 (.int .u64)) r191 (fun _ => 0)) then (
                                                                        bif (eqF (.arr 4 (.int .u64)) r159 r151) then (
                                                                          none)
                                                                        else (
                                                                          none))
                                                                      else (
                                                                        bif (!(eqF (.arr 4 (.int .u64)) r151 (fun _ => 0))) then (
                                                                          match (field_Inv none a) with
                                                                          | none => none
                                                                          | some r192 => (
                                                                            match (field_Mul none a r192) with
                                                                            | none => none
                                                                            | some r193 => (
                                                                              match (l08_of 1) with
                                                                              | none => none
                                                                              | some r194 => (
                                                                                bif (eqF (.arr 4 (.int .u64)) r159 r151) then (
                                                                                  none)
                                                                                else (
                                                                                  none)))))
                                                                        else (
                                                                          bif (eqF (.arr 4 (.int .u64)) r159 r151) then (
                                                                            none)
                                                                          else (
                                                                            none)))))
                                                                  else (
                                                                    bif (!(eqF (.arr 4 (.int .u64)) r151 (fun _ => 0))) then (
                                                                      match (field_Inv none a) with
                                                                      | none => none
                                                                      | some r195 => (
                                                                        match (field_Mul none a r195) with
                                                                        | none => none
                                                                        | some r196 => (
                                                                          match (l08_of 1) with
                                                                          | none => none
                                                                          | some r197 => (
                                                                            bif (eqF (.arr 4 (.int .u64)) r159 r151) then (
                                                                              none)
                                                                            else (
                                                                              none)))))
                                                                    else (
                                                                      bif (eqF (.arr 4 (.int .u64)) r159 r151) then (
                                                                        none)
                                                                      else (
                                                                        none))))))))))))))
                                            else (
                                              match (field_Add none b (upd (upd (upd (upd (fun _ => 0) 0 (b 1)) 1 (a 0)) 2 (b 3)) 3 (a 2))) with
                                              | none => none
                                              | some r198 => (
                                                match (field_Mul none a r198) with
                                                | none => none
                                                | some r199 => (
                                                  match (field_Mul none a b) with
                                                  | none => none
                                                  | some r200 => (
                                                    match (field_Mul none a (upd (upd (upd (upd (fun _ => 0) 0 (b 1)) 1 (a 0)) 2 (b 3)) 3 (a 2))) with
                                                    | none => none
                                                    | some r201 => (
                                                      match (field_Add none r200 r201) with
                                                      | none => none
                                                      | some r202 => (
                                                        bif (eqF (.arr 4 (.int .u64)) r151 (fun _ => 0)) then (
                                                          match (field_Inv none a) with
                                                          | none => none
                                                          | some r203 => (
                                                            bif (eqF (.arr 4 (.int .u64)) r203 (fun _ => 0)) then (
                                                              bif (eqF (.arr 4 (.int .u64)) r159 r151) then (
                                                                none)
                                                              else (
                                                                none))
                                                            else (
                                                              bif (!(eqF (.arr 4 (.int .u64)) r151 (fun _ => 0))) then (
                                                                match (field_Inv none a) with
                                                                | none => none
                                                                | some r204 => (
                                                                  match (field_Mul none a r204) with
                                                                  | none => none
                                                                  | some r205 => (
                                                                    match (l08_of 1) with
                                                                    | none => none
                                                                    | some r206 => (
                                                                      bif (eqF (.arr 4 (.int .u64)) r159 r151) then (
                                                                        none)
                                                                      else (
                                                                        none)))))
                                                              else (
                                                                bif (eqF (.arr 4 (.int .u64)) r159 r151) then (
                                                                  none)
                                                                else (
                                                                  none)))))
                                                        else (
                                                          bif (!(eqF (.arr 4 (.int .u64)) r151 (fun _ => 0))) then (
                                                            match (field_Inv none a) with
                                                            | none => none
                                                            | some r207 => (
                                                              match (field_Mul none a r207) with
                                                              | none => none
                                                              | some r208 => (
                                                                match (l08_of 1) with
                                                                | none => none
                                                                | some r209 => (
                                                                  bif (eqF (.arr 4 (.int .u64)) r159 r151) then (
                                                                    none)
                                                                  else (
                                                                    none)))))
                                                          else (
                                                            bif (eqF (.arr 4 (.int .u64)) r159 r151) then (
                                                              none)
                                                            else (
                                                              none))))))))))))))
                                  else (
                                    match (field_Mul none a b) with
                                    | none => none
                                    | some r210 => (
                                      match (field_Mul none b a) with
                                      | none => none
                                      | some r211 => (
                                        bif (eqF (.arr 4 (.int .u64)) r210 r211) then (
                                          match (field_Mul none a b) with
                                          | none => none
                                          | some r212 => (
                                            match (field_Mul none r212 (upd (upd (upd (upd (fun _ => 0) 0 (b 1)) 1 (a 0)) 2 (b 3)) 3 (a 2))) with
                                            | none => none
                                            | some r213 => (
                                              match (field_Mul none b (upd (upd (upd (upd (fun _ => 0) 0 (b 1)) 1 (a 0)) 2 (b 3)) 3 (a 2))) with
                                              | none => none
                                              | some r214 => (
                                                match (field_Mul none a r214) with
                                                | none => none
                                                | some r215 => (
                                                  bif (eqF (.arr 4 (.int .u64)) r213 r215) then (
                                                    match (l08_of 1) with
                                                    | none => none
                                                    | some r216 => (
                                                      match (field_Mul none a r216) with
                                                      | none => none
                                                      | some r217 => (
                                                        match (field_Add none b (upd (upd (upd (upd (fun _ => 0) 0 (b 1)) 1 (a 0)) 2 (b 3)) 3 (a 2))) with
                                                        | none => none
                                                        | some r218 => (
                                                          match (field_Mul none a r218) with
                                                          | none => none
                                                          | some r219 => (
                                                            match (field_Mul none a b) with
                                                            | none => none
                                                            | some r220 => (
                                                              match (field_Mul none a (upd (upd (upd (upd (fun _ => 0) 0 (b 1)) 1 (a 0)) 2 (b 3)) 3 (a 2))) with
                                                              | none => none
                                                              | some r221 => (
                                                                match (field_Add none r220 r221) with
                                                                | none => none
                                                                | some r222 => (
                                                                  bif (eqF (.arr 4 (.int .u64)) r151 (fun _ => 0)) then (
                                                                    match (field_Inv none a) with
                                                                    | none => none
                                                                    | some r223 => (
                                                                      bif (eqF (.arr 4 (.int .u64)) r223 (fun _ => 0)) then (
                                                                        none)
                                                                      else (
                                                                        bif (!(eqF (.arr 4 (.int .u64)) r151 (fun _ => 0))) then (
                                                                          match (field_Inv none a) with
                                                                          | none => none
                                                                          | some r224 => (
                                                                            match (field_Mul none a r224) with
                                                                            | none => none
                                                                            | some r225 => (
                                                                              match (l08_of 1) with
                                                                              | none => none
                                                                              | some r226 => (
                                                                                none))))
                                                                        else (
                                                                          none))))
                                                                  else (
                                                                    bif (!(eqF (.arr 4 (.int .u64)) r151 (fun _ => 0))) then (
                                                                      match (field_Inv none a) with
                                                                      | none => none
                                                                      | some r227 => (
                                                                        match (field_Mul none a r227) with
                                                                        | none => none
                                                                        | some r228 => (
                                                                          match (l08_of 1) with
                                                                          | none => none
                                                                          | some r229 => (
                                                                            none))))
                                                                    else (
                                                                      none))))))))))
                                                  else (
                                                    match (field_Add none b (upd (upd (upd (upd (fun _ => 0) 0 (b 1)) 1 (a 0)) 2 (b 3)) 3 (a 2))) with
                                                    | none => none
                                                    | some r230 => (
                                                      match (field_Mul none a r230) with
                                                      | none => none
                                                      | some r231 => (
                                                        match (field_Mul none a b) with
                                                        | none => none
                                                        | some r232 => (
                                                          match (field_Mul none a (upd (upd (upd (upd (fun _ => 0) 0 (b 1)) 1 (a 0)) 2 (b 3)) 3 (a 2))) with
                                                          | none => none
                                                          | some r233 => (
                                                            match (field_Add none r232 r233) with
                                                            | none => none
                                                            | some r234 => (
                                                              bif (eqF (.arr 4 (.int .u64)) r151 (fun _ => 0)) then (
                                                                match (field_Inv none a) with
                                                                | none => none
                                                                | some r235 => (
                                                                  bif (eqF (.arr 4 (.int .u64)) r235 (fun _ => 0)) then (
                                                                    none)
                                                                  else (
                                                                    bif (!(eqF (.arr 4 (.int .u64)) r151 (fun _ => 0))) then (
                                                                      match (field_Inv none a) with
                                                                      | none => none
                                                                      | some r236 => (
                                                                        match (field_Mul none a r236) with
                                                                        | none => none
                                                                        | some r237 => (
                                                                          match (l08_of 1) with
                                                                          | none => none
                                                                          | some r238 => (
                                                                            none))))
                                                                    else (
                                                                      none))))
                                                              else (
                                                                bif (!(eqF (.arr 4 (.int .u64)) r151 (fun _ => 0))) then (
                                                                  match (field_Inv none a) with
                                                                  | none => none
                                                                  | some r239 => (
                                                                    match (field_Mul none a r239) with
                                                                    | none => none
                                                                    | some r240 => (
                                                                      match (l08_of 1) with
                                                                      | none => none
                                                                      | some r241 => (
                                                                        none))))
                                                                else (
                                                                  none)))))))))))))
                                        else (
                                          match (field_Add none b (upd (upd (upd (upd (fun _ => 0) 0 (b 1)) 1 (a 0)) 2 (b 3)) 3 (a 2))) with
                                          | none => none
                                          | some r242 => (
                                            match (field_Mul none a r242) with
                                            | none => none
                                            | some r243 => (
                                              match (field_Mul none a b) with
                                              | none => none
                                              | some r244 => (
                                                match (field_Mul none a (upd (upd (upd (upd (fun _ => 0) 0 (b 1)) 1 (a 0)) 2 (b 3)) 3 (a 2))) with
                                                | none => none
                                                | some r245 => (
                                                  match (field_Add none r244 r245) with
                                                  | none => none
                                                  | some r246 => (
                                                    bif (eqF (.arr 4 (.int .u64)) r151 (fun _ => 0)) then (
                                                      match (field_Inv none a) with
                                                      | none => none
                                                      | some r247 => (
                                                        bif (eqF (.arr 4 (.int .u64)) r247 (fun _ => 0)) then (
                                                          none)
                                                        else (
                                                          bif (!(eqF (.arr 4 (.int .u64)) r151 (fun _ => 0))) then (
                                                            match (field_Inv none a) with
                                                            | none => none
                                                            | some r248 => (
                                                              match (field_Mul none a r248) with
                                                              | none => none
                                                              | some r249 => (
                                                                match (l08_of 1) with
                                                                | none => none
                                                                | some r250 => (
                                                                  none))))
                                                          else (
                                                            none))))
                                                    else (
                                                      bif (!(eqF (.arr 4 (.int .u64)) r151 (fun _ => 0))) then (
                                                        match (field_Inv none a) with
                                                        | none => none
                                                        | some r251 => (
                                                          match (field_Mul none a r251) with
                                                          | none => none
                                                          | some r252 => (
                                                            match (l08_of 1) with
                                                            | none => none
                                                            | some r253 => (
                                                              none))))
                                                      else (
                                                        none))))))))))))))))
                        else (
                          match (field_Mul none a b) with
                          | none => none
                          | some r254 => (
                            match (field_Mul none b a) with
                            | none => none
                            | some r255 => (
                              bif (eqF (.arr 4 (.int .u64)) r254 r255) then (
                                match (field_Mul none a b) with
                                | none => none
                                | some r256 => (
                                  match (field_Mul none r256 (upd (upd (upd (upd (fun _ => 0) 0 (b 1)) 1 (a 0)) 2 (b 3)) 3 (a 2))) with
                                  | none => none
                                  | some r257 => (
                                    match (field_Mul none b (upd (upd (upd (upd (fun _ => 0) 0 (b 1)) 1 (a 0)) 2 (b 3)) 3 (a 2))) with
                                    | none => none
                                    | some r258 => (
                                      match (field_Mul none a r258) with
                                      | none => none
                                      | some r259 => (
                                        bif (eqF (.arr 4 (.int .u64)) r257 r259) then (
                                          match (l08_of 1) with
                                          | none => none
                                          | some r260 => (
                                            match (field_Mul none a r260) with
                                            | none => none
                                            | some r261 => (
                                              match (field_Add none b (upd (upd (upd (upd (fun _ => 0) 0 (b 1)) 1 (a 0)) 2 (b 3)) 3 (a 2))) with
                                              | none => none
                                              | some r262 => (
                                                match (field_Mul none a r262) with
                                                | none => none
                                                | some r263 => (
                                                  match (field_Mul none a b) with
                                                  | none => none
                                                  | some r264 => (
                                                    match (field_Mul none a (upd (upd (upd (upd (fun _ => 0) 0 (b 1)) 1 (a 0)) 2 (b 3)) 3 (a 2))) with
                                                    | none => none
                                                    | some r265 => (
                                                      match (field_Add none r264 r265) with
                                                      | none => none
                                                      | some r266 => (
                                                        bif (eqF (.arr 4 (.int .u64)) r151 (fun _ => 0)) then (
                                                          match (field_Inv none a) with
                                                          | none => none
                                                          | some r267 => (
                                                            bif (eqF (.arr 4 (.int .u64)) r267 (fun _ => 0)) then (
                                                              none)
                                                            else (
                                                              bif (!(eqF (.arr 4 (.int .u64)) r151 (fun _ => 0))) then (
                                                                match (field_Inv none a) with
                                                                | none => none
                                                                | some r268 => (
                                                                  match (field_Mul none a r268) with
                                                                  | none => none
                                                                  | some r269 => (
                                                                    match (l08_of 1) with
                                                                    | none => none
                                                                    | some r270 => (
                                                                      none))))
                                                              else (
                                                                none))))
                                                        else (
                                                          bif (!(eqF (.arr 4 (.int .u64)) r151 (fun _ => 0))) then (
                                                            match (field_Inv none a) with
                                                            | none => none
                                                            | some r271 => (
                                                              match (field_Mul none a r271) with
                                                              | none => none
                                                              | some r272 => (
                                                                match (l08_of 1) with
                                                                | none => none
                                                                | some r273 => (
                                                                  none))))
                                                          else (
                                                            none))))))))))
                                        else (
                                          match (field_Add none b (upd (upd (upd (upd (fun _ => 0) 0 (b 1)) 1 (a 0)) 2 (b 3)) 3 (a 2))) with
                                          | none => none
                                          | some r274 => (
                                            match (field_Mul none a r274) with
                                            | none => none
                                            | some r275 => (
                                              match (field_Mul none a b) with
                                              | none => none
                                              | some r276 => (
                                                match (field_Mul none a (upd (upd (upd (upd (fun _ => 0) 0 (b 1)) 1 (a 0)) 2 (b 3)) 3 (a 2))) with
                                                | none => none
                                                | some r277 => (
                                                  match (field_Add none r276 r277) with
                                                  | none => none
                                                  | some r278 => (
                                                    bif (eqF (.arr 4 (.int .u64)) r151 (fun _ => 0)) then (
                                                      match (field_Inv none a) with
                                                      | none => none
                                                      | some r279 => (
                                                        bif (eqF (.arr 4 (.int .u64)) r279 (fun _ => 0)) then (
                                                          none)
                                                        else (
                                                          bif (!(eqF (.arr 4 (.int .u64)) r151 (fun _ => 0))) then (
                                                            match (field_Inv none a) with
                                                            | none => none
                                                            | some r280 => (
                                                              match (field_Mul none a r280) with
                                                              | none => none
                                                              | some r281 => (
                                                                match (l08_of 1) with
                                                                | none => none
                                                                | some r282 => (
                                                                  none))))
                                                          else (
                                                            none))))
                                                    else (
                                                      bif (!(eqF (.arr 4 (.int .u64)) r151 (fun _ => 0))) then (
                                                        match (field_Inv none a) with
                                                        | none => none
                                                        | some r283 => (
                                                          match (field_Mul none a r283) with
                                                          | none => none
                                                          | some r284 => (
                                                            match (l08_of 1) with
                                                            | none => none
                                                            | some r285 => (
                                                              none))))
                                                      else (
                                                        none)))))))))))))
                              else (
                                match (field_Add none b (upd (upd (upd (upd (fun _ => 0) 0 (b 1)) 1 (a 0)) 2 (b 3)) 3 (a 2))) with
                                | none => none
                                | some r286 => (
                                  match (field_Mul none a r286) with
                                  | none => none
                                  | some r287 => (
                                    match (field_Mul none a b) with
                                    | none => none
                                    | some r288 => (
                                      match (field_Mul none a (upd (upd (upd (upd (fun _ => 0) 0 (b 1)) 1 (a 0)) 2 (b 3)) 3 (a 2))) with
                                      | none => none
                                      | some r289 => (
                                        match (field_Add none r288 r289) with
                                        | none => none
                                        | some r290 => (
                                          bif (eqF (.arr 4 (.int .u64)) r151 (fun _ => 0)) then (
                                            match (field_Inv none a) with
                                            | none => none
                                            | some r291 => (
                                              bif (eqF (.arr 4 (.int .u64)) r291 (fun _ => 0)) then (
                                                none)
                                              else (
                                                bif (!(eqF (.arr 4 (.int .u64)) r151 (fun _ => 0))) then (
                                                  match (field_Inv none a) with
                                                  | none => none
                                                  | some r292 => (
                                                    match (field_Mul none a r292) with
                                                    | none => none
                                                    | some r293 => (
                                                      match (l08_of 1) with
                                                      | none => none
                                                      | some r294 => (
                                                        none))))
                                                else (
                                                  none))))
                                          else (
                                            bif (!(eqF (.arr 4 (.int .u64)) r151 (fun _ => 0))) then (
                                              match (field_Inv none a) with
                                              | none => none
                                              | some r295 => (
                                                match (field_Mul none a r295) with
                                                | none => none
                                                | some r296 => (
                                                  match (l08_of 1) with
                                                  | none => none
                                                  | some r297 => (
                                                    none))))
                                            else (
                                              none))))))))))))))))
              | some p => (
                bif (r3.2 != 0) then (
                  none)
                else (
                  match (field_Add (some p) a (fun _ => 0)) with
                  | none => none
                  | some r4 => (
                    match (field_Add (some p) a b) with
                    | none => none
                    | some r5 => (
                      match (field_Add (some p) b a) with
                      | none => none
                      | some r6 => (
                        bif (eqF (.arr 4 (.int .u64)) r5 r6) then (
                          match (field_Add (some p) a b) with
                          | none => none
                          | some r7 => (
                            match (field_Add (some p) r7 (upd (upd (upd (upd (fun _ => 0) 0 (b 1)) 1 (a 0)) 2 (b 3)) 3 (a 2))) with
                            | none => none
                            | some r8 => (
                              match (field_Add (some p) b (upd (upd (upd (upd (fun _ => 0) 0 (b 1)) 1 (a 0)) 2 (b 3)) 3 (a 2))) with
                              | none => none
                              | some r9 => (
                                match (field_Add (some p) a r9) with
                                | none => none
                                | some r10 => (
                                  bif (eqF (.arr 4 (.int .u64)) r8 r10) then (
                                    match (field_Add (some p) a b) with
                                    | none => none
                                    | some r11 => (
                                      match (field_Sub (some p) r11 b) with
                                      | none => none
                                      | some r12 => (
                                        match (field_Mul (some p) a b) with
                                        | none => none
                                        | some r13 => (
                                          match (field_Mul (some p) b a) with
                                          | none => none
                                          | some r14 => (
                                            bif (eqF (.arr 4 (.int .u64)) r13 r14) then (
                                              match (field_Mul (some p) a b) with
                                              | none => none
                                              | some r15 => (
                                                match (field_Mul (some p) r15 (upd (upd (upd (upd (fun _ => 0) 0 (b 1)) 1 (a 0)) 2 (b 3)) 3 (a 2))) with
                                                | none => none
                                                | some r16 => (
                                                  match (field_Mul (some p) b (upd (upd (upd (upd (fun _ => 0) 0 (b 1)) 1 (a 0)) 2 (b 3)) 3 (a 2))) with
                                                  | none => none
                                                  | some r17 => (
                                                    match (field_Mul (some p) a r17) with
                                                    | none => none
                                                    | some r18 => (
                                                      bif (eqF (.arr 4 (.int .u64)) r16 r18) then (
                                                        match (l08_of 1) with
                                                        | none => none
                                                        | some r19 => (
                                                          match (field_Mul (some p) a r19) with
                                                          | none => none
                                                          | some r20 => (
                                                            match (field_Add (some p) b (upd (upd (upd (upd (fun _ => 0) 0 (b 1)) 1 (a 0)) 2 (b 3)) 3 (a 2))) with
                                                            | none => none
                                                            | some r21 => (
                                                              match (field_Mul (some p) a r21) with
                                                              | none => none
                                                              | some r22 => (
                                                                match (field_Mul (some p) a b) with
                                                                | none => none
                                                                | some r23 => (
                                                                  match (field_Mul (some p) a (upd (upd (upd (upd (fun _ => 0) 0 (b 1)) 1 (a 0)) 2 (b 3)) 3 (a 2))) with
                                                                  | none => none
                                                                  | some r24 => (
                                                                    match (field_Add (some p) r23 r24) with
                                                                    | none => none
                                                                    | some r25 => (
                                                                      bif (eqF (.arr 4 (.int .u64)) r4 (fun _ => 0)) then (
                                                                        match (field_Inv (some p) a) with
                                                                        | none => none
                                                                        | some r26 => (
                                                                          bif (eqF (.arr 4 (.int .u64)) r26 (fun _ => 0)) then (
                                                                            bif (eqF (.arr 4 (.int .u64)) r12 r4) then (
                                                                              bif (eqF (.arr 4 (.int .u64)) r20 r4) then (
                                                                                bif (eqF (.arr 4 (.int .u64)) r22 r25) then (
                                                                                  match (field_In (some p) r4) with
                                                                                  | none => none
                                                                                  | some r27 => (
                                                                                    bif r27 then (
                                                                                      match l08_awake with
                                                                                      | none => none
                                                                                      | some r28 => (
                                                                                        bif r28 then (
                                                                                          some ())
                                                                                        else (
                                                                                          none)))
                                                                                    else (
                                                                                      none)))
                                                                                else (
                                                                                  none))
                                                                              else (
                                                                                none))
                                                                            else (
                                                                              none))
                                                                          else (
                                                                            bif (!(eqF (.arr 4 (.int .u64)) r4 (fun _ => 0))) then (
                                                                              match (field_Inv (some p) a) with
                                                                              | none => none
                                                                              | some r29 => (
                                                                                match (field_Mul (some p) a r29) with
                                                                                | none => none
                                                                                | some r30 => (
                                                                                  match (l08_of 1) with
                                                                                  | none => none
                                                                                  | some r31 => (
                                                                                    bif (eqF (.arr 4 (.int .u64)) r12 r4) then (
                                                                                      bif (eqF (.arr 4 (.int .u64)) r20 r4) then (
                                                                                        bif (eqF (.arr 4 (.int .u64)) r22 r25) then (
                                                                                          bif (eqF (.arr 4 (.int .u64)) r30 r31) then (
                                                                                            match (field_In (some p) r4) with
                                                                                            | none => none
                                                                                            | some r32 => (
                                                                                              bif r32 then (
                                                                                                match l08_awake with
                                                                                                | none => none
                                                                                                | some r33 => (
                                                                                                  bif r33 then (
                                                                                                    some ())
                                                                                                  else (
                                                                                                    none)))
                                                                                              else (
                                                                                                none)))
                                                                                          else (
                                                                                            none))
                                                                                        else (
                                                                                          none))
                                                                                      else (
                                                                                        none))
                                                                                    else (
                                                                                      none)))))
                                                                            else (
                                                                              bif (eqF (.arr 4 (.int .u64)) r12 r4) then (
                                                                                bif (eqF (.arr 4 (.int .u64)) r20 r4) then (
                                                                                  bif (eqF (.arr 4 (.int .u64)) r22 r25) then (
                                                                                    none)
                                                                                  else (
                                                                                    none))
                                                                                else (
                                                                                  none))
                                                                              else (
                                                                                none)))))
                                                                      else (
                                                                        bif (!(eqF (.arr 4 (.int .u64)) r4 (fun _ => 0))) then (
                                                                          match (field_Inv (some p) a) with
                                                                          | none => none
                                                                          | some r34 => (
                                                                            match (field_Mul (some p) a r34) with
                                                                            | none => none
                                                                            | some r35 => (
                                                                              match (l08_of 1) with
                                                                              | none => none
                                                                              | some r36 => (
                                                                                bif (eqF (.arr 4 (.int .u64)) r12 r4) then (
                                                                                  bif (eqF (.arr 4 (.int .u64)) r20 r4) then (
                                                                                    bif (eqF (.arr 4 (.int .u64)) r22 r25) then (
                                                                                      bif (eqF (.arr 4 (.int .u64)) r35 r36) then (
                                                                                        match (field_In (some p) r4) with
                                                                                        | none => none
                                                                                        | some r37 => (
                                                                                          bif r37 then (
                                                                                            match l08_awake with
                                                                                            | none => none
                                                                                            | some r38 => (
                                                                                              bif r38 then (
                                                                                                some ())
                                                                                              else (
                                                                                                none)))
                                                                                          else (
                                                                                            none)))
                                                                                      else (
                                                                                        none))
                                                                                    else (
                                                                                      none))
                                                                                  else (
                                                                                    none))
                                                                                else (
                                                                                  none)))))
                                                                        else (
                                                                          bif (eqF (.arr 4 (.int .u64)) r12 r4) then (
                                                                            bif (eqF (.arr 4 (.int .u64)) r20 r4) then (
                                                                              bif (eqF (.arr 4 (.int .u64)) r22 r25) then (
                                                                                none)
                                                                              else (
                                                                                none))
                                                                            else (
                                                                              none))
                                                                          else (
                                                                            none)))))))))))
                                                      else (
                                                        match (field_Add (some p) b (upd (upd (upd (upd (fun _ => 0) 0 (b 1)) 1 (a 0)) 2 (b 3)) 3 (a 2))) with
                                                        | none => none
                                                        | some r39 => (
                                                          match (field_Mul (some p) a r39) with
                                                          | none => none
                                                          | some r40 => (
                                                            match (field_Mul (some p) a b) with
                                                            | none => none
                                                            | some r41 => (
                                                              match (field_Mul (some p) a (upd (upd (upd (upd (fun _ => 0) 0 (b 1)) 1 (a 0)) 2 (b 3)) 3 (a 2))) with
                                                              | none => none
                                                              | some r42 => (
                                                                match (field_Add (some p) r41 r42) with
                                                                | none => none
                                                                | some r43 => (
                                                                  bif (eqF (.arr 4 (.int .u64)) r4 (fun _ => 0)) then (
                                                                    match (field_Inv (some p) a) with
                                                                    | none => none
                                                                    | some r44 => (
                                                                      bif (eqF (.arr 4 (.int .u64)) r44 (fun _ => 0)) then (
                                                                        bif (eqF (.arr 4 (.int .u64)) r12 r4) then (
                                                                          none)
                                                                        else (
                                                                          none))
                                                                      else (
                                                                        bif (!(eqF (.arr 4 (.int .u64)) r4 (fun _ => 0))) then (
                                                                          match (field_Inv (some p) a) with
                                                                          | none => none
                                                                          | some r45 => (
                                                                            match (field_Mul (some p) a r45) with
                                                                            | none => none
                                                                            | some r46 => (
                                                                              match (l08_of 1) with
                                                                              | none => none
                                                                              | some r47 => (
                                                                                bif (eqF (.arr 4 (.int .u64)) r12 r4) then (
                                                                                  none)
                                                                                else (
                                                                                  none)))))
                                                                        else (
                                                                          bif (eqF (.arr 4 (.int .u64)) r12 r4) then (
                                                                            none)
                                                                          else (
                                                                            none)))))
                                                                  else (
                                                                    bif (!(eqF (.arr 4 (.int .u64)) r4 (fun _ => 0))) then (
                                                                      match (field_Inv (some p) a) with
                                                                      | none => none
                                                                      | some r48 => (
                                                                        match (field_Mul (some p) a r48) with
                                                                        | none => none
                                                                        | some r49 => (
                                                                          match (l08_of 1) with
                                                                          | none => none
                                                                          | some r50 => (
                                                                            bif (eqF (.arr 4 (.int .u64)) r12 r4) then (
                                                                              none)
                                                                            else (
                                                                              none)))))
                                                                    else (
                                                                      bif (eqF (.arr 4 (.int .u64)) r12 r4) then (
                                                                        none)
                                                                      else (
                                                                        none))))))))))))))
                                            else (
                                              match (field_Add (some p) b (upd (upd (upd (upd (fun _ => 0) 0 (b 1)) 1 (a 0)) 2 (b 3)) 3 (a 2))) with
                                              | none => none
                                              | some r51 => (
                                                match (field_Mul (some p) a r51) with
                                                | none => none
                                                | some r52 => (
                                                  match (field_Mul (some p) a b) with
                                                  | none => none
                                                  | some r53 => (
                                                    match (field_Mul (some p) a (upd (upd (upd (upd (fun _ => 0) 0 (b 1)) 1 (a 0)) 2 (b 3)) 3 (a 2))) with
                                                    | none => none
                                                    | some r54 => (
                                                      match (field_Add (some p) r53 r54) with
                                                      | none => none
                                                      | some r55 => (
                                                        bif (eqF (.arr 4 (.int .u64)) r4 (fun _ => 0)) then (
                                                          match (field_Inv (some p) a) with
                                                          | none => none
                                                          | some r56 => (
                                                            bif (eqF (.arr 4 (.int .u64)) r56 (fun _ => 0)) then (
                                                              bif (eqF (.arr 4 (.int .u64)) r12 r4) then (
                                                                none)
                                                              else (
                                                                none))
                                                            else (
                                                              bif (!(eqF (.arr 4 (.int .u64)) r4 (fun _ => 0))) then (
                                                                match (field_Inv (some p) a) with
                                                                | none => none
                                                                | some r57 => (
                                                                  match (field_Mul (some p) a r57) with
                                                                  | none => none
                                                                  | some r58 => (
                                                                    match (l08_of 1) with
                                                                    | none => none
                                                                    | some r59 => (
                                                                      bif (eqF (.arr 4 (.int .u64)) r12 r4) then (
                                                                        none)
                                                                      else (
                                                                        none)))))
                                                              else (
                                                                bif (eqF (.arr 4 (.int .u64)) r12 r4) then (
                                                                  none)
                                                                else (
                                                                  none)))))
                                                        else (
                                                          bif (!(eqF (.arr 4 (.int .u64)) r4 (fun _ => 0))) then (
                                                            match (field_Inv (some p) a) with
                                                            | none => none
                                                            | some r60 => (
                                                              match (field_Mul (some p) a r60) with
                                                              | none => none
                                                              | some r61 => (
                                                                match (l08_of 1) with
                                                                | none => none
                                                                | some r62 => (
                                                                  bif (eqF (.arr 4 (.int .u64)) r12 r4) then (
                                                                    none)
                                                                  else (
                                                                    none)))))
                                                          else (
                                                            bif (eqF (.arr 4 (.int .u64)) r12 r4) then (
                                                              none)
                                                            else (
                                                              none))))))))))))))
                                  else (
                                    match (field_Mul (some p) a b) with
                                    | none => none
                                    | some r63 => (
                                      match (field_Mul (some p) b a) with
                                      | none => none
                                      | some r64 => (
                                        bif (eqF (.arr 4 (.int .u64)) r63 r64) then (
                                          match (field_Mul (some p) a b) with
                                          | none => none
                                          | some r65 => (
                                            match (field_Mul (some p) r65 (upd (upd (upd (upd (fun _ => 0) 0 (b 1)) 1 (a 0)) 2 (b 3)) 3 (a 2))) with
                                            | none => none
                                            | some r66 => (
                                              match (field_Mul (some p) b (upd (upd (upd (upd (fun _ => 0) 0 (b 1)) 1 (a 0)) 2 (b 3)) 3 (a 2))) with
                                              | none => none
                                              | some r67 => (
                                                match (field_Mul (some p) a r67) with
                                                | none => none
                                                | some r68 => (
                                                  bif (eqF (.arr 4 (.int .u64)) r66 r68) then (
                                                    match (l08_of 1) with
                                                    | none => none
                                                    | some r69 => (
                                                      match (field_Mul (some p) a r69) with
                                                      | none => none
                                                      | some r70 => (
                                                        match (field_Add (some p) b (upd (upd (upd (upd (fun _ => 0) 0 (b 1)) 1 (a 0)) 2 (b 3)) 3 (a 2))) with
                                                        | none => none
                                                        | some r71 => (
                                                          match (field_Mul (some p) a r71) with
                                                          | none => none
                                                          | some r72 => (
                                                            match (field_Mul (some p) a b) with
                                                            | none => none
                                                            | some r73 => (
                                                              match (field_Mul (some p) a (upd (upd (upd (upd (fun _ => 0) 0 (b 1)) 1 (a 0)) 2 (b 3)) 3 (a 2))) with
                                                              | none => none
                                                              | some r74 => (
                                                                match (field_Add (some p) r73 r74) with
                                                                | none => none
                                                                | some r75 => (
                                                                  bif (eqF (.arr 4 (.int .u64)) r4 (fun _ => 0)) then (
                                                                    match (field_Inv (some p) a) with
                                                                    | none => none
                                                                    | some r76 => (
                                                                      bif (eqF (.arr 4 (.int .u64)) r76 (fun _ => 0)) then (
                                                                        none)
                                                                      else (
                                                                        bif (!(eqF (.arr 4 (.int .u64)) r4 (fun _ => 0))) then (
                                                                          match (field_Inv (some p) a) with
                                                                          | none => none
                                                                          | some r77 => (
                                                                            match (field_Mul (some p) a r77) with
                                                                            | none => none
                                                                            | some r78 => (
                                                                              match (l08_of 1) with
                                                                              | none => none
                                                                              | some r79 => (
                                                                                none))))
                                                                        else (
                                                                          none))))
                                                                  else (
                                                                    bif (!(eqF (.arr 4 (.int .u64)) r4 (fun _ => 0))) then (
                                                                      match (field_Inv (some p) a) with
                                                                      | none => none
                                                                      | some r80 => (
                                                                        match (field_Mul (some p) a r80) with
                                                                        | none => none
                                                                        | some r81 => (
                                                                          match (l08_of 1) with
                                                                          | none => none
                                                                          | some r82 => (
                                                                            none))))
                                                                    else (
                                                                      none))))))))))
                                                  else (
                                                    match (field_Add (some p) b (upd (upd (upd (upd (fun _ => 0) 0 (b 1)) 1 (a 0)) 2 (b 3)) 3 (a 2))) with
                                                    | none => none
                                                    | some r83 => (
                                                      match (field_Mul (some p) a r83) with
                                                      | none => none
                                                      | some r84 => (
                                                        match (field_Mul (some p) a b) with
                                                        | none => none
                                                        | some r85 => (
                                                          match (field_Mul (some p) a (upd (upd (upd (upd (fun _ => 0) 0 (b 1)) 1 (a 0)) 2 (b 3)) 3 (a 2))) with
                                                          | none => none
                                                          | some r86 => (
                                                            match (field_Add (some p) r85 r86) with
                                                            | none => none
                                                            | some r87 => (
                                                              bif (eqF (.arr 4 (.int .u64)) r4 (fun _ => 0)) then (
                                                                match (field_Inv (some p) a) with
                                                                | none => none
                                                                | some r88 => (
                                                                  bif (eqF (.arr 4 (.int .u64)) r88 (fun _ => 0)) then (
                                                                    none)
                                                                  else (
                                                                    bif (!(eqF (.arr 4 (.int .u64)) r4 (fun _ => 0))) then (
                                                                      match (field_Inv (some p) a) with
                                                                      | none => none
                                                                      | some r89 => (
                                                                        match (field_Mul (some p) a r89) with
                                                                        | none => none
                                                                        | some r90 => (
                                                                          match (l08_of 1) with
                                                                          | none => none
                                                                          | some r91 => (
                                                                            none))))
                                                                    else (
                                                                      none))))
                                                              else (
                                                                bif (!(eqF (.arr 4 (.int .u64)) r4 (fun _ => 0))) then (
                                                                  match (field_Inv (some p) a) with
                                                                  | none => none
                                                                  | some r92 => (
                                                                    match (field_Mul (some p) a r92) with
                                                                    | none => none
                                                                    | some r93 => (
                                                                      match (l08_of 1) with
                                                                      | none => none
                                                                      | some r94 => (
                                                                        none))))
                                                                else (
                                                                  none)))))))))))))
                                        else (
                                          match (field_Add (some p) b (upd (upd (upd (upd (fun _ => 0) 0 (b 1)) 1 (a 0)) 2 (b 3)) 3 (a 2))) with
                                          | none => none
                                          | some r95 => (
                                            match (field_Mul (some p) a r95) with
                                            | none => none
                                            | some r96 => (
                                              match (field_Mul (some p) a b) with
                                              | none => none
                                              | some r97 => (
                                                match (field_Mul (some p) a (upd (upd (upd (upd (fun _ => 0) 0 (b 1)) 1 (a 0)) 2 (b 3)) 3 (a 2))) with
                                                | none => none
                                                | some r98 => (
                                                  match (field_Add (some p) r97 r98) with
                                                  | none => none
                                                  | some r99 => (
                                                    bif (eqF (.arr 4 (.int .u64)) r4 (fun _ => 0)) then (
                                                      match (field_Inv (some p) a) with
                                                      | none => none
                                                      | some r100 => (
                                                        bif (eqF (.arr 4 (.int .u64)) r100 (fun _ => 0)) then (
                                                          none)
                                                        else (
                                                          bif (!(eqF (.arr 4 (.int .u64)) r4 (fun _ => 0))) then (
                                                            match (field_Inv (some p) a) with
                                                            | none => none
                                                            | some r101 => (
                                                              match (field_Mul (some p) a r101) with
                                                              | none => none
                                                              | some r102 => (
                                                                match (l08_of 1) with
                                                                | none => none
                                                                | some r103 => (
                                                                  none))))
                                                          else (
                                                            none))))
                                                    else (
                                                      bif (!(eqF (.arr 4 (.int .u64)) r4 (fun _ => 0))) then (
                                                        match (field_Inv (some p) a) with
                                                        | none => none
                                                        | some r104 => (
                                                          match (field_Mul (some p) a r104) with
                                                          | none => none
                                                          | some r105 => (
                                                            match (l08_of 1) with
                                                            | none => none
                                                            | some r106 => (
                                                              none))))
                                                      else (
                                                        none))))))))))))))))
                        else (
                          match (field_Mul (some p) a b) with
                          | none => none
                          | some r107 => (
                            match (field_Mul (some p) b a) with
                            | none => none
                            | some r108 => (
                              bif (eqF (.arr 4 (.int .u64)) r107 r108) then (
                                match (field_Mul (some p) a b) with
                                | none => none
                                | some r109 => (
                                  match (field_Mul (some p) r109 (upd (upd (upd (upd (fun _ => 0) 0 (b 1)) 1 (a 0)) 2 (b 3)) 3 (a 2))) with
                                  | none => none
                                  | some r110 => (
                                    match (field_Mul (some p) b (upd (upd (upd (upd (fun _ => 0) 0 (b 1)) 1 (a 0)) 2 (b 3)) 3 (a 2))) with
                                    | none => none
                                    | some r111 => (
                                      match (field_Mul (some p) a r111) with
                                      | none => none
                                      | some r112 => (
                                        bif (eqF (.arr 4 (.int .u64)) r110 r112) then (
                                          match (l08_of 1) with
                                          | none => none
                                          | some r113 => (
                                            match (field_Mul (some p) a r113) with
                                            | none => none
                                            | some r114 => (
                                              match (field_Add (some p) b (upd (upd (upd (upd (fun _ => 0) 0 (b 1)) 1 (a 0)) 2 (b 3)) 3 (a 2))) with
                                              | none => none
                                              | some r115 => (
                                                match (field_Mul (some p) a r115) with
                                                | none => none
                                                | some r116 => (
                                                  match (field_Mul (some p) a b) with
                                                  | none => none
                                                  | some r117 => (
                                                    match (field_Mul (some p) a (upd (upd (upd (upd (fun _ => 0) 0 (b 1)) 1 (a 0)) 2 (b 3)) 3 (a 2))) with
                                                    | none => none
                                                    | some r118 => (
                                                      match (field_Add (some p) r117 r118) with
                                                      | none => none
                                                      | some r119 => (
                                                        bif (eqF (.arr 4 (.int .u64)) r4 (fun _ => 0)) then (
                                                          match (field_Inv (some p) a) with
                                                          | none => none
                                                          | some r120 => (
                                                            bif (eqF (.arr 4 (.int .u64)) r120 (fun _ => 0)) then (
                                                              none)
                                                            else (
                                                              bif (!(eqF (.arr 4 (.int .u64)) r4 (fun _ => 0))) then (
                                                                match (field_Inv (some p) a) with
                                                                | none => none
                                                                | some r121 => (
                                                                  match (field_Mul (some p) a r121) with
                                                                  | none => none
                                                                  | some r122 => (
                                                                    match (l08_of 1) with
                                                                    | none => none
                                                                    | some r123 => (
                                                                      none))))
                                                              else (
                                                                none))))
                                                        else (
                                                          bif (!(eqF (.arr 4 (.int .u64)) r4 (fun _ => 0))) then (
                                                            match (field_Inv (some p) a) with
                                                            | none => none
                                                            | some r124 => (
                                                              match (field_Mul (some p) a r124) with
                                                              | none => none
                                                              | some r125 => (
                                                                match (l08_of 1) with
                                                                | none => none
                                                                | some r126 => (
                                                                  none))))
                                                          else (
                                                            none))))))))))
                                        else (
                                          match (field_Add (some p) b (upd (upd (upd (upd (fun _ => 0) 0 (b 1)) 1 (a 0)) 2 (b 3)) 3 (a 2))) with
                                          | none => none
                                          | some r127 => (
                                            match (field_Mul (some p) a r127) with
                                            | none => none
                                            | some r128 => (
                                              match (field_Mul (some p) a b) with
                                              | none => none
                                              | some r129 => (
                                                match (field_Mul (some p) a (upd (upd (upd (upd (fun _ => 0) 0 (b 1)) 1 (a 0)) 2 (b 3)) 3 (a 2))) with
                                                | none => none
                                                | some r130 => (
                                                  match (field_Add (some p) r129 r130) with
                                                  | none => none
                                                  | some r131 => (
                                                    bif (eqF (.arr 4 (.int .u64)) r4 (fun _ => 0)) then (
                                                      match (field_Inv (some p) a) with
                                                      | none => none
                                                      | some r132 => (
                                                        bif (eqF (.arr 4 (.int .u64)) r132 (fun _ => 0)) then (
                                                          none)
                                                        else (
                                                          bif (!(eqF (.arr 4 (.int .u64)) r4 (fun _ => 0))) then (
                                                            match (field_Inv (some p) a) with
                                                            | none => none
                                                            | some r133 => (
                                                              match (field_Mul (some p) a r133) with
                                                              | none => none
                                                              | some r134 => (
                                                                match (l08_of 1) with
                                                                | none => none
                                                                | some r135 => (
                                                                  none))))
                                                          else (
                                                            none))))
                                                    else (
                                                      bif (!(eqF (.arr 4 (.int .u64)) r4 (fun _ => 0))) then (
                                                        match (field_Inv (some p) a) with
                                                        | none => none
                                                        | some r136 => (
                                                          match (field_Mul (some p) a r136) with
                                                          | none => none
                                                          | some r137 => (
                                                            match (l08_of 1) with
                                                            | none => none
                                                            | some r138 => (
                                                              none))))
                                                      else (
                                                        none)))))))))))))
                              else (
                                match (field_Add (some p) b (upd (upd (upd (upd (fun _ => 0) 0 (b 1)) 1 (a 0)) 2 (b 3)) 3 (a 2))) with
                                | none => none
                                | some r139 => (
                                  match (field_Mul (some p) a r139) with
                                  | none => none
                                  | some r140 => (
                                    match (field_Mul (some p) a b) with
                                    | none => none
                                    | some r141 => (
                                      match (field_Mul (some p) a (upd (upd (upd (upd (fun _ => 0) 0 (b 1)) 1 (a 0)) 2 (b 3)) 3 (a 2))) with
                                      | none => none
                                      | some r142 => (
                                        match (field_Add (some p) r141 r142) with
                                        | none => none
                                        | some r143 => (
                                          bif (eqF (.arr 4 (.int .u64)) r4 (fun _ => 0)) then (
                                            match (field_Inv (some p) a) with
                                            | none => none
                                            | some r144 => (
                                              bif (eqF (.arr 4 (.int .u64)) r144 (fun _ => 0)) then (
                                                none)
                                              else (
                                                bif (!(eqF (.arr 4 (.int .u64)) r4 (fun _ => 0))) then (
                                                  match (field_Inv (some p) a) with
                                                  | none => none
                                                  | some r145 => (
                                                    match (field_Mul (some p) a r145) with
                                                    | none => none
                                                    | some r146 => (
                                                      match (l08_of 1) with
                                                      | none => none
                                                      | some r147 => (
                                                        none))))
                                                else (
                                                  none))))
                                          else (
                                            bif (!(eqF (.arr 4 (.int .u64)) r4 (fun _ => 0))) then (
                                              match (field_Inv (some p) a) with
                                              | none => none
                                              | some r148 => (
                                                match (field_Mul (some p) a r148) with
                                                | none => none
                                                | some r149 => (
                                                  match (l08_of 1) with
                                                  | none => none
                                                  | some r150 => (
                                                    none))))
                                            else (
                                              none)))))))))))))))))))
        else (
          none))))
end Go.Pl

set_option linter.unusedVariables false
set_option linter.unusedSimpArgs false
set_option maxRecDepth 100000
set_option maxHeartbeats 0
namespace Go.Pl
end Go.Pl
open Go Go.Den Go.Pl
namespace Go.Proofs.Ytoofellokbgmaaa
noncomputable def x_l08_FieldIs : Cx := { ti := ti, con := [(36, c_r07_Least), (38, c_r07_Other), (40, c_r07_Great), (17, c_group_New), (58, c_field_Add), (59, c_field_Sub), (57, c_field_Mul), (63, c_l08_of), (67, c_field_Inv), (61, c_field_In), (69, c_l08_awake)], fns := [], un := 6 }
theorem xok_l08_FieldIs : CxOk Try.prog x_l08_FieldIs := CxOk.of mixed ti_ok (List.forall_mem_cons.2 ⟨con_r07_Least, List.forall_mem_cons.2 ⟨con_r07_Other, List.forall_mem_cons.2 ⟨con_r07_Great, List.forall_mem_cons.2 ⟨con_group_New, List.forall_mem_cons.2 ⟨con_field_Add, List.forall_mem_cons.2 ⟨con_field_Sub, List.forall_mem_cons.2 ⟨con_field_Mul, List.forall_mem_cons.2 ⟨con_l08_of, List.forall_mem_cons.2 ⟨con_field_Inv, List.forall_mem_cons.2 ⟨con_field_In, List.forall_mem_cons.2 ⟨con_l08_awake, List.forall_mem_nil _⟩⟩⟩⟩⟩⟩⟩⟩⟩⟩⟩) (List.forall_mem_nil _)
theorem fn_l08_FieldIs : FnOk Try.prog 13 Try.f13 [] := ⟨Try.func13, Try.call13, lps_nil⟩
theorem e_l08_FieldIs (which : Int) (a : (Nat → Int)) (b : (Nat → Int)) : bodyK x_l08_FieldIs [] (denF x_l08_FieldIs 8) Try.f13 (domV [(.int .i64), (.arr 4 (.int .u64)), (.arr 4 (.int .u64))] (which, a, b, ())) [] 0 kTrue = l08_FieldIs' which a b := by kernel_rfl
end Go.Proofs.Ytoofellokbgmaaa

set_option linter.unusedVariables false
set_option linter.unusedSimpArgs false
namespace Go.Pl
open Go Go.Den Go.Num

theorem l08_FieldIs_true {which : Int} {a b : Nat → Int} (hw : Go.Den.Good (.int .i64) which) (ha : Go.Den.Good (.arr 4 (.int .u64)) a) (hb : Go.Den.Good (.arr 4 (.int .u64)) b) : l08_FieldIs' which a b = some () := by
  have hc : ∃ z, IsN (upd (upd (upd (upd (fun _ => 0) 0 (b 1)) 1 (a 0)) 2 (b 3)) 3 (a 2)) z := by
    obtain ⟨x, hx⟩ := good_nat ha
    obtain ⟨y, hy⟩ := good_nat hb
    obtain ⟨x0, x1, x2, x3, e0, e1, e2, e3, h0, h1, h2, h3, hn⟩ := hx.get
    obtain ⟨y0, y1, y2, y3, f0, f1, f2, f3, g0, g1, g2, g3, hm⟩ := hy.get
    rw [f1, e0, f3, e2]
    exact ⟨_, isN4 g1 h0 g3 h2⟩
  obtain ⟨x, hx⟩ := good_nat ha
  obtain ⟨y, hy⟩ := good_nat hb
  obtain ⟨z, hz⟩ := hc
  obtain ⟨i, hi, hidx⟩ := three_idx which
  obtain ⟨k, l, ga, g, P, Q, G, ht, hg⟩ := three_spec hi
  unfold l08_FieldIs'
  generalize upd (upd (upd (upd (fun _ => 0) 0 (b 1)) 1 (a 0)) 2 (b 3)) 3 (a 2) = c at *
  have hqpos := hg.group.qpos
  have hq2 := hg.group.pq.1
  obtain ⟨o, o1, o2⟩ := l08_of_spec (n := 1) (by decide)
  have o2' : IsN o 1 := o2
  obtain ⟨s, s1, s2⟩ := field_Add_spec hg.group hx IsN.zero
  rw [Nat.add_zero] at s2
  obtain ⟨ab, ab1, ab2⟩ := field_Add_spec hg.group hx hy
  obtain ⟨ba, ba1, ba2⟩ := field_Add_spec hg.group hy hx
  obtain ⟨abc, abc1, abc2⟩ := field_Add_spec hg.group ab2 hz
  obtain ⟨bc, bc1, bc2⟩ := field_Add_spec hg.group hy hz
  obtain ⟨abc', abc1', abc2'⟩ := field_Add_spec hg.group hx bc2
  obtain ⟨d, d1, d2⟩ := field_Sub_spec hg.group ab2 hy
  obtain ⟨m, m1, m2⟩ := field_Mul_spec hg.group hx hy
  obtain ⟨n, n1, n2⟩ := field_Mul_spec hg.group hy hx
  obtain ⟨mc, mc1, mc2⟩ := field_Mul_spec hg.group m2 hz
  obtain ⟨p, p1, p2⟩ := field_Mul_spec hg.group hy hz
  obtain ⟨q, q1, q2⟩ := field_Mul_spec hg.group hx p2
  obtain ⟨u, u1, u2⟩ := field_Mul_spec hg.group hx o2'
  rw [Nat.mul_one] at u2
  obtain ⟨w, w1, w2⟩ := field_Mul_spec hg.group hx bc2
  obtain ⟨mac, mac1, mac2⟩ := field_Mul_spec hg.group hx hz
  obtain ⟨t, t1, t2⟩ := field_Add_spec hg.group m2 mac2
  obtain ⟨v, V, v1, v2, v3, v4, v5⟩ := field_Inv_spec hg.group hx
  obtain ⟨f, f1, f2⟩ := field_Mul_spec hg.group hx v2
  have hin := field_In_spec hg.group s2
  rw [decide_eq_true (Nat.mod_lt x hqpos)] at hin
  have e1 : (x + y) % Q = (y + x) % Q := by rw [Nat.add_comm]
  have e2 : ((x + y) % Q + z) % Q = (x + (y + z) % Q) % Q := by rw [Nat.mod_add_mod, Nat.add_mod_mod, Nat.add_assoc]
  have e3 : ((x + y) % Q + (Q - y % Q)) % Q = x % Q := by
    apply mod_add_cancel (c := y)
    rw [sub_mod_add hqpos, Nat.mod_mod]
  have e4 : x * y % Q = y * x % Q := by rw [Nat.mul_comm]
  have e5 : x * y % Q * z % Q = x * (y * z % Q) % Q := by rw [Nat.mod_mul_mod, Nat.mul_mod_mod, Nat.mul_assoc]
  have e6 : x * ((y + z) % Q) % Q = (x * y % Q + x * z % Q) % Q := by rw [Nat.mul_mod_mod, ← Nat.add_mod, Nat.mul_add]
  have b1 := ab2.eqb ba2
  have b2 := abc2.eqb abc2'
  have b3 := d2.eqb s2
  have b4 := m2.eqb n2
  have b5 := mc2.eqb q2
  have b6 := u2.eqb s2
  have b7 := w2.eqb t2
  rw [decide_eq_true e1] at b1
  rw [decide_eq_true e2] at b2
  rw [decide_eq_true e3] at b3
  rw [decide_eq_true e4] at b4
  rw [decide_eq_true e5] at b5
  rw [decide_eq_true rfl] at b6
  rw [decide_eq_true e6] at b7
  by_cases h0 : x % Q = 0
  · have b8 := s2.isZero
    have b9 := v2.isZero
    rw [decide_eq_true h0] at b8
    rw [decide_eq_true (v4 h0)] at b9
    simp (disch := omega) only [wrap_i64n, wrapun, dec_t, dec_f, inb_t, cond_true, cond_false, Int.toNat_natCast, beq_t, beq_f, bne_t, bne_f, Bool.not_true, Bool.not_false, Int.reduceToNat, ft_b, tf_b, tt_b, ff_b, decide_true, decide_false, r07_Least_eq2, r07_Other_eq2, r07_Great_eq2, hidx, ht, hg.made, o1, s1, ab1, ba1, b1, abc1, bc1, abc1', b2, d1, b3, m1, n1, b4, mc1, p1, q1, b5, u1, b6, w1, mac1, t1, b7, v1, f1, b8, b9, hin, l08_awake_spec]
  · have b8 := s2.isZero
    rw [decide_eq_false h0] at b8
    have b9 := f2.eqb o2'
    rw [decide_eq_true (by rw [Nat.mul_comm]; exact v5 h0)] at b9
    simp (disch := omega) only [wrap_i64n, wrapun, dec_t, dec_f, inb_t, cond_true, cond_false, Int.toNat_natCast, beq_t, beq_f, bne_t, bne_f, Bool.not_true, Bool.not_false, Int.reduceToNat, ft_b, tf_b, tt_b, ff_b, decide_true, decide_false, r07_Least_eq2, r07_Other_eq2, r07_Great_eq2, hidx, ht, hg.made, o1, s1, ab1, ba1, b1, abc1, bc1, abc1', b2, d1, b3, m1, n1, b4, mc1, p1, q1, b5, u1, b6, w1, mac1, t1, b7, v1, f1, b8, b9, hin, l08_awake_spec]

end Go.Pl
