/-
  One statement, plainly.
-/
import Derived.Test.YtejjdkhjdcjbbaaDenD
import Derived.Test.YtejjdkhjdcjbbaaL21
import Derived.Test.YtejjdkhjdcjbbaaPlA
import Derived.Test.YtejjdkhjdcjbbaaEqA
import Derived.Test.YtejjdkhjdcjbbaaDenF
set_option linter.unusedVariables false
set_option linter.unusedSimpArgs false
set_option maxRecDepth 100000
set_option maxHeartbeats 0
namespace Go.Pl
end Go.Pl
open Go Go.Den Go.Pl
namespace Go.Pl
abbrev T_l21_VotesCopied_0 (nl : Nat) (l : Nat → (Int × ((Int × Int) × ByteArray))) (i : Int) (more : (Int × ((Int × Int) × ByteArray))) (v : (Int × (Nat → (Nat → (Nat → ((Int × Int) × ByteArray)))))) : (((Nat × (Nat → (Int × ((Int × Int) × ByteArray)))) × (Unit × (Unit × (Int × Unit)))) × ((Int × ((Int × Int) × ByteArray)) × ((Int × (Nat → (Nat → (Nat → ((Int × Int) × ByteArray))))) × Unit))) := (((nl, l), ((), ((), (i, ())))), (more, (v, ())))
abbrev Y_l21_VotesCopied_0_0 (more : (Int × ((Int × Int) × ByteArray))) (v : (Int × (Nat → (Nat → (Nat → ((Int × Int) × ByteArray)))))) : ((Unit × (Unit × Unit)) × ((Int × ((Int × Int) × ByteArray)) × ((Int × (Nat → (Nat → (Nat → ((Int × Int) × ByteArray))))) × Unit))) := (((), ((), ())), (more, (v, ())))
noncomputable def R_l21_VotesCopied_0 : (((Nat × (Nat → (Int × ((Int × Int) × ByteArray)))) × (Unit × (Unit × (Int × Unit)))) × ((Int × ((Int × Int) × ByteArray)) × ((Int × (Nat → (Nat → (Nat → ((Int × Int) × ByteArray))))) × Unit))) → Option ((((Nat × (Nat → (Int × ((Int × Int) × ByteArray)))) × (Unit × (Unit × (Int × Unit)))) × ((Int × ((Int × Int) × ByteArray)) × ((Int × (Nat → (Nat → (Nat → ((Int × Int) × ByteArray))))) × Unit))) ⊕ ((Unit × (Unit × Unit)) × ((Int × ((Int × Int) × ByteArray)) × ((Int × (Nat → (Nat → (Nat → ((Int × Int) × ByteArray))))) × Unit)))) := fun x =>
 let nl := x.1.1.1
 let l := x.1.1.2
 let i := x.1.2.2.2.1
 let more := x.2.1
 let v := x.2.2.1
 bif (decide (i < ((nl : Nat) : Int))) then (
  bif (inb i nl) then (
   bif (inb i nl) then (
    bif (inb i nl) then (
     match (votes_Votes_Put_m (l (Int.toNat i)).1 (l (Int.toNat i)).2.1 (l (Int.toNat i)).2.2 v) with
     | none => none
     | some y => (
      let r := y.1.1
      let o := y.2.1
      some (.inl (((nl, l), ((), ((), ((IntKind.i64.wrap (i + 1)), ())))), (more, (o, ()))))))
    else (
     none))
   else (
    none))
  else (
   none))
 else (
  some (.inr (((), ((), ())), (more, (v, ())))))
noncomputable def l21_VotesCopied' (nl : Nat) (l : Nat → (Int × ((Int × Int) × ByteArray))) (more : (Int × ((Int × Int) × ByteArray))) : Option (Unit) :=
 match (l21_short nl l) with
 | none => none
 | some r => (
  bif (!r) then (
   match l21_awake with
   | none => none
   | some r1 => (
    bif r1 then (
     some ())
    else (
     none)))
  else (
   bif (decide ((((ByteArray.size more.2.2) : Nat) : Int) > 40)) then (
    match l21_awake with
    | none => none
    | some r2 => (
     bif r2 then (
      some ())
     else (
      none)))
   else (
    match (votes_New_m 7) with
    | none => none
    | some y => (
     match y with
     | .inl y1 => (
      let r3 := y1.1.2.1
      bif (r3 != 0) then (
       none)
      else (
       none))
     | .inr y1 => (
      let r4 := y1.1.2.1
      let o := y1.2.1
      bif (r4 != 0) then (
       none)
      else (
       match (loopF R_l21_VotesCopied_0 (((nl, l), ((), ((), (0, ())))), (more, (o, ())))) with
       | none => none
       | some y2 => (
        let more1 := y2.2.1
        let v := y2.2.2.1
        match (votes_Votes_Copy_m v) with
        | none => none
        | some y3 => (
         match y3 with
         | .inl y4 => (
          let o1 := y4.2.1
          match (votes_Votes_Count (some o1) more1.2.1 more1.2.2) with
          | none => none
          | some r5 => (
           none))
         | .inr y4 => (
          let o2 := y4.2.1
          let o3 := y4.2.2.1
          match (votes_Votes_Count (some o2) more1.2.1 more1.2.2) with
          | none => none
          | some r6 => (
           match (votes_Votes_Count (some o3) more1.2.1 more1.2.2) with
           | none => none
           | some r7 => (
            bif (r7 != r6) then (
             none)
            else (
             match (votes_Votes_Put_m more1.1 more1.2.1 more1.2.2 o3) with
             | none => none
             | some y5 => (
              let r8 := y5.1.1
              let o4 := y5.2.1
              match (votes_Votes_Count (some o2) more1.2.1 more1.2.2) with
              | none => none
              | some r9 => (
               bif (r9 != r6) then (
                none)
               else (
                bif r8 then (
                 match (votes_Votes_Count (some o4) more1.2.1 more1.2.2) with
                 | none => none
                 | some r10 => (
                  bif (r10 != (IntKind.i64.wrap (r6 + 1))) then (
                   none)
                  else (
                   match (votes_Votes_Put_m more1.1 more1.2.1 more1.2.2 o2) with
                   | none => none
                   | some y6 => (
                    let r11 := y6.1.1
                    let o5 := y6.2.1
                    bif (!(r11 == r8)) then (
                     none)
                    else (
                     match (votes_Votes_At none 1 1 0) with
                     | none => none
                     | some r12 => (
                      match (l21_of 1 1) with
                      | none => none
                      | some r13 => (
                       match (votes_Votes_Put none 1 r13 (ByteArray.mk #[100])) with
                       | none => none
                       | some r14 => (
                        bif r14 then (
                         none)
                        else (
                         match (l21_of 1 1) with
                         | none => none
                         | some r15 => (
                          match (votes_Votes_Count none r15 (ByteArray.mk #[100])) with
                          | none => none
                          | some r16 => (
                           bif (r16 != 0) then (
                            none)
                           else (
                            match (l21_of 0 0) with
                            | none => none
                            | some r17 => (
                             bif (!(eqF (.pair (.int .i64) (.int .i64)) r12.1 r17)) then (
                              none)
                             else (
                              bif (!(sEq r12.2 (ByteArray.mk #[]))) then (
                               none)
                              else (
                               match (votes_Votes_Copy none) with
                               | none => none
                               | some r18 => (
                                match r18 with
                                | none => (
                                 match (votes_Votes_At (some (0, (fun _ => (fun _ => (fun _ => ((0, 0), ByteArray.empty)))))) 1 1 0) with
                                 | none => none
                                 | some r19 => (
                                  match (l21_of 1 1) with
                                  | none => none
                                  | some r20 => (
                                   match (votes_Votes_Put_m 1 r20 (ByteArray.mk #[100]) (0, (fun _ => (fun _ => (fun _ => ((0, 0), ByteArray.empty)))))) with
                                   | none => none
                                   | some y7 => (
                                    let r21 := y7.1.1
                                    let o6 := y7.2.1
                                    bif r21 then (
                                     none)
                                    else (
                                     match (l21_of 1 1) with
                                     | none => none
                                     | some r22 => (
                                      match (votes_Votes_Count (some o6) r22 (ByteArray.mk #[100])) with
                                      | none => none
                                      | some r23 => (
                                       bif (r23 != 0) then (
                                        none)
                                       else (
                                        match (l21_of 0 0) with
                                        | none => none
                                        | some r24 => (
                                         bif (!(eqF (.pair (.int .i64) (.int .i64)) r19.1 r24)) then (
                                          none)
                                         else (
                                          bif (!(sEq r19.2 (ByteArray.mk #[]))) then (
                                           none)
                                          else (
                                           match (votes_Votes_Copy_m o6) with
                                           | none => none
                                           | some y8 => (
                                            match y8 with
                                            | .inl y9 => (
                                             let o7 := y9.2.1
                                             match l21_awake with
                                             | none => none
                                             | some r25 => (
                                              bif r25 then (
                                               some ())
                                              else (
                                               none)))
                                            | .inr y9 => (
                                             let o8 := y9.2.1
                                             let o9 := y9.2.2.1
                                             none)))))))))))))
                                | some p => (
                                 none)))))))))))))))))
                else (
                 match (votes_Votes_Put_m more1.1 more1.2.1 more1.2.2 o2) with
                 | none => none
                 | some y10 => (
                  let r26 := y10.1.1
                  let o10 := y10.2.1
                  bif (!(r26 == r8)) then (
                   none)
                  else (
                   match (votes_Votes_At none 1 1 0) with
                   | none => none
                   | some r27 => (
                    match (l21_of 1 1) with
                    | none => none
                    | some r28 => (
                     match (votes_Votes_Put none 1 r28 (ByteArray.mk #[100])) with
                     | none => none
                     | some r29 => (
                      bif r29 then (
                       none)
                      else (
                       match (l21_of 1 1) with
                       | none => none
                       | some r30 => (
                        match (votes_Votes_Count none r30 (ByteArray.mk #[100])) with
                        | none => none
                        | some r31 => (
                         bif (r31 != 0) then (
                          none)
                         else (
                          match (l21_of 0 0) with
                          | none => none
                          | some r32 => (
                           bif (!(eqF (.pair (.int .i64) (.int .i64)) r27.1 r32)) then (
                            none)
                           else (
                            bif (!(sEq r27.2 (ByteArray.mk #[]))) then (
                             none)
                            else (
                             match (votes_Votes_Copy none) with
                             | none => none
                             | some r33 => (
                              match r33 with
                              | none => (
                               match (votes_Votes_At (some (0, (fun _ => (fun _ => (fun _ => ((0, 0), ByteArray.empty)))))) 1 1 0) with
                               | none => none
                               | some r34 => (
                                match (l21_of 1 1) with
                                | none => none
                                | some r35 => (
                                 match (votes_Votes_Put_m 1 r35 (ByteArray.mk #[100]) (0, (fun _ => (fun _ => (fun _ => ((0, 0), ByteArray.empty)))))) with
                                 | none => none
                                 | some y11 => (
                                  let r36 := y11.1.1
                                  let o11 := y11.2.1
                                  bif r36 then (
                                   none)
                                  else (
                                   match (l21_of 1 1) with
                                   | none => none
                                   | some r37 => (
                                    match (votes_Votes_Count (some o11) r37 (ByteArray.mk #[100])) with
                                    | none => none
                                    | some r38 => (
                                     bif (r38 != 0) then (
                                      none)
                                     else (
                                      match (l21_of 0 0) with
                                      | none => none
                                      | some r39 => (
                                       bif (!(eqF (.pair (.int .i64) (.int .i64)) r34.1 r39)) then (
                                        none)
                                       else (
                                        bif (!(sEq r34.2 (ByteArray.mk #[]))) then (
                                         none)
                                        else (
                                         match (votes_Votes_Copy_m o11) with
                                         | none => none
                                         | some y12 => (
                                          match y12 with
                                          | .inl y13 => (
                                           let o12 := y13.2.1
                                           match l21_awake with
                                           | none => none
                                           | some r40 => (
                                            bif r40 then (
                                             some ())
                                            else (
                                             none)))
                                          | .inr y13 => (
                                           let o13 := y13.2.1
                                           let o14 := y13.2.2.1
                                           none)))))))))))))
                              | some p1 => (
                               none))))))))))))))))))))))))))))))
end Go.Pl

set_option linter.unusedVariables false
set_option linter.unusedSimpArgs false
set_option maxRecDepth 100000
set_option maxHeartbeats 0
namespace Go.Pl
end Go.Pl
open Go Go.Den Go.Pl
namespace Go.Proofs.Ytejjdkhjdcjbbaa
abbrev S_l21_VotesCopied_0 : Shape := { sl := [(0, (.sz (.pair (.int .i64) (.pair (.pair (.int .i64) (.int .i64)) .str)))), (3, (.c ⟨(.ptr (.pair (.int .i64) (.pair (.pair (.int .i64) (.int .i64)) .str))), (.rf 0 [])⟩)), (5, (.c ⟨(.ptr (.pair (.int .i64) (.arr 7 (.arr 4 (.arr 2 (.pair (.pair (.int .i64) (.int .i64)) .str)))))), (.rf 1 [])⟩)), (7, (.v (.int .i64)))], ob := [(0, (.v (.pair (.int .i64) (.pair (.pair (.int .i64) (.int .i64)) .str)))), (1, (.v (.pair (.int .i64) (.arr 7 (.arr 4 (.arr 2 (.pair (.pair (.int .i64) (.int .i64)) .str)))))))], lo := 2, nx := 2 }
abbrev E_l21_VotesCopied_0 : List Ex := [(.normal, { sl := [(3, (.c ⟨(.ptr (.pair (.int .i64) (.pair (.pair (.int .i64) (.int .i64)) .str))), (.rf 0 [])⟩)), (5, (.c ⟨(.ptr (.pair (.int .i64) (.arr 7 (.arr 4 (.arr 2 (.pair (.pair (.int .i64) (.int .i64)) .str)))))), (.rf 1 [])⟩))], ob := [(0, (.v (.pair (.int .i64) (.pair (.pair (.int .i64) (.int .i64)) .str)))), (1, (.v (.pair (.int .i64) (.arr 7 (.arr 4 (.arr 2 (.pair (.pair (.int .i64) (.int .i64)) .str)))))))], lo := 2, nx := 2 })]
noncomputable def L_l21_VotesCopied_0 : Code := loopIn (bodyOf Try.f5) 0
noncomputable def P_l21_VotesCopied_0 : Lp := lpOf S_l21_VotesCopied_0 E_l21_VotesCopied_0 170 R_l21_VotesCopied_0
noncomputable def x_l21_VotesCopied : Cx := { ti := ti, con := [(10, c_l21_short), (11, c_l21_awake), (12, c_votes_New_m), (14, conIf 0 c_votes_Votes_Put_m c_votes_Votes_Put), (19, conIf 0 c_votes_Votes_Copy_m c_votes_Votes_Copy), (15, c_votes_Votes_Count), (17, c_votes_Votes_At), (20, c_l21_of)], fns := [], un := 6 }
theorem xok_l21_VotesCopied : CxOk Try.prog x_l21_VotesCopied := CxOk.of mixed ti_ok (List.forall_mem_cons.2 ⟨con_l21_short, List.forall_mem_cons.2 ⟨con_l21_awake, List.forall_mem_cons.2 ⟨con_votes_New_m, List.forall_mem_cons.2 ⟨conIf_ok con_votes_Votes_Put_m con_votes_Votes_Put, List.forall_mem_cons.2 ⟨conIf_ok con_votes_Votes_Copy_m con_votes_Votes_Copy, List.forall_mem_cons.2 ⟨con_votes_Votes_Count, List.forall_mem_cons.2 ⟨con_votes_Votes_At, List.forall_mem_cons.2 ⟨con_l21_of, List.forall_mem_nil _⟩⟩⟩⟩⟩⟩⟩⟩) (List.forall_mem_nil _)
theorem r_l21_VotesCopied_0 (x : S_l21_VotesCopied_0.X) : denC x_l21_VotesCopied [] (denF x_l21_VotesCopied 8) L_l21_VotesCopied_0 (S_l21_VotesCopied_0.mkS 170 x) (kRound 0 S_l21_VotesCopied_0 E_l21_VotesCopied_0) = R_l21_VotesCopied_0 x := by kernel_rfl
theorem l_l21_VotesCopied_0 : LpOk Try.prog 0 (.loop L_l21_VotesCopied_0) P_l21_VotesCopied_0 := lpOf_ok xok_l21_VotesCopied 8 (lps_nil) S_l21_VotesCopied_0 E_l21_VotesCopied_0 170 R_l21_VotesCopied_0 (by decide) r_l21_VotesCopied_0
theorem fn_l21_VotesCopied : FnOk Try.prog 5 Try.f5 [(0, P_l21_VotesCopied_0)] := ⟨Try.func5, Try.call5, lps_of (by kernel_rfl) (lps_one l_l21_VotesCopied_0 (by kernel_rfl) (List.forall_mem_nil _))⟩
theorem e_l21_VotesCopied (nl : Nat) (l : Nat → (Int × ((Int × Int) × ByteArray))) (more : (Int × ((Int × Int) × ByteArray))) : bodyK x_l21_VotesCopied [(0, P_l21_VotesCopied_0)] (denF x_l21_VotesCopied 8) Try.f5 (domV [(.sl (.pair (.int .i64) (.pair (.pair (.int .i64) (.int .i64)) .str))), (.pair (.int .i64) (.pair (.pair (.int .i64) (.int .i64)) .str))] ((nl, l), more, ())) [] 0 kTrue = l21_VotesCopied' nl l more := by kernel_rfl
end Go.Proofs.Ytejjdkhjdcjbbaa

set_option linter.unusedVariables false
set_option linter.unusedSimpArgs false
namespace Go.Pl
open Go Go.Den

theorem votes_Copy_m_spec {N : Nat} (h : 1 ≤ N) (F : TabV) : votes_Votes_Copy_m ((N : Int), F) = some (.inr (((), ()), (((N : Int), F), (((N : Int), F), ())))) := by
  rw [votes_Votes_Copy_m_eq]; unfold votes_Votes_Copy_m'
  simp (disch := omega) only [wrap_i64n, wrapun, dec_t, dec_f, inb_t, cond_true, cond_false, Int.toNat_natCast, beq_t, beq_f, bne_t, bne_f, Bool.not_true, Bool.not_false, Int.reduceToNat, ft_b, tf_b, tt_b, ff_b, decide_true, decide_false]
theorem votes_no_At (a b c : Int) : votes_Votes_At none a b c = some ((0, 0), ByteArray.mk #[]) := by
  rw [votes_Votes_At_eq]; rfl
theorem votes_no_Count (s : Int × Int) (d : ByteArray) : votes_Votes_Count none s d = some 0 := by
  rw [votes_Votes_Count_eq]; rfl
theorem votes_no_Put (a : Int) (s : Int × Int) (d : ByteArray) : votes_Votes_Put none a s d = some false := by
  rw [votes_Votes_Put_eq]; unfold votes_Votes_Put'
  simp only [stamp_May_spec]
  cases decide (mayP s) <;> rfl
theorem votes_no_Copy : votes_Votes_Copy none = some none := by
  rw [votes_Votes_Copy_eq]; rfl
theorem votes_zero_Copy (F : TabV) : votes_Votes_Copy_m (0, F) = some (.inl (((), ()), ((0, F), ()))) := by
  rw [votes_Votes_Copy_m_eq]; rfl
theorem cnt_put {N : Nat} {F : TabV} {srv : Int} {s : StampT} {d : ByteArray} (ho : okV N F srv s) : cntT N (putV F srv s d) s d = cntT N F s d + 1 := by
  have := cntT_put (d := d) ho d ho.1 rfl rfl
  have e : hit (F (srv - 1).toNat (s.2 - 1).toNat (s.1 % 2).toNat) s d = false := by
    cases hh : hit (F (srv - 1).toNat (s.2 - 1).toNat (s.1 % 2).toNat) s d with
    | false => rfl
    | true =>
      have h1 := hit_stamp hh
      have h2 := ho.2.2.2
      rw [h1] at h2
      omega
  rw [e, hit_same] at this
  simpa using this
theorem l21_VotesCopied_true {nl : Nat} {l : Nat → Int × ((Int × Int) × ByteArray)} {more : Int × ((Int × Int) × ByteArray)} (hl : Go.Den.Good (.sl (.pair (.int .i64) (.pair (.pair (.int .i64) (.int .i64)) .str))) (.fz nl l))
    (hm : Go.Den.Good (.pair (.int .i64) (.pair (.pair (.int .i64) (.int .i64)) .str)) more) : l21_VotesCopied' nl l more = some () := by
  have hli : ∀ i, i < nl → (l i).1 < 9223372036854775808 ∧ (l i).2.2.size ≤ 9223372036854775807 := fun i hi => by
    have := hl.2 i hi
    exact ⟨Int.lt_of_le_of_lt this.1.2 (by decide), this.2.2⟩
  have hm1 : more.1 < 9223372036854775808 := Int.lt_of_le_of_lt hm.1.2 (by decide)
  obtain ⟨b0, q1, q2⟩ := l21_short_spec nl hl.1 l (fun i hi => (hli i hi).2)
  unfold l21_VotesCopied'
  simp only [q1]
  cases b0 with
  | false => simp only [Bool.not_false, cond_true, l21_awake_spec]
  | true =>
  have hnl := q2 rfl
  by_cases g1 : more.2.2.size ≤ 40
  rotate_left
  · simp (disch := omega) only [wrap_i64n, wrapun, dec_t, dec_f, inb_t, cond_true, cond_false, Int.toNat_natCast, beq_t, beq_f, bne_t, bne_f, Bool.not_true, Bool.not_false, Int.reduceToNat, ft_b, tf_b, tt_b, ff_b, decide_true, decide_false, l21_awake_spec]
  have hn : votes_New_m 7 = _ := votes_New_m_spec (n := 7) (by decide) (by decide)
  obtain ⟨F, hy, _⟩ := loop_for (R := R_l21_VotesCopied_0) (fun i (F : TabV) => T_l21_VotesCopied_0 nl l (i : Int) more (((7 : Nat) : Int), F)) (fun F => Y_l21_VotesCopied_0_0 more (((7 : Nat) : Int), F))
    (fun _ _ => True) nl
    (fun i hi F _ => by
      obtain ⟨h1, h2⟩ := hli i hi
      have hp := votes_Put_m_spec (N := 7) (by decide) F (l i).1 h1 (l i).2.1 (l i).2.2
      refine ⟨if okV 7 F (l i).1 (l i).2.1 then putV F (l i).1 (l i).2.1 (l i).2.2 else F, ?_, trivial⟩
      unfold R_l21_VotesCopied_0
      simp (disch := omega) only [add_c, add_l, l_add, mul_c, mul_l, l_mul, sub_c, sub_l, l_sub, div_c, div_l, mod_c, mod_l, tdiv_c, tdiv_l, tmod_c, tmod_l, wrap_i64n, wrapun, dec_t, dec_f, inb_t, cond_true, cond_false, Int.toNat_natCast, beq_t, beq_f, bne_t, bne_f, Bool.not_true, Bool.not_false, Int.reduceToNat, ft_b, tf_b, tt_b, ff_b, decide_true, decide_false, hp])
    (fun F _ => by
      unfold R_l21_VotesCopied_0
      simp (disch := omega) only [add_c, add_l, l_add, mul_c, mul_l, l_mul, sub_c, sub_l, l_sub, div_c, div_l, mod_c, mod_l, tdiv_c, tdiv_l, tmod_c, tmod_l, wrap_i64n, wrapun, dec_t, dec_f, inb_t, cond_true, cond_false, Int.toNat_natCast, beq_t, beq_f, bne_t, bne_f, Bool.not_true, Bool.not_false, Int.reduceToNat, ft_b, tf_b, tt_b, ff_b, decide_true, decide_false]) noV trivial
  have hy' : loopF R_l21_VotesCopied_0 (((nl, l), ((), ((), (0, ())))), (more, ((7, noV), ()))) = some (Y_l21_VotesCopied_0_0 more (((7 : Nat) : Int), F)) := hy
  have hc : votes_Votes_Copy_m (7, F) = _ := votes_Copy_m_spec (N := 7) (by decide) F
  have hp : votes_Votes_Put_m more.1 more.2.1 more.2.2 (7, F) = _ := votes_Put_m_spec (N := 7) (by decide) F more.1 hm1 more.2.1 more.2.2
  have hc0 : votes_Votes_Count (some (7, F)) more.2.1 more.2.2 = _ := votes_Count_spec (N := 7) (by decide) F more.2.1 more.2.2
  have hc1 : votes_Votes_Count (some (7, putV F more.1 more.2.1 more.2.2)) more.2.1 more.2.2 = _ := votes_Count_spec (N := 7) (by decide) (putV F more.1 more.2.1 more.2.2) more.2.1 more.2.2
  have z1 : votes_Votes_At (some (0, fun _ => fun _ => fun _ => ((0, 0), ByteArray.empty))) 1 1 0 = _ := votes_At_spec (N := 0) (by decide) _ 1 1 0
  have z2 : votes_Votes_Put_m 1 (1, 1) (ByteArray.mk #[100]) (0, fun _ => fun _ => fun _ => ((0, 0), ByteArray.empty)) = _ := votes_Put_m_spec (N := 0) (by decide) (fun _ => fun _ => fun _ => ((0, 0), ByteArray.empty)) 1 (by decide) (1, 1) (ByteArray.mk #[100])
  have z3 : votes_Votes_Count (some (0, fun _ => fun _ => fun _ => ((0, 0), ByteArray.empty))) (1, 1) (ByteArray.mk #[100]) = _ := votes_Count_spec (N := 0) (by decide) _ (1, 1) (ByteArray.mk #[100])
  have z4 : ¬ okV 0 (fun _ => fun _ => fun _ => ((0, 0), ByteArray.empty)) 1 (1, 1) := by decide
  have z5 : cntT 0 (fun _ => fun _ => fun _ => ((0, 0), ByteArray.empty)) (1, 1) (ByteArray.mk #[100]) = 0 := by decide
  have z6 : atT 0 (fun _ => fun _ => fun _ => ((0, 0), ByteArray.empty)) 1 1 0 = ((0, 0), ByteArray.mk #[]) := by unfold atT; rw [if_neg (by decide)]
  rw [z6] at z1
  rw [z5] at z3
  simp only [z4, decide_false, if_false] at z2
  have sr : ∀ b : ByteArray, sEq b b = true := fun b => by simp [sEq]
  have l0 : cntT 7 F more.2.1 more.2.2 ≤ 7 := by
    unfold cntT
    split
    · exact cnt_le _ _
    · omega
  by_cases ho : okV 7 F more.1 more.2.1
  · have hcp := cnt_put (d := more.2.2) ho
    simp only [ho, decide_true, if_true] at hp
    rw [hcp] at hc1
    simp (disch := omega) only [add_c, add_l, l_add, mul_c, mul_l, l_mul, sub_c, sub_l, l_sub, div_c, div_l, mod_c, mod_l, tdiv_c, tdiv_l, tmod_c, tmod_l, wrap_i64n, wrapun, dec_t, dec_f, inb_t, cond_true, cond_false, Int.toNat_natCast, beq_t, beq_f, bne_t, bne_f, Bool.not_true, Bool.not_false, Int.reduceToNat, ft_b, tf_b, tt_b, ff_b, decide_true, decide_false, hn, hy', hc, hp, hc0, hc1, Int.cast_ofNat_Int, votes_no_At, votes_no_Count, votes_no_Put, votes_no_Copy, l21_of_spec, stamp_eqF, sr, z1, z2, z3, votes_zero_Copy, l21_awake_spec]
  · simp only [ho, decide_false, if_false] at hp
    simp (disch := omega) only [add_c, add_l, l_add, mul_c, mul_l, l_mul, sub_c, sub_l, l_sub, div_c, div_l, mod_c, mod_l, tdiv_c, tdiv_l, tmod_c, tmod_l, wrap_i64n, wrapun, dec_t, dec_f, inb_t, cond_true, cond_false, Int.toNat_natCast, beq_t, beq_f, bne_t, bne_f, Bool.not_true, Bool.not_false, Int.reduceToNat, ft_b, tf_b, tt_b, ff_b, decide_true, decide_false, hn, hy', hc, hp, hc0, Int.cast_ofNat_Int, votes_no_At, votes_no_Count, votes_no_Put, votes_no_Copy, l21_of_spec, stamp_eqF, sr, z1, z2, z3, votes_zero_Copy, l21_awake_spec]
end Go.Pl
