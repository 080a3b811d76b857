/-
  One statement, plainly.
-/
import Derived.Test.YtejjdkhjdcjbbaaDenD
import Derived.Test.YtejjdkhjdcjbbaaL21
import Derived.Test.YtejjdkhjdcjbbaaPlA
import Derived.Test.YtejjdkhjdcjbbaaEqA
import Derived.Test.YtejjdkhjdcjbbaaDenF
set_option linter.unusedVariables false
set_option linter.unusedSimpArgs false
set_option maxRecDepth 100000
set_option maxHeartbeats 0
namespace Go.Pl
end Go.Pl
open Go Go.Den Go.Pl
namespace Go.Pl
abbrev T_l21_VotesPlay_2 (n : Int) (nl : Nat) (l : Nat → (Int × ((Int × Int) × ByteArray))) (nmodel : Nat) (model : Nat → (Int × ((Int × Int) × ByteArray))) (i : Int) (k : Int) (v : (Int × (Nat → (Nat → (Nat → ((Int × Int) × ByteArray)))))) : ((Int × ((Nat × (Nat → (Int × ((Int × Int) × ByteArray)))) × (Unit × ((Nat × (Nat → (Int × ((Int × Int) × ByteArray)))) × (Int × (Int × Unit)))))) × ((Int × (Nat → (Nat → (Nat → ((Int × Int) × ByteArray))))) × Unit)) := ((n, ((nl, l), ((), ((nmodel, model), (i, (k, ())))))), (v, ()))
abbrev Y_l21_VotesPlay_2_0 (t : Bool) : (((Bool × Unit) × Unit) ⊕ ((Int × ((Nat × (Nat → (Int × ((Int × Int) × ByteArray)))) × (Unit × ((Nat × (Nat → (Int × ((Int × Int) × ByteArray)))) × (Int × Unit))))) × ((Int × (Nat → (Nat → (Nat → ((Int × Int) × ByteArray))))) × Unit))) := (.inl ((t, ()), ()))
abbrev Y_l21_VotesPlay_2_1 (n : Int) (nl : Nat) (l : Nat → (Int × ((Int × Int) × ByteArray))) (nmodel : Nat) (model : Nat → (Int × ((Int × Int) × ByteArray))) (i : Int) (v : (Int × (Nat → (Nat → (Nat → ((Int × Int) × ByteArray)))))) : (((Bool × Unit) × Unit) ⊕ ((Int × ((Nat × (Nat → (Int × ((Int × Int) × ByteArray)))) × (Unit × ((Nat × (Nat → (Int × ((Int × Int) × ByteArray)))) × (Int × Unit))))) × ((Int × (Nat → (Nat → (Nat → ((Int × Int) × ByteArray))))) × Unit))) := (.inr ((n, ((nl, l), ((), ((nmodel, model), (i, ()))))), (v, ())))
noncomputable def R_l21_VotesPlay_2 : ((Int × ((Nat × (Nat → (Int × ((Int × Int) × ByteArray)))) × (Unit × ((Nat × (Nat → (Int × ((Int × Int) × ByteArray)))) × (Int × (Int × Unit)))))) × ((Int × (Nat → (Nat → (Nat → ((Int × Int) × ByteArray))))) × Unit)) → Option (((Int × ((Nat × (Nat → (Int × ((Int × Int) × ByteArray)))) × (Unit × ((Nat × (Nat → (Int × ((Int × Int) × ByteArray)))) × (Int × (Int × Unit)))))) × ((Int × (Nat → (Nat → (Nat → ((Int × Int) × ByteArray))))) × Unit)) ⊕ (((Bool × Unit) × Unit) ⊕ ((Int × ((Nat × (Nat → (Int × ((Int × Int) × ByteArray)))) × (Unit × ((Nat × (Nat → (Int × ((Int × Int) × ByteArray)))) × (Int × Unit))))) × ((Int × (Nat → (Nat → (Nat → ((Int × Int) × ByteArray))))) × Unit)))) := fun x =>
 let n := x.1.1
 let nl := x.1.2.1.1
 let l := x.1.2.1.2
 let nmodel := x.1.2.2.2.1.1
 let model := x.1.2.2.2.1.2
 let i := x.1.2.2.2.2.1
 let k := x.1.2.2.2.2.2.1
 let v := x.2.1
 bif (decide (k ≤ i)) then (
  bif (inb k nl) then (
   bif (inb k nl) then (
    match (votes_Votes_Count (some v) (l (Int.toNat k)).2.1 (l (Int.toNat k)).2.2) with
    | none => none
    | some r => (
     bif (inb k nl) then (
      bif (inb k nl) then (
       match (r21_Count nmodel model (l (Int.toNat k)).2.1 (l (Int.toNat k)).2.2) with
       | none => none
       | some r1 => (
        bif (r != r1) then (
         some (.inr (.inl ((false, ()), ()))))
        else (
         bif (inb k nl) then (
          bif (inb k nl) then (
           match (votes_Votes_At (some v) (l (Int.toNat k)).1 (l (Int.toNat k)).2.1.2 0) with
           | none => none
           | some r2 => (
            bif (inb k nl) then (
             bif (inb k nl) then (
              match (r21_At nmodel model (l (Int.toNat k)).1 (l (Int.toNat k)).2.1.2 0) with
              | none => none
              | some r3 => (
               bif (!(eqF (.pair (.int .i64) (.int .i64)) r2.1 r3.1)) then (
                some (.inr (.inl ((false, ()), ()))))
               else (
                bif (!(sEq r2.2 r3.2)) then (
                 some (.inr (.inl ((false, ()), ()))))
                else (
                 bif (inb k nl) then (
                  bif (inb k nl) then (
                   match (votes_Votes_At (some v) (l (Int.toNat k)).1 (l (Int.toNat k)).2.1.2 1) with
                   | none => none
                   | some r4 => (
                    bif (inb k nl) then (
                     bif (inb k nl) then (
                      match (r21_At nmodel model (l (Int.toNat k)).1 (l (Int.toNat k)).2.1.2 1) with
                      | none => none
                      | some r5 => (
                       bif (!(eqF (.pair (.int .i64) (.int .i64)) r4.1 r5.1)) then (
                        some (.inr (.inl ((false, ()), ()))))
                       else (
                        bif (!(sEq r4.2 r5.2)) then (
                         some (.inr (.inl ((false, ()), ()))))
                        else (
                         some (.inl ((n, ((nl, l), ((), ((nmodel, model), (i, ((IntKind.i64.wrap (k + 1)), ())))))), (v, ())))))))
                     else (
                      none))
                    else (
                     none)))
                  else (
                   none))
                 else (
                  none)))))
             else (
              none))
            else (
             none)))
          else (
           none))
         else (
          none))))
      else (
       none))
     else (
      none)))
   else (
    none))
  else (
   none))
 else (
  some (.inr (.inr ((n, ((nl, l), ((), ((nmodel, model), (i, ()))))), (v, ())))))
abbrev T_l21_VotesPlay_0 (n : Int) (nl : Nat) (l : Nat → (Int × ((Int × Int) × ByteArray))) (nmodel : Nat) (model : Nat → (Int × ((Int × Int) × ByteArray))) (i : Int) (v : (Int × (Nat → (Nat → (Nat → ((Int × Int) × ByteArray)))))) : ((Int × ((Nat × (Nat → (Int × ((Int × Int) × ByteArray)))) × (Unit × ((Nat × (Nat → (Int × ((Int × Int) × ByteArray)))) × (Int × Unit))))) × ((Int × (Nat → (Nat → (Nat → ((Int × Int) × ByteArray))))) × Unit)) := ((n, ((nl, l), ((), ((nmodel, model), (i, ()))))), (v, ()))
abbrev Y_l21_VotesPlay_0_0 (t : Bool) : (((Bool × Unit) × Unit) ⊕ (Unit × Unit)) := (.inl ((t, ()), ()))
abbrev Y_l21_VotesPlay_0_1  : (((Bool × Unit) × Unit) ⊕ (Unit × Unit)) := (.inr ((), ()))
noncomputable def R_l21_VotesPlay_0 : ((Int × ((Nat × (Nat → (Int × ((Int × Int) × ByteArray)))) × (Unit × ((Nat × (Nat → (Int × ((Int × Int) × ByteArray)))) × (Int × Unit))))) × ((Int × (Nat → (Nat → (Nat → ((Int × Int) × ByteArray))))) × Unit)) → Option (((Int × ((Nat × (Nat → (Int × ((Int × Int) × ByteArray)))) × (Unit × ((Nat × (Nat → (Int × ((Int × Int) × ByteArray)))) × (Int × Unit))))) × ((Int × (Nat → (Nat → (Nat → ((Int × Int) × ByteArray))))) × Unit)) ⊕ (((Bool × Unit) × Unit) ⊕ (Unit × Unit))) := fun x =>
 let n := x.1.1
 let nl := x.1.2.1.1
 let l := x.1.2.1.2
 let nmodel := x.1.2.2.2.1.1
 let model := x.1.2.2.2.1.2
 let i := x.1.2.2.2.2.1
 let v := x.2.1
 bif (decide (i < ((nl : Nat) : Int))) then (
  bif (inb i nl) then (
   match (r21_Put nmodel model n (l (Int.toNat i))) with
   | none => none
   | some r => (
    bif (inb i nl) then (
     bif (inb i nl) then (
      bif (inb i nl) then (
       match (votes_Votes_Put_m (l (Int.toNat i)).1 (l (Int.toNat i)).2.1 (l (Int.toNat i)).2.2 v) with
       | none => none
       | some y => (
        let r1 := y.1.1
        let o := y.2.1
        bif (!(r1 == r.2)) then (
         some (.inr (.inl ((false, ()), ()))))
        else (
         match (loopF R_l21_VotesPlay_2 ((n, ((nl, l), ((), ((r.1.1, r.1.2), (i, (0, ())))))), (o, ()))) with
         | none => none
         | some y1 => (
          match y1 with
          | .inl y2 => (
           let t := y2.1.1
           some (.inr (.inl ((t, ()), ()))))
          | .inr y2 => (
           let n1 := y2.1.1
           let nl1 := y2.1.2.1.1
           let l1 := y2.1.2.1.2
           let nmodel1 := y2.1.2.2.2.1.1
           let model1 := y2.1.2.2.2.1.2
           let i1 := y2.1.2.2.2.2.1
           let v1 := y2.2.1
           some (.inl ((n1, ((nl1, l1), ((), ((nmodel1, model1), ((IntKind.i64.wrap (i1 + 1)), ()))))), (v1, ()))))))))
      else (
       none))
     else (
      none))
    else (
     none)))
  else (
   none))
 else (
  some (.inr (.inr ((), ()))))
noncomputable def l21_VotesPlay' (n : Int) (nl : Nat) (l : Nat → (Int × ((Int × Int) × ByteArray))) : Option (Unit) :=
 match (l21_short nl l) with
 | none => none
 | some r => (
  bif (!r) then (
   match l21_awake with
   | none => none
   | some r1 => (
    bif r1 then (
     some ())
    else (
     none)))
  else (
   match (votes_New_m n) with
   | none => none
   | some y => (
    match y with
    | .inl y1 => (
     let r2 := y1.1.2.1
     bif (decide (n < 1)) then (
      bif (r2 == 1) then (
       match l21_awake with
       | none => none
       | some r3 => (
        bif r3 then (
         some ())
        else (
         none)))
      else (
       none))
     else (
      bif (decide (n > 7)) then (
       bif (r2 == 1) then (
        match l21_awake with
        | none => none
        | some r4 => (
         bif r4 then (
          some ())
         else (
          none)))
       else (
        none))
      else (
       bif (r2 != 0) then (
        none)
       else (
        none))))
    | .inr y1 => (
     let r5 := y1.1.2.1
     let o := y1.2.1
     bif (decide (n < 1)) then (
      none)
     else (
      bif (decide (n > 7)) then (
       none)
      else (
       bif (r5 != 0) then (
        none)
       else (
        match (loopF R_l21_VotesPlay_0 ((n, ((nl, l), ((), ((0, (fun _ => (0, ((0, 0), ByteArray.empty)))), (0, ()))))), (o, ()))) with
        | none => none
        | some y2 => (
         match y2 with
         | .inl y3 => (
          let t := y3.1.1
          bif t then (
           some ())
          else (
           none))
         | .inr y3 => (
          match l21_awake with
          | none => none
          | some r6 => (
           bif r6 then (
            some ())
           else (
            none)))))))))))
end Go.Pl

set_option linter.unusedVariables false
set_option linter.unusedSimpArgs false
set_option maxRecDepth 100000
set_option maxHeartbeats 0
namespace Go.Pl
end Go.Pl
open Go Go.Den Go.Pl
namespace Go.Proofs.Ytejjdkhjdcjbbaa
abbrev S_l21_VotesPlay_2 : Shape := { sl := [(0, (.v (.int .i64))), (1, (.sz (.pair (.int .i64) (.pair (.pair (.int .i64) (.int .i64)) .str)))), (5, (.c ⟨(.ptr (.pair (.int .i64) (.arr 7 (.arr 4 (.arr 2 (.pair (.pair (.int .i64) (.int .i64)) .str)))))), (.rf 0 [])⟩)), (7, (.sz (.pair (.int .i64) (.pair (.pair (.int .i64) (.int .i64)) .str)))), (8, (.v (.int .i64))), (11, (.v (.int .i64)))], ob := [(0, (.v (.pair (.int .i64) (.arr 7 (.arr 4 (.arr 2 (.pair (.pair (.int .i64) (.int .i64)) .str)))))))], lo := 2, nx := 2 }
abbrev E_l21_VotesPlay_2 : List Ex := [(.ret, { sl := [(4, (.v .bool))], ob := [], lo := 6, nx := 6 }), (.normal, { sl := [(0, (.v (.int .i64))), (1, (.sz (.pair (.int .i64) (.pair (.pair (.int .i64) (.int .i64)) .str)))), (5, (.c ⟨(.ptr (.pair (.int .i64) (.arr 7 (.arr 4 (.arr 2 (.pair (.pair (.int .i64) (.int .i64)) .str)))))), (.rf 0 [])⟩)), (7, (.sz (.pair (.int .i64) (.pair (.pair (.int .i64) (.int .i64)) .str)))), (8, (.v (.int .i64)))], ob := [(0, (.v (.pair (.int .i64) (.arr 7 (.arr 4 (.arr 2 (.pair (.pair (.int .i64) (.int .i64)) .str)))))))], lo := 2, nx := 2 })]
noncomputable def L_l21_VotesPlay_2 : Code := loopIn (bodyOf Try.f3) 2
noncomputable def P_l21_VotesPlay_2 : Lp := lpOf S_l21_VotesPlay_2 E_l21_VotesPlay_2 160 R_l21_VotesPlay_2
abbrev S_l21_VotesPlay_0 : Shape := { sl := [(0, (.v (.int .i64))), (1, (.sz (.pair (.int .i64) (.pair (.pair (.int .i64) (.int .i64)) .str)))), (5, (.c ⟨(.ptr (.pair (.int .i64) (.arr 7 (.arr 4 (.arr 2 (.pair (.pair (.int .i64) (.int .i64)) .str)))))), (.rf 0 [])⟩)), (7, (.sz (.pair (.int .i64) (.pair (.pair (.int .i64) (.int .i64)) .str)))), (8, (.v (.int .i64)))], ob := [(0, (.v (.pair (.int .i64) (.arr 7 (.arr 4 (.arr 2 (.pair (.pair (.int .i64) (.int .i64)) .str)))))))], lo := 1, nx := 1 }
abbrev E_l21_VotesPlay_0 : List Ex := [(.ret, { sl := [(4, (.v .bool))], ob := [], lo := 6, nx := 6 }), (.normal, { sl := [], ob := [], lo := 1, nx := 1 })]
noncomputable def L_l21_VotesPlay_0 : Code := loopIn (bodyOf Try.f3) 0
noncomputable def P_l21_VotesPlay_0 : Lp := lpOf S_l21_VotesPlay_0 E_l21_VotesPlay_0 160 R_l21_VotesPlay_0
noncomputable def x_l21_VotesPlay : Cx := { ti := ti, con := [(10, c_l21_short), (11, c_l21_awake), (12, c_votes_New_m), (13, c_r21_Put), (14, conIf 0 c_votes_Votes_Put_m c_votes_Votes_Put), (15, c_votes_Votes_Count), (16, c_r21_Count), (17, c_votes_Votes_At), (18, c_r21_At)], fns := [], un := 6 }
theorem xok_l21_VotesPlay : CxOk Try.prog x_l21_VotesPlay := CxOk.of mixed ti_ok (List.forall_mem_cons.2 ⟨con_l21_short, List.forall_mem_cons.2 ⟨con_l21_awake, List.forall_mem_cons.2 ⟨con_votes_New_m, List.forall_mem_cons.2 ⟨con_r21_Put, List.forall_mem_cons.2 ⟨conIf_ok con_votes_Votes_Put_m con_votes_Votes_Put, List.forall_mem_cons.2 ⟨con_votes_Votes_Count, List.forall_mem_cons.2 ⟨con_r21_Count, List.forall_mem_cons.2 ⟨con_votes_Votes_At, List.forall_mem_cons.2 ⟨con_r21_At, List.forall_mem_nil _⟩⟩⟩⟩⟩⟩⟩⟩⟩) (List.forall_mem_nil _)
theorem r_l21_VotesPlay_2 (x : S_l21_VotesPlay_2.X) : denC x_l21_VotesPlay [] (denF x_l21_VotesPlay 8) L_l21_VotesPlay_2 (S_l21_VotesPlay_2.mkS 160 x) (kRound 2 S_l21_VotesPlay_2 E_l21_VotesPlay_2) = R_l21_VotesPlay_2 x := by kernel_rfl
theorem l_l21_VotesPlay_2 : LpOk Try.prog 2 (.loop L_l21_VotesPlay_2) P_l21_VotesPlay_2 := lpOf_ok xok_l21_VotesPlay 8 (lps_nil) S_l21_VotesPlay_2 E_l21_VotesPlay_2 160 R_l21_VotesPlay_2 (by decide) r_l21_VotesPlay_2
theorem r_l21_VotesPlay_0 (x : S_l21_VotesPlay_0.X) : denC x_l21_VotesPlay [(2, P_l21_VotesPlay_2)] (denF x_l21_VotesPlay 8) L_l21_VotesPlay_0 (S_l21_VotesPlay_0.mkS 160 x) (kRound 0 S_l21_VotesPlay_0 E_l21_VotesPlay_0) = R_l21_VotesPlay_0 x := by kernel_rfl
theorem l_l21_VotesPlay_0 : LpOk Try.prog 0 (.loop L_l21_VotesPlay_0) P_l21_VotesPlay_0 := lpOf_ok xok_l21_VotesPlay 8 (lps_of (by kernel_rfl) (lps_one l_l21_VotesPlay_2 (by kernel_rfl) (List.forall_mem_nil _))) S_l21_VotesPlay_0 E_l21_VotesPlay_0 160 R_l21_VotesPlay_0 (by decide) r_l21_VotesPlay_0
theorem fn_l21_VotesPlay : FnOk Try.prog 3 Try.f3 [(2, P_l21_VotesPlay_2), (0, P_l21_VotesPlay_0)] := ⟨Try.func3, Try.call3, lps_of (by kernel_rfl) (lps_one l_l21_VotesPlay_2 (by kernel_rfl) (lps_one l_l21_VotesPlay_0 (by kernel_rfl) (List.forall_mem_nil _)))⟩
theorem e_l21_VotesPlay (n : Int) (nl : Nat) (l : Nat → (Int × ((Int × Int) × ByteArray))) : bodyK x_l21_VotesPlay [(2, P_l21_VotesPlay_2), (0, P_l21_VotesPlay_0)] (denF x_l21_VotesPlay 8) Try.f3 (domV [(.int .i64), (.sl (.pair (.int .i64) (.pair (.pair (.int .i64) (.int .i64)) .str)))] (n, (nl, l), ())) [] 0 kTrue = l21_VotesPlay' n nl l := by kernel_rfl
end Go.Proofs.Ytejjdkhjdcjbbaa

set_option linter.unusedVariables false
set_option linter.unusedSimpArgs false
namespace Go.Pl
open Go Go.Den

abbrev VoteT := Int × CellT
def samePl (a b : VoteT) : Prop := a.1 = b.1 ∧ a.2.1.2 = b.2.1.2 ∧ a.2.1.1 % 2 = b.2.1.1 % 2
instance (a b : VoteT) : Decidable (samePl a b) := by unfold samePl; infer_instance
theorem samePl.symm {a b : VoteT} (h : samePl a b) : samePl b a := ⟨h.1.symm, h.2.1.symm, h.2.2.symm⟩
theorem samePl.trans {a b c : VoteT} (h : samePl a b) (h' : samePl b c) : samePl a c := ⟨h.1.trans h'.1, h.2.1.trans h'.2.1, h.2.2.trans h'.2.2⟩
theorem r21_same_spec (a b : VoteT) : r21_same a b = some (decide (samePl a b)) := by
  rw [r21_same_eq]; unfold r21_same'
  simp only [odd_mod]
  by_cases h1 : a.1 = b.1
  · by_cases h2 : a.2.1.2 = b.2.1.2
    · by_cases h3 : a.2.1.1 % 2 = b.2.1.1 % 2
      · rw [beq_t h1, beq_t h2, beq_t h3, dec_t (show samePl a b from ⟨h1, h2, h3⟩)]; rfl
      · rw [beq_t h1, beq_t h2, beq_f h3, dec_f (show ¬ samePl a b from fun h => h3 h.2.2)]; rfl
    · rw [beq_t h1, beq_f h2, dec_f (show ¬ samePl a b from fun h => h2 h.2.1)]; rfl
  · rw [beq_f h1, dec_f (show ¬ samePl a b from fun h => h1 h.1)]; rfl
theorem cnt_split (p q : Nat → Bool) : ∀ n, cnt p n = cnt (fun k => !q k && p k) n + cnt (fun k => q k && p k) n
  | 0 => rfl
  | n + 1 => by
    have := cnt_split p q n
    have e : ∀ a b : Bool, (if a = true then 1 else 0 : Nat) = (if (!b && a) = true then 1 else 0) + (if (b && a) = true then 1 else 0) := by decide
    simp only [cnt]
    have := e (p n) (q n)
    omega
theorem cnt_zero {p : Nat → Bool} : ∀ {n : Nat}, (∀ k, k < n → p k = false) → cnt p n = 0
  | 0, _ => rfl
  | n + 1, h => by rw [cnt, cnt_zero (n := n) fun k hk => h k (by omega), h n (by omega)]; rfl
theorem cnt_one {p : Nat → Bool} {j : Nat} : ∀ {n : Nat}, j < n → (∀ k, k < n → p k = true → k = j) → cnt p n = if p j then 1 else 0
  | 0, hj, _ => by omega
  | n + 1, hj, h => by
    rw [cnt]
    by_cases e : j = n
    · subst e
      rw [cnt_zero (n := j) fun k hk => by
        cases hp : p k with
        | false => rfl
        | true => exact absurd (h k (by omega) hp) (by omega)]
      omega
    · rw [cnt_one (n := n) (by omega) fun k hk hp => h k (by omega) hp]
      have : p n = false := by
        cases hp : p n with
        | false => rfl
        | true => exact absurd (h n (by omega) hp) (fun e' => e e'.symm)
      rw [this]; rfl
/-- the document's list beside the program's table -/
structure Rep (N : Nat) (F : TabV) (m : Nat) (f : Nat → VoteT) : Prop where
  good : ∀ i, i < m → 1 ≤ (f i).1 ∧ (f i).1 ≤ (N : Int) ∧ mayP (f i).2.1 ∧ F ((f i).1 - 1).toNat ((f i).2.1.2 - 1).toNat ((f i).2.1.1 % 2).toNat = (f i).2
  once : ∀ i j, i < m → j < m → samePl (f i) (f j) → i = j
  full : ∀ srv cl odd : Int, 1 ≤ srv → srv ≤ (N : Int) → 1 ≤ cl → cl ≤ 4 → 0 ≤ odd → odd ≤ 1 → (∀ i, i < m → ¬ ((f i).1 = srv ∧ (f i).2.1.2 = cl ∧ (f i).2.1.1 % 2 = odd)) → F (srv - 1).toNat (cl - 1).toNat odd.toNat = ((0, 0), ByteArray.empty)
  counts : ∀ s d, cntT N F s d = cnt (fun i => hit (f i).2 s d) m
theorem Rep.start (N : Nat) (f : Nat → VoteT) : Rep N noV 0 f where
  good i hi := by omega
  once i j hi := by omega
  full _ _ _ _ _ _ _ _ _ _ := rfl
  counts s d := by
    unfold cntT
    split
    · rename_i h
      refine (cnt_zero fun k _ => ?_).trans rfl
      cases hh : hit (noV k (s.2 - 1).toNat (s.1 % 2).toNat) s d with
      | false => rfl
      | true =>
        have := hit_stamp hh
        have h1 := h.1
        rw [← this] at h1
        exact absurd (show (1 : Int) ≤ 0 from h1) (by decide)
    · rfl
/-- those ahead, without the place -/
structure Out (f : Nat → VoteT) (v : VoteT) (i m : Nat) (g : Nat → VoteT) : Prop where
  le : m ≤ i
  of : ∀ j, j < m → ∃ k, k < i ∧ g j = f k ∧ ¬ samePl (f k) v
  all : ∀ k, k < i → ¬ samePl (f k) v → ∃ j, j < m ∧ g j = f k
  once : ∀ j k, j < m → k < m → samePl (g j) (g k) → j = k
  counts : ∀ s d, cnt (fun j => hit (g j).2 s d) m = cnt (fun k => !decide (samePl (f k) v) && hit (f k).2 s d) i
theorem Out.skip {f : Nat → VoteT} {v : VoteT} {i m : Nat} {g : Nat → VoteT} (h : Out f v i m g) (hs : samePl (f i) v) : Out f v (i + 1) m g where
  le := by have := h.le; omega
  of j hj := by obtain ⟨k, h1, h2⟩ := h.of j hj; exact ⟨k, by omega, h2⟩
  all k hk hn := by
    by_cases e : k = i
    · subst e; exact absurd hs hn
    · exact h.all k (by omega) hn
  once := h.once
  counts s d := by rw [h.counts s d, cnt]; simp [hs]
theorem Out.add {f : Nat → VoteT} {v : VoteT} {i m : Nat} {g : Nat → VoteT} (h : Out f v i m g) (hs : ¬ samePl (f i) v) (ho : ∀ k, k < i → ¬ samePl (f k) (f i)) {g' : Nat → VoteT} (h1 : ∀ j, j < m → g' j = g j) (h2 : g' m = f i) : Out f v (i + 1) (m + 1) g' where
  le := by have := h.le; omega
  of j hj := by
    by_cases e : j = m
    · subst e; exact ⟨i, by omega, h2, hs⟩
    · obtain ⟨k, q1, q2, q3⟩ := h.of j (by omega)
      exact ⟨k, by omega, by rw [h1 j (by omega), q2], q3⟩
  all k hk hn := by
    by_cases e : k = i
    · subst e; exact ⟨m, by omega, h2⟩
    · obtain ⟨j, q1, q2⟩ := h.all k (by omega) hn
      exact ⟨j, by omega, by rw [h1 j q1, q2]⟩
  once j k hj hk hsm := by
    by_cases e1 : j = m
    · by_cases e2 : k = m
      · omega
      · subst e1
        rw [h2, h1 k (by omega)] at hsm
        obtain ⟨k', q1, q2, _⟩ := h.of k (by omega)
        rw [q2] at hsm
        exact absurd hsm.symm (ho k' q1)
    · by_cases e2 : k = m
      · subst e2
        rw [h2, h1 j (by omega)] at hsm
        obtain ⟨k', q1, q2, _⟩ := h.of j (by omega)
        rw [q2] at hsm
        exact absurd hsm (ho k' q1)
      · rw [h1 j (by omega), h1 k (by omega)] at hsm
        exact h.once j k (by omega) (by omega) hsm
  counts s d := by
    rw [cnt, cnt, cnt_congr (n := m) (q := fun j => hit (g j).2 s d) fun j hj => by simp only [h1 j hj], h.counts s d, h2]
    simp [hs]
/-- a vote that is put -/
theorem Rep.put {N : Nat} {F : TabV} {m : Nat} {f : Nat → VoteT} (h : Rep N F m f) {v : VoteT} (ho : okV N F v.1 v.2.1) {k : Nat} {g : Nat → VoteT} (hg : Out f v m k g) {g' : Nat → VoteT} (h1 : ∀ j, j < k → g' j = g j) (h2 : g' k = v) :
    Rep N (putV F v.1 v.2.1 v.2.2) (k + 1) g' where
  good i hi := by
    by_cases e : i = k
    · subst e
      rw [h2]
      refine ⟨ho.2.1, ho.2.2.1, ho.1, ?_⟩
      unfold putV
      rw [if_pos ⟨rfl, rfl, rfl⟩]
    · obtain ⟨j, q1, q2, q3⟩ := hg.of i (by omega)
      rw [h1 i (by omega), q2]
      obtain ⟨a1, a2, a3, a4⟩ := h.good j q1
      refine ⟨a1, a2, a3, ?_⟩
      unfold putV
      refine (if_neg ?_).trans a4
      rintro ⟨b1, b2, b3⟩
      obtain ⟨c1, c2, c3, c4⟩ := a3
      obtain ⟨⟨d1, d2, d3, d4⟩, d5, d6, _⟩ := ho
      exact q3 ⟨by omega, by omega, by omega⟩
  once i j hi hj hsm := by
    have key : ∀ i, i < k → ¬ samePl (g' i) v := fun i hi hs => by
      obtain ⟨j, q1, q2, q3⟩ := hg.of i hi
      rw [h1 i hi, q2] at hs
      exact q3 hs
    by_cases e1 : i = k
    · by_cases e2 : j = k
      · omega
      · subst e1; rw [h2] at hsm; exact absurd hsm.symm (key j (by omega))
    · by_cases e2 : j = k
      · subst e2; rw [h2] at hsm; exact absurd hsm (key i (by omega))
      · rw [h1 i (by omega), h1 j (by omega)] at hsm
        exact hg.once i j (by omega) (by omega) hsm
  full srv cl odd a1 a2 a3 a4 a5 a6 hn := by
    have hv := hn k (by omega)
    rw [h2] at hv
    obtain ⟨⟨d1, d2, d3, d4⟩, d5, d6, _⟩ := id ho
    unfold putV
    rw [if_neg]
    · refine h.full srv cl odd a1 a2 a3 a4 a5 a6 fun i hi hp => ?_
      have hns : ¬ samePl (f i) v := fun hs => hv ⟨hs.1.symm.trans hp.1, hs.2.1.symm.trans hp.2.1, hs.2.2.symm.trans hp.2.2⟩
      obtain ⟨j, q1, q2⟩ := hg.all i hi hns
      have := hn j (by omega)
      rw [h1 j q1, q2] at this
      exact this hp
    · rintro ⟨b1, b2, b3⟩
      exact hv ⟨by omega, by omega, by omega⟩
  counts s d := by
    rw [cnt, cnt_congr (n := k) (q := fun j => hit (g j).2 s d) fun j hj => by simp only [h1 j hj], hg.counts s d, h2]
    have hsp := cnt_split (fun i => hit (f i).2 s d) (fun i => decide (samePl (f i) v)) m
    rw [← h.counts s d] at hsp
    have hvs : (v.2.1, v.2.2) = v.2 := rfl
    by_cases ht : mayP s ∧ v.2.1.2 = s.2 ∧ v.2.1.1 % 2 = s.1 % 2
    · have hp := cntT_put (d := v.2.2) ho d ht.1 ht.2.1 ht.2.2
      rw [hvs] at hp
      -- the vote that lay there
      have hold : cnt (fun i => decide (samePl (f i) v) && hit (f i).2 s d) m = if hit (F (v.1 - 1).toNat (v.2.1.2 - 1).toNat (v.2.1.1 % 2).toNat) s d then 1 else 0 := by
        by_cases hex : ∃ i, i < m ∧ samePl (f i) v
        · obtain ⟨i, hi, hs⟩ := hex
          rw [cnt_one hi fun k hk hpk => by
            simp only [Bool.and_eq_true, decide_eq_true_eq] at hpk
            exact h.once k i hk hi (hpk.1.trans hs.symm)]
          obtain ⟨_, _, _, a4⟩ := h.good i hi
          rw [hs.1, hs.2.1, hs.2.2] at a4
          rw [a4]
          simp [hs]
        · rw [cnt_zero fun i hi => by
            have : ¬ samePl (f i) v := fun hs => hex ⟨i, hi, hs⟩
            simp [this]]
          have hz := h.full v.1 v.2.1.2 (v.2.1.1 % 2) ho.2.1 ho.2.2.1 ho.1.2.2.1 ho.1.2.2.2 (by omega) (by omega) fun i hi hp => hex ⟨i, hi, hp⟩
          rw [hz]
          cases hh : hit ((0, 0), ByteArray.empty) s d with
          | false => rfl
          | true =>
            have := hit_stamp hh
            have h1 := ht.1.1
            rw [← this] at h1
            exact absurd (show (1 : Int) ≤ 0 from h1) (by decide)
      omega
    · obtain ⟨e1, e2⟩ := cntT_other (d := v.2.2) ho d ht
      rw [hvs] at e2
      have hold : cnt (fun i => decide (samePl (f i) v) && hit (f i).2 s d) m = 0 := cnt_zero fun i hi => by
        cases hh : hit (f i).2 s d with
        | false => simp
        | true =>
          have hst := hit_stamp hh
          have : ¬ samePl (f i) v := fun hs => ht ⟨by rw [← hst]; exact (h.good i hi).2.2.1, by rw [← hst]; exact hs.2.1.symm, by rw [← hst]; exact hs.2.2.symm⟩
          simp [this]
      rw [e1, e2]
      simp only [Bool.false_eq_true, if_false]
      omega

/-! ## The document's -/
theorem glueV_low {α : Type} {n : Nat} {f g : Nat → α} {j : Nat} (h : j < n) : glue n f g j = f j := by
  have : Nat.blt j n = true := blt_iff.2 h
  simp [glue, this]
theorem glueV_at {α : Type} {n : Nat} {f g : Nat → α} : glue n f g n = g 0 := by
  have : Nat.blt n n = false := by
    cases hb : Nat.blt n n with
    | false => rfl
    | true => exact absurd (blt_iff.1 hb) (Nat.lt_irrefl _)
  simp [glue, this]
theorem r21_Put_spec {N : Nat} (hN : N ≤ 7) {F : TabV} {m : Nat} (hm : m ≤ 100) {f : Nat → VoteT} (h : Rep N F m f) (v : VoteT) :
    ∃ k g, r21_Put m f (N : Int) v = some ((k, g), decide (okV N F v.1 v.2.1)) ∧ k ≤ m + 1 ∧ Rep N (if okV N F v.1 v.2.1 then putV F v.1 v.2.1 v.2.2 else F) k g := by
  rw [r21_Put_eq]; unfold r21_Put'
  simp only [r20_May_spec]
  by_cases h1 : v.1 < 1
  · have ho : ¬ okV N F v.1 v.2.1 := fun h => by have := h.2.1; omega
    refine ⟨m, f, ?_, by omega, by rw [if_neg ho]; exact h⟩
    rw [dec_t h1, dec_f ho]; rfl
  by_cases h2 : v.1 > (N : Int)
  · have ho : ¬ okV N F v.1 v.2.1 := fun h => by have := h.2.2.1; omega
    refine ⟨m, f, ?_, by omega, by rw [if_neg ho]; exact h⟩
    rw [dec_f h1, dec_t h2, dec_f ho]; rfl
  by_cases h3 : mayP v.2.1
  rotate_left
  · have ho : ¬ okV N F v.1 v.2.1 := fun h => h3 h.1
    refine ⟨m, f, ?_, by omega, by rw [if_neg ho]; exact h⟩
    rw [dec_f h1, dec_f h2, dec_f h3, dec_f ho]; rfl
  rw [dec_f h1, dec_f h2, dec_t h3]
  simp only [cond_false, Bool.not_true]
  obtain ⟨y, y1, y2⟩ := loop_seek (R := R_r21_Put_0) (fun i (p : Nat × (Nat → VoteT)) => T_r21_Put_0 m f p.1 p.2 (i : Int) v) (fun i p => Out f v i p.1 p.2 ∧ ∀ k, k < i → samePl (f k) v → (f k).2.1.1 < v.2.1.1)
    (fun y => (y = Y_r21_Put_0_0 m f false ∧ ¬ okV N F v.1 v.2.1) ∨ ∃ p : Nat × (Nat → VoteT), y = Y_r21_Put_0_1 p.1 p.2 v ∧ Out f v m p.1 p.2 ∧ okV N F v.1 v.2.1) m
    (fun i hi p hP => by
      obtain ⟨q, g⟩ := p
      obtain ⟨hO, hS⟩ := hP
      simp only at hO
      have hle := hO.le
      have hsame := r21_same_spec (f i) v
      by_cases hs : samePl (f i) v
      · by_cases hge : (f i).2.1.1 ≥ v.2.1.1
        · refine .inr ⟨_, ?_, .inl ⟨rfl, fun ho => ?_⟩⟩
          · unfold R_r21_Put_0
            simp (disch := omega) only [add_c, add_l, l_add, mul_c, mul_l, l_mul, sub_c, sub_l, l_sub, div_c, div_l, mod_c, mod_l, tdiv_c, tdiv_l, tmod_c, tmod_l, wrap_i64n, wrapun, dec_t, dec_f, inb_t, cond_true, cond_false, Int.toNat_natCast, beq_t, beq_f, bne_t, bne_f, Bool.not_true, Bool.not_false, Int.reduceToNat, ft_b, tf_b, tt_b, ff_b, decide_true, decide_false, hsame, hs]
          · obtain ⟨_, _, _, a4⟩ := h.good i hi
            rw [hs.1, hs.2.1, hs.2.2] at a4
            have := ho.2.2.2
            rw [a4] at this
            omega
        · refine .inl ⟨(q, g), ?_, hO.skip hs, fun k hk hk2 => ?_⟩
          · unfold R_r21_Put_0
            simp (disch := omega) only [add_c, add_l, l_add, mul_c, mul_l, l_mul, sub_c, sub_l, l_sub, div_c, div_l, mod_c, mod_l, tdiv_c, tdiv_l, tmod_c, tmod_l, wrap_i64n, wrapun, dec_t, dec_f, inb_t, cond_true, cond_false, Int.toNat_natCast, beq_t, beq_f, bne_t, bne_f, Bool.not_true, Bool.not_false, Int.reduceToNat, ft_b, tf_b, tt_b, ff_b, decide_true, decide_false, hsame, hs]
          · by_cases e : k = i
            · subst e; omega
            · exact hS k (by omega) hk2
      · have b1 : Nat.ble ((q + 1) * 40) 140737488355328 = true := Nat.ble_eq_true_of_le (by omega)
        have b2 : Nat.ble (q + 1) 9223372036854775807 = true := Nat.ble_eq_true_of_le (by omega)
        refine .inl ⟨(q + 1, glue q g (fun j => upd (fun _ => (0, ((0, 0), ByteArray.empty))) 0 (f i) (0 + j))), ?_, hO.add hs (fun k hk hs2 => by have := h.once k i (by omega) hi hs2; omega) (fun j hj => by dsimp only; exact glueV_low hj) (by dsimp only; rw [glueV_at, Nat.add_zero, upd_same]), fun k hk hk2 => ?_⟩
        · unfold R_r21_Put_0
          simp (disch := omega) only [add_c, add_l, l_add, mul_c, mul_l, l_mul, sub_c, sub_l, l_sub, div_c, div_l, mod_c, mod_l, tdiv_c, tdiv_l, tmod_c, tmod_l, wrap_i64n, wrapun, dec_t, dec_f, inb_t, cond_true, cond_false, Int.toNat_natCast, beq_t, beq_f, bne_t, bne_f, Bool.not_true, Bool.not_false, Int.reduceToNat, ft_b, tf_b, tt_b, ff_b, decide_true, decide_false, hsame, hs, b1, b2, Bool.and_self]
        · by_cases e : k = i
          · subst e; exact absurd hk2 hs
          · exact hS k (by omega) hk2)
    (fun p hP => by
      obtain ⟨hO, hS⟩ := hP
      refine ⟨_, ?_, .inr ⟨p, rfl, hO, h3, by omega, by omega, ?_⟩⟩
      · unfold R_r21_Put_0
        simp (disch := omega) only [add_c, add_l, l_add, mul_c, mul_l, l_mul, sub_c, sub_l, l_sub, div_c, div_l, mod_c, mod_l, tdiv_c, tdiv_l, tmod_c, tmod_l, wrap_i64n, wrapun, dec_t, dec_f, inb_t, cond_true, cond_false, Int.toNat_natCast, beq_t, beq_f, bne_t, bne_f, Bool.not_true, Bool.not_false, Int.reduceToNat, ft_b, tf_b, tt_b, ff_b, decide_true, decide_false]
      · by_cases hex : ∃ i, i < m ∧ samePl (f i) v
        · obtain ⟨i, hi, hs⟩ := hex
          obtain ⟨_, _, _, a4⟩ := h.good i hi
          rw [hs.1, hs.2.1, hs.2.2] at a4
          rw [a4]
          exact hS i hi hs
        · have hz := h.full v.1 v.2.1.2 (v.2.1.1 % 2) (by omega) (by omega) h3.2.2.1 h3.2.2.2 (by omega) (by omega) fun i hi hp => hex ⟨i, hi, hp⟩
          rw [hz]
          exact Int.lt_of_lt_of_le (show (0 : Int) < 1 by decide) h3.1)
    (0, fun _ => (0, ((0, 0), ByteArray.empty))) ⟨⟨Nat.le_refl _, fun j hj => by omega, fun k hk => by omega, fun j k hj => by omega, fun s d => rfl⟩, fun k hk => by omega⟩
  have y1' : loopF R_r21_Put_0 (((m, f), ((), ((0, fun _ => (0, ((0, 0), ByteArray.empty))), (0, ())))), (v, ())) = some y := y1
  simp only [y1']
  rcases y2 with ⟨rfl, ho⟩ | ⟨⟨q, g⟩, rfl, hO, ho⟩
  · refine ⟨m, f, ?_, by omega, by rw [if_neg ho]; exact h⟩
    rw [dec_f ho]
  · simp only at hO
    have hle := hO.le
    have b1 : Nat.ble ((q + 1) * 40) 140737488355328 = true := Nat.ble_eq_true_of_le (by omega)
    have b2 : Nat.ble (q + 1) 9223372036854775807 = true := Nat.ble_eq_true_of_le (by omega)
    refine ⟨q + 1, fun j => glue q g (fun j => upd (fun _ => (0, ((0, 0), ByteArray.empty))) 0 v (0 + j)) (0 + j), ?_, by omega, ?_⟩
    · rw [dec_t ho]
      simp only [b1, b2, Bool.and_self, cond_true]
    · rw [if_pos ho]
      exact h.put ho hO (fun j hj => by rw [Nat.zero_add]; exact glueV_low hj) (by rw [Nat.zero_add, glueV_at, Nat.add_zero, upd_same])
theorem r21_Count_spec {m : Nat} (hm : m ≤ 100) (f : Nat → VoteT) (s : StampT) (d : ByteArray) : r21_Count m f s d = some ((cnt (fun i => hit (f i).2 s d) m : Nat) : Int) := by
  rw [r21_Count_eq]; unfold r21_Count'
  obtain ⟨z, hy, hQ⟩ := loop_for (R := R_r21_Count_0) (fun k (n : Nat) => T_r21_Count_0 m f d (n : Int) (k : Int) s) (fun n => Y_r21_Count_0_0 (n : Int)) (fun k n => n = cnt (fun i => hit (f i).2 s d) k) m
    (fun k hk n hP => by
      subst hP
      have hle := cnt_le (fun i => hit (f i).2 s d) k
      refine ⟨_, ?_, rfl⟩
      unfold R_r21_Count_0
      cases h1 : eqF (.pair (.int .i64) (.int .i64)) (f k).2.1 s
      · have : hit (f k).2 s d = false := by simp only [hit, h1, Bool.false_and]
        simp (disch := omega) only [add_c, add_l, l_add, mul_c, mul_l, l_mul, sub_c, sub_l, l_sub, div_c, div_l, mod_c, mod_l, tdiv_c, tdiv_l, tmod_c, tmod_l, wrap_i64n, wrapun, dec_t, dec_f, inb_t, cond_true, cond_false, Int.toNat_natCast, beq_t, beq_f, bne_t, bne_f, Bool.not_true, Bool.not_false, Int.reduceToNat, ft_b, tf_b, tt_b, ff_b, decide_true, decide_false, h1, cnt, this, Bool.false_eq_true, if_false, Nat.add_zero]
      · cases h2 : sEq (f k).2.2 d
        · have : hit (f k).2 s d = false := by simp only [hit, h2, Bool.and_false]
          simp (disch := omega) only [add_c, add_l, l_add, mul_c, mul_l, l_mul, sub_c, sub_l, l_sub, div_c, div_l, mod_c, mod_l, tdiv_c, tdiv_l, tmod_c, tmod_l, wrap_i64n, wrapun, dec_t, dec_f, inb_t, cond_true, cond_false, Int.toNat_natCast, beq_t, beq_f, bne_t, bne_f, Bool.not_true, Bool.not_false, Int.reduceToNat, ft_b, tf_b, tt_b, ff_b, decide_true, decide_false, h1, h2, cnt, this, Bool.false_eq_true, if_false, Nat.add_zero]
        · have : hit (f k).2 s d = true := by simp only [hit, h1, h2, Bool.and_self]
          simp (disch := omega) only [add_c, add_l, l_add, mul_c, mul_l, l_mul, sub_c, sub_l, l_sub, div_c, div_l, mod_c, mod_l, tdiv_c, tdiv_l, tmod_c, tmod_l, wrap_i64n, wrapun, dec_t, dec_f, inb_t, cond_true, cond_false, Int.toNat_natCast, beq_t, beq_f, bne_t, bne_f, Bool.not_true, Bool.not_false, Int.reduceToNat, ft_b, tf_b, tt_b, ff_b, decide_true, decide_false, h1, h2, cnt, this, if_true])
    (fun n hP => by
      unfold R_r21_Count_0
      simp (disch := omega) only [add_c, add_l, l_add, mul_c, mul_l, l_mul, sub_c, sub_l, l_sub, div_c, div_l, mod_c, mod_l, tdiv_c, tdiv_l, tmod_c, tmod_l, wrap_i64n, wrapun, dec_t, dec_f, inb_t, cond_true, cond_false, Int.toNat_natCast, beq_t, beq_f, bne_t, bne_f, Bool.not_true, Bool.not_false, Int.reduceToNat, ft_b, tf_b, tt_b, ff_b, decide_true, decide_false]) 0 rfl
  have hy' : loopF R_r21_Count_0 (((m, f), (d, ((), (0, (0, ()))))), (s, ())) = some (Y_r21_Count_0_0 (z : Int)) := hy
  simp only [hy', hQ]
theorem r21_At_spec {m : Nat} (hm : m ≤ 100) (f : Nat → VoteT) (srv cl odd : Int) :
    (∃ i, i < m ∧ ((f i).1 = srv ∧ (f i).2.1.2 = cl ∧ (f i).2.1.1 % 2 = odd) ∧ r21_At m f srv cl odd = some (f i).2) ∨ ((∀ i, i < m → ¬ ((f i).1 = srv ∧ (f i).2.1.2 = cl ∧ (f i).2.1.1 % 2 = odd)) ∧ r21_At m f srv cl odd = some ((0, 0), ByteArray.mk #[])) := by
  rw [r21_At_eq]; unfold r21_At'
  obtain ⟨y, y1, y2⟩ := loop_seek (R := R_r21_At_0) (fun i (_ : Unit) => T_r21_At_0 m f srv cl odd (i : Int) (0, 0)) (fun i _ => ∀ k, k < i → ¬ ((f k).1 = srv ∧ (f k).2.1.2 = cl ∧ (f k).2.1.1 % 2 = odd))
    (fun y => (∃ i, i < m ∧ ((f i).1 = srv ∧ (f i).2.1.2 = cl ∧ (f i).2.1.1 % 2 = odd) ∧ y = Y_r21_At_0_0 (f i).2.2 (f i).2.1) ∨ ((∀ i, i < m → ¬ ((f i).1 = srv ∧ (f i).2.1.2 = cl ∧ (f i).2.1.1 % 2 = odd)) ∧ y = Y_r21_At_0_1 (0, 0))) m
    (fun i hi _ hP => by
      by_cases h1 : (f i).1 = srv
      · by_cases h2 : (f i).2.1.2 = cl
        · by_cases h3 : (f i).2.1.1 % 2 = odd
          · refine .inr ⟨_, ?_, .inl ⟨i, hi, ⟨h1, h2, h3⟩, rfl⟩⟩
            unfold R_r21_At_0
            simp (disch := omega) only [add_c, add_l, l_add, mul_c, mul_l, l_mul, sub_c, sub_l, l_sub, div_c, div_l, mod_c, mod_l, tdiv_c, tdiv_l, tmod_c, tmod_l, wrap_i64n, wrapun, dec_t, dec_f, inb_t, cond_true, cond_false, Int.toNat_natCast, beq_t, beq_f, bne_t, bne_f, Bool.not_true, Bool.not_false, Int.reduceToNat, ft_b, tf_b, tt_b, ff_b, decide_true, decide_false, odd_mod, beq_t h1, beq_t h2, beq_t h3]
          · refine .inl ⟨(), ?_, fun k hk => ?_⟩
            · unfold R_r21_At_0
              simp (disch := omega) only [add_c, add_l, l_add, mul_c, mul_l, l_mul, sub_c, sub_l, l_sub, div_c, div_l, mod_c, mod_l, tdiv_c, tdiv_l, tmod_c, tmod_l, wrap_i64n, wrapun, dec_t, dec_f, inb_t, cond_true, cond_false, Int.toNat_natCast, beq_t, beq_f, bne_t, bne_f, Bool.not_true, Bool.not_false, Int.reduceToNat, ft_b, tf_b, tt_b, ff_b, decide_true, decide_false, odd_mod, beq_t h1, beq_t h2, beq_f h3]
            · by_cases e : k = i
              · subst e; exact fun h => h3 h.2.2
              · exact hP k (by omega)
        · refine .inl ⟨(), ?_, fun k hk => ?_⟩
          · unfold R_r21_At_0
            simp (disch := omega) only [add_c, add_l, l_add, mul_c, mul_l, l_mul, sub_c, sub_l, l_sub, div_c, div_l, mod_c, mod_l, tdiv_c, tdiv_l, tmod_c, tmod_l, wrap_i64n, wrapun, dec_t, dec_f, inb_t, cond_true, cond_false, Int.toNat_natCast, beq_t, beq_f, bne_t, bne_f, Bool.not_true, Bool.not_false, Int.reduceToNat, ft_b, tf_b, tt_b, ff_b, decide_true, decide_false, odd_mod, beq_t h1, beq_f h2]
          · by_cases e : k = i
            · subst e; exact fun h => h2 h.2.1
            · exact hP k (by omega)
      · refine .inl ⟨(), ?_, fun k hk => ?_⟩
        · unfold R_r21_At_0
          simp (disch := omega) only [add_c, add_l, l_add, mul_c, mul_l, l_mul, sub_c, sub_l, l_sub, div_c, div_l, mod_c, mod_l, tdiv_c, tdiv_l, tmod_c, tmod_l, wrap_i64n, wrapun, dec_t, dec_f, inb_t, cond_true, cond_false, Int.toNat_natCast, beq_t, beq_f, bne_t, bne_f, Bool.not_true, Bool.not_false, Int.reduceToNat, ft_b, tf_b, tt_b, ff_b, decide_true, decide_false, odd_mod, beq_f h1]
        · by_cases e : k = i
          · subst e; exact fun h => h1 h.1
          · exact hP k (by omega))
    (fun _ hP => by
      refine ⟨_, ?_, .inr ⟨hP, rfl⟩⟩
      unfold R_r21_At_0
      simp (disch := omega) only [add_c, add_l, l_add, mul_c, mul_l, l_mul, sub_c, sub_l, l_sub, div_c, div_l, mod_c, mod_l, tdiv_c, tdiv_l, tmod_c, tmod_l, wrap_i64n, wrapun, dec_t, dec_f, inb_t, cond_true, cond_false, Int.toNat_natCast, beq_t, beq_f, bne_t, bne_f, Bool.not_true, Bool.not_false, Int.reduceToNat, ft_b, tf_b, tt_b, ff_b, decide_true, decide_false]) () (fun k hk => by omega)
  have y1' : loopF R_r21_At_0 (((m, f), (srv, (cl, (odd, ((), (0, ())))))), ((0, 0), ())) = some y := y1
  simp only [y1']
  rcases y2 with ⟨i, hi, hp, rfl⟩ | ⟨hn, rfl⟩
  · exact .inl ⟨i, hi, hp, rfl⟩
  · exact .inr ⟨hn, rfl⟩
/-- the same is seen in each place -/
theorem Rep.at {N : Nat} {F : TabV} {m : Nat} (hm : m ≤ 100) {f : Nat → VoteT} (h : Rep N F m f) (srv cl odd : Int) (ho : 0 ≤ odd ∧ odd ≤ 1) :
    ∃ r, r21_At m f srv cl odd = some r ∧ eqF (.pair (.int .i64) (.int .i64)) (atT N F srv cl odd).1 r.1 = true ∧ sEq (atT N F srv cl odd).2 r.2 = true := by
  have sr : ∀ b : ByteArray, sEq b b = true := fun b => by simp [sEq]
  rcases r21_At_spec hm f srv cl odd with ⟨i, hi, ⟨p1, p2, p3⟩, e⟩ | ⟨hn, e⟩
  · obtain ⟨a1, a2, ⟨a3, a4, a5, a6⟩, a7⟩ := h.good i hi
    refine ⟨_, e, ?_⟩
    have : atT N F srv cl odd = (f i).2 := by
      unfold atT
      rw [if_pos (by omega), ← a7, p1, p2, p3]
    rw [this]
    exact ⟨stamp_eqF _, sr _⟩
  · refine ⟨_, e, ?_⟩
    by_cases hv : 1 ≤ srv ∧ srv ≤ (N : Int) ∧ 1 ≤ cl ∧ cl ≤ 4
    · have : atT N F srv cl odd = ((0, 0), ByteArray.empty) := by
        unfold atT
        rw [if_pos (by omega)]
        exact h.full srv cl odd hv.1 hv.2.1 hv.2.2.1 hv.2.2.2 ho.1 ho.2 hn
      rw [this]
      exact ⟨stamp_eqF _, sr _⟩
    · have : atT N F srv cl odd = ((0, 0), ByteArray.mk #[]) := by
        unfold atT
        rw [if_neg (by omega)]
      rw [this]
      exact ⟨stamp_eqF _, sr _⟩
end Go.Pl

set_option linter.unusedVariables false
set_option linter.unusedSimpArgs false
namespace Go.Pl
open Go Go.Den

theorem l21_VotesPlay_true {n : Int} {nl : Nat} {l : Nat → Int × ((Int × Int) × ByteArray)} (hn : Go.Den.Good (.int .i64) n) (hl : Go.Den.Good (.sl (.pair (.int .i64) (.pair (.pair (.int .i64) (.int .i64)) .str))) (.fz nl l)) : l21_VotesPlay' n nl l = some () := by
  have hli : ∀ i, i < nl → (l i).1 < 9223372036854775808 ∧ (l i).2.2.size ≤ 9223372036854775807 := fun i hi => by
    have := hl.2 i hi
    exact ⟨Int.lt_of_le_of_lt this.1.2 (by decide), this.2.2⟩
  obtain ⟨b0, q1, q2⟩ := l21_short_spec nl hl.1 l (fun i hi => (hli i hi).2)
  unfold l21_VotesPlay'
  simp only [q1]
  cases b0 with
  | false => simp only [Bool.not_false, cond_true, l21_awake_spec]
  | true =>
  have hnl := q2 rfl
  by_cases hv : 1 ≤ n ∧ n ≤ 7
  rotate_left
  · have := votes_New_m_bad hv
    by_cases h1 : n < 1 <;> simp (disch := omega) only [wrap_i64n, wrapun, dec_t, dec_f, inb_t, cond_true, cond_false, Int.toNat_natCast, beq_t, beq_f, bne_t, bne_f, Bool.not_true, Bool.not_false, Int.reduceToNat, ft_b, tf_b, tt_b, ff_b, decide_true, decide_false, this, l21_awake_spec]
  obtain ⟨N, rfl⟩ : ∃ N : Nat, n = (N : Int) := ⟨n.toNat, by omega⟩
  have hN : N ≤ 7 := by omega
  have hnew := votes_New_m_spec (n := N) (by omega) hN
  obtain ⟨z, hy, _⟩ := loop_for (R := R_l21_VotesPlay_0) (fun i (p : (Nat × (Nat → VoteT)) × TabV) => T_l21_VotesPlay_0 (N : Int) nl l p.1.1 p.1.2 (i : Int) ((N : Int), p.2)) (fun _ => Y_l21_VotesPlay_0_1)
    (fun i p => p.1.1 ≤ i ∧ Rep N p.2 p.1.1 p.1.2) nl
    (fun i hi p hP => by
      obtain ⟨⟨m, f⟩, F⟩ := p
      obtain ⟨hm, hR⟩ := hP
      simp only at hm hR
      obtain ⟨h1, h2⟩ := hli i hi
      obtain ⟨k, g, e1, e2, e3⟩ := r21_Put_spec hN (by omega) hR (l i)
      have hp := votes_Put_m_spec hN F (l i).1 h1 (l i).2.1 (l i).2.2
      obtain ⟨F', hF'⟩ : ∃ F', F' = if okV N F (l i).1 (l i).2.1 then putV F (l i).1 (l i).2.1 (l i).2.2 else F := ⟨_, rfl⟩
      rw [← hF'] at hp e3
      obtain ⟨_, hy2, _⟩ := loop_for (R := R_l21_VotesPlay_2) (fun j (_ : Unit) => T_l21_VotesPlay_2 (N : Int) nl l k g (i : Int) (j : Int) ((N : Int), F')) (fun _ => Y_l21_VotesPlay_2_1 (N : Int) nl l k g (i : Int) ((N : Int), F'))
        (fun _ _ => True) (i + 1)
        (fun j hj _ _ => by
          refine ⟨(), ?_, trivial⟩
          have hc := votes_Count_spec hN F' (l j).2.1 (l j).2.2
          have hc2 := r21_Count_spec (m := k) (by omega) g (l j).2.1 (l j).2.2
          rw [← e3.counts] at hc2
          have ha0 := votes_At_spec hN F' (l j).1 (l j).2.1.2 0
          have ha1 := votes_At_spec hN F' (l j).1 (l j).2.1.2 1
          obtain ⟨r0, u1, u2, u3⟩ := e3.at (by omega) (l j).1 (l j).2.1.2 0 (by decide)
          obtain ⟨r1, v1, v2, v3⟩ := e3.at (by omega) (l j).1 (l j).2.1.2 1 (by decide)
          unfold R_l21_VotesPlay_2
          simp (disch := omega) only [add_c, add_l, l_add, mul_c, mul_l, l_mul, sub_c, sub_l, l_sub, div_c, div_l, mod_c, mod_l, tdiv_c, tdiv_l, tmod_c, tmod_l, wrap_i64n, wrapun, dec_t, dec_f, inb_t, cond_true, cond_false, Int.toNat_natCast, beq_t, beq_f, bne_t, bne_f, Bool.not_true, Bool.not_false, Int.reduceToNat, ft_b, tf_b, tt_b, ff_b, decide_true, decide_false, hc, hc2, ha0, ha1, u1, u2, u3, v1, v2, v3])
        (fun _ _ => by
          unfold R_l21_VotesPlay_2
          simp (disch := omega) only [add_c, add_l, l_add, mul_c, mul_l, l_mul, sub_c, sub_l, l_sub, div_c, div_l, mod_c, mod_l, tdiv_c, tdiv_l, tmod_c, tmod_l, wrap_i64n, wrapun, dec_t, dec_f, inb_t, cond_true, cond_false, Int.toNat_natCast, beq_t, beq_f, bne_t, bne_f, Bool.not_true, Bool.not_false, Int.reduceToNat, ft_b, tf_b, tt_b, ff_b, decide_true, decide_false]) () trivial
      have hy2' : loopF R_l21_VotesPlay_2 (((N : Int), ((nl, l), ((), ((k, g), ((i : Int), (0, ())))))), (((N : Int), F'), ())) = some (Y_l21_VotesPlay_2_1 (N : Int) nl l k g (i : Int) ((N : Int), F')) := hy2
      refine ⟨((k, g), F'), ?_, by simp only; omega, e3⟩
      unfold R_l21_VotesPlay_0
      simp (disch := omega) only [add_c, add_l, l_add, mul_c, mul_l, l_mul, sub_c, sub_l, l_sub, div_c, div_l, mod_c, mod_l, tdiv_c, tdiv_l, tmod_c, tmod_l, wrap_i64n, wrapun, dec_t, dec_f, inb_t, cond_true, cond_false, Int.toNat_natCast, beq_t, beq_f, bne_t, bne_f, Bool.not_true, Bool.not_false, Int.reduceToNat, ft_b, tf_b, tt_b, ff_b, decide_true, decide_false, e1, hp, hy2']
      cases decide (okV N F (l i).1 (l i).2.1) <;> rfl)
    (fun _ _ => by
      unfold R_l21_VotesPlay_0
      simp (disch := omega) only [add_c, add_l, l_add, mul_c, mul_l, l_mul, sub_c, sub_l, l_sub, div_c, div_l, mod_c, mod_l, tdiv_c, tdiv_l, tmod_c, tmod_l, wrap_i64n, wrapun, dec_t, dec_f, inb_t, cond_true, cond_false, Int.toNat_natCast, beq_t, beq_f, bne_t, bne_f, Bool.not_true, Bool.not_false, Int.reduceToNat, ft_b, tf_b, tt_b, ff_b, decide_true, decide_false]) ((0, fun _ => (0, ((0, 0), ByteArray.empty))), noV) ⟨Nat.le_refl _, Rep.start N _⟩
  have hy' : loopF R_l21_VotesPlay_0 (((N : Int), ((nl, l), ((), ((0, fun _ => (0, ((0, 0), ByteArray.empty))), (0, ()))))), (((N : Int), noV), ())) = some Y_l21_VotesPlay_0_1 := hy
  simp (disch := omega) only [wrap_i64n, wrapun, dec_t, dec_f, inb_t, cond_true, cond_false, Int.toNat_natCast, beq_t, beq_f, bne_t, bne_f, Bool.not_true, Bool.not_false, Int.reduceToNat, ft_b, tf_b, tt_b, ff_b, decide_true, decide_false, hnew, hy', l21_awake_spec]
end Go.Pl
