/-
  One statement, plainly.
-/
import Derived.Test.YtennopklknlecaaGreatDenD
import Derived.Test.YtennopklknlecaaGreatL12
import Derived.Test.YtennopklknlecaaGreatPpoly
import Derived.Test.YtennopklknlecaaGreatPlA
import Derived.Test.YtennopklknlecaaGreatPr12
import Derived.Test.YtennopklknlecaaGreatEqA
import Derived.Test.YtennopklknlecaaGreatEpoly
import Derived.Test.YtennopklknlecaaGreatEr12
set_option linter.unusedVariables false
set_option linter.unusedSimpArgs false
set_option maxRecDepth 100000
set_option maxHeartbeats 0
namespace Go.Pl
end Go.Pl
open Go Go.Den Go.Pl
namespace Go.Pl
abbrev T_l12_PolyThrough_2 (q : Int) (ok : Bool) (nf : Nat) (f : Nat → (Nat → Int)) (e : Int) (ns : Nat) (s : Nat → Int) (nt : Nat) (t : Nat → Int) (may : Bool) (i : Int) (k : Int) : ((Int × (Bool × ((Nat × (Nat → (Nat → Int))) × (Int × ((Nat × (Nat → Int)) × ((Nat × (Nat → Int)) × (Bool × (Int × (Int × Unit))))))))) × Unit) := ((q, (ok, ((nf, f), (e, ((ns, s), ((nt, t), (may, (i, (k, ()))))))))), ())
abbrev Y_l12_PolyThrough_2_0 (q : Int) (ok : Bool) (nf : Nat) (f : Nat → (Nat → Int)) (e : Int) (ns : Nat) (s : Nat → Int) (nt : Nat) (t : Nat → Int) (may : Bool) (i : Int) : ((Int × (Bool × ((Nat × (Nat → (Nat → Int))) × (Int × ((Nat × (Nat → Int)) × ((Nat × (Nat → Int)) × (Bool × (Int × Unit)))))))) × Unit) := ((q, (ok, ((nf, f), (e, ((ns, s), ((nt, t), (may, (i, ())))))))), ())
noncomputable def R_l12_PolyThrough_2 : ((Int × (Bool × ((Nat × (Nat → (Nat → Int))) × (Int × ((Nat × (Nat → Int)) × ((Nat × (Nat → Int)) × (Bool × (Int × (Int × Unit))))))))) × Unit) → Option (((Int × (Bool × ((Nat × (Nat → (Nat → Int))) × (Int × ((Nat × (Nat → Int)) × ((Nat × (Nat → Int)) × (Bool × (Int × (Int × Unit))))))))) × Unit) ⊕ ((Int × (Bool × ((Nat × (Nat → (Nat → Int))) × (Int × ((Nat × (Nat → Int)) × ((Nat × (Nat → Int)) × (Bool × (Int × Unit)))))))) × Unit)) := fun x =>
 let q := x.1.1
 let ok := x.1.2.1
 let nf := x.1.2.2.1.1
 let f := x.1.2.2.1.2
 let e := x.1.2.2.2.1
 let ns := x.1.2.2.2.2.1.1
 let s := x.1.2.2.2.2.1.2
 let nt := x.1.2.2.2.2.2.1.1
 let t := x.1.2.2.2.2.2.1.2
 let may := x.1.2.2.2.2.2.2.1
 let i := x.1.2.2.2.2.2.2.2.1
 let k := x.1.2.2.2.2.2.2.2.2.1
 bif (decide (k < i)) then (
  bif may then (
   bif (inb i ns) then (
    bif (inb k ns) then (
     some (.inl ((q, (ok, ((nf, f), (e, ((ns, s), ((nt, t), (((s (Int.toNat i)) != (s (Int.toNat k))), (i, ((IntKind.i64.wrap (k + 1)), ()))))))))), ())))
    else (
     none))
   else (
    none))
  else (
   some (.inl ((q, (ok, ((nf, f), (e, ((ns, s), ((nt, t), (false, (i, ((IntKind.i64.wrap (k + 1)), ()))))))))), ()))))
 else (
  some (.inr ((q, (ok, ((nf, f), (e, ((ns, s), ((nt, t), (may, (i, ())))))))), ())))
abbrev T_l12_PolyThrough_0 (q : Int) (ok : Bool) (nf : Nat) (f : Nat → (Nat → Int)) (e : Int) (ns : Nat) (s : Nat → Int) (nt : Nat) (t : Nat → Int) (may : Bool) (i : Int) : ((Int × (Bool × ((Nat × (Nat → (Nat → Int))) × (Int × ((Nat × (Nat → Int)) × ((Nat × (Nat → Int)) × (Bool × (Int × Unit)))))))) × Unit) := ((q, (ok, ((nf, f), (e, ((ns, s), ((nt, t), (may, (i, ())))))))), ())
abbrev Y_l12_PolyThrough_0_0 (q : Int) (ok : Bool) (nf : Nat) (f : Nat → (Nat → Int)) (e : Int) (ns : Nat) (s : Nat → Int) (nt : Nat) (t : Nat → Int) (may : Bool) : ((Int × (Bool × ((Nat × (Nat → (Nat → Int))) × (Int × ((Nat × (Nat → Int)) × ((Nat × (Nat → Int)) × (Bool × Unit))))))) × Unit) := ((q, (ok, ((nf, f), (e, ((ns, s), ((nt, t), (may, ()))))))), ())
noncomputable def R_l12_PolyThrough_0 : ((Int × (Bool × ((Nat × (Nat → (Nat → Int))) × (Int × ((Nat × (Nat → Int)) × ((Nat × (Nat → Int)) × (Bool × (Int × Unit)))))))) × Unit) → Option (((Int × (Bool × ((Nat × (Nat → (Nat → Int))) × (Int × ((Nat × (Nat → Int)) × ((Nat × (Nat → Int)) × (Bool × (Int × Unit)))))))) × Unit) ⊕ ((Int × (Bool × ((Nat × (Nat → (Nat → Int))) × (Int × ((Nat × (Nat → Int)) × ((Nat × (Nat → Int)) × (Bool × Unit))))))) × Unit)) := fun x =>
 let q := x.1.1
 let ok := x.1.2.1
 let nf := x.1.2.2.1.1
 let f := x.1.2.2.1.2
 let e := x.1.2.2.2.1
 let ns := x.1.2.2.2.2.1.1
 let s := x.1.2.2.2.2.1.2
 let nt := x.1.2.2.2.2.2.1.1
 let t := x.1.2.2.2.2.2.1.2
 let may := x.1.2.2.2.2.2.2.1
 let i := x.1.2.2.2.2.2.2.2.1
 bif (decide (i < ((ns : Nat) : Int))) then (
  match (loopF R_l12_PolyThrough_2 ((q, (ok, ((nf, f), (e, ((ns, s), ((nt, t), (may, (i, (0, ()))))))))), ())) with
  | none => none
  | some y => (
   let q1 := y.1.1
   let ok1 := y.1.2.1
   let nf1 := y.1.2.2.1.1
   let f1 := y.1.2.2.1.2
   let e1 := y.1.2.2.2.1
   let ns1 := y.1.2.2.2.2.1.1
   let s1 := y.1.2.2.2.2.1.2
   let nt1 := y.1.2.2.2.2.2.1.1
   let t1 := y.1.2.2.2.2.2.1.2
   let may1 := y.1.2.2.2.2.2.2.1
   let i1 := y.1.2.2.2.2.2.2.2.1
   some (.inl ((q1, (ok1, ((nf1, f1), (e1, ((ns1, s1), ((nt1, t1), (may1, ((IntKind.i64.wrap (i1 + 1)), ())))))))), ()))))
 else (
  some (.inr ((q, (ok, ((nf, f), (e, ((ns, s), ((nt, t), (may, ()))))))), ())))
noncomputable def l12_PolyThrough' (which : Int) (nxs : Nat) (xs : Nat → (Nat → Int)) (nys : Nat) (ys : Nat → (Nat → Int)) : Option (Unit) :=
 bif (decide (((nxs : Nat) : Int) > 8)) then (
  match l12_awake with
  | none => none
  | some r => (
   bif r then (
    some ())
   else (
    none)))
 else (
  bif (decide (((nys : Nat) : Int) > 8)) then (
   match l12_awake with
   | none => none
   | some r1 => (
    bif r1 then (
     some ())
    else (
     none)))
  else (
   match (l12_small which) with
   | none => none
   | some r2 => (
    match r2.1 with
    | none => (
     match (poly_Through none nxs xs nys ys) with
     | none => none
     | some y3 => (
      let nr2 := y3.1.1.1
      let r11 := y3.1.1.2
      let r12 := y3.1.2.1
      match (r08_All nxs xs r2.2.1) with
      | none => none
      | some r13 => (
       match (r08_All nys ys r2.2.1) with
       | none => none
       | some r14 => (
        match (loopF R_l12_PolyThrough_0 ((r2.2.1, (r2.2.2, ((nr2, r11), (r12, ((r13.1, r13.2), ((r14.1, r14.2), ((((r13.1 : Nat) : Int) == ((r14.1 : Nat) : Int)), (0, ())))))))), ())) with
        | none => none
        | some y4 => (
         let q1 := y4.1.1
         let ok1 := y4.1.2.1
         let nf1 := y4.1.2.2.1.1
         let f1 := y4.1.2.2.1.2
         let e1 := y4.1.2.2.2.1
         let ns1 := y4.1.2.2.2.2.1.1
         let s1 := y4.1.2.2.2.2.1.2
         let nt1 := y4.1.2.2.2.2.2.1.1
         let t1 := y4.1.2.2.2.2.2.1.2
         let may1 := y4.1.2.2.2.2.2.2.1
         bif (!may1) then (
          bif ok1 then (
           bif (((nf1 : Nat) : Int) == 0) then (
            bif (e1 == 1) then (
             match l12_awake with
             | none => none
             | some r15 => (
              bif r15 then (
               some ())
              else (
               none)))
            else (
             none))
           else (
            none))
          else (
           none))
         else (
          bif ok1 then (
           bif (e1 == 0) then (
            match (r12_Through ns1 s1 nt1 t1 q1) with
            | none => none
            | some y5 => (
             let nr3 := y5.1.1.1
             let r16 := y5.1.1.2
             match (l12_is nf1 (fun j => f1 (0 + j)) nr3 (fun j => r16 (0 + j))) with
             | none => none
             | some r17 => (
              bif r17 then (
               match l12_awake with
               | none => none
               | some r18 => (
                bif r18 then (
                 some ())
                else (
                 none)))
              else (
               none))))
           else (
            none))
          else (
           none)))))))
    | some p => (
     match (poly_Through (some p) nxs xs nys ys) with
     | none => none
     | some y => (
      let nr := y.1.1.1
      let r3 := y.1.1.2
      let r4 := y.1.2.1
      match (r08_All nxs xs r2.2.1) with
      | none => none
      | some r5 => (
       match (r08_All nys ys r2.2.1) with
       | none => none
       | some r6 => (
        match (loopF R_l12_PolyThrough_0 ((r2.2.1, (r2.2.2, ((nr, r3), (r4, ((r5.1, r5.2), ((r6.1, r6.2), ((((r5.1 : Nat) : Int) == ((r6.1 : Nat) : Int)), (0, ())))))))), ())) with
        | none => none
        | some y1 => (
         let q := y1.1.1
         let ok := y1.1.2.1
         let nf := y1.1.2.2.1.1
         let f := y1.1.2.2.1.2
         let e := y1.1.2.2.2.1
         let ns := y1.1.2.2.2.2.1.1
         let s := y1.1.2.2.2.2.1.2
         let nt := y1.1.2.2.2.2.2.1.1
         let t := y1.1.2.2.2.2.2.1.2
         let may := y1.1.2.2.2.2.2.2.1
         bif (!may) then (
          bif ok then (
           bif (((nf : Nat) : Int) == 0) then (
            bif (e == 1) then (
             match l12_awake with
             | none => none
             | some r7 => (
              bif r7 then (
               some ())
              else (
               none)))
            else (
             none))
           else (
            none))
          else (
           none))
         else (
          bif ok then (
           bif (e == 0) then (
            match (r12_Through ns s nt t q) with
            | none => none
            | some y2 => (
             let nr1 := y2.1.1.1
             let r8 := y2.1.1.2
             match (l12_is nf (fun j => f (0 + j)) nr1 (fun j => r8 (0 + j))) with
             | none => none
             | some r9 => (
              bif r9 then (
               match l12_awake with
               | none => none
               | some r10 => (
                bif r10 then (
                 some ())
                else (
                 none)))
              else (
               none))))
           else (
            none))
          else (
           none))))))))))
end Go.Pl

set_option linter.unusedVariables false
set_option linter.unusedSimpArgs false
set_option maxRecDepth 100000
set_option maxHeartbeats 0
namespace Go.Pl
end Go.Pl
open Go Go.Den Go.Pl
namespace Go.Proofs.YtennopklknlecaaGreat
abbrev S_l12_PolyThrough_2 : Shape := { sl := [(8, (.v (.int .i64))), (9, (.v .bool)), (10, (.w 37 (.arr 4 (.int .u64)) 8)), (11, (.v (.int .i64))), (12, (.sz (.int .i64))), (13, (.sz (.int .i64))), (14, (.v .bool)), (15, (.v (.int .i64))), (16, (.v (.int .i64)))], ob := [], lo := 8, nx := 9 }
abbrev E_l12_PolyThrough_2 : List Ex := [(.normal, { sl := [(8, (.v (.int .i64))), (9, (.v .bool)), (10, (.w 37 (.arr 4 (.int .u64)) 9)), (11, (.v (.int .i64))), (12, (.sz (.int .i64))), (13, (.sz (.int .i64))), (14, (.v .bool)), (15, (.v (.int .i64)))], ob := [], lo := 9, nx := 10 })]
noncomputable def L_l12_PolyThrough_2 : Code := loopIn (bodyOf Tryz.f3) 2
noncomputable def P_l12_PolyThrough_2 : Lp := lpOf S_l12_PolyThrough_2 E_l12_PolyThrough_2 104 R_l12_PolyThrough_2
abbrev S_l12_PolyThrough_0 : Shape := { sl := [(8, (.v (.int .i64))), (9, (.v .bool)), (10, (.w 37 (.arr 4 (.int .u64)) 7)), (11, (.v (.int .i64))), (12, (.sz (.int .i64))), (13, (.sz (.int .i64))), (14, (.v .bool)), (15, (.v (.int .i64)))], ob := [], lo := 7, nx := 8 }
abbrev E_l12_PolyThrough_0 : List Ex := [(.normal, { sl := [(8, (.v (.int .i64))), (9, (.v .bool)), (10, (.w 37 (.arr 4 (.int .u64)) 8)), (11, (.v (.int .i64))), (12, (.sz (.int .i64))), (13, (.sz (.int .i64))), (14, (.v .bool))], ob := [], lo := 8, nx := 9 })]
noncomputable def L_l12_PolyThrough_0 : Code := loopIn (bodyOf Tryz.f3) 0
noncomputable def P_l12_PolyThrough_0 : Lp := lpOf S_l12_PolyThrough_0 E_l12_PolyThrough_0 104 R_l12_PolyThrough_0
noncomputable def x_l12_PolyThrough : Cx := { ti := ti, con := [(4, c_l12_awake), (5, c_l12_small), (6, c_poly_Through), (7, c_r08_All), (9, c_r12_Through), (8, c_l12_is)], fns := [], un := 6 }
theorem xok_l12_PolyThrough : CxOk Tryz.prog x_l12_PolyThrough := CxOk.of mixed ti_ok (List.forall_mem_cons.2 ⟨con_l12_awake, List.forall_mem_cons.2 ⟨con_l12_small, List.forall_mem_cons.2 ⟨con_poly_Through, List.forall_mem_cons.2 ⟨con_r08_All, List.forall_mem_cons.2 ⟨con_r12_Through, List.forall_mem_cons.2 ⟨con_l12_is, List.forall_mem_nil _⟩⟩⟩⟩⟩⟩) (List.forall_mem_nil _)
theorem r_l12_PolyThrough_2 (x : S_l12_PolyThrough_2.X) : denC x_l12_PolyThrough [] (denF x_l12_PolyThrough 8) L_l12_PolyThrough_2 (S_l12_PolyThrough_2.mkS 104 x) (kRound 2 S_l12_PolyThrough_2 E_l12_PolyThrough_2) = R_l12_PolyThrough_2 x := by kernel_rfl
theorem l_l12_PolyThrough_2 : LpOk Tryz.prog 2 (.loop L_l12_PolyThrough_2) P_l12_PolyThrough_2 := lpOf_ok xok_l12_PolyThrough 8 (lps_nil) S_l12_PolyThrough_2 E_l12_PolyThrough_2 104 R_l12_PolyThrough_2 (by decide) r_l12_PolyThrough_2
theorem r_l12_PolyThrough_0 (x : S_l12_PolyThrough_0.X) : denC x_l12_PolyThrough [(2, P_l12_PolyThrough_2)] (denF x_l12_PolyThrough 8) L_l12_PolyThrough_0 (S_l12_PolyThrough_0.mkS 104 x) (kRound 0 S_l12_PolyThrough_0 E_l12_PolyThrough_0) = R_l12_PolyThrough_0 x := by kernel_rfl
theorem l_l12_PolyThrough_0 : LpOk Tryz.prog 0 (.loop L_l12_PolyThrough_0) P_l12_PolyThrough_0 := lpOf_ok xok_l12_PolyThrough 8 (lps_of (by kernel_rfl) (lps_one l_l12_PolyThrough_2 (by kernel_rfl) (List.forall_mem_nil _))) S_l12_PolyThrough_0 E_l12_PolyThrough_0 104 R_l12_PolyThrough_0 (by decide) r_l12_PolyThrough_0
theorem fn_l12_PolyThrough : FnOk Tryz.prog 3 Tryz.f3 [(2, P_l12_PolyThrough_2), (0, P_l12_PolyThrough_0)] := ⟨Tryz.func3, Tryz.call3, lps_of (by kernel_rfl) (lps_one l_l12_PolyThrough_2 (by kernel_rfl) (lps_one l_l12_PolyThrough_0 (by kernel_rfl) (List.forall_mem_nil _)))⟩
theorem e_l12_PolyThrough (which : Int) (nxs : Nat) (xs : Nat → (Nat → Int)) (nys : Nat) (ys : Nat → (Nat → Int)) : bodyK x_l12_PolyThrough [(2, P_l12_PolyThrough_2), (0, P_l12_PolyThrough_0)] (denF x_l12_PolyThrough 8) Tryz.f3 (domV [(.int .i64), (.sl (.arr 4 (.int .u64))), (.sl (.arr 4 (.int .u64)))] (which, (nxs, xs), (nys, ys), ())) [] 0 kTrue = l12_PolyThrough' which nxs xs nys ys := by kernel_rfl
end Go.Proofs.YtennopklknlecaaGreat

set_option linter.unusedVariables false
set_option linter.unusedSimpArgs false
namespace Go.Pl
open Go Go.Den Go.Num

theorem int_bne {a b : Nat} : ((a : Int) != (b : Int)) = decide (a ≠ b) := by
  by_cases h : a = b
  · subst h; simp
  · have : (a : Int) ≠ b := by omega
    rw [bne_t this, dec_t h]
/-- are all places other than those ahead -/
theorem may_spec {q : Int} {ok : Bool} {nf : Nat} {f : Nat → (Nat → Int)} {e : Int} {n : Nat} (hn : n ≤ 1000) {s : Nat → Int} {S : Nat → Nat} (hs : IsR n s S) {nt : Nat} {t : Nat → Int} (b0 : Bool) :
    ∃ b, loopF R_l12_PolyThrough_0 ((q, (ok, ((nf, f), (e, ((n, s), ((nt, t), (b0, (0, ())))))))), ()) = some (Y_l12_PolyThrough_0_0 q ok nf f e n s nt t b) ∧ (b = true ↔ b0 = true ∧ ∀ j i, j < i → i < n → S i ≠ S j) := by
  obtain ⟨b, hy, hP⟩ := loop_for (R := R_l12_PolyThrough_0) (fun i (b : Bool) => T_l12_PolyThrough_0 q ok nf f e n s nt t b (i : Int)) (fun b => Y_l12_PolyThrough_0_0 q ok nf f e n s nt t b) (fun m b => b = true ↔ b0 = true ∧ ∀ j i, j < i → i < m → S i ≠ S j) n
    (fun i hi b hP => by
      obtain ⟨b', hy, hP'⟩ := loop_for (R := R_l12_PolyThrough_2) (fun k (c : Bool) => T_l12_PolyThrough_2 q ok nf f e n s nt t c (i : Int) (k : Int)) (fun c => Y_l12_PolyThrough_2_0 q ok nf f e n s nt t c (i : Int)) (fun k c => c = true ↔ b = true ∧ ∀ j, j < k → S i ≠ S j) i
        (fun k hk c hc => by
          refine ⟨c && decide (S i ≠ S k), ?_, ?_⟩
          · unfold R_l12_PolyThrough_2
            cases c
            · simp (disch := omega) only [add_c, add_l, l_add, mul_c, mul_l, l_mul, sub_c, sub_l, l_sub, div_c, div_l, mod_c, mod_l, tdiv_c, tdiv_l, tmod_c, tmod_l, wrap_i64n, wrapun, dec_t, dec_f, inb_t, cond_true, cond_false, Int.toNat_natCast, beq_t, beq_f, bne_t, bne_f, Bool.not_true, Bool.not_false, Int.reduceToNat, ft_b, tf_b, tt_b, ff_b, decide_true, decide_false, Bool.false_and]
            · have e1 : (s i != s k) = decide (S i ≠ S k) := by rw [hs i hi, hs k (by omega), int_bne]
              simp (disch := omega) only [add_c, add_l, l_add, mul_c, mul_l, l_mul, sub_c, sub_l, l_sub, div_c, div_l, mod_c, mod_l, tdiv_c, tdiv_l, tmod_c, tmod_l, wrap_i64n, wrapun, dec_t, dec_f, inb_t, cond_true, cond_false, Int.toNat_natCast, beq_t, beq_f, bne_t, bne_f, Bool.not_true, Bool.not_false, Int.reduceToNat, ft_b, tf_b, tt_b, ff_b, decide_true, decide_false, Bool.true_and, e1]
          · rw [Bool.and_eq_true, hc, decide_eq_true_iff]
            constructor
            · rintro ⟨⟨h1, h2⟩, h3⟩
              exact ⟨h1, fun j hj => by
                by_cases h4 : j = k
                · subst h4; exact h3
                · exact h2 j (by omega)⟩
            · rintro ⟨h1, h2⟩
              exact ⟨⟨h1, fun j hj => h2 j (by omega)⟩, h2 k (by omega)⟩)
        (fun c hc => by
          unfold R_l12_PolyThrough_2
          simp (disch := omega) only [add_c, add_l, l_add, mul_c, mul_l, l_mul, sub_c, sub_l, l_sub, div_c, div_l, mod_c, mod_l, tdiv_c, tdiv_l, tmod_c, tmod_l, wrap_i64n, wrapun, dec_t, dec_f, inb_t, cond_true, cond_false, Int.toNat_natCast, beq_t, beq_f, bne_t, bne_f, Bool.not_true, Bool.not_false, Int.reduceToNat, ft_b, tf_b, tt_b, ff_b, decide_true, decide_false]) b ⟨fun h => ⟨h, fun j hj => by omega⟩, fun h => h.1⟩
      have hy' : loopF R_l12_PolyThrough_2 ((q, (ok, ((nf, f), (e, ((n, s), ((nt, t), (b, ((i : Int), (0, ()))))))))), ()) = some (Y_l12_PolyThrough_2_0 q ok nf f e n s nt t b' (i : Int)) := hy
      refine ⟨b', ?_, ?_⟩
      · unfold R_l12_PolyThrough_0
        simp (disch := omega) only [add_c, add_l, l_add, mul_c, mul_l, l_mul, sub_c, sub_l, l_sub, div_c, div_l, mod_c, mod_l, tdiv_c, tdiv_l, tmod_c, tmod_l, wrap_i64n, wrapun, dec_t, dec_f, inb_t, cond_true, cond_false, Int.toNat_natCast, beq_t, beq_f, bne_t, bne_f, Bool.not_true, Bool.not_false, Int.reduceToNat, ft_b, tf_b, tt_b, ff_b, decide_true, decide_false, hy']
      · rw [hP', hP]
        constructor
        · rintro ⟨⟨h1, h2⟩, h3⟩
          exact ⟨h1, fun j i' hj hi' => by
            by_cases h4 : i' = i
            · subst h4; exact h3 j hj
            · exact h2 j i' hj (by omega)⟩
        · rintro ⟨h1, h2⟩
          exact ⟨⟨h1, fun j i' hj hi' => h2 j i' hj (by omega)⟩, fun j hj => h2 j i hj (by omega)⟩)
    (fun b hb => by
      unfold R_l12_PolyThrough_0
      simp (disch := omega) only [add_c, add_l, l_add, mul_c, mul_l, l_mul, sub_c, sub_l, l_sub, div_c, div_l, mod_c, mod_l, tdiv_c, tdiv_l, tmod_c, tmod_l, wrap_i64n, wrapun, dec_t, dec_f, inb_t, cond_true, cond_false, Int.toNat_natCast, beq_t, beq_f, bne_t, bne_f, Bool.not_true, Bool.not_false, Int.reduceToNat, ft_b, tf_b, tt_b, ff_b, decide_true, decide_false]) b0 ⟨fun h => ⟨h, fun j i hj hi => by omega⟩, fun h => h.1⟩
  exact ⟨b, hy, hP⟩
theorem mulN_two {c B : Nat → Nat} {K : Nat} (hc : ∀ t, K ≤ t → c t = 0) (m t : Nat) (ht : K + 1 ≤ t) : mulN c B m 2 t = 0 := by
  induction m with
  | zero => rfl
  | succ m ih =>
    rw [mulN_succ, ih]
    by_cases h : K ≤ m
    · rw [hc m h]; simp
    · rw [if_pos (by omega), pad_zero (by omega)]; simp
/-- one divided by what is no multiple -/
theorem inv_cg {q v : Nat} (hq : Pr q) (hv : v < q) (h0 : v ≠ 0) : Cg q (((if v = 0 then 0 else v ^ (q - 2) % q : Nat) : Int) * v) 1 := by
  have h2 := hq.1
  rw [if_neg h0, ← Int.natCast_mul]
  have hd : ¬ q ∣ v := fun h => h0 (Nat.eq_zero_of_dvd_of_lt h hv)
  have hf := fermat_one hq hd
  have : (v ^ (q - 2) % q * v) % q = 1 := by
    rw [Nat.mod_mul_mod, ← Nat.pow_succ, show (q - 2).succ = q - 1 by omega, hf]
  exact (Cg.nat q _).symm.trans (Cg.of_eq (by rw [this]; rfl))
structure One (q n : Nat) (S T : Nat → Nat) (i k m : Nat) (w : Nat → Int) (c : Nat → Nat) : Prop where
  is : IsR m w c
  size : m ≤ 2 * k + 1
  zero : ∀ t, m ≤ t → c t = 0
  lt : ∀ t, c t < q
  deg : ∀ t, (if k ≤ i then k + 1 else k) ≤ t → c t = 0
  at_ : Cg q (E c (S i)) (T i)
  no : ∀ j, j < k → j ≠ i → Cg q (E c (S j)) 0
theorem pad_self {c : Nat → Nat} {m : Nat} (h : ∀ t, m ≤ t → c t = 0) : pad c m = c := funext fun t => by
  unfold pad
  split
  · rfl
  · exact (h t (by omega)).symm
section
variable {q n : Nat} {S T : Nat → Nat} {xs ys : Nat → Int}
theorem one_next (hq : Pr q) (hq2 : q < 2147483648) (hS : ∀ j, j < n → S j < q) (hne : ∀ i j, i < n → j < n → i ≠ j → S i ≠ S j) {i k m : Nat} {w : Nat → Int} {c : Nat → Nat} (hi : i < n) (hk : k < n) (hn : n ≤ 8) (hki : k ≠ i) (h : One q n S T i k m w c) (u v : Nat) (hu : u = (if (S i + (q - S k)) % q = 0 then 0 else ((S i + (q - S k)) % q) ^ (q - 2) % q : Nat)) (hv : v = (0 + (q - S k)) % q * u % q) :
    ∃ m' w', r12_Mul m w 2 (fun j => (upd (upd (fun _ => 0) 0 (v : Int)) 1 (u : Int)) (0 + j)) (q : Int) = some (((m', w'), ()), ()) ∧ One q n S T i (k + 1) m' w' (fun t => mulN c (fun t => if t = 0 then v else u) m 2 t % q) := by
  have h2 := hq.1
  have hsk := hS k hk
  have hsi := hS i hi
  have hsz := h.size
  obtain ⟨m', w', z1, z2, z3⟩ := r12_Mul_spec (q := q) (by omega) hq2 (na := m) (nb := 2) (by omega) (by omega) (b := fun j => (upd (upd (fun _ => 0) 0 (v : Int)) 1 (u : Int)) (0 + j)) (B := fun t => if t = 0 then v else u) h.is (fun t ht => by
    rcases (show t = 0 ∨ t = 1 by omega) with rfl | rfl <;> rfl)
  have hB : ∀ x : Int, Cg q (E (pad (fun t => if t = 0 then v else u) 2) x) (u * (x - S k)) := fun x => by
    rw [E_pad (by decide)]
    have e : ev (cI fun t => if t = 0 then v else u) 2 x = (v : Int) + u * x := by
      show (0 : Int) + cI (fun t => if t = 0 then v else u) 0 * x ^ 0 + cI (fun t => if t = 0 then v else u) 1 * x ^ 1 = _
      simp only [cI, Int.pow_zero, Int.pow_succ, if_true, if_neg (show ¬ (1 = 0) by omega), Int.one_mul, Int.mul_one]
      omega
    rw [e, Int.mul_sub]
    have h3 : Cg q (v : Int) (-(u * S k)) := by
      rw [hv]
      refine (Cg.nat q _).trans ?_
      rw [Int.natCast_mul]
      refine ((Cg.nat q _).mul (Cg.refl q _)).trans ?_
      have : (((0 + (q - S k) : Nat) : Int)) = (q : Int) - S k := by omega
      rw [this]
      refine ⟨(u : Int), ?_⟩
      rw [Int.sub_mul, Int.mul_comm (S k : Int)]
      omega
    refine (h3.add (Cg.refl q _)).trans (Cg.of_eq (by omega))
  have hE := fun x : Int => (E_mul (c := fun t => mulN c (fun t => if t = 0 then v else u) m 2 t % q) (A := c) (na := m) (nb := 2) (by omega) (fun _ => rfl) x).trans ((Cg.refl q _).mul (hB x))
  rw [pad_self h.zero] at hE
  refine ⟨m', w', z1, z3.is, by omega, z3.zero, fun t => Nat.mod_lt _ (by omega), fun t ht => ?_, ?_, fun j hj hji => ?_⟩
  · show mulN c _ m 2 t % q = 0
    rw [mulN_two (K := if k ≤ i then k + 1 else k) h.deg m t (by
      split at ht <;> split <;> omega), Nat.zero_mod]
  · refine (hE _).trans ?_
    have h4 : Cg q ((u : Int) * ((S i : Int) - S k)) 1 := by
      have h5 : (S i + (q - S k)) % q ≠ 0 := fun h0 => by
        have := hne i k hi hk (fun e => hki e.symm)
        have h6 : Cg q ((S i : Nat) : Int) ((S k : Nat) : Int) := by
          have h7 := Cg.nat q (S i + (q - S k))
          rw [h0] at h7
          have h8 : ((S i + (q - S k) : Nat) : Int) = (S i : Int) + (q - S k) := by omega
          rw [h8] at h7
          have h9 := h7.symm
          unfold Cg at h9 ⊢
          obtain ⟨z, hz⟩ := h9
          refine ⟨z - 1, ?_⟩
          rw [Int.mul_sub, ← hz]
          simp only [Int.natCast_zero]
          omega
        exact this (Cg.eq h6 hsi hsk)
      have h6 := inv_cg hq (Nat.mod_lt _ (by omega)) h5
      rw [← hu] at h6
      refine Cg.trans ?_ h6
      refine (Cg.refl q _).mul (Cg.symm ((Cg.nat q _).trans ?_))
      have h8 : ((S i + (q - S k) : Nat) : Int) = (S i : Int) + (q - S k) := by omega
      rw [h8]
      exact ⟨1, by omega⟩
    exact (h.at_.mul h4).trans (Cg.of_eq (Int.mul_one _))
  · refine (hE _).trans ?_
    by_cases hjk : j = k
    · subst hjk
      exact Cg.of_eq (by rw [Int.sub_self, Int.mul_zero, Int.mul_zero])
    · exact ((h.no j (by omega) hji).mul (Cg.refl q _)).trans (Cg.of_eq (Int.zero_mul _))
theorem one_spec (hq : Pr q) (hq2 : q < 2147483648) (hS : ∀ j, j < n → S j < q) (hT : ∀ j, j < n → T j < q) (hne : ∀ i j, i < n → j < n → i ≠ j → S i ≠ S j) (hn : n ≤ 8) (hx : IsR n xs S) (hy : IsR n ys T) {nout : Nat} {out : Nat → Int} {i : Nat} (hi : i < n) :
    ∃ m w c, loopF R_r12_Through_2 (((n, xs), ((n, ys), ((q : Int), ((nout, out), ((i : Int), ((1, (upd (fun _ => 0) 0 (ys i))), (0, ()))))))), ()) = some (Y_r12_Through_2_0 n xs n ys (q : Int) nout out (i : Int) m w) ∧ One q n S T i n m w c := by
  have h2 := hq.1
  obtain ⟨⟨m, w⟩, y1, c, y2⟩ := loop_for (R := R_r12_Through_2) (fun k (s : Nat × (Nat → Int)) => T_r12_Through_2 n xs n ys (q : Int) nout out (i : Int) s.1 s.2 (k : Int)) (fun s => Y_r12_Through_2_0 n xs n ys (q : Int) nout out (i : Int) s.1 s.2) (fun k s => ∃ c, One q n S T i k s.1 s.2 c) n
    (fun k hk s hP => by
      obtain ⟨m, w⟩ := s
      obtain ⟨c, hc⟩ := hP
      simp only at hc
      by_cases hki : k = i
      · subst hki
        refine ⟨(m, w), ?_, c, ⟨hc.is, by have := hc.size; omega, hc.zero, hc.lt, fun t ht => hc.deg t ?_, hc.at_, fun j hj hji => hc.no j (by omega) hji⟩⟩
        · unfold R_r12_Through_2
          simp (disch := omega) only [add_c, add_l, l_add, mul_c, mul_l, l_mul, sub_c, sub_l, l_sub, div_c, div_l, mod_c, mod_l, tdiv_c, tdiv_l, tmod_c, tmod_l, wrap_i64n, wrapun, dec_t, dec_f, inb_t, cond_true, cond_false, Int.toNat_natCast, beq_t, beq_f, bne_t, bne_f, Bool.not_true, Bool.not_false, Int.reduceToNat, ft_b, tf_b, tt_b, ff_b, decide_true, decide_false]
        · rw [if_neg (by omega)] at ht
          rw [if_pos (Nat.le_refl _)]
          exact ht
      · have hsi := hS i hi
        have hsk := hS k hk
        obtain ⟨m', w', z1, z2⟩ := one_next hq hq2 hS hne hi hk hn hki hc _ _ rfl rfl
        have e2 : r08_Sub 0 (xs k) (q : Int) = some (((0 + (q - S k)) % q : Nat) : Int) := by
          rw [hx k hk]
          exact r08_Sub_spec (a := 0) (by omega) (by omega) (by omega) (by omega)
        have e1 : r08_Sub (xs i) (xs k) (q : Int) = some (((S i + (q - S k)) % q : Nat) : Int) := by
          rw [hx k hk, hx i hi]
          exact r08_Sub_spec (by omega) (by omega) (by omega) (by omega)
        refine ⟨(m', w'), ?_, _, z2⟩
        unfold R_r12_Through_2
        have hb : (((k : Int)) != (i : Int)) = true := bne_t (by omega)
        simp (disch := omega) only [wrap_i64n, wrapun, dec_t, dec_f, inb_t, cond_true, cond_false, Int.toNat_natCast, beq_t, beq_f, bne_t, bne_f, Bool.not_true, Bool.not_false, Int.reduceToNat, ft_b, tf_b, tt_b, ff_b, decide_true, decide_false, hb, e1, e2, r08_Inv_spec (show 2 ≤ q by omega) (show q < 9223372036854775808 by omega), r08_Mul_spec (show 0 < q by omega) (show q < 9223372036854775808 by omega), Nat.zero_add]
        simp only [Nat.zero_add] at z1
        simp (disch := omega) only [add_c, add_l, l_add, mul_c, mul_l, l_mul, sub_c, sub_l, l_sub, div_c, div_l, mod_c, mod_l, tdiv_c, tdiv_l, tmod_c, tmod_l, wrap_i64n, wrapun, dec_t, dec_f, inb_t, cond_true, cond_false, Int.toNat_natCast, beq_t, beq_f, bne_t, bne_f, Bool.not_true, Bool.not_false, Int.reduceToNat, ft_b, tf_b, tt_b, ff_b, decide_true, decide_false, z1])
    (fun s hP => by
      unfold R_r12_Through_2
      simp (disch := omega) only [add_c, add_l, l_add, mul_c, mul_l, l_mul, sub_c, sub_l, l_sub, div_c, div_l, mod_c, mod_l, tdiv_c, tdiv_l, tmod_c, tmod_l, wrap_i64n, wrapun, dec_t, dec_f, inb_t, cond_true, cond_false, Int.toNat_natCast, beq_t, beq_f, bne_t, bne_f, Bool.not_true, Bool.not_false, Int.reduceToNat, ft_b, tf_b, tt_b, ff_b, decide_true, decide_false]) (1, upd (fun _ => 0) 0 (ys i)) ⟨fun t => if t = 0 then T i else 0, fun t ht => by
        obtain rfl : t = 0 := by omega
        exact hy i hi, by omega, fun t ht => if_neg (by omega), fun t => by
        have := hT i hi
        show (if t = 0 then T i else 0) < q
        split <;> omega, fun t ht => if_neg (by
          rw [if_pos (Nat.zero_le _)] at ht
          omega), by
        rw [E_eq (n := 1) (fun t ht => if_neg (by omega)) (by decide)]
        refine Cg.of_eq ?_
        show (0 : Int) + cI (fun t => if t = 0 then T i else 0) 0 * (S i : Int) ^ 0 = _
        simp only [cI, if_true, Int.pow_zero]
        omega, fun j hj => by omega⟩
  exact ⟨m, w, c, y1, y2⟩
theorem r12_Through_spec (hq : Pr q) (hq2 : q < 2147483648) (hS : ∀ j, j < n → S j < q) (hT : ∀ j, j < n → T j < q) (hne : ∀ i j, i < n → j < n → i ≠ j → S i ≠ S j) (hn : n ≤ 8) (hx : IsR n xs S) (hy : IsR n ys T) :
    ∃ m w c, r12_Through n xs n ys (q : Int) = some (((m, w), ()), ()) ∧ IsPolI m w c ∧ (∀ t, c t < q) ∧ (∀ t, n ≤ t → c t = 0) ∧ ∀ j, j < n → Cg q (E c (S j)) (T j) := by
  have h2 := hq.1
  rw [r12_Through_eq]; unfold r12_Through'
  obtain ⟨⟨m, w⟩, y1, c, y2, y3, y4, y5, y6⟩ := loop_for (R := R_r12_Through_0) (fun i (s : Nat × (Nat → Int)) => T_r12_Through_0 n xs n ys (q : Int) s.1 s.2 (i : Int)) (fun s => Y_r12_Through_0_0 s.1 s.2) (fun i s => ∃ c, IsPolI s.1 s.2 c ∧ s.1 ≤ 17 ∧ (∀ t, c t < q) ∧ (∀ t, n ≤ t → c t = 0) ∧ ∀ j, j < n → Cg q (E c (S j)) (if j < i then T j else 0 : Nat)) n
    (fun i hi s hP => by
      obtain ⟨nout, out⟩ := s
      obtain ⟨c, c1, c2, c3, c4, c5⟩ := hP
      simp only at c1 c2
      obtain ⟨m, w, d, d1, d2⟩ := one_spec (nout := nout) (out := out) hq hq2 hS hT hne hn hx hy hi
      have hm := d2.size
      obtain ⟨m', w', z1, z2, z3⟩ := r12_Add_spec (q := q) (by omega) hq2 (na := nout) (nb := m) (by omega) (by omega) c1.is d2.is (fun i _ => c3 i) (fun i _ => d2.lt i)
      rw [pad_self c1.zero, pad_self d2.zero] at z3
      refine ⟨(m', w'), ?_, _, z3, by omega, fun t => Nat.mod_lt _ (by omega), fun t ht => ?_, fun j hj => ?_⟩
      · unfold R_r12_Through_0
        simp (disch := omega) only [add_c, add_l, l_add, mul_c, mul_l, l_mul, sub_c, sub_l, l_sub, div_c, div_l, mod_c, mod_l, tdiv_c, tdiv_l, tmod_c, tmod_l, wrap_i64n, wrapun, dec_t, dec_f, inb_t, cond_true, cond_false, Int.toNat_natCast, beq_t, beq_f, bne_t, bne_f, Bool.not_true, Bool.not_false, Int.reduceToNat, ft_b, tf_b, tt_b, ff_b, decide_true, decide_false, d1, Nat.zero_add, z1]
      · show (c t + d t) % q = 0
        rw [c4 t ht, d2.deg t (by rw [if_neg (by omega)]; exact ht), Nat.zero_mod]
      · refine (E_add (fun _ => rfl) _).trans ?_
        have h3 := c5 j hj
        by_cases hji : j = i
        · subst hji
          rw [if_neg (by omega)] at h3
          rw [if_pos (by omega)]
          exact (h3.add d2.at_).trans (Cg.of_eq (by omega))
        · have h4 := d2.no j hj hji
          refine (h3.add h4).trans (Cg.of_eq ?_)
          by_cases h5 : j < i
          · rw [if_pos h5, if_pos (by omega)]; omega
          · rw [if_neg h5, if_neg (by omega)]; omega)
    (fun s hP => by
      unfold R_r12_Through_0
      simp (disch := omega) only [add_c, add_l, l_add, mul_c, mul_l, l_mul, sub_c, sub_l, l_sub, div_c, div_l, mod_c, mod_l, tdiv_c, tdiv_l, tmod_c, tmod_l, wrap_i64n, wrapun, dec_t, dec_f, inb_t, cond_true, cond_false, Int.toNat_natCast, beq_t, beq_f, bne_t, bne_f, Bool.not_true, Bool.not_false, Int.reduceToNat, ft_b, tf_b, tt_b, ff_b, decide_true, decide_false]) (0, fun _ => 0) ⟨fun _ => 0, ⟨fun i hi => by omega, fun _ _ => rfl, .inl rfl⟩, by omega, fun _ => (by omega : 0 < q), fun _ _ => rfl, fun j hj => by
        rw [if_neg (by omega), E_eq (n := 0) (fun _ _ => rfl) (by decide)]
        exact Cg.refl _ _⟩
  have hy' : loopF R_r12_Through_0 (((n, xs), ((n, ys), ((q : Int), ((0, fun _ => 0), (0, ()))))), ()) = some (Y_r12_Through_0_0 m w) := y1
  exact ⟨m, w, c, by simp only [hy'], y2, y4, y5, fun j hj => by have := y6 j hj; rwa [if_pos hj] at this⟩
end
theorem poly_Through_uneven {g : GroupT} {P Q G : Nat} (h : IsGroup g P Q G) {n m : Nat} (hn : n ≠ m) (xs ys : Nat → (Nat → Int)) : poly_Through (some g) n xs m ys = some (((0, fun _ => fun _ => 0), (1, ())), ()) := by
  obtain ⟨r, r1, _⟩ := group_Field_spec h
  rw [poly_Through_eq]; unfold poly_Through'
  have hb : (((n : Int)) != (m : Int)) = true := bne_t (by omega)
  simp (disch := omega) only [r1, hb, cond_true]
theorem l12_PolyThrough_true {which : Int} {nx ny : Nat} {xs ys : Nat → Nat → Int} (hw : Go.Den.Good (.int .i64) which) (hx : Go.Den.Good (.sl (.arr 4 (.int .u64))) (.fz nx xs)) (hy : Go.Den.Good (.sl (.arr 4 (.int .u64))) (.fz ny ys)) : l12_PolyThrough' which nx xs ny ys = some () := by
  obtain ⟨X, hX⟩ := good_nats hx
  obtain ⟨Y, hY⟩ := good_nats hy
  unfold l12_PolyThrough'
  by_cases h1 : nx ≤ 8
  rotate_left
  · simp (disch := first | omega | assumption) only [add_c, add_l, l_add, mul_c, mul_l, l_mul, sub_c, sub_l, l_sub, div_c, div_l, mod_c, mod_l, tdiv_c, tdiv_l, tmod_c, tmod_l, wrap_i64n, wrapun, dec_t, dec_f, inb_t, cond_true, cond_false, Int.toNat_natCast, beq_t, beq_f, bne_t, bne_f, Bool.not_true, Bool.not_false, Int.reduceToNat, ft_b, tf_b, tt_b, ff_b, decide_true, decide_false, l12_awake_spec]
  by_cases h2 : ny ≤ 8
  rotate_left
  · simp (disch := first | omega | assumption) only [add_c, add_l, l_add, mul_c, mul_l, l_mul, sub_c, sub_l, l_sub, div_c, div_l, mod_c, mod_l, tdiv_c, tdiv_l, tmod_c, tmod_l, wrap_i64n, wrapun, dec_t, dec_f, inb_t, cond_true, cond_false, Int.toNat_natCast, beq_t, beq_f, bne_t, bne_f, Bool.not_true, Bool.not_false, Int.reduceToNat, ft_b, tf_b, tt_b, ff_b, decide_true, decide_false, l12_awake_spec]
  obtain ⟨k, l, ga, g, P, Q, G, s1, hg, hQ⟩ := l12_small_spec which
  have hgg := hg.group
  have hq1 := hgg.pq.1
  obtain ⟨c, c1, c2⟩ := r08_All_spec (n := nx) (by omega) hX (q := Q) (by omega) (by omega)
  obtain ⟨d, d1, d2⟩ := r08_All_spec (n := ny) (by omega) hY (q := Q) (by omega) (by omega)
  by_cases hn : nx = ny
  rotate_left
  · have t1 := poly_Through_uneven hgg hn xs ys
    obtain ⟨b, b1, b2⟩ := may_spec (q := (Q : Int)) (ok := true) (nf := 0) (f := fun _ => fun _ => 0) (e := 1) (by omega) c2 (nt := ny) (t := d) false
    have hb : b = false := by
      cases b with
      | false => rfl
      | true => exact absurd (b2.1 rfl).1 (by decide)
    subst hb
    have hnn : (((nx : Nat) : Int) == ((ny : Nat) : Int)) = false := beq_f (by omega)
    simp (disch := first | omega | assumption) only [wrap_i64n, wrapun, dec_t, dec_f, inb_t, cond_true, cond_false, Int.toNat_natCast, beq_t, beq_f, bne_t, bne_f, Bool.not_true, Bool.not_false, Int.reduceToNat, ft_b, tf_b, tt_b, ff_b, decide_true, decide_false, s1, t1, c1, d1, hnn, b1, Int.natCast_zero, l12_awake_spec]
  subst hn
  have hnn : (((nx : Nat) : Int) == ((nx : Nat) : Int)) = true := beq_t rfl
  have hl := fun n => Nat.mod_lt n (show 0 < Q by omega)
  rcases poly_Through_spec hgg hgg.pq (n := nx) (by omega) hX hY with ⟨m, z, e, t1, t2, t3, t4, t5⟩ | ⟨t1, i, j, hij, hj, hc⟩
  · have hne : ∀ i j, i < nx → j < nx → i ≠ j → X i % Q ≠ X j % Q := fun i j hi hj hij he => by
      have h3 : Cg Q (X i : Int) (X j : Int) := (Cg.nat Q (X i)).symm.trans ((Cg.of_eq (by rw [he])).trans (Cg.nat Q (X j)))
      rcases Nat.lt_or_gt_of_ne hij with h4 | h4
      · exact t5 i j h4 hj h3.symm
      · exact t5 j i h4 hi h3
    obtain ⟨b, b1, b2⟩ := may_spec (q := (Q : Int)) (ok := true) (nf := m) (f := z) (e := 0) (by omega) c2 (nt := nx) (t := d) true
    obtain rfl : b = true := b2.2 ⟨rfl, fun j i hji hi => hne i j hi (by omega) (by omega)⟩
    obtain ⟨m', w', e', r1, r2, r3, r4, r5⟩ := r12_Through_spec hgg.pq hQ (n := nx) (fun j _ => hl (X j)) (fun j _ => hl (Y j)) hne (by omega) c2 d2
    have hee : ∀ k, e k = e' k := pol_unique hgg.pq (N := nx) (by omega) (X := fun j => (X j : Int)) (fun k hk => t2.zero k (by omega)) r4 t2.lt r3 t5 (fun j hj => (t4 j hj).trans ((Cg.nat Q (Y j)).symm.trans ((r5 j hj).symm.trans (E_place (Cg.nat Q (X j))))))
    obtain rfl : e = e' := funext hee
    have i1 := l12_is_spec (by omega) (by omega) t2 r2
    simp only [Nat.zero_add] at i1
    simp (disch := first | omega | assumption) only [wrap_i64n, wrapun, dec_t, dec_f, inb_t, cond_true, cond_false, Int.toNat_natCast, beq_t, beq_f, bne_t, bne_f, Bool.not_true, Bool.not_false, Int.reduceToNat, ft_b, tf_b, tt_b, ff_b, decide_true, decide_false, s1, t1, c1, d1, hnn, b1, r1, Nat.zero_add, i1, l12_awake_spec]
  · obtain ⟨b, b1, b2⟩ := may_spec (q := (Q : Int)) (ok := true) (nf := 0) (f := fun _ => fun _ => 0) (e := 1) (by omega) c2 (nt := nx) (t := d) true
    have hb : b = false := by
      cases b with
      | false => rfl
      | true =>
        exact absurd (Cg.eq ((Cg.nat Q (X j)).trans (hc.trans (Cg.nat Q (X i)).symm)) (hl _) (hl _)) ((b2.1 rfl).2 i j hij hj)
    subst hb
    simp (disch := first | omega | assumption) only [wrap_i64n, wrapun, dec_t, dec_f, inb_t, cond_true, cond_false, Int.toNat_natCast, beq_t, beq_f, bne_t, bne_f, Bool.not_true, Bool.not_false, Int.reduceToNat, ft_b, tf_b, tt_b, ff_b, decide_true, decide_false, s1, t1, c1, d1, hnn, b1, Int.natCast_zero, l12_awake_spec]
end Go.Pl
