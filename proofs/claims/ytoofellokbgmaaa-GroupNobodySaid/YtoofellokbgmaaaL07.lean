/-
  What the statements of a layer share.
-/
import Derived.Test.YtoofellokbgmaaaDenD
import Derived.Test.YtoofellokbgmaaaPlA
import Derived.Test.YtoofellokbgmaaaEqA
import Derived.Test.YtoofellokbgmaaaME
import Derived.Test.YtoofellokbgmaaaMD
set_option linter.unusedVariables false
set_option linter.unusedSimpArgs false
set_option maxRecDepth 100000
set_option maxHeartbeats 0
namespace Go.Pl
end Go.Pl
open Go Go.Den Go.Pl
namespace Go.Pl
noncomputable def l07_awake'  : Option (Bool) :=
  match group_Least with
  | none => none
  | some r => (
    match (group_New ((r.1.1, r.1.2), r.2)) with
    | none => none
    | some r1 => (
      match r1.1 with
      | none => (
        bif (r1.2 == 0) then (
          some false)
        else (
          some false))
      | some p => (
        bif (r1.2 == 0) then (
          match (group_Group_Size (some p)) with
          | none => none
          | some r2 => (
            bif (r2 == 3) then (
              match (group_Group_Q (some p)) with
              | none => none
              | some r3 => (
                match (r01_Int 1966023127) with
                | none => none
                | some r4 => (
                  bif (eqF (.arr 4 (.int .u64)) r3 r4) then (
                    match (group_Group_P (some p)) with
                    | none => none
                    | some r5 => (
                      match (r01_Int 1055500680322183127) with
                      | none => none
                      | some r6 => (
                        bif (eqF (.arr 4 (.int .u64)) r5 r6) then (
                          match (group_Check ((0, (fun _ => ((fun _ => 0), 0))), (fun _ => 0))) with
                          | none => none
                          | some r7 => (
                            some (r7 == 4)))
                        else (
                          some false))))
                  else (
                    some false))))
            else (
              some false)))
        else (
          some false))))
noncomputable def l07_awake : Option (Bool) := veil l07_awake'
theorem l07_awake_eq : l07_awake = l07_awake' := veil_eq _
abbrev T_l07_same_0 (i : Int) (na : Nat) (a : Nat → ((Nat → Int) × Int)) (a1 : (Nat → Int)) (nb : Nat) (b : Nat → ((Nat → Int) × Int)) (b1 : (Nat → Int)) : ((Unit × (Unit × (Int × Unit))) × (((Nat × (Nat → ((Nat → Int) × Int))) × (Nat → Int)) × (((Nat × (Nat → ((Nat → Int) × Int))) × (Nat → Int)) × Unit))) := (((), ((), (i, ()))), (((na, a), a1), (((nb, b), b1), ())))
abbrev Y_l07_same_0_0 (t : Bool) : (((Bool × Unit) × Unit) ⊕ (Unit × Unit)) := (.inl ((t, ()), ()))
abbrev Y_l07_same_0_1  : (((Bool × Unit) × Unit) ⊕ (Unit × Unit)) := (.inr ((), ()))
noncomputable def R_l07_same_0 : ((Unit × (Unit × (Int × Unit))) × (((Nat × (Nat → ((Nat → Int) × Int))) × (Nat → Int)) × (((Nat × (Nat → ((Nat → Int) × Int))) × (Nat → Int)) × Unit))) → Option (((Unit × (Unit × (Int × Unit))) × (((Nat × (Nat → ((Nat → Int) × Int))) × (Nat → Int)) × (((Nat × (Nat → ((Nat → Int) × Int))) × (Nat → Int)) × Unit))) ⊕ (((Bool × Unit) × Unit) ⊕ (Unit × Unit))) := fun x =>
  let i := x.1.2.2.1
  let na := x.2.1.1.1
  let a := x.2.1.1.2
  let a1 := x.2.1.2
  let nb := x.2.2.1.1.1
  let b := x.2.2.1.1.2
  let b1 := x.2.2.1.2
  bif (decide (i < ((na : Nat) : Int))) then (
    bif (inb i na) then (
      bif (inb i nb) then (
        bif (!(eqF (.pair (.arr 4 (.int .u64)) (.int .i64)) (a (Int.toNat i)) (b (Int.toNat i)))) then (
          some (.inr (.inl ((false, ()), ()))))
        else (
          some (.inl (((), ((), ((IntKind.i64.wrap (i + 1)), ()))), (((na, a), a1), (((nb, b), b1), ()))))))
      else (
        none))
    else (
      none))
  else (
    some (.inr (.inr ((), ()))))
noncomputable def l07_same' (a : ((Nat × (Nat → ((Nat → Int) × Int))) × (Nat → Int))) (b : ((Nat × (Nat → ((Nat → Int) × Int))) × (Nat → Int))) : Option (Bool) :=
  bif (((a.1.1 : Nat) : Int) != ((b.1.1 : Nat) : Int)) then (
    some false)
  else (
    bif (!(eqF (.arr 4 (.int .u64)) a.2 b.2)) then (
      some false)
    else (
      match (loopF R_l07_same_0 (((), ((), (0, ()))), (((a.1.1, a.1.2), a.2), (((b.1.1, b.1.2), b.2), ())))) with
      | none => none
      | some y => (
        match y with
        | .inl y1 => (
          let t := y1.1.1
          some t)
        | .inr y1 => (
          some true))))
noncomputable def l07_same : (((Nat × (Nat → ((Nat → Int) × Int))) × (Nat → Int))) → (((Nat × (Nat → ((Nat → Int) × Int))) × (Nat → Int))) → Option (Bool) := veil l07_same'
theorem l07_same_eq : l07_same = l07_same' := veil_eq _
end Go.Pl

set_option linter.unusedVariables false
set_option linter.unusedSimpArgs false
set_option maxRecDepth 100000
set_option maxHeartbeats 0
namespace Go.Pl
end Go.Pl
open Go Go.Den Go.Pl
namespace Go.Proofs.Ytoofellokbgmaaa
noncomputable def c_l07_awake : Con := conV true [] [.bool] fun x => l07_awake 
noncomputable def x_l07_awake : Cx := { ti := ti, con := [(35, c_group_Least), (17, c_group_New), (31, c_group_Group_Size), (28, c_group_Group_Q), (45, c_r01_Int), (26, c_group_Group_P), (24, c_group_Check)], fns := [], un := 6 }
theorem xok_l07_awake : CxOk Try.prog x_l07_awake := CxOk.of mixed ti_ok (List.forall_mem_cons.2 ⟨con_group_Least, List.forall_mem_cons.2 ⟨con_group_New, List.forall_mem_cons.2 ⟨con_group_Group_Size, List.forall_mem_cons.2 ⟨con_group_Group_Q, List.forall_mem_cons.2 ⟨con_r01_Int, List.forall_mem_cons.2 ⟨con_group_Group_P, List.forall_mem_cons.2 ⟨con_group_Check, List.forall_mem_nil _⟩⟩⟩⟩⟩⟩⟩) (List.forall_mem_nil _)
theorem fn_l07_awake : FnOk Try.prog 23 Try.f23 [] := ⟨Try.func23, Try.call23, lps_nil⟩
theorem e_l07_awake  : bodyK x_l07_awake [] (denF x_l07_awake 8) Try.f23 (domV [] (())) [] 0 (kOut [.bool]) = l07_awake'  := by kernel_rfl
theorem con_l07_awake : ConOk Try.prog 23 c_l07_awake := con_ok xok_l07_awake 8 fn_l07_awake true [] [.bool] _ (by decide) (fun x => by rw [l07_awake_eq]; exact e_l07_awake )
abbrev S_l07_same_0 : Shape := { sl := [(2, (.c ⟨(.ptr (.pair (.sl (.pair (.arr 4 (.int .u64)) (.int .i64))) (.arr 4 (.int .u64)))), (.rf 0 [])⟩)), (3, (.c ⟨(.ptr (.pair (.sl (.pair (.arr 4 (.int .u64)) (.int .i64))) (.arr 4 (.int .u64)))), (.rf 1 [])⟩)), (5, (.v (.int .i64)))], ob := [(0, (.p (.sz (.pair (.arr 4 (.int .u64)) (.int .i64))) (.v (.arr 4 (.int .u64))))), (1, (.p (.sz (.pair (.arr 4 (.int .u64)) (.int .i64))) (.v (.arr 4 (.int .u64)))))], lo := 2, nx := 2 }
abbrev E_l07_same_0 : List Ex := [(.ret, { sl := [(4, (.v .bool))], ob := [], lo := 2, nx := 2 }), (.normal, { sl := [], ob := [], lo := 2, nx := 2 })]
noncomputable def L_l07_same_0 : Code := loopIn (bodyOf Try.f41) 0
noncomputable def P_l07_same_0 : Lp := lpOf S_l07_same_0 E_l07_same_0 38 R_l07_same_0
noncomputable def c_l07_same : Con := conV true [(.pair (.sl (.pair (.arr 4 (.int .u64)) (.int .i64))) (.arr 4 (.int .u64))), (.pair (.sl (.pair (.arr 4 (.int .u64)) (.int .i64))) (.arr 4 (.int .u64)))] [.bool] fun x => l07_same x.1 x.2.1
noncomputable def x_l07_same : Cx := { ti := ti, con := [], fns := [], un := 6 }
theorem xok_l07_same : CxOk Try.prog x_l07_same := CxOk.of mixed ti_ok (List.forall_mem_nil _) (List.forall_mem_nil _)
theorem r_l07_same_0 (x : S_l07_same_0.X) : denC x_l07_same [] (denF x_l07_same 8) L_l07_same_0 (S_l07_same_0.mkS 38 x) (kRound 0 S_l07_same_0 E_l07_same_0) = R_l07_same_0 x := by kernel_rfl
theorem l_l07_same_0 : LpOk Try.prog 0 (.loop L_l07_same_0) P_l07_same_0 := lpOf_ok xok_l07_same 8 (lps_nil) S_l07_same_0 E_l07_same_0 38 R_l07_same_0 (by decide) r_l07_same_0
theorem fn_l07_same : FnOk Try.prog 41 Try.f41 [(0, P_l07_same_0)] := ⟨Try.func41, Try.call41, lps_of (by kernel_rfl) (lps_one l_l07_same_0 (by kernel_rfl) (List.forall_mem_nil _))⟩
theorem e_l07_same (a : ((Nat × (Nat → ((Nat → Int) × Int))) × (Nat → Int))) (b : ((Nat × (Nat → ((Nat → Int) × Int))) × (Nat → Int))) : bodyK x_l07_same [(0, P_l07_same_0)] (denF x_l07_same 8) Try.f41 (domV [(.pair (.sl (.pair (.arr 4 (.int .u64)) (.int .i64))) (.arr 4 (.int .u64))), (.pair (.sl (.pair (.arr 4 (.int .u64)) (.int .i64))) (.arr 4 (.int .u64)))] (a, b, ())) [] 0 (kOut [.bool]) = l07_same' a b := by kernel_rfl
theorem con_l07_same : ConOk Try.prog 41 c_l07_same := con_ok xok_l07_same 8 fn_l07_same true [(.pair (.sl (.pair (.arr 4 (.int .u64)) (.int .i64))) (.arr 4 (.int .u64))), (.pair (.sl (.pair (.arr 4 (.int .u64)) (.int .i64))) (.arr 4 (.int .u64)))] [.bool] _ (by decide) (fun x => by rw [l07_same_eq]; exact e_l07_same x.1 x.2.1)
end Go.Proofs.Ytoofellokbgmaaa

set_option linter.unusedVariables false
set_option linter.unusedSimpArgs false
namespace Go.Pl
open Go Go.Den Go.Num

theorem l07_awake_spec : l07_awake = some true := by
  rw [l07_awake_eq]; unfold l07_awake'
  obtain ⟨g, hg⟩ := least_pick
  obtain ⟨q, q1, q2⟩ := group_Q_spec hg.group
  obtain ⟨p, p1, p2⟩ := group_P_spec hg.group
  obtain ⟨a, a1, a2⟩ := r01_Int_spec (n := 1966023127) (by decide)
  obtain ⟨b, b1, b2⟩ := r01_Int_spec (n := 1055500680322183127) (by decide)
  have hs := group_Size_spec hg.group
  have e1 : (((blen 1966023127 - 1) / 8 : Nat) : Int) = 3 := by decide
  rw [e1] at hs
  have hc := (group_Check_spec (k := 0) (l := fun _ => ((fun _ => 0), 0)) (ga := fun _ => 0) (N := fun _ => 0) (G := 0) (fun i hi => absurd hi (by omega)) IsN.zero).2 (fun h => by have := h.1; omega)
  have e2 : (1966023127 : Nat) = Int.toNat 1966023127 := by decide
  have e3 : (1055500680322183127 : Nat) = Int.toNat 1055500680322183127 := by decide
  simp (disch := first | omega | decide) only [wrap_i64n, wrapun, dec_t, dec_f, inb_t, cond_true, cond_false, Int.toNat_natCast, beq_t, beq_f, bne_t, bne_f, Bool.not_true, Bool.not_false, Int.reduceToNat, ft_b, tf_b, tt_b, ff_b, decide_true, decide_false, group_Least_eq2, hg.made, q1, p1, a1, b1, hs, q2.eqb a2, p2.eqb b2, hc, e2, e3]
end Go.Pl

set_option linter.unusedVariables false
set_option linter.unusedSimpArgs false
namespace Go.Pl
open Go Go.Den Go.Num

theorem allB_true {p : Nat → Bool} {n : Nat} (h : ∀ i, i < n → p i = true) : allB n p = true :=
  List.all_eq_true.2 fun i hi => h i (List.mem_range.1 hi)
theorem link_refl (x : (Nat → Int) × Int) : eqF (.pair (.arr 4 (.int .u64)) (.int .i64)) x x = true := by
  have h1 : eqF (.arr 4 (.int .u64)) x.1 x.1 = true := allB_true fun i _ => beq_self_eq_true (x.1 i)
  have h2 : eqF (.int .i64) x.2 x.2 = true := beq_self_eq_true x.2
  show (eqF (.arr 4 (.int .u64)) x.1 x.1 && eqF (.int .i64) x.2 x.2) = true
  rw [h1, h2]; rfl
theorem l07_same_spec {k : Nat} {l : Nat → (Nat → Int) × Int} {ga : Nat → Int} (hk : k ≤ 9223372036854775807) : l07_same ((k, l), ga) ((k, l), ga) = some true := by
  rw [l07_same_eq]; unfold l07_same'
  have h1 : eqF (.arr 4 (.int .u64)) ga ga = true := allB_true fun i _ => beq_self_eq_true (ga i)
  obtain ⟨s, y1, y2⟩ := loop_for (R := R_l07_same_0) (S := Unit) (fun i _ => (((), ((), ((i : Int), ()))), (((k, l), ga), (((k, l), ga), ())))) (fun _ => .inr ((), ())) (fun _ _ => True) k
    (fun i hi _ _ => by
      refine ⟨(), ?_, trivial⟩
      unfold R_l07_same_0
      simp (disch := omega) only [add_c, add_l, l_add, mul_c, mul_l, l_mul, sub_c, sub_l, l_sub, div_c, div_l, mod_c, mod_l, tdiv_c, tdiv_l, tmod_c, tmod_l, wrap_i64n, wrapun, dec_t, dec_f, inb_t, cond_true, cond_false, Int.toNat_natCast, beq_t, beq_f, bne_t, bne_f, Bool.not_true, Bool.not_false, Int.reduceToNat, ft_b, tf_b, tt_b, ff_b, decide_true, decide_false, link_refl])
    (fun _ _ => by
      unfold R_l07_same_0
      simp (disch := omega) only [add_c, add_l, l_add, mul_c, mul_l, l_mul, sub_c, sub_l, l_sub, div_c, div_l, mod_c, mod_l, tdiv_c, tdiv_l, tmod_c, tmod_l, wrap_i64n, wrapun, dec_t, dec_f, inb_t, cond_true, cond_false, Int.toNat_natCast, beq_t, beq_f, bne_t, bne_f, Bool.not_true, Bool.not_false, Int.reduceToNat, ft_b, tf_b, tt_b, ff_b, decide_true, decide_false]) () trivial
  have y1' : loopF R_l07_same_0 (((), ((), (0, ()))), (((k, l), ga), (((k, l), ga), ()))) = some (.inr ((), ())) := y1
  simp (disch := omega) only [wrap_i64n, wrapun, dec_t, dec_f, inb_t, cond_true, cond_false, Int.toNat_natCast, beq_t, beq_f, bne_t, bne_f, Bool.not_true, Bool.not_false, Int.reduceToNat, ft_b, tf_b, tt_b, ff_b, decide_true, decide_false, h1, y1']
end Go.Pl
