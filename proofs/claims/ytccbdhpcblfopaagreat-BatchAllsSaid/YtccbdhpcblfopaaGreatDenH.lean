/-
 The plain reading of code: functions that give rows of their own.
-/
import Derived.Test.YtccbdhpcblfopaaGreatDenF
set_option linter.unusedVariables false
set_option linter.unusedSimpArgs false
namespace Go.Den
def cleanPat : Pat → Bool
 | .v t => t.flat
 | .w _ t _ => t.flat
 | .p a b => cleanPat a && cleanPat b
 | _ => false
def okO (k : Nat) (outs : List Shape) : Bool :=
 outs.all fun sh => sh.ok && (slotsB sh.sl 0 && (Nat.beq sh.sl.length k && (sh.ob.isEmpty && sh.sl.all fun q => cleanPat q.2)))
def conO (dom : List Ty) (outs : List Shape) (f : Dom dom → Option (YsS outs)) : Con where
 fp args _ := (argIds args, [])
 run args h nx K := match takeArgs true h dom args with
  | some xs => match f xs with
   | some y => shGo outs y fun sh y => K (pvOf ((mkVals sh.sl y.1).map (renV (ofC 0 nx [])))) (backU (ofC 0 nx []) (shHp sh y) ++ deadU (List.range' nx sh.nx)) sh.nx
   | none => none
  | none => none
theorem clean_rd {ρ ρ' : Rho} (hf : ρ'.f = ρ.f) {w : World} : ∀ {p : Pat} {x : p.X} {cs : List Value}, cleanPat p = true → Rd ρ w p.ty (p.mk x) cs → Rd ρ' w p.ty (p.mk x) cs := by
 intro p
 induction p with
 | v t => intro x cs h hr; exact Rd.flatAny h hr
 | w e t id =>
  intro x cs h hr
  rcases hr with h1 | ⟨loc, m, cap, o, h1, h2⟩
  ·exact .inl h1
  ·exact .inr ⟨loc, m, cap, o, by rw [← h1]; exact congrFun hf id, h2⟩
 | p a b iha ihb =>
  intro x cs h hr
  simp only [cleanPat, Bool.and_eq_true] at h
  exact ⟨iha h.1 hr.1, ihb h.2 hr.2⟩
 | c x => intro _ _ h; cases h
 | sz t => intro _ _ h; cases h
 | pz t => intro _ _ h; cases h
 | po t => intro _ _ h; cases h
 | m kt vt id => intro _ _ h; cases h
theorem clean_env : ∀ {l : List (Nat × Pat)} {xs : Xs l} {t : Nat} {pv : PV}, (l.all fun q => cleanPat q.2) = true → (t, pv) ∈ mkEnv l xs → ∃ (p : Pat) (x : p.X), cleanPat p = true ∧ pv = .v ⟨p.ty, p.mk x⟩
 | [], _, _, _, _, h => by cases h
 | q :: l, xs, t, pv, hc, h => by
  simp only [List.all_cons, Bool.and_eq_true] at hc
  simp only [mkEnv, List.mem_cons] at h
  rcases h with h | h
  ·cases h; exact ⟨q.2, xs.1, hc.1, rfl⟩
  ·exact clean_env hc.2 h
theorem clean_objs : ∀ {p : Pat} {x : p.X} {id : Nat} {o : PO}, cleanPat p = true → (id, o) ∈ p.objs x → ∃ e t n f, o = .row true e t n f ∧ t.flat = true := by
 intro p
 induction p with
 | w e t id' =>
  intro x id o h hm
  simp only [Pat.objs, List.mem_singleton] at hm
  cases hm
  exact ⟨_, _, _, _, rfl, h⟩
 | p a b iha ihb =>
  intro x id o h hm
  simp only [cleanPat, Bool.and_eq_true] at h
  simp only [Pat.objs, List.mem_append] at hm
  rcases hm with hm | hm
  ·exact iha h.1 hm
  ·exact ihb h.2 hm
 | m kt vt id => intro x id o h; cases h
 | _ => intro x id o h hm; cases hm
theorem clean_rows : ∀ {l : List (Nat × Pat)} {xs : Xs l} {id : Nat} {o : PO}, (l.all fun q => cleanPat q.2) = true → (id, o) ∈ mkRows l xs → ∃ e t n f, o = .row true e t n f ∧ t.flat = true
 | [], _, _, _, _, h => by cases h
 | q :: l, xs, id, o, hc, h => by
  simp only [List.all_cons, Bool.and_eq_true] at hc
  simp only [mkRows, List.mem_append] at h
  rcases h with h | h
  ·exact clean_objs hc.1 h
  ·exact clean_rows hc.2 h
theorem clean_rel {B : Base} {ρ ρ' : Rho} {sh : Shape} {n : Nat} {z : sh.X} {a : Act} {w : World} (hr : RelR B ρ (sh.mkS n z) a w) (ho : sh.ob = []) (hc : (sh.sl.all fun q => cleanPat q.2) = true) (hf : ρ'.f = ρ.f) (hW : ρ'.W = ρ.W) (hA : ∀ b, ρ'.A b → b < w.heap.size) : RelR B ρ' (sh.mkS n z) a w := by
 have hf' : ∀ id, ρ' id = ρ id := fun id => congrFun hf id
 refine ⟨hr.defers, hr.tmps, fun t pv hl => ?_, fun id o hl => ?_, fun id id' o o' loc loc' h1 h2 d1 d2 h3 h4 h5 => ?_, fun id loc hl => ?_, hA, hr.base, by rw [hW]; exact hr.may⟩
 ·obtain ⟨v, h1, h2⟩ := hr.env t pv hl
  have hm : (t, pv) ∈ mkEnv sh.sl z.1 := look_mem hl
  obtain ⟨p, x, hp, rfl⟩ := clean_env hc hm
  obtain ⟨cs, h3, h4⟩ := h2
  exact ⟨v, h1, cs, clean_rd hf hp h3, h4⟩
 ·rw [hf']
  rcases hr.obj id o hl with h | ⟨loc, h1, h2⟩
  ·exact .inl h
  ·refine .inr ⟨loc, h1, ?_⟩
   have hm : (id, o) ∈ (sh.mkS n z).hp := look_mem hl
   obtain ⟨sl, ob, lo, nx⟩ := sh
   simp only at ho; subst ho
   simp only [Shape.mkS, mkHp, mkRows, List.nil_append, List.append_nil] at hm
   obtain ⟨e, t, m, f, rfl, ht⟩ := clean_rows hc hm
   obtain ⟨u1, u2, cs, sp, u3, u4⟩ := h2
   exact ⟨u1, by rw [hW]; exact u2, cs, sp, Rd.flatAny (t := .arr m t) ht u3, u4⟩
 ·rw [hf'] at h3 h4
  exact hr.inj id id' o o' loc loc' h1 h2 d1 d2 h3 h4 h5
 ·rw [hf'] at hl
  exact hr.own id loc hl
theorem conO_ok {P : Program} {C : Cx} (hC : CxOk P C) {f : FuncId} {fn : Func} {lps : List (Nat × Lp)} (d : Nat) (hfn : FnOk P f fn lps) (k : Nat) (dom : List Ty) (outs : List Shape) (impl : Dom dom → Option (YsS outs)) (hok : okO k outs = true)
  (himpl : ∀ xs, bodyK C lps (denF C d) fn (domV dom xs) [] 0 (kOutS k outs) = impl xs) : ConOk P f (conO dom outs impl) := by
 have hout : ∀ sh ∈ outs, sh.ok = true ∧ slotsB sh.sl 0 = true ∧ sh.sl.length = k ∧ sh.ob = [] ∧ (sh.sl.all fun q => cleanPat q.2) = true := by
  intro sh hsh
  have := List.all_eq_true.1 hok sh hsh
  simp only [Bool.and_eq_true] at this
  obtain ⟨h1, h2, h3, h4, h5⟩ := this
  exact ⟨h1, h2, Nat.eq_of_beq_eq_true h3, List.isEmpty_iff.1 h4, h5⟩
 refine ⟨fun args h h' nx r hh hr => ?_, fun args h nx r hr => ?_, fun R args h nx K => ?_, fun B ρ s a w nx args vargs r hr hnx hv h => ?_⟩
 ·simp only [conO] at hh hr ⊢
  rw [takeArgs_loc hh] at hr
  exact ⟨hr, trivial⟩
 ·simp only [conO] at hr ⊢
  split at hr
  ·split at hr
   ·obtain ⟨sh, z, hsh, hk⟩ := shGo_some hr
    obtain ⟨g1, g2, g3, g4, g5⟩ := hout sh hsh
    cases hk
    intro x hx
    simp only [List.mem_append] at hx
    refine .inr ?_
    rcases hx with hx | hx
    ·simp only [backU, List.mem_map] at hx
     obtain ⟨q, hq, rfl⟩ := hx
     have hlt := shHp_lt g1 hq
     simp only [ofC]
     have : Nat.blt q.1 0 = false := by cases hb2 : Nat.blt q.1 0 with
      | false => rfl
      | true => exact absurd (blt_iff.1 hb2) (by omega)
     rw [this, cond_false]
     omega
    ·simp only [deadU, List.mem_map, List.mem_range'_1] at hx
     obtain ⟨i, hi, rfl⟩ := hx
     exact hi
   ·cases hr
  ·cases hr
 ·simp only [conO]
  split
  ·split
   ·rw [← shGo_nat]; rfl
   ·rfl
  ·rfl
 ·simp only [conO] at h
  split at h
  ·rename_i xs hxs
   split at h
   ·rename_i y hy
    have hargs := takeArgs_sound hr (fun _ => False) (fun _ h => h.elim) (fun _ _ _ h => h) hv hxs
    have hbody := himpl xs
    rw [hy] at hbody
    let ρ0 : Rho := Rho.of fun _ => False
    let a0 : Act := { tmps := Array.replicate 0 undef, defers := [] }
    have hr0 : RelR ⟨w, fun _ => False⟩ ρ0 { env := [], hp := [], nx := 0, n := 0 } a0 w :=
     ⟨rfl, Nat.zero_le _, (fun t pv h => by cases h), (fun id o h => by cases h), (fun id id' o o' loc loc' h => by cases h), (fun id loc h => by cases h), (fun b hb => hb.elim), ⟨rfl, rfl, rfl, fun _ _ _ => rfl, Nat.le_refl _⟩, fun _ h => h.elim⟩
    refine .inr ⟨hfn.enter _ _, ?_⟩
    refine (bodyK_sound hC (draw_ok hC _) (denF_sound hC (draw_ok hC _) d) lps hfn.func hfn.blocks hbody hr0 (fun id _ => rfl) hargs).mono ?_
    rintro e w' ⟨v, rfl, pv, s', ρ', a', hk, hr', hf', hv', L'⟩
    refine ⟨v, rfl, ?_⟩
    obtain ⟨vs, us, k1, k2, k3, k4⟩ := kOutS_spec hk hv'
    obtain ⟨sh, z, hsh, hz, hgo⟩ := shRd_spec k1
    obtain ⟨g1, g2, g3, g4, g5⟩ := hout sh hsh
    have hle := Shape.ok_le g1
    rw [hgo] at h
    cases h
    unfold rdOut at hz
    split at hz
    ·rename_i ps u1 hfz
     obtain ⟨ρ'', hr'', L'', _, hps⟩ := freezeS_sound hr' k2.pvs hfz
     have hr1' : RelR ⟨w, fun _ => False⟩ ρ'' { s' with env := numbered 0 ps, hp := u1 ++ s'.hp, n := ps.length } ⟨us.toArray, []⟩ w' := by
      refine ⟨rfl, by simp [hps.length], fun t pv h => ?_, hr''.obj, hr''.inj, hr''.own, hr''.ownA, hr''.base, hr''.may⟩
      obtain ⟨_, h5⟩ := numbered_look _ 0 t pv h
      obtain ⟨v, h6, h7⟩ := hps.get t pv (by simpa using h5)
      exact ⟨v, by simpa using h6, h7⟩
     obtain ⟨ρo, hro, Fo, Ko⟩ := Shape.fold sh g1 hz hr1'
     have Lo := Ko ρ0 w (L'.trans L'') (fun id _ => rfl)
     -- the caller's rows beside what was made
     let ρp : Rho := ⟨ρo.f, ρo.W, fun b => ρo.A b ∨ ρ.A b, fun b h => .inl (ρo.sub b h)⟩
     let ρq : Rho := ⟨fun _ => none, fun _ => False, ρ.A, fun _ h => h.elim⟩
     have hrp : RelR ⟨w, fun _ => False⟩ ρp (sh.mkS ps.length z) ⟨us.toArray, []⟩ w' := clean_rel hro g4 g5 rfl rfl (fun b hb => by
      rcases hb with hb | hb
      ·exact hro.ownA b hb
      ·exact Nat.lt_of_lt_of_le (hr.ownA b hb) Lo.size)
     have Lp : Later ρq w ρp w' := ⟨Lo.size, fun _ _ h => (by cases h), fun b hb => by
       rcases hb with hb | hb
       ·rcases Lo.downA b hb with h | h
        ·exact h.elim
        ·exact .inr h
       ·exact .inl hb, fun b hb => by
       rcases Lo.downW b hb with h | h
       ·exact h.elim
       ·exact .inr h, fun b _ hb _ => .inr hb, fun b hb _ => Lo.keep b hb (fun h => h)⟩
     have hvals := vals_rel hrp g2 (vs := us) rfl (by rw [g3, ← k3, k2.length])
     obtain ⟨ρ3, b1, b2, b3, b4, b5⟩ := hr.back (l := []) (r := []) (fun x hx => by cases hx) (nx := nx) (n := sh.nx) (fun x hx => by cases hx) hnx
      (ρ0 := ρq) (fun i hi => absurd hi (Nat.not_lt_zero i)) (fun b hb => hb.elim) rfl hrp Lp (fun i o hio' => by have := shHp_lt (sh := sh) (x := z) g1 (q := (i, o)) (look_mem hio'); simpa using this) (fun i hi => Fo i (by simpa using hi))
     refine ⟨ρ3, ⟨?_, b2, ?_, b5⟩⟩
     ·simp only [List.length_nil, List.nil_append] at b1
      simp only [List.append_assoc]
      exact b1
     ·exact k4 ρ3 w' _ (by rw [List.length_map, mkVals_length, g3]) (VRs.ren b4 b3 hvals)
    ·cases hz
   ·cases h
  ·cases h
end Go.Den
