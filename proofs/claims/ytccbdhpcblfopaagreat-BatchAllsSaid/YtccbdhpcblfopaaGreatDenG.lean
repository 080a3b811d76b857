/-
 The plain reading of code: code in a round of a range over a function.
-/
import Derived.Test.YtccbdhpcblfopaaGreatDenF
import Derived.RangeFuncNested
import Derived.RangeFuncBound
import Derived.RangeFuncCalls
import Derived.RangeFuncLeaves
import Derived.OrdersIn
set_option linter.unusedVariables false
set_option linter.unusedSimpArgs false
namespace Go.Den
open Go.RowKit
variable {P : Program}
def moreA (a : Act) (ds : List Deferred) : Act := { a with defers := a.defers ++ ds }
theorem more_put (a : Act) (ds : List Deferred) (d : Option Tmp) (v : Value) : (moreA a ds).put d v = moreA (a.put d v) ds := by cases d <;> rfl
theorem more_eval (a : Act) (ds : List Deferred) : (moreA a ds).eval = a.eval := funext fun x => by cases x <;> rfl
def OpenF (F : Fence) : Prop := F.fn = (fun _ => True) ∧ F.depth = none ∧ F.alive = false
theorem OpenF.wide : OpenF Fence.wide := ⟨rfl, rfl, rfl⟩
theorem OpenF.round (l : Nat) : OpenF (Fence.wide.inRound l) := ⟨rfl, rfl, rfl⟩
theorem OpenF.eq {F : Fence} (h : OpenF F) : Machine.fenced P F = Machine.fenced P Fence.wide := by
 obtain ⟨h1, h2, h3⟩ := h
 unfold Machine.fenced Fence.room
 rw [h1, h2, h3]; rfl
theorem OpenF.room {F : Fence} (h : OpenF F) (n : Nat) : F.room n := fun _ h' => by rw [h.2.1] at h'; cases h'
theorem OpenF.fn {F : Fence} (h : OpenF F) (f : FuncId) : F.fn f := by rw [h.1]; trivial
theorem OpenF.calls {F : Fence} (h : OpenF F) {n : Nat} {f : FuncId} {args : Array Value} {w : World} {R : Ending → World → Prop} (hc : Calls P f args w R) : CallsIn F n P f args w R :=
 ⟨h.fn f, fun cs _ => by
  obtain ⟨e, w', fr, r, s, x⟩ := hc cs
  refine ⟨e, w', fr, r, ?_, x⟩
  rw [h.eq]; exact comesIn_wide.2 s⟩
theorem OpenF.rows {F : Fence} (h : OpenF F) {n : Nat} {row : String} {args : Array Value} {w : World} {R : Value → World → Prop} (hc : Rows P row args w R) : RowsIn F n P row args w R :=
 fun c cs _ => by
  obtain ⟨v, w', r, s⟩ := hc c cs
  refine ⟨v, w', r, ?_⟩
  rw [h.eq]; exact stepsIn_wide.2 s
section
variable {F : Fence} (hF : OpenF F) {n : Nat} {ops : Array Oper} {Q Q' : Exit → Act → World → Prop} (ds : List Deferred)
def noDefer (o : Oper) : Bool := match o.op with
 | .defer _ => false
 | _ => true
include hF
theorem bridge {o : Oper} (ho : noDefer o = true) {a : Act} {w : World} {K K' : Act → World → Prop} (hk : ∀ a w, K a w → K' (moreA a ds) w) (hq : ∀ e a w, Q e a w → Q' e (moreA a ds) w) (hlo : ∀ a w, ¬ Q .outgrown a w)
  (h : o.wp P a w K Q) : o.wpIn F n P (moreA a ds) w K' Q' := by
 refine ⟨fun f _ => hF.fn f, ?_⟩
 rw [Oper.semAt_eq _ _ _ (fun c e => by unfold noDefer at ho; rw [e] at ho; cases ho), more_eval]
 unfold Oper.wp at h
 generalize (execOp a.eval o).run P w = r at *
 have hd : F.depth.isSome = true → 1 ≤ n := fun e => by rw [hF.2.1] at e; cases e
 unfold Oper.upon at h
 split at h
 ·rw [Oper.uponIn_value, more_put]; exact hk _ _ h
 ·rw [Oper.uponIn_skip, more_put]; exact hk _ _ h
 ·rename_i d w'
  rw [Oper.uponIn_defer]
  have : ({ moreA a ds with defers := d :: (moreA a ds).defers } : Act) = moreA { a with defers := d :: a.defers } ds := rfl
  rw [this, more_put]; exact hk _ _ h
 ·rw [Oper.uponIn_enter]
  refine ⟨hd, hF.calls (h.mono fun e w'' hr => ?_)⟩
  cases e with
  | returned v => show K' ((moreA a ds).put o.dst v) w''; rw [more_put]; exact hk _ _ hr
  | panicked ch => exact hq _ _ _ hr
  | outgrown => obtain ⟨a, w, hr⟩ := hr; exact absurd hr (hlo a w)
 ·rw [Oper.uponIn_row]
  refine ⟨hd, hF.rows (h.mono fun v w'' hr => ?_)⟩
  rw [more_put]; exact hk _ _ hr
 ·rw [Oper.uponIn_panic]; exact hq _ _ _ h
 ·exact h.elim
theorem bridgeOp {i : Nat} (ho : ∀ o, ops[i]? = some o → noDefer o = true) {a : Act} {w : World} {K K' : Act → World → Prop} (hk : ∀ a w, K a w → K' (moreA a ds) w) (hq : ∀ e a w, Q e a w → Q' e (moreA a ds) w) (hlo : ∀ a w, ¬ Q .outgrown a w)
  (h : wpOp P ops Q i K a w) : wpOpIn F n P ops Q' i K' (moreA a ds) w := by
 unfold wpOp at h
 unfold wpOpIn
 cases hi : ops[i]? with
 | none => rw [hi] at h; exact hk _ _ h
 | some o =>
  rw [hi] at h
  simp only at h ⊢
  have e : (moreA a ds).tmps = a.tmps := rfl
  rw [e]
  by_cases hw : Region.wanted o (yielded ops a.tmps) = true
  ·rw [if_pos hw] at h ⊢
   rcases h with h | ⟨_, a', w', h⟩
   ·exact bridge hF ds (ho o hi) hk hq hlo h
   ·exact absurd h (hlo a' w')
  ·rw [if_neg hw] at h ⊢
   refine ⟨fun f _ => hF.fn f, ?_⟩
   rw [more_put]; exact hk _ _ h
theorem bridgeOps (ho : ∀ o ∈ ops.toList, noDefer o = true) (hq : ∀ e a w, Q e a w → Q' e (moreA a ds) w) (hlo : ∀ a w, ¬ Q .outgrown a w) : ∀ (l : List Nat) (a : Act) (w : World), wpOps P ops Q l a w → wpOpsIn F n P ops Q' l (moreA a ds) w
 | [], a, w, h => hq _ _ _ h
 | i :: l, a, w, h => by
  rw [wpOpsIn_cons]
  rw [wpOps_cons] at h
  exact bridgeOp hF ds (fun o hi => ho o (Array.mem_toList_iff.2 (Array.mem_of_getElem? hi))) (bridgeOps ho hq hlo l) hq hlo h
theorem bridgeAny (ho : ∀ o ∈ ops.toList, noDefer o = true) (hq : ∀ e a w, Q e a w → Q' e (moreA a ds) w) (hlo : ∀ a w, ¬ Q .outgrown a w) {md : Region.Mode} : ∀ (fuel : Nat) (listed : Array Bool) (a : Act) (w : World), wpAny P md ops Q fuel listed a w → wpAnyIn F n P md ops Q' fuel listed (moreA a ds) w
 | 0, listed, a, w, h => ⟨h.1, hq _ _ _ h.2⟩
 | fuel + 1, listed, a, w, h =>
  ⟨fun e => hq _ _ _ (h.1 e), fun i hi => bridgeOp hF ds (fun o hi => ho o (Array.mem_toList_iff.2 (Array.mem_of_getElem? hi))) (bridgeAny ho hq hlo fuel _) hq hlo (h.2 i hi)⟩
end
def PostM (B : Base) (ρ : Rho) (w : World) {R : Type} (ds : List Deferred) (s : DS) (K : DS → Option R) (x : R) : Exit → Act → World → Prop := fun e a w' =>
 e = .normal ∧ ∃ s' ρ' a', a = moreA a' ds ∧ K s' = some x ∧ RelR B ρ' s' a' w' ∧ Fresh ρ' s'.nx ∧ s'.n = s.n ∧ Later ρ w ρ' w'
theorem regionIn {C : Cx} (hC : CxOk P C) {F : Fence} (hF : OpenF F) {n : Nat} {R : Type} {call : CallK R} (hcall : CallSound P call) (ds : List Deferred) {id : Nat} {ops : Array Oper} {draw : Bool} (ho : ops.toList.all noDefer = true)
  {s : DS} {K : DS → Option R} {x : R} (h : regK C draw call ops.toList ops.toList [] s K = some x) {B : Base} {ρ : Rho} {a : Act} {w : World} (hr : RelR B ρ s a w) (hf : Fresh ρ s.nx) :
  (Code.region id ops draw).wpIn F n P (PostM B ρ w ds s K x) (moreA a ds) w := by
 have ho' : ∀ o ∈ ops.toList, noDefer o = true := fun o hm => List.all_eq_true.1 ho o hm
 have hlo : ∀ a w', ¬ (fun e a w' => e = Exit.normal ∧ ∃ s' ρ', K s' = some x ∧ RelR B ρ' s' a w' ∧ Fresh ρ' s'.nx ∧ s'.n = s.n ∧ Later ρ w ρ' w') Exit.outgrown a w' := fun a w' h => by cases h.1
 have hq : ∀ e a w', (fun e a w' => e = Exit.normal ∧ ∃ s' ρ', K s' = some x ∧ RelR B ρ' s' a w' ∧ Fresh ρ' s'.nx ∧ s'.n = s.n ∧ Later ρ w ρ' w') e a w' → PostM B ρ w ds s K x e (moreA a ds) w' :=
  fun e a w' ⟨h1, s', ρ', h2⟩ => ⟨h1, s', ρ', a, rfl, h2⟩
 cases draw
 ·refine wpIn_region (bridgeOps hF ds ho' hq hlo _ _ _ ?_)
  have := regK_sound hC hcall (all := ops.toList) (K := K) (x := x) (fun e a w' => e = Exit.normal ∧ ∃ s' ρ', K s' = some x ∧ RelR B ρ' s' a w' ∧ Fresh ρ' s'.nx ∧ s'.n = s.n ∧ Later ρ w ρ' w') s.n ρ w
   (fun s' ρ' a' w' h1 h2 h3 h4 h5 => ⟨rfl, s', ρ', h1, h2, h3, h4, h5⟩) ops.toList 0 [] s ρ a w (fun j => by simp) h hr hf rfl (Later.refl _ _)
  simpa [List.range_eq_range'] using this
 ·exact wpIn_region_any hC.mixed (bridgeAny hF ds ho' hq hlo _ _ _ _ (draw_any hC h hr hf (fun s' ρ' a' w' h1 h2 h3 h4 h5 => ⟨rfl, s', ρ', h1, h2, h3, h4, h5⟩)))
theorem conV_of {f : FuncId} (hent : ∀ args w, (callFunc f args).run P w = .ok (.enter f args) w) (dom cod : List Ty) (impl : Dom dom → Option (Cod cod)) (hst : cod.all Ty.flat = true)
  (H : ∀ (w : World) (xs : Dom dom) (res : Cod cod) (vargs : List Value), VPs (Rho.of fun _ => False) w (domV dom xs) vargs → impl xs = some res →
   Calls P f vargs.toArray w fun e w' => ∃ v, e = .returned v ∧ Below w.heap.size w w' ∧ VP (Rho.of fun _ => False) w' (pvOf (codV cod res)) v) : ConOk P f (conV true dom cod impl) where
 loc args h h' nx r hh hr := ⟨by rw [← conV_loc hh]; exact hr, rfl⟩
 upd args h nx r hr := conV_upd hr
 nat R args h nx K := conV_nat
 sound B ρ s a w nx args vargs r hr hnx hv h := by
  simp only [conV] at h
  split at h
  ·rename_i args' u hfr
   cases hfr
   split at h
   ·rename_i xs hxs
    split at h
    ·rename_i res hres
     rw [spread_eq] at h
     cases h
     have hargs := takeArgs_sound hr (fun _ => False) (fun _ h => h.elim) (fun _ _ _ h => h) hv hxs
     refine .inr ⟨hent _ _, (H w xs res vargs hargs hres).mono ?_⟩
     rintro e w' ⟨v, rfl, hb, hv'⟩
     have hsame := hr.same hb.size (fun b h => hb.block b h) hb.os hb.tape hb.output (fun a ha => hb.frozen ha)
     exact ⟨v, rfl, ρ, hsame.1, hsame.2, pvOf_flat hst hv', fun id _ => rfl⟩
    ·cases h
   ·cases h
  ·cases h
abbrev N4 : Ty := .arr 4 (.int .u64)
def cellsN (x : Nat → Int) : List Value := [.int .u64 (x 0), .int .u64 (x 1), .int .u64 (x 2), .int .u64 (x 3)]
theorem rdN {ρ : Rho} {w : World} {x : Nat → Int} {cs : List Value} : Rd ρ w N4 x cs ↔ cs = cellsN x := by
 constructor
 ·intro h
  obtain ⟨hl, h⟩ := h
  match cs, hl with
  | [a, b, c, d], _ =>
   have h0 := h 0 (by decide)
   have h1 := h 1 (by decide)
   have h2 := h 2 (by decide)
   have h3 := h 3 (by decide)
   simp only [Rd, Ty.size, Nat.zero_mul, Nat.one_mul, List.drop_zero, List.take_succ_cons, List.take_zero, List.cons.injEq, and_true, List.drop_succ_cons, List.drop_nil, Nat.reduceMul] at h0 h1 h2 h3
   rw [h0, h1, h2, h3]; rfl
 ·rintro rfl
  refine ⟨rfl, fun i hi => ?_⟩
  match i, hi with
  | 0, _ => rfl
  | 1, _ => rfl
  | 2, _ => rfl
  | 3, _ => rfl
theorem to_some {v : V} {t : Ty} {x : t.den} (h : v.to t = some x) (hn : t.flat = true) : v = ⟨t, x⟩ := by
 unfold V.to at h
 split at h
 ·rename_i e
  obtain ⟨t', y⟩ := v
  simp only at e; subst e
  cases h; rfl
 ·split at h
  ·cases hn
  ·cases hn
  ·cases h
end Go.Den
