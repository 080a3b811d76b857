/-
  The functions of a package are the plain ones.
-/
import Derived.Test.YtccbdhpcblfopaaGreatEqA
import Derived.Test.YtccbdhpcblfopaaGreatDenG
import Derived.Shelf.Abstract
import Derived.Shelf.RegionOpen
import Derived.WalkKit
import Derived.OwnWalkIn
import Derived.TacticsInMore
import Derived.LoopNIn
import Derived.LoopIn
import Derived.Test.YtccbdhpcblfopaaGreatPpolyEval
set_option linter.unusedVariables false
set_option linter.unusedSimpArgs false
set_option maxRecDepth 100000
set_option maxHeartbeats 0
namespace Go.Pl
end Go.Pl
open Go Go.Den Go.Pl
namespace Go.Proofs.YtccbdhpcblfopaaGreat
section
open Go.RowKit Go.Shelf
attribute [local go_sem] Oper.semAt_some
noncomputable def c2x_ : Con := conV true [.ptr (.pair (.pair (.ptr (.pair tN (.pair tU (.pair tN tN)))) (.ptr (.pair tN (.pair tU (.pair tN tN))))) tN), .sl N4, N4] [N4] fun x => poly_Eval x.1 x.2.1.1 x.2.1.2 x.2.2.1
noncomputable def x2x_ : Cx := { ti := ti, con := [(55, c19_), (54, c18_)], fns := [], un := 6 }
theorem xok2x_ : CxOk Tryz.prog x2x_ := CxOk.of mixed ti_ok (fc ⟨con19_, fc ⟨con18_, fz⟩⟩) fz
def uptoE {α : Type} (f : Nat → α) (k : Nat) : List α := (List.range k).map f
theorem uptoE_succ {α : Type} (f : Nat → α) (k : Nat) : uptoE f (k + 1) = uptoE f k ++ [f k] := by simp [uptoE, List.range_succ]
theorem uptoE_length {α : Type} (f : Nat → α) (k : Nat) : (uptoE f k).length = k := by simp [uptoE]
set_option maxRecDepth 100000 in
set_option maxHeartbeats 2000000 in
theorem back1_in (F : Fence) (n : Nat) (h7 : F.fn 155) (hro : F.round = none) (hn : 1 ≤ n) (l Bs len cap : Nat) (ad : Option Addr) (z : Nat → NI) (hreach : len ≤ 9223372036854775807) (Kp : World → World → Prop) (hKr : ∀ W, Kp W W) (hKt : ∀ {A B C : World}, Kp A B → Kp B C → Kp A C) (J Jx : List { k : Nat // k < len } → World → Prop)
    (W : World)
    (hY : ∀ pre (x : { k : Nat // k < len }) W, J pre W → pre.length < len → YieldAt F (n - 1) Tryz.prog l #[.int .i64 (x.1 : Int), .agg #[.int .u64 (z x.1 0), .int .u64 (z x.1 1), .int .u64 (z x.1 2), .int .u64 (z x.1 3)]] W fun e W' =>
      (e = .returned (.bool true) ∧ J (pre ++ [x]) W' ∧ Kp W W') ∨ (e = .returned (.bool false) ∧ Jx (pre ++ [x]) W'))
    (hBs : ∀ W', Kp W W' → W'.cell? ⟨Bs, 0, none⟩ = some (.slice ad len cap))
    (hc : ∀ W', Kp W W' → ∀ j, j < len → ∃ b off, ad = some ⟨b, off, none⟩ ∧ W'.cell? ⟨b, off + j * 4, none⟩ = some (.int .u64 (z j 0)) ∧ W'.cell? ⟨b, off + j * 4 + 1, none⟩ = some (.int .u64 (z j 1)) ∧ W'.cell? ⟨b, off + j * 4 + 2, none⟩ = some (.int .u64 (z j 2)) ∧ W'.cell? ⟨b, off + j * 4 + 3, none⟩ = some (.int .u64 (z j 3))) (h0 : J [] W) :
    CallsIn F n Tryz.prog 155 #[.func (.yield l) #[] #[], .pointer (some ⟨Bs, 0, none⟩)] W fun e W' => (∃ v, e = .returned v) ∧
      ((∃ ys, ys.map (·.1) = uptoE (fun j => len - 1 - j) len ∧ J ys W') ∨ (∃ pre, True ∧ Jx pre W')) := by
  refine callsIn_of_wp Tryz.func155 rfl h7 ?_ hro
  simp only [Tryz.ntmps155, List.size_toArray, List.length_cons, List.length_nil, Nat.reduceAdd, Nat.reduceSub, Array.replicate_succ, Array.replicate_zero, List.push_toArray, List.append_toArray, List.nil_append, List.cons_append]
  have hB0 := hBs W (hKr W)
  obtain ⟨f, hf⟩ : ∃ f, f = fun j => len - 1 - j := ⟨_, rfl⟩
  have hfj : ∀ m, m < len → f (len - (m + 1)) = m := fun m hm => by
    subst hf
    simp only
    omega
  rw [← hf]
  clear hf
  gi_wp2
  gi_loopw [3] (fun i wr => ∃ m : Nat, m ≤ len ∧ i = .int .i64 ((m : Int) - 1) ∧ (∃ ys, ys.map (·.1) = uptoE f (len - m) ∧ J ys wr) ∧ Kp W wr)
    (fun i _ => (intOf i + 1).toNat)
  case atStart => exact ⟨len, Nat.le_refl _, rfl, ⟨[], by rw [Nat.sub_self]; rfl, h0⟩, hKr _⟩
  case round =>
    obtain ⟨m, hm, rfl, ⟨ys, hys, hJs⟩, hnx⟩ := hrel
    rcases m with _ | m
    · rw [show ((0 : Nat) : Int) - 1 = -1 from rfl]
      gi_wp2
      go_end0
      exact ⟨⟨_, rfl⟩, .inl ⟨ys, by rw [hys, Nat.sub_zero], hJs⟩⟩
    · rw [show ((m + 1 : Nat) : Int) - 1 = (m : Int) by omega]
      have hml : m < len := by omega
      have hyl : ys.length = len - (m + 1) := by
        have := congrArg List.length hys
        rwa [List.length_map, uptoE_length] at this
      obtain ⟨fn, tmps, assign, body, hy, hR⟩ := hY ys ⟨m, hml⟩ wr hJs (by rw [hyl]; omega)
      dsimp only at hy
      have hB1 := hBs wr hnx
      obtain ⟨b, off, rfl, q0, q1, q2, q3⟩ := hc wr hnx m hml
      gi_wp2
      refine hR.mono ?_
      rintro e W3 (⟨rfl, hJ3, hk3⟩ | ⟨rfl, hJx3⟩)
      · gi_wp2
        go_roundw
        case rel => exact ⟨m, by omega, rfl, ⟨_, by rw [List.map_append, hys, show len - m = len - (m + 1) + 1 by omega, uptoE_succ, hfj m hml]; rfl, hJ3⟩, hKt hnx hk3⟩
        case measure => simp [intOf]
      · gi_wp2
        refine bodyPost_ret (results_none rfl _ _ _) rfl ?_
        exact ⟨⟨_, rfl⟩, .inr ⟨_, trivial, hJx3⟩⟩
set_option maxHeartbeats 1000000 in
theorem back_in (F : Fence) (n : Nat) (h6 : F.fn 125) (hro : F.round = none) (a : Option Addr) (len cap : Nat) (w : World) :
    CallsIn F n Tryz.prog 125 #[.slice a len cap] w fun e w' => e = .returned (.func (.func 155) #[] #[.pointer (some ⟨w.heap.size, 0, none⟩)]) ∧ w' = w.alloc (.cells #[.slice a len cap] 23) := by
  refine callsIn_of_wp Tryz.func125 rfl h6 ?_ hro
  simp only [Tryz.ntmps125, List.size_toArray, List.length_cons, List.length_nil, Nat.reduceAdd, Nat.reduceSub, Array.replicate_succ, Array.replicate_zero, List.push_toArray, List.append_toArray, List.nil_append, List.cons_append]
  gi_wp2
  go_ret
  exact ⟨rfl, rfl⟩
def sEval (g : (Ty.ptr (.pair (.pair (.ptr (.pair tN (.pair tU (.pair tN tN)))) (.ptr (.pair tN (.pair tU (.pair tN tN))))) tN)).den) (x o e : Nat → Int) : DS :=
  { env := [(3, .v ⟨.ptr (.ptr (.pair (.pair (.ptr (.pair tN (.pair tU (.pair tN tN)))) (.ptr (.pair tN (.pair tU (.pair tN tN))))) tN)), .fz g⟩), (5, .v ⟨.ptr N4, .fz x⟩), (7, .v ⟨.ptr N4, .rf 0 []⟩), (9, .v ⟨.ptr N4, .fz e⟩)], hp := [(0, .obj N4 o)], nx := 1, n := 22 }
def kEval (s : DS) : Option NI := match Go.Den.look s.hp 0 with
  | some (.obj t y) => V.to ⟨t, y⟩ N4
  | _ => none
def opsOf : Code → Nat → Array Oper
  | .region id ops _, k => if id = k then ops else #[]
  | .seq a b, k => opsOf a k ++ opsOf b k
  | .block _ b, k => opsOf b k
  | .rangeFunc _ _ a b, k => opsOf a k ++ opsOf b k
  | _, _ => #[]
theorem round_eval (g : (Option (((PtrV (NI × (Int × (NI × NI)))) × (PtrV (NI × (Int × (NI × NI))))) × NI))) (x o e : Nat → Int) : regK x2x_ true (denF x2x_ 8) (opsOf (bodyOf Tryz.f86) 4).toList (opsOf (bodyOf Tryz.f86) 4).toList [] (sEval (argMk (.ptr (.pair (.pair (.ptr (.pair tN (.pair tU (.pair tN tN)))) (.ptr (.pair tN (.pair tU (.pair tN tN))))) tN)) g) x o e) kEval = poly_EvalR g x o e := by
  cases g <;> kernel_rfl
noncomputable def evalL (g : (Option (((PtrV (NI × (Int × (NI × NI)))) × (PtrV (NI × (Int × (NI × NI))))) × NI))) (f : Nat → NI) (x : Nat → Int) : List Nat → NI → Option NI
  | [], o => some o
  | k :: l, o => match poly_EvalR g x o (f k) with
    | none => none
    | some o' => evalL g f x l o'
theorem evalL_snoc (g : (Option (((PtrV (NI × (Int × (NI × NI)))) × (PtrV (NI × (Int × (NI × NI))))) × NI))) (f : Nat → NI) (x : Nat → Int) {k : Nat} {o2 : Nat → Int} : ∀ {l : List Nat} {o o1 : Nat → Int}, evalL g f x l o = some o1 → poly_EvalR g x o1 (f k) = some o2 → evalL g f x (l ++ [k]) o = some o2
  | [], o, o1, h, h2 => by cases h; simp only [List.nil_append, evalL, h2]
  | j :: l, o, o1, h, h2 => by
    simp only [List.cons_append, evalL] at h ⊢
    split at h
    · cases h
    · exact evalL_snoc g f x h h2
theorem evalL_down (g : (Option (((PtrV (NI × (Int × (NI × NI)))) × (PtrV (NI × (Int × (NI × NI))))) × NI))) (f : Nat → NI) (x : Nat → Int) : ∀ (n : Nat) (o : Nat → Int), evalL g f x (uptoE (fun j => n - 1 - j) n) o = poly_EvalGo g f x n o
  | 0, o => rfl
  | n + 1, o => by
    have e : uptoE (fun j => n + 1 - 1 - j) (n + 1) = n :: uptoE (fun j => n - 1 - j) n := by
      simp only [uptoE, List.range_succ_eq_map, List.map_cons, List.map_map]
      congr 1
      apply List.map_congr_left
      intro a _
      simp only [Function.comp]
      omega
    rw [e]
    simp only [evalL, poly_EvalGo]
    cases poly_EvalR g x o (f n) with
    | none => rfl
    | some o' => exact evalL_down g f x n o'
theorem al_old {w : World} {b : Nat} {x : Obj} (o : Obj) (h : w.heap[b]? = some x) : (w.alloc o).heap[b]? = some x :=
  (Below.heap_alloc _ _ _ (Array.getElem?_eq_some_iff.1 h).1).trans h
theorem al_new {w : World} {b : Nat} (o : Obj) (h : b = w.heap.size) : (w.alloc o).heap[b]? = some o := by
  subst h; exact World.alloc_heap_new w o
theorem al_five (w : World) (o0 o1 o2 o3 o4 : Obj) : ∃ w5, (((((w.alloc o0).alloc o1).alloc o2).alloc o3).alloc o4) = w5 ∧ w5.heap.size = w.heap.size + 5 ∧ Below w.heap.size w w5 ∧ w5.heap[w.heap.size]? = some o0 ∧ w5.heap[w.heap.size + 1]? = some o1 ∧ w5.heap[w.heap.size + 1 + 1]? = some o2 ∧ w5.heap[w.heap.size + 1 + 1 + 1]? = some o3 ∧ w5.heap[w.heap.size + 1 + 1 + 1 + 1]? = some o4 := by
  have s1 : (w.alloc o0).heap.size = w.heap.size + 1 := World.size_alloc _ _
  have s2 : ((w.alloc o0).alloc o1).heap.size = w.heap.size + 1 + 1 := by rw [World.size_alloc, s1]
  have s3 : (((w.alloc o0).alloc o1).alloc o2).heap.size = w.heap.size + 1 + 1 + 1 := by rw [World.size_alloc, s2]
  have s4 : ((((w.alloc o0).alloc o1).alloc o2).alloc o3).heap.size = w.heap.size + 1 + 1 + 1 + 1 := by rw [World.size_alloc, s3]
  have s5 : (((((w.alloc o0).alloc o1).alloc o2).alloc o3).alloc o4).heap.size = w.heap.size + 1 + 1 + 1 + 1 + 1 := by rw [World.size_alloc, s4]
  exact ⟨_, rfl, s5, (((((Below.refl _ w).alloc (Nat.le_refl _) _).alloc (by omega) _).alloc (by omega) _).alloc (by omega) _).alloc (by omega) _,
    al_old _ (al_old _ (al_old _ (al_old _ (al_new _ rfl)))), al_old _ (al_old _ (al_old _ (al_new _ s1.symm))), al_old _ (al_old _ (al_new _ s2.symm)), al_old _ (al_new _ s3.symm), al_new _ s4.symm⟩
theorem cell_of {W : World} {b : Nat} {cs : Array Value} {T : TypeId} (h : W.heap[b]? = some (.cells cs T (0, 0))) (j : Nat) (v : Value) (hv : cs[j]? = some v) : W.cell? ⟨b, j, none⟩ = some v := by
  simp [World.cell?, h, hv]
abbrev SubE (nf : Nat) := { k : Nat // k < nf }
def encE {nf : Nat} (f : Nat → NI) (k : SubE nf) : Array Value := #[.int .i64 (k.1 : Int), .agg #[.int .u64 (f k.1 0), .int .u64 (f k.1 1), .int .u64 (f k.1 2), .int .u64 (f k.1 3)]]
def KpE (n : Nat) (W W' : World) : Prop := Below n W W' ∧ W'.heap[n + 1]? = W.heap[n + 1]?
def IE (g : (Option (((PtrV (NI × (Int × (NI × NI)))) × (PtrV (NI × (Int × (NI × NI))))) × NI))) (nf : Nat) (f : Nat → NI) (x : Nat → Int) (Inv : NI → Prop) (n : Nat) (w5 : World) (pre : List (SubE nf)) (W : World) : Prop :=
  ∃ o, evalL g f x (pre.map (·.1)) (fun _ => 0) = some o ∧ Inv o ∧ (∃ T, W.heap[n]? = some (.cells (cellsN o).toArray T (0, 0))) ∧ Below n w5 W
theorem IE_own (g : (Option (((PtrV (NI × (Int × (NI × NI)))) × (PtrV (NI × (Int × (NI × NI))))) × NI))) (nf : Nat) (f : Nat → NI) (x : Nat → Int) (Inv : NI → Prop) (n : Nat) (w5 : World) (hn : n < w5.heap.size) : OwnFrom w5.heap.size (IE g nf f x Inv n w5) := by
  rintro pre W W' row ⟨o, h1, h2, ⟨T, h3⟩, h4⟩ hg hr
  refine ⟨o, h1, h2, ⟨T, ?_⟩, (ownFrom_below (β := Unit) (n₀ := n) (B := w5.heap.size) (w₀ := w5) (by omega) (by omega)) () W W' row h4 hg hr⟩
  rw [hg.block n (by have := h4.size; omega) (fun e => by have := (hr n e.symm).1; omega)]
  exact h3
theorem seq_eval (F : Fence) (h7 : F.fn 155) (hro : F.round = none) (w w5 : World) (n nf cap : Nat) (ad : Option Addr) (f : Nat → NI) (hreach : nf ≤ 9223372036854775807) (hn : w.heap.size ≤ n) (hn5 : n + 1 < w5.heap.size) (hb : Below w.heap.size w w5)
    (h4 : w5.heap[n + 1]? = some (.cells #[.slice ad nf cap] 23 (0, 0)))
    (hel : ∀ (i : Nat), i < nf → ∃ b o c, ad = some { block := b, off := o } ∧ Rd (Rho.of fun _ => False).shut w N4 (f i) c ∧ Fz (Rho.of fun _ => False) w b (o + i * N4.size) c) :
    SeqStopsK F 9 Tryz.prog 155 #[.pointer (some ⟨n + 1, 0, none⟩)] (encE (nf := nf) f) (KpE n) (fun ys => ys.map (·.1) = uptoE (fun j => nf - 1 - j) nf) (fun _ => True) nf w5 := by
  intro l J Jx W hW _ _ hY h0
  have hWn : W.heap[n + 1]? = some (.cells #[.slice ad nf cap] 23 (0, 0)) := (hW.block _ hn5).trans h4
  refine (back1_in F 9 h7 hro (by decide) l (n + 1) nf cap ad f hreach (KpE n) (fun W => ⟨Below.refl _ _, rfl⟩) (fun h h' => ⟨h.1.trans h'.1, h'.2.trans h.2⟩) J Jx W hY ?_ ?_ h0).mono (fun e W' h => h)
  · intro W' hk
    exact cell_of (hk.2.trans hWn) 0 _ rfl
  · intro W' hk j hj
    obtain ⟨b, o, c, rfl, h1, h2⟩ := hel j hj
    obtain rfl := rdN.1 h1
    obtain ⟨_, h3, h5⟩ := h2
    have hs : ∀ i v, (cellsN (f j))[i]? = some v → W'.cell? ⟨b, o + j * 4 + i, none⟩ = some v := fun i v hv => by
      rw [hk.1.cell (p := ⟨b, o + j * 4 + i, none⟩) (by simp only; omega), hW.cell (p := ⟨b, o + j * 4 + i, none⟩) (by have := hb.size; simp only; omega), hb.cell (p := ⟨b, o + j * 4 + i, none⟩) h3]
      exact h5 i v hv
    exact ⟨b, o, rfl, hs 0 _ rfl, hs 1 _ rfl, hs 2 _ rfl, hs 3 _ rfl⟩
theorem set_heap {W : World} {b : Nat} {cs : Array Value} {T : TypeId} (i : Nat) (v : Value) (h : W.heap[b]? = some (.cells cs T (0, 0))) : (W.setCell ⟨b, i, none⟩ v).heap[b]? = some (.cells (cs.setIfInBounds i v) T (0, 0)) := by
  unfold World.setCell
  simp only [Array.getElem?_modify, h]
  rfl
theorem results_cell {P : Program} {fn : Func} {ad : Nat} {T : TypeId} (hr : fn.results.toList = [.cell ad T]) {tmps : Array Value} {p : Addr} {W : World} {v : Value} (ht : tmps.getD ad undef = .pointer (some p)) (hl : (loadVar T p).run P W = .ok v W) : (results fn tmps).run P W = .ok v W :=
  results_run (a := ⟨tmps, []⟩) (vvs := [v]) (by
    rw [hr]
    simp only [List.mapM_cons, List.mapM_nil, Sem.run_bind, resV, ht, asAddr, Sem.run_pure, Result.andThen_ok, hl])
theorem put_other {W : World} {b : Nat} {x : Obj} (D : Nat) (o : Obj) (hne : b ≠ D) (h : W.heap[b]? = some x) : (W.putObj D o).heap[b]? = some x := by
  rw [← h]; exact World.putObj_heap_other hne
theorem result_eval (W : World) (b : Nat) (o : Nat → Int) (h : W.heap[b]? = some (.cells (((((#[Value.int IntKind.u64 0, Value.int IntKind.u64 0, Value.int IntKind.u64 0, Value.int IntKind.u64 0] : Array Value).setIfInBounds 0 (.int .u64 (o 0))).setIfInBounds 1 (.int .u64 (o 1))).setIfInBounds 2 (.int .u64 (o 2))).setIfInBounds 3 (.int .u64 (o 3))) 49 (0, 0))) :
    ∃ v, (loadVar 49 ⟨b, 0, none⟩).run Tryz.prog W = .ok v W ∧ VP (Rho.of fun _ => False) W (.v ⟨N4, o⟩) v := by
  have h' : W.heap[b]? = some (.cells (cellsN o).toArray 49 (0, 0)) := by rw [h]; rfl
  have hr0 : RelR ⟨W, fun _ => False⟩ (Rho.of fun _ => False) { env := [], hp := [], nx := 0, n := 0 } { tmps := Array.replicate 0 undef, defers := [] } W :=
    ⟨rfl, Nat.zero_le _, (fun t pv h => by cases h), (fun id o h => by cases h), (fun id id' o o' loc loc' h => by cases h), (fun id loc h => by cases h), (fun b hb => hb.elim), ⟨rfl, rfl, rfl, fun _ _ _ => rfl, Nat.le_refl _⟩, fun b hb => hb.elim⟩
  have hvp : VP (Rho.of fun _ => False) W (.v ⟨.ptr N4, .fz o⟩) (.pointer (some ⟨b, 0, none⟩)) :=
    ⟨[_], ⟨b, 0, cellsN o, rfl, rdN.2 rfl, id, (Array.getElem?_eq_some_iff.1 h').1, fun j v hv => by rw [Nat.zero_add]; exact cell_of h' j v (by simpa using hv)⟩, rfl⟩
  obtain ⟨v, l1, l2⟩ := evLoad_sound ti_ok hr0 hvp (show evLoad ti 49 (.v ⟨.ptr N4, .fz o⟩) _ some = some (.v ⟨N4, o⟩) from by kernel_rfl)
  exact ⟨v, by simpa [Instr.loadAt, Instr.sureAddr] using l1, l2⟩
def rhoE (n : Nat) : Rho := ⟨fun id => if id = 0 then some ⟨n, N4, none⟩ else none, fun b => b = n, fun b => b = n, fun _ h => h⟩
theorem rel_eval (w W : World) (g : (Option (((PtrV (NI × (Int × (NI × NI)))) × (PtrV (NI × (Int × (NI × NI))))) × NI))) (pa : Option Addr) (x o e : Nat → Int) (n n1 Bx : Nat) (T0 T1 T T2 : TypeId) (hB : Below w.heap.size w W) (h0 : w.heap.size < n) (h1 : n1 < n) (h2 : n < W.heap.size) (h3 : n < Bx) (h4 : w.heap.size ≤ n)
    (hg : Rd (Rho.of fun _ => False) w (.ptr (.pair (.pair (.ptr (.pair tN (.pair tU (.pair tN tN)))) (.ptr (.pair tN (.pair tU (.pair tN tN))))) tN)) (argMk (.ptr (.pair (.pair (.ptr (.pair tN (.pair tU (.pair tN tN)))) (.ptr (.pair tN (.pair tU (.pair tN tN))))) tN)) g) [.pointer pa]) (d0 : W.heap[w.heap.size]? = some (.cells #[.pointer pa] T0 (0, 0))) (d1 : W.heap[n1]? = some (.cells (cellsN x).toArray T1 (0, 0)))
    (d2 : W.heap[n]? = some (.cells (cellsN o).toArray T (0, 0))) (d3 : W.heap[Bx]? = some (.cells (cellsN e).toArray T2 (0, 0))) (a : Act) (ha : a.defers = []) (hsz : 22 ≤ a.tmps.size) (t3 : a.tmps[3]? = some (.pointer (some ⟨w.heap.size, 0, none⟩))) (t5 : a.tmps[5]? = some (.pointer (some ⟨n1, 0, none⟩)))
    (t7 : a.tmps[7]? = some (.pointer (some ⟨n, 0, none⟩))) (t9 : a.tmps[9]? = some (.pointer (some ⟨Bx, 0, none⟩))) : RelR ⟨W, fun b => b = n⟩ (rhoE n) (sEval (argMk (.ptr (.pair (.pair (.ptr (.pair tN (.pair tU (.pair tN tN)))) (.ptr (.pair tN (.pair tU (.pair tN tN))))) tN)) g) x o e) a W := by
  have hL : Later (Rho.of fun _ => False) w (rhoE n).shut W := ⟨hB.size, fun _ _ h => (by cases h), fun b h => .inr (by have : b = n := h; omega), fun _ h => h.elim, fun _ _ h => h.elim, fun b hb _ => hB.block b hb⟩
  have fz : ∀ (b : Nat) (cs : List Value) (T : TypeId), b ≠ n → W.heap[b]? = some (.cells cs.toArray T (0, 0)) → Fz (rhoE n) W b 0 cs := fun b cs T hb hc =>
    ⟨hb, (Array.getElem?_eq_some_iff.1 hc).1, fun j v hv => by rw [Nat.zero_add]; exact cell_of hc j v (by simpa using hv)⟩
  refine ⟨ha, hsz, fun t pv hl => ?_, fun id ob hl => ?_, fun id id' o1 o2 l1 l2 q1 q2 _ _ _ _ _ => ?_, fun id loc hl => ?_, fun b hb => ?_, ⟨rfl, rfl, rfl, fun _ _ _ => rfl, Nat.le_refl _⟩, fun b hb => .inl hb⟩
  · have hl' : Go.Den.look [(3, PV.v ⟨.ptr (.ptr (.pair (.pair (.ptr (.pair tN (.pair tU (.pair tN tN)))) (.ptr (.pair tN (.pair tU (.pair tN tN))))) tN)), .fz (argMk (.ptr (.pair (.pair (.ptr (.pair tN (.pair tU (.pair tN tN)))) (.ptr (.pair tN (.pair tU (.pair tN tN))))) tN)) g)⟩), (5, .v ⟨.ptr N4, .fz x⟩), (7, .v ⟨.ptr N4, .rf 0 []⟩), (9, .v ⟨.ptr N4, .fz e⟩)] t = some pv := hl
    simp only [look_cons] at hl'
    split at hl'
    · rename_i e'; subst e'; cases hl'
      exact ⟨_, t3, [_], ⟨w.heap.size, 0, [.pointer pa], rfl, hg.later hL, fz _ [.pointer pa] T0 (by omega) d0⟩, rfl⟩
    · split at hl'
      · rename_i e'; subst e'; cases hl'
        exact ⟨_, t5, [_], ⟨n1, 0, cellsN x, rfl, rdN.2 rfl, fz _ _ T1 (by omega) d1⟩, rfl⟩
      · split at hl'
        · rename_i e'; subst e'; cases hl'
          exact ⟨_, t7, [_], ⟨_, rfl, ⟨n, N4, none⟩, rfl, trivial, rfl, .inl rfl, rfl⟩, rfl⟩
        · split at hl'
          · rename_i e'; subst e'; cases hl'
            exact ⟨_, t9, [_], ⟨Bx, 0, cellsN e, rfl, rdN.2 rfl, fz _ _ T2 (by omega) d3⟩, rfl⟩
          · cases hl'
  · have hl' : Go.Den.look [(0, PO.obj N4 o)] id = some ob := hl
    simp only [look_cons] at hl'
    split at hl'
    · rename_i e'; subst e'; cases hl'
      exact .inr ⟨⟨n, N4, none⟩, rfl, rfl, rfl, cellsN o, T, rdN.2 rfl, d2, fun T0 h => by cases h⟩
    · cases hl'
  · have g1 : Go.Den.look [(0, PO.obj N4 o)] id = some o1 := q1
    have g2 : Go.Den.look [(0, PO.obj N4 o)] id' = some o2 := q2
    simp only [look_cons] at g1 g2
    split at g1
    · split at g2
      · omega
      · cases g2
    · cases g1
  · have hl' : (if id = 0 then some (⟨n, N4, none⟩ : Go.Den.Loc) else none) = some loc := hl
    split at hl'
    · cases hl'; exact h2
    · cases hl'
  · have : b = n := hb
    omega
set_option maxRecDepth 100000 in
set_option maxHeartbeats 2000000 in
theorem eval_in (F : Fence) (hF : OpenF F) (hro : F.round = none) (w : World) (g : (Option (((PtrV (NI × (Int × (NI × NI)))) × (PtrV (NI × (Int × (NI × NI))))) × NI))) (nf : Nat) (f : Nat → NI) (x out : Nat → Int) (vargs : List Value) (hv : VPs (Rho.of fun _ => False) w (domV [.ptr (.pair (.pair (.ptr (.pair tN (.pair tU (.pair tN tN)))) (.ptr (.pair tN (.pair tU (.pair tN tN))))) tN), .sl N4, N4] (g, (nf, f), x, ())) vargs)
    (h : poly_Eval g nf f x = some out) : CallsIn F 10 Tryz.prog 86 vargs.toArray w fun e w' => ∃ v, e = .returned v ∧ Below w.heap.size w w' ∧ VP (Rho.of fun _ => False) w' (.v ⟨N4, out⟩) v := by
  rw [poly_Eval_eq] at h
  unfold poly_Eval' at h
  split at h
  rotate_left
  · cases h
  rename_i hst
  obtain ⟨hreach, Inv, i0, i1⟩ := hst
  match vargs, hv with
  | [gv, sv, xv], ⟨hg, hs, hx, _⟩ =>
  obtain ⟨cg, hg1, rfl⟩ := hg
  obtain ⟨cs, hs1, rfl⟩ := hs
  obtain ⟨cx, hx1, rfl⟩ := hx
  obtain rfl := rdN.1 hx1
  have hgp : ∃ pa, cg = [.pointer pa] := by
    cases g with
    | none => exact ⟨none, hg1⟩
    | some y => obtain ⟨b, o, c, e, _⟩ := hg1; exact ⟨_, e⟩
  obtain ⟨pa, rfl⟩ := hgp
  obtain ⟨ad, cap, rfl, hle, hel⟩ := hs1
  show CallsIn F 10 Tryz.prog 86 #[.pointer pa, .slice ad nf cap, .agg #[.int .u64 (x 0), .int .u64 (x 1), .int .u64 (x 2), .int .u64 (x 3)]] w _
  have hfB := hF.fn 125
  have hfC := hF.fn 155
  refine callsIn_of_wp_marks Tryz.func86 rfl (hF.fn _) ?_ hro
  simp only [Tryz.ntmps86, List.size_toArray, List.length_cons, List.length_nil, Nat.reduceAdd, Nat.reduceSub, Array.replicate_succ, Array.replicate_zero, List.push_toArray, List.append_toArray, List.nil_append, List.cons_append]
  gi_wp2_with (gi_at_call 125; refine (back_in F (10 - 1) hfB hro _ _ _ _).mono ?_; rintro e w' ⟨rfl, rfl⟩)
  obtain ⟨w5, hw5, hsz, hB5, c0, c1, c2, c3, c4⟩ := al_five w (Obj.cells #[Value.pointer pa] 26) (Obj.cells #[Value.int IntKind.u64 (x 0), Value.int IntKind.u64 (x 1), Value.int IntKind.u64 (x 2), Value.int IntKind.u64 (x 3)] 49)
    (Obj.cells #[Value.int IntKind.u64 0, Value.int IntKind.u64 0, Value.int IntKind.u64 0, Value.int IntKind.u64 0] 49) (Obj.cells #[Value.int IntKind.u64 0, Value.int IntKind.u64 0, Value.int IntKind.u64 0, Value.int IntKind.u64 0] 49) (.cells #[.slice ad nf cap] 23)
  rw [hw5]
  clear hw5
  obtain ⟨n, hn⟩ : ∃ n, w.heap.size + 1 + 1 + 1 = n := ⟨_, rfl⟩
  rw [hn] at c3 c4 ⊢
  refine wpIn_rangeFunc_ownH hro (by decide) (gf := 155) (lb := #[.pointer (some ⟨n + 1, 0, none⟩)]) rfl hfC (enters_of Tryz.func155 (by kernel_rfl) rfl) (encs := encE (nf := nf) f)
    (seq_eval F hfC hro w w5 n nf cap ad f hreach (by omega) (by omega) hB5 c4 hel) (fun h h' => ⟨h.1.trans h'.1, h'.2.trans h.2⟩)
    (fun W l o o' hl ho hoc _ => ⟨belowK_b (w := w5) (by omega) W l o o' hl ho hoc (by assumption), by
      have hne : l ≠ n + 1 := by omega
      simp [World.putObj, Array.getElem?_setIfInBounds, hne]⟩)
    (Below.refl _ _) (fun _ => rfl) (IE g nf f x Inv n w5) (fun _ _ _ => False) (IE_own g nf f x Inv n w5 (by omega)) (fun _ _ _ _ _ h _ _ => h) ⟨fun _ => 0, rfl, i0, ⟨49, c3⟩, Below.refl _ _⟩
    (fun k a' W => ∃ Bx, w5.heap.size ≤ Bx ∧ W.heap[Bx]? = some (.cells (cellsN (f k.1)).toArray 49 (0, 0)) ∧ a' = { tmps := #[Value.pointer pa, Value.slice ad nf cap,
          Value.agg #[Value.int IntKind.u64 (x 0), Value.int IntKind.u64 (x 1), Value.int IntKind.u64 (x 2), Value.int IntKind.u64 (x 3)],
          Value.pointer (some { block := w.heap.size, off := 0 }), undef,
          Value.pointer (some { block := w.heap.size + 1, off := 0 }),
          Value.pointer (some { block := w.heap.size + 1 + 1, off := 0 }),
          Value.pointer (some { block := n, off := 0 }), undef, Value.pointer (some { block := Bx, off := 0 }), Value.slice ad nf cap,
          Value.func (Fn.func 155) #[] #[Value.pointer (some { block := n + 1, off := 0 })],
          .int .i64 (k.1 : Int), .agg #[.int .u64 (f k.1 0), .int .u64 (f k.1 1), .int .u64 (f k.1 2), .int .u64 (f k.1 3)], undef, undef, undef, undef, undef, undef, undef, undef], defers := [] })
    (fun k a' _ W W' row ⟨Bx, h1, h2, h3⟩ hg hr => ⟨Bx, h1, by
      rw [hg.block Bx (Array.getElem?_eq_some_iff.1 h2).1 (fun e => by
        obtain ⟨_, o, h4, h5⟩ := hr Bx e.symm
        rw [h2] at h4; cases h4; cases h5)]
      exact h2, h3⟩) ?assign ?body ?done ?stop
  case assign =>
    intro l pre k W K hi hK
    unfold encE
    gi_wp2
    have hW5 : w5.heap.size ≤ W.heap.size := by obtain ⟨_, _, _, _, h⟩ := hi; exact h.size
    exact hK _ _ ((KeepsOthers.alloc _ _).from _) ⟨(Below.refl n W).alloc (by omega) _, Below.heap_alloc _ _ _ (by omega)⟩ ((IE_own g nf f x Inv n w5 (by omega)).alloc _ hi) ⟨W.heap.size, hW5, al_new _ rfl, rfl⟩
  case body =>
    rintro l pre k a' W hl _ ⟨o, e1, e2, ⟨T, e3⟩, e4⟩ ⟨Bx, b1, b2, rfl⟩ hlt
    obtain ⟨o', r1, r2⟩ := i1 o k.1 e2 k.2
    refine wpIn_block ?_
    have hWs := e4.size
    have d0 : W.heap[w.heap.size]? = some (.cells #[.pointer pa] 26 (0, 0)) := (e4.block _ (by omega)).trans c0
    have d1 : W.heap[w.heap.size + 1]? = some (.cells (cellsN x).toArray 49 (0, 0)) := (e4.block _ (by omega)).trans c1
    have hr := rel_eval w W g pa x o (f k.1) n (w.heap.size + 1) Bx 26 49 T 49 (hB5.trans (e4.mono (by omega))) (by omega) (by omega) (by omega) (by omega) (by omega) hg1 d0 d1 e3 b2
      { tmps := #[Value.pointer pa, Value.slice ad nf cap,
          Value.agg #[Value.int IntKind.u64 (x 0), Value.int IntKind.u64 (x 1), Value.int IntKind.u64 (x 2), Value.int IntKind.u64 (x 3)],
          Value.pointer (some { block := w.heap.size, off := 0 }), undef,
          Value.pointer (some { block := w.heap.size + 1, off := 0 }),
          Value.pointer (some { block := w.heap.size + 1 + 1, off := 0 }),
          Value.pointer (some { block := n, off := 0 }), undef, Value.pointer (some { block := Bx, off := 0 }), Value.slice ad nf cap,
          Value.func (Fn.func 155) #[] #[Value.pointer (some { block := n + 1, off := 0 })],
          .int .i64 (k.1 : Int), .agg #[.int .u64 (f k.1 0), .int .u64 (f k.1 1), .int .u64 (f k.1 2), .int .u64 (f k.1 3)], undef, undef, undef, undef, undef, undef, undef, undef], defers := [] } rfl (by simp) rfl rfl rfl rfl
    refine wpIn_mono (regionIn xok2x_ (F := F.inRound l) hF (denF_sound xok2x_ (draw_ok xok2x_ _) 8) [] (by kernel_rfl) ((round_eval g x o (f k.1)).trans r1) hr (fun id hid => by
      show (if id = 0 then _ else none) = none
      rw [if_neg (by have : 1 ≤ id := hid; omega)])) ?_
    rintro e a2 W2 ⟨rfl, s', ρ', a3, rfl, q1, q2, q3, q4, q5⟩
    have keep : ∀ b, b < W.heap.size → b ≠ n → W2.heap[b]? = W.heap[b]? := fun b hb hne => q5.keep b hb hne
    have hnl : n < W.heap.size := by omega
    refine ⟨⟨q5.size, fun b ob _ hob hoc => (keep b (Array.getElem?_eq_some_iff.1 hob).1 (fun e => by
      subst e; rw [e3] at hob; cases hob; cases hoc)).trans hob⟩, ⟨⟨q2.base.os, q2.base.tape, q2.base.output, q5.size, fun b hb => keep b (by omega) (by omega)⟩, keep _ (by omega) (by omega)⟩, o', ?_, r2, ?_, e4.trans ⟨q2.base.os, q2.base.tape, q2.base.output, q5.size, fun b hb => keep b (by omega) (by omega)⟩⟩
    · rw [List.map_append]
      exact evalL_snoc g f x e1 r1
    · have hlk : Go.Den.look s'.hp 0 = some (.obj N4 o') := by
        unfold kEval at q1
        split at q1
        · rename_i t y hy
          have := to_some q1 rfl
          cases this
          exact hy
        · cases q1
      obtain ⟨_, _, cs, T', u1, u2⟩ := q2.live hlk (by simp) (q5.up 0 ⟨n, N4, none⟩ rfl)
      obtain rfl := rdN.1 u1
      exact ⟨T', u2.1⟩
  case done =>
    rintro D ys W hD hS ⟨o, e1, e2, ⟨T, e3⟩, e4⟩ hK
    have hWs := e4.size
    obtain rfl : o = out := by
      rw [hS, evalL_down, h] at e1
      cases e1; rfl
    have z0 : W.cell? ⟨n, 0, none⟩ = some (.int .u64 (o 0)) := cell_of e3 0 _ rfl
    have z1 : W.cell? ⟨n, 1, none⟩ = some (.int .u64 (o 1)) := cell_of e3 1 _ rfl
    have z2 : W.cell? ⟨n, 2, none⟩ = some (.int .u64 (o 2)) := cell_of e3 2 _ rfl
    have z3 : W.cell? ⟨n, 3, none⟩ = some (.int .u64 (o 3)) := cell_of e3 3 _ rfl
    have c2' : W.heap[w.heap.size + 1 + 1]? = some (.cells #[Value.int IntKind.u64 0, Value.int IntKind.u64 0, Value.int IntKind.u64 0, Value.int IntKind.u64 0] 49 (0, 0)) := (e4.block _ (by omega)).trans c2
    have y0 : W.cell? ⟨w.heap.size + 1 + 1, 0, none⟩ = some (.int .u64 0) := cell_of c2' 0 _ rfl
    have x0 : W.frozen? ⟨w.heap.size + 1 + 1, 0, none⟩ = false := frozen_zero c2' _ rfl
    have y1 : W.cell? ⟨w.heap.size + 1 + 1, 1, none⟩ = some (.int .u64 0) := cell_of c2' 1 _ rfl
    have x1 : W.frozen? ⟨w.heap.size + 1 + 1, 1, none⟩ = false := frozen_zero c2' _ rfl
    have y2 : W.cell? ⟨w.heap.size + 1 + 1, 2, none⟩ = some (.int .u64 0) := cell_of c2' 2 _ rfl
    have x2 : W.frozen? ⟨w.heap.size + 1 + 1, 2, none⟩ = false := frozen_zero c2' _ rfl
    have y3 : W.cell? ⟨w.heap.size + 1 + 1, 3, none⟩ = some (.int .u64 0) := cell_of c2' 3 _ rfl
    have x3 : W.frozen? ⟨w.heap.size + 1 + 1, 3, none⟩ = false := frozen_zero c2' _ rfl
    gi_wp2
    have hK3 := (KeepsOthers.setCell _ ⟨w.heap.size + 1 + 1, 3, none⟩ (.int .u64 (o 3))).same D _ ((KeepsOthers.setCell _ ⟨w.heap.size + 1 + 1, 2, none⟩ (.int .u64 (o 2))).same D _ ((KeepsOthers.setCell _ ⟨w.heap.size + 1 + 1, 1, none⟩ (.int .u64 (o 1))).same D _ ((KeepsOthers.setCell W ⟨w.heap.size + 1 + 1, 0, none⟩ (.int .u64 (o 0))).same D _ hK rfl) rfl) rfl) rfl
    refine ⟨by simp, .inl ⟨_, _, rfl, run_takeDeferred hK3, ?_⟩⟩
    have hB3 := (((((hB5.trans (e4.mono (by omega))).setCell (p := ⟨w.heap.size + 1 + 1, 0, none⟩) (by simp only; omega) (.int .u64 (o 0))).setCell (p := ⟨w.heap.size + 1 + 1, 1, none⟩) (by simp only; omega) (.int .u64 (o 1))).setCell (p := ⟨w.heap.size + 1 + 1, 2, none⟩) (by simp only; omega) (.int .u64 (o 2))).setCell (p := ⟨w.heap.size + 1 + 1, 3, none⟩) (by simp only; omega) (.int .u64 (o 3)))
    have hB4 := hB3.trans (belowK_b (w := w) (Nat.le_refl _) _ D _ (.deferred none) (by omega) hK3 rfl rfl)
    have hc4 := put_other (b := w.heap.size + 1 + 1) D (.deferred none) (by omega) (set_heap 3 (.int .u64 (o 3)) (set_heap 2 (.int .u64 (o 2)) (set_heap 1 (.int .u64 (o 1)) (set_heap 0 (.int .u64 (o 0)) c2'))))
    obtain ⟨W4, hW4⟩ : ∃ W4, (((((W.setCell { block := w.heap.size + 1 + 1, off := 0 } (Value.int IntKind.u64 (o 0))).setCell { block := w.heap.size + 1 + 1, off := 1 } (Value.int IntKind.u64 (o 1))).setCell
              { block := w.heap.size + 1 + 1, off := 2 } (Value.int IntKind.u64 (o 2))).setCell { block := w.heap.size + 1 + 1, off := 3 } (Value.int IntKind.u64 (o 3))).putObj D (Obj.deferred none)) = W4 := ⟨_, rfl⟩
    rw [hW4] at hB4 hc4 ⊢
    obtain ⟨v, l1, l2⟩ := result_eval W4 (w.heap.size + 1 + 1) o hc4
    exact ⟨v, results_cell (show Tryz.f86.results.toList = [.cell 6 49] from by kernel_rfl) rfl l1, v, rfl, hB4, l2⟩
  case stop =>
    rintro D c pre W _ _ h _
    exact h.elim
theorem con2x_ : ConOk Tryz.prog 86 c2x_ :=
  conV_of Tryz.call86 _ _ _ (by decide) fun w xs res vargs hv h => (callsIn_wide (n := 10)).1 (eval_in Fence.wide OpenF.wide rfl w xs.1 xs.2.1.1 xs.2.1.2 xs.2.2.1 res vargs hv h)
end
end Go.Proofs.YtccbdhpcblfopaaGreat
