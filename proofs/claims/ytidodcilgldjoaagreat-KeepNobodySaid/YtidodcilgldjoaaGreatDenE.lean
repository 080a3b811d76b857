/-
 The plain reading of code: loops in two shapes, results that are nil.
-/
import Derived.Test.YtidodcilgldjoaaGreatDenD
set_option linter.unusedVariables false
set_option linter.unusedSimpArgs false
namespace Go.Den
def spreadN1 {R : Type} (t : Ty) (x : t.arg) (K : V → Option R) : Option R :=
 match t, x with
 | .ptr t, x => match x with
  | none => K ⟨.ptr t, .nil⟩
  | some _ => none
 | t, x => bif t.flat then K ⟨t, argMk t x⟩ else none
def spreadN {R : Type} : (l : List Ty) → Cod l → (List V → Option R) → Option R
 | [], _, K => K []
 | [t], x, K => spreadN1 t x fun v => K [v]
 | t :: u :: l, x, K => spreadN1 t x.1 fun v => spreadN (u :: l) x.2 fun vs => K (v :: vs)
def Free (v : V) : Prop := ∀ (ρ ρ' : Rho) (w w' : World) (u : Value), VR ρ w v u → VR ρ' w' v u
theorem spreadN1_eq {R : Type} {t : Ty} {x : t.arg} : (∃ v : V, v = ⟨t, argMk t x⟩ ∧ Free v ∧ ∀ (R : Type) (K : V → Option R), spreadN1 t x K = K v) ∨ ∀ (R : Type) (K : V → Option R), spreadN1 t x K = none := by
 have flat : ∀ {t : Ty} {x : t.arg}, (∀ (R : Type) (K : V → Option R), spreadN1 t x K = bif t.flat then K ⟨t, argMk t x⟩ else none) →
   (∃ v : V, v = ⟨t, argMk t x⟩ ∧ Free v ∧ ∀ (R : Type) (K : V → Option R), spreadN1 t x K = K v) ∨ ∀ (R : Type) (K : V → Option R), spreadN1 t x K = none := by
  intro t x h
  cases hf : t.flat
  ·exact .inr fun R K => by rw [h, hf]; rfl
  ·exact .inl ⟨_, rfl, fun ρ ρ' w w' u ⟨cs, h1, h2⟩ => ⟨cs, h1.flatAny hf, h2⟩, fun R K => by rw [h, hf]; rfl⟩
 cases t with
 | ptr t =>
  cases x with
  | none => exact .inl ⟨_, rfl, fun ρ ρ' w w' u ⟨cs, h1, h2⟩ => ⟨cs, h1, h2⟩, fun R K => rfl⟩
  | some y => exact .inr fun R K => rfl
 | _ => exact flat fun R K => rfl
def Frees : List V → Prop
 | [] => True
 | v :: l => Free v ∧ Frees l
theorem Frees.vrs : ∀ {l : List V} {us : List Value} {ρ ρ' : Rho} {w w' : World}, Frees l → VRs ρ w l us → VRs ρ' w' l us := by
 intro l
 induction l with
 | nil => intro us ρ ρ' w w' _ h; cases us with
  | nil => trivial
  | cons _ _ => exact h.elim
 | cons v l ih => intro us ρ ρ' w w' hf h; cases us with
  | nil => exact h.elim
  | cons u us => exact ⟨hf.1 _ _ _ _ _ h.1, ih hf.2 h.2⟩
theorem spreadN_eq : ∀ {l : List Ty} {x : Cod l}, (Frees (codV l x) ∧ ∀ (R : Type) (K : List V → Option R), spreadN l x K = K (codV l x)) ∨ ∀ (R : Type) (K : List V → Option R), spreadN l x K = none := by
 intro l
 induction l with
 | nil => intro x; exact .inl ⟨trivial, fun R K => rfl⟩
 | cons t l ih =>
  intro x
  cases l with
  | nil =>
   rcases spreadN1_eq (R := Unit) (t := t) (x := x) with ⟨v, rfl, h1, h2⟩ | h
   ·exact .inl ⟨⟨h1, trivial⟩, fun R K => by simp only [spreadN, h2]; rfl⟩
   ·exact .inr fun R K => by simp only [spreadN, h]
  | cons u l =>
   rcases spreadN1_eq (R := Unit) (t := t) (x := x.1) with ⟨v, rfl, h1, h2⟩ | h
   ·rcases ih (x := x.2) with ⟨h3, h4⟩ | h
    ·exact .inl ⟨⟨h1, h3⟩, fun R K => by simp only [spreadN, h2, h4]; rfl⟩
    ·exact .inr fun R K => by simp only [spreadN, h2, h]
   ·exact .inr fun R K => by simp only [spreadN, h]
def conN (dom cod : List Ty) (f : Dom dom → Option (Cod cod)) : Con where
 fp args _ := (argIds args, [])
 run args h _ K := match takeArgs true h dom args with
  | some xs => match f xs with
   | some r => spreadN cod r fun vs => K (pvOf vs) [] 0
   | none => none
  | none => none
theorem conN_ok {P : Program} {C : Cx} (hC : CxOk P C) {f : FuncId} {fn : Func} {lps : List (Nat × Lp)} (d : Nat) (hfn : FnOk P f fn lps) (dom cod : List Ty) (impl : Dom dom → Option (Cod cod))
  (himpl : ∀ xs, bodyK C lps (denF C d) fn (domV dom xs) [] 0 (kOut cod) = impl xs) : ConOk P f (conN dom cod impl) where
 loc args h h' nx r hh hr := by
  refine ⟨?_, rfl⟩
  simp only [conN] at hh hr ⊢
  rw [← takeArgs_loc hh]; exact hr
 upd args h nx r hr := by
  simp only [conN] at hr
  split at hr
  ·split at hr
   ·rename_i res _
    rcases spreadN_eq (l := cod) (x := res) with ⟨_, h1⟩ | h1
    ·rw [h1] at hr
     cases hr
     intro x hx
     cases hx
    ·rw [h1] at hr; cases hr
   ·cases hr
  ·cases hr
 nat R args h nx K := by
  simp only [conN]
  split
  ·split
   ·rename_i res _
    rcases spreadN_eq (l := cod) (x := res) with ⟨_, h1⟩ | h1
    ·rw [h1, h1]; rfl
    ·rw [h1, h1]; rfl
   ·rfl
  ·rfl
 sound B ρ s a w nx args vargs r hr hnx hv h := by
  simp only [conN] at h
  split at h
  ·rename_i xs hxs
   split at h
   ·rename_i res hres
    rcases spreadN_eq (l := cod) (x := res) with ⟨hfree, h1⟩ | h1
    ·rw [h1] at h
     cases h
     let A2 : Nat → Prop := fun b => False
     have hargs := takeArgs_sound hr A2 (fun b h => h.elim) (fun e b _ h => h) hv hxs
     rw [← himpl] at hres
     let a0 : Act := { tmps := Array.replicate 0 undef, defers := [] }
     have hr0 : RelR ⟨w, fun _ => False⟩ (Rho.of A2) { env := [], hp := [], nx := 0, n := 0 } a0 w :=
      ⟨rfl, Nat.zero_le _, (fun t pv h => by cases h), (fun id o h => by cases h), (fun id id' o o' loc loc' h => by cases h), (fun id loc h => by cases h), (fun b hb => hb.elim), ⟨rfl, rfl, rfl, fun _ _ _ => rfl, Nat.le_refl _⟩, fun _ h => h.elim⟩
     refine .inr ⟨hfn.enter _ _, ?_⟩
     refine (bodyK_sound hC (draw_ok hC _) (denF_sound hC (draw_ok hC _) d) lps hfn.func hfn.blocks hres hr0 (fun id _ => rfl) hargs).mono ?_
     rintro e w' ⟨v, rfl, pv, s', ρ', a', hk, hr', _, hv', L⟩
     have hkeep : ∀ b, b < w.heap.size → w'.heap[b]? = w.heap[b]? := fun b hb => L.keep b hb (fun h => h)
     have hsame := hr.same L.size hkeep hr'.base.os hr'.base.tape hr'.base.output (fun a ha => hr'.base.froz a ha id)
     refine ⟨v, rfl, ρ, hsame.1, hsame.2, ?_, fun id _ => rfl⟩
     have h3 := kOut_sound hr' (fun _ => False) (fun _ h => h.elim) (fun _ _ h => h) hv' hk
     generalize codV cod res = vs at *
     match vs with
     | [] => obtain ⟨us, h1, h2⟩ := h3; exact ⟨us, h1, hfree.vrs h2⟩
     | [x] => exact hfree.1 _ _ _ _ _ h3
     | _ :: _ :: _ => obtain ⟨us, h1, h2⟩ := h3; exact ⟨us, h1, hfree.vrs h2⟩
    ·rw [h1] at h; cases h
   ·cases h
  ·cases h
end Go.Den
