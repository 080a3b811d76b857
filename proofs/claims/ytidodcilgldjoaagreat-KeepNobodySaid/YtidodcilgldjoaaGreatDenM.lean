/-
 The plain reading of code: a slice that stands still ahead of a loop.
-/
import Derived.Test.YtidodcilgldjoaaGreatDenL
import Derived.Test.YtidodcilgldjoaaGreatDenH
import Derived.Test.YtidodcilgldjoaaGreatDenI
set_option linter.unusedVariables false
set_option linter.unusedSimpArgs false
namespace Go.Den
end Go.Den

namespace Go.Den
theorem con_none {P : Program} {f : FuncId} {c : Con} (h : ∀ (R : Type) (args : List PV) (hp : Heap) (nx : Nat) (K : K3 R), c.run args hp nx K = none) : ConOk P f c where
 loc args h0 h' nx r hh hr := by rw [h] at hr; cases hr
 upd args h0 nx r hr := by rw [h] at hr; cases hr
 nat R args h0 nx K := by rw [h, h]; rfl
 sound B ρ s a w nx args vargs r hr hnx hv hc := by rw [h] at hc; cases hc
end Go.Den

namespace Go.Den
open Go.RowKit
abbrev wrTy (TB : TypeId) (U : Ty) : Ty := .pair (bldTy TB) U
def conCW (TB : TypeId) (U : Ty) : Con where
 fp args _ := (argIds args, argIds args)
 run args h nx K := match args with
  | [.v ⟨.ptr _, .rf id p⟩] => match h id with
   | some (.obj t _) => if (t = bldTy TB ∧ p = []) ∨ (t = wrTy TB U ∧ p = [.L]) then K (.tup []) [] 0 else none
   | _ => none
  | _ => none
theorem conCW_ok {P : Program} {f : FuncId} {TB : TypeId} {U : Ty} (hent : ∀ args w, (callFunc f args).run P w = .ok (.enter f args) w)
  (Hused : ∀ (b : Nat) (w : World), w.cell? ⟨b, 0, none⟩ = some (.pointer (some ⟨b, 0, none⟩)) → Calls P f #[.pointer (some ⟨b, 0, none⟩)] w fun e w' => e = .returned (.tuple #[]) ∧ w' = w)
  (Hfresh : ∀ (b : Nat) (w : World) (T : TypeId) (n : Nat), w.cell? ⟨b, 0, none⟩ = some (.pointer none) → w.shape? b = some (T, n) → w.frozen? ⟨b, 0, none⟩ = false → (T = TB ∧ n = 2) ∨ (T = wrapT ∧ n = 2 + U.size) → Calls P f #[.pointer (some ⟨b, 0, none⟩)] w fun e w' => e = .returned (.tuple #[]) ∧ w' = w.setCell ⟨b, 0, none⟩ (.pointer (some ⟨b, 0, none⟩))) :
  ConOk P f (conCW TB U) where
 loc args h h' nx r hh hr := by
  refine ⟨?_, rfl⟩
  unfold conCW at hr hh ⊢
  simp only at hr hh ⊢
  split at hr
  ·rename_i t id p
   rw [← hh id (by simp [argIds])]; exact hr
  ·cases hr
 upd args h nx r hr := by
  unfold conCW at hr
  simp only at hr
  split at hr
  ·split at hr
   ·split at hr
    ·cases hr; intro x hx; cases hx
    ·cases hr
   ·cases hr
  ·cases hr
 nat R args h nx K := by
  unfold conCW
  simp only
  split
  ·split
   ·split <;> rfl
   ·rfl
  ·rfl
 sound B ρ s a w nx args vargs r hr hnx hv h := by
  unfold conCW at h
  simp only at h
  split at h
  ·rename_i u id p
   split at h
   ·rename_i t x ho
    split at h
    ·rename_i ht
     cases h
     match vargs, hv with
     | [v], ⟨hv, _⟩ =>
      obtain ⟨loc, hloc, hok, hat, _, rfl⟩ := VR.ptrRf hv
      obtain ⟨e1, hW, cs, T, hc, hb, hhd⟩ := hr.live ho (by intro e; cases e) hloc
      have hoff : loc.ty.off p = 0 := by
       rw [e1]
       rcases ht with ⟨rfl, rfl⟩ | ⟨rfl, rfl⟩
       ·exact Ty.off_nil _
       ·show (bldTy TB).off [] = 0
        exact Ty.off_nil _
      rw [hoff]
      obtain ⟨hcell, hsh, hset0, hhd'⟩ : (∀ v, cs[0]? = some v → v = .pointer none ∨ v = .pointer (some ⟨loc.blk, 0, none⟩)) ∧ ((T = TB ∧ cs.length = 2) ∨ (T = wrapT ∧ cs.length = 2 + U.size)) ∧
        (∃ c0 rest, cs = c0 :: rest ∧ ∀ {ρ' : Rho} {w' : World} (q : Option Addr), Later ρ w ρ' w' → Rd ρ' w' t x (.pointer q :: rest)) ∧ ∀ T0, t.head = some T0 → T = T0 := by
       have hl := hc.length
       rcases ht with ⟨rfl, rfl⟩ | ⟨rfl, rfl⟩
       ·obtain ⟨hT, hcell⟩ := hhd TB rfl
        refine ⟨hcell, .inl ⟨hT, hl⟩, ?_, fun T0 h => (hhd T0 h).1⟩
        match cs, hl, hc with
        | [c0, c1], _, hc => exact ⟨c0, [c1], rfl, fun q L => ⟨⟨_, rfl, rfl⟩, (show Rd ρ w (.sl (.int .u8)) x.2 [c1] from hc.2).later L⟩⟩
       ·obtain ⟨hT, hcell⟩ := hhd wrapT rfl
        refine ⟨hcell, .inr ⟨hT, hl⟩, ?_, fun T0 h => (hhd T0 h).1⟩
        have hl : cs.length = 2 + U.size := hl
        match cs, hl, hc with
        | c0 :: c1 :: rest, _, hc =>
         refine ⟨c0, c1 :: rest, rfl, fun q L => ⟨⟨⟨_, rfl, rfl⟩, ?_⟩, ?_⟩⟩
         ·exact (show Rd ρ w (.sl (.int .u8)) x.1.2 [c1] from hc.1.2).later L
         ·exact (show Rd ρ w U x.2 rest from hc.2).later L
        | [c0], hl, _ => simp at hl; omega
        | [], hl, _ => simp at hl; omega
      obtain ⟨c0, rest, rfl, hnew⟩ := hset0
      have h0 : w.cell? ⟨loc.blk, 0, none⟩ = some c0 := by simp [World.cell?, hb]
      refine .inr ⟨hent _ _, ?_⟩
      rcases hcell c0 rfl with rfl | rfl
      ·refine (Hfresh loc.blk w T (Value.pointer none :: rest).length h0 (by simp [World.shape?, hb]) (frozen_zero hb _ rfl) hsh).mono ?_
       rintro e w' ⟨rfl, rfl⟩
       refine ⟨_, rfl, ρ, ?_⟩
       have hset : (w.setCell ⟨loc.blk, 0, none⟩ (.pointer (some ⟨loc.blk, 0, none⟩))).heap[loc.blk]? = some (.cells (.pointer (some ⟨loc.blk, 0, none⟩) :: rest).toArray T (0, 0)) := by
        simp [World.setCell, Array.getElem?_modify, hb]
       obtain ⟨h3, h4⟩ := hr.store ho (by intro e; cases e) (by intro e; cases e) hloc (w.setCell ⟨loc.blk, 0, none⟩ (.pointer (some ⟨loc.blk, 0, none⟩))) (by simp [World.setCell]) (fun b hb => by simp [World.setCell, Array.getElem?_modify, Ne.symm hb]) rfl rfl rfl (frozen_mark hb hset) (o' := .obj t x)
        (fun L => ⟨e1, hW, (.pointer (some ⟨loc.blk, 0, none⟩)) :: rest, T, hnew _ L, hset, fun T0 h => ⟨hhd' T0 h, fun v hv => by cases hv; exact .inr rfl⟩⟩)
       refine ⟨h3.alike ⟨fun _ => rfl, fun i => ?_, rfl, rfl⟩, h4, ⟨[], rfl, trivial⟩, fun _ _ => rfl⟩
       show look ((id, PO.obj t x) :: s.hp) i = look s.hp i
       rw [look_cons]
       split
       ·rename_i e; subst e; exact ho.symm
       ·rfl
      ·refine (Hused loc.blk w h0).mono ?_
       rintro e w' ⟨rfl, rfl⟩
       exact ⟨_, rfl, ρ, ⟨hr, Later.refl _ _, ⟨[], rfl, trivial⟩, fun _ _ => rfl⟩⟩
    ·cases h
   ·cases h
  ·cases h
theorem conV_none {P : Program} {f : FuncId} {still : Bool} {dom cod : List Ty} {g : Dom dom → Option (Cod cod)} (hg : ∀ x, g x = none) : ConOk P f (conV still dom cod g) :=
 con_none fun R args hp nx K => by
  simp only [conV]
  split
  ·split
   ·rw [hg]
   ·rfl
  ·rfl
end Go.Den
