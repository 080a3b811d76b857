/-
 The plain reading of code: a slice that stands still ahead of a loop.
-/
import Derived.Test.YtejjdkhjdcjbbaaDenL
set_option linter.unusedVariables false
set_option linter.unusedSimpArgs false
namespace Go.Den
def lrB : Path → Bool
 | [] => true
 | .L :: q => lrB q
 | .R :: q => lrB q
 | _ => false
theorem lr_ok : ∀ {q : Path} {t u : Ty}, lrB q = true → t.at q = some u → t.okP q
 | [], t, u, _, _ => Ty.okP_nil t
 | .L :: q, t, u, h, h2 => by
  cases t <;> simp only [Ty.at, reduceCtorEq] at h2
  exact lr_ok (q := q) h h2
 | .R :: q, t, u, h, h2 => by
  cases t <;> simp only [Ty.at, reduceCtorEq] at h2
  exact lr_ok (q := q) h h2
 | .X _ :: _, _, _, h, _ => by cases h
 | .S _ _ :: _, _, _, h, _ => by cases h
noncomputable def lpFz (ob : Nat) (q : Path) (lp : Lp) : Lp where
 run s K := match s.h ob with
  | some (.obj t x) => match t.get x q with
   | some ⟨.sl u, .ms id [] 0 n⟩ => match stillSl s.h u id [] 0 n with
    | some y => match t.set x q (.sl u) y with
     | some z => bif lrB q then lp.run { s with hp := (ob, .obj t z) :: (id, .dead) :: s.hp } K else none
     | none => none
    | none => none
   | _ => lp.run s K
  | _ => none
theorem splice_self {cs : List Value} {o n : Nat} (h : o + n ≤ cs.length) : splice cs o ((cs.drop o).take n) = cs := by
 have hl : ((cs.drop o).take n).length = n := by simp; omega
 apply List.ext_getElem?
 intro j
 rw [splice_getElem? (by omega), hl]
 by_cases hj : o ≤ j ∧ j < o + n
 ·rw [if_pos hj, List.getElem?_take_of_lt (by omega), List.getElem?_drop]; congr 1; omega
 ·rw [if_neg hj]
theorem lpFz_ok {P : Program} {id : Nat} {body : Code} {lp : Lp} (ob : Nat) (q : Path) (ha : LpOk P id body lp) : LpOk P id body (lpFz ob q lp) := by
 intro R s K x h
 simp only [lpFz] at h
 split at h
 ·rename_i t y0 ho
  split at h
  ·rename_i u rid n hg
   split at h
   ·rename_i y hy
    split at h
    ·rename_i z hz
     cases hlr : lrB q
     ·rw [hlr] at h; cases h
     rw [hlr] at h
     simp only [cond_true] at h
     intro B ρ a w hr hf
     obtain ⟨o, k, g, hro, hrg, hrb, _⟩ := stillSl_spec hy
     have hne : ob ≠ rid := by
      intro e
      subst e
      rw [ho] at hro
      cases hro
      simp only [rowSh, PO.get, Ty.get_nil, Option.some.injEq, Sigma.mk.injEq, Bool.or_false] at hrg hrb
      obtain ⟨e, _⟩ := hrg
      subst e
      cases q with
      | nil => rw [Ty.get_nil] at hg; cases hg
      | cons st q =>
       have hat := Ty.at_of_get hg
       have hfl : ∀ {q : Path} {t v : Ty}, t.flat = true → t.at q = some v → v.flat = true := by
        intro q
        induction q with
        | nil => intro t v h1 h2; rw [Ty.at_nil] at h2; cases h2; exact h1
        | cons st q ih =>
         intro t v h1 h2
         cases t <;> cases st <;> simp only [Ty.at, reduceCtorEq] at h2
         ·simp only [Ty.flat, Bool.and_eq_true] at h1; exact ih h1.1 h2
         ·simp only [Ty.flat, Bool.and_eq_true] at h1; exact ih h1.2 h2
         ·rename_i t0 _; exact ih (t := t0) h1 h2
         ·rename_i t0 _ m0; exact ih (t := .arr m0 t0) (by exact h1) h2
       have := hfl (t := .arr k u) hrb hat
       cases this
     -- the object's own place
     obtain ⟨loc, hloc, hor⟩ : ∃ loc, ρ ob = some loc ∧ OR ρ w loc (.obj t y0) := by
      rcases hr.obj _ _ ho with (h | ⟨_, _, _, _, _, h⟩) | h
      ·cases h
      ·cases h
      ·exact h
     obtain ⟨e1, hW, cs, T, hcs, hb, hh⟩ := hor
     subst e1
     -- the row stands still
     obtain ⟨ρ1, g1, g2, g3, g4, g5⟩ : ∃ ρ1, RelR B ρ1 { s with hp := (rid, .dead) :: s.hp } a w ∧ Later ρ w ρ1 w ∧ ρ1.f = ρ.f ∧ (∀ b, ρ1.A b → ρ.A b) ∧ ∀ l0, ρ rid = some l0 → ¬ ρ1.A l0.blk := by
      cases hl : ρ rid with
      | none => exact ⟨ρ, hr.kill rid, Later.refl _ _, rfl, fun _ h => h, fun l0 h => by cases h⟩
      | some l0 =>
       obtain ⟨ρ1, h1, h2, h3, h4, h5⟩ := hr.freeze hro (PO.ne_dead hrg) hl
       exact ⟨ρ1, h1, h2, h3, h4, fun l1 h => by cases h; exact h5⟩
     have ho1 : look ({ s with hp := (rid, .dead) :: s.hp } : DS).hp ob = some (.obj loc.ty y0) := by
      show look ((rid, PO.dead) :: s.hp) ob = _
      rw [look_cons, if_neg (fun e => hne e.symm)]; exact ho
     have hl1 : ρ1 ob = some loc := by rw [g3]; exact hloc
     have hor1 := g1.live ho1 (by intro e; cases e) hl1
     have hp : loc.ty.okP q := lr_ok hlr (Ty.at_of_get hg)
     have hst := g1.store ho1 (o' := .obj loc.ty z) (by intro e; cases e) (by intro e; cases e) hl1 w rfl (fun _ _ => rfl) rfl rfl rfl (fun _ _ => rfl) (fun _ => by
      obtain ⟨e2, hW1, cs1, T1, hcs1, hb1, hh1⟩ := hor1
      refine ⟨rfl, hW1, cs1, T1, ?_, hb1, hh1⟩
      have hsub := hcs1.get hp hg
      have hle := Ty.off_le hp (Ty.at_of_get hg)
      simp only [Ty.size] at hsub hle
      have hcl := hcs1.length
      have hsub0 : Rd ρ w (.sl u) (.ms rid [] 0 n) ((cs1.drop (loc.ty.off q)).take 1) := by
       have hcse : cs1 = cs := by
        rw [hb] at hb1; cases hb1; rfl
       subst hcse
       exact hcs.get hp hg
      have h6 := stillSl_core hr ρ1.A g4 g5 hsub0 hy
      have h7 := Rd.openIn (ρ := ρ1) h6
      have h8 := hcs1.set hp hz h7
      rw [splice_self (by omega)] at h8
      exact h8)
     obtain ⟨hr2, hL⟩ := hst
     have := ha R _ K x h B ρ1 a w hr2 (fun id hid => by rw [g3]; exact hf id hid)
     refine wp_mono this ?_
     rintro e a' w' ⟨s', ρ', p1, p2, p3, p4, p5⟩
     exact ⟨s', ρ', p1, p2, p3, p4, fun hl => g2.trans (p5 hl)⟩
    ·cases h
   ·cases h
  ·exact ha R s K x h
 ·cases h
end Go.Den
