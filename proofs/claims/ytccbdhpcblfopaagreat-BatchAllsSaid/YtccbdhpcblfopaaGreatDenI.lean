/-
 The plain reading of code: texts joined and repeated, builders.
-/
import Derived.Test.YtccbdhpcblfopaaGreatDenG
import Derived.Lib.Join
import Derived.Lib.Repeat
import Derived.Lib.Builder
set_option linter.unusedVariables false
set_option linter.unusedSimpArgs false
namespace Go.Den
open Go.RowKit
abbrev bldTy (TB : TypeId) : Ty := .pair (.sp TB) (.sl (.int .u8))
def conCC (TB : TypeId) : Con where
 fp args _ := (argIds args, argIds args)
 run args h nx K := match args with
  | [.v ⟨.ptr _, .rf id []⟩] => match h id with
   | some (.obj t _) => if t = bldTy TB then K (.tup []) [] 0 else none
   | _ => none
  | _ => none
theorem conCC_ok {P : Program} {f : FuncId} {TB : TypeId} (hent : ∀ args w, (callFunc f args).run P w = .ok (.enter f args) w)
  (Hused : ∀ (b : Nat) (w : World), w.cell? ⟨b, 0, none⟩ = some (.pointer (some ⟨b, 0, none⟩)) → Calls P f #[.pointer (some ⟨b, 0, none⟩)] w fun e w' => e = .returned (.tuple #[]) ∧ w' = w)
  (Hfresh : ∀ (b : Nat) (w : World), w.cell? ⟨b, 0, none⟩ = some (.pointer none) → w.shape? b = some (TB, 2) → w.frozen? ⟨b, 0, none⟩ = false → Calls P f #[.pointer (some ⟨b, 0, none⟩)] w fun e w' => e = .returned (.tuple #[]) ∧ w' = w.setCell ⟨b, 0, none⟩ (.pointer (some ⟨b, 0, none⟩))) :
  ConOk P f (conCC TB) where
 loc args h h' nx r hh hr := by
  refine ⟨?_, rfl⟩
  unfold conCC at hr hh ⊢
  simp only at hr hh ⊢
  split at hr
  ·rename_i t id
   rw [← hh id (by simp [argIds])]; exact hr
  ·cases hr
 upd args h nx r hr := by
  unfold conCC at hr
  simp only at hr
  split at hr
  ·split at hr
   ·split at hr
    ·cases hr; intro x hx; cases hx
    ·cases hr
   ·cases hr
  ·cases hr
 nat R args h nx K := by
  unfold conCC
  simp only
  split
  ·split
   ·split <;> rfl
   ·rfl
  ·rfl
 sound B ρ s a w nx args vargs r hr hnx hv h := by
  unfold conCC at h
  simp only at h
  split at h
  ·rename_i u id
   split at h
   ·rename_i t x ho
    split at h
    ·rename_i ht
     subst ht
     cases h
     match vargs, hv with
     | [v], ⟨hv, _⟩ =>
      obtain ⟨loc, hloc, hok, hat, _, rfl⟩ := VR.ptrRf hv
      obtain ⟨e1, hW, cs, T, hc, hb, hhd⟩ := hr.live ho (by intro e; cases e) hloc
      rw [Ty.off_nil]
      obtain ⟨hT, hcell⟩ := hhd TB rfl
      replace hat : True := trivial
      subst hT
      have hl := hc.length
      match cs, hl with
      | [c0, c1], _ =>
       have h0 : w.cell? ⟨loc.blk, 0, none⟩ = some c0 := by simp [World.cell?, hb]
       refine .inr ⟨hent _ _, ?_⟩
       rcases hcell c0 rfl with rfl | rfl
       ·refine (Hfresh loc.blk w h0 (by simp [World.shape?, hb]) (frozen_zero hb _ rfl)).mono ?_
        rintro e w' ⟨rfl, rfl⟩
        refine ⟨_, rfl, ρ, ?_⟩
        have hset : (w.setCell ⟨loc.blk, 0, none⟩ (.pointer (some ⟨loc.blk, 0, none⟩))).heap[loc.blk]? = some (.cells #[.pointer (some ⟨loc.blk, 0, none⟩), c1] T (0, 0)) := by
         simp [World.setCell, Array.getElem?_modify, hb]
        obtain ⟨h3, h4⟩ := hr.store ho (by intro e; cases e) (by intro e; cases e) hloc (w.setCell ⟨loc.blk, 0, none⟩ (.pointer (some ⟨loc.blk, 0, none⟩))) (by simp [World.setCell]) (fun b hb => by simp [World.setCell, Array.getElem?_modify, Ne.symm hb]) rfl rfl rfl (frozen_mark hb hset) (o' := .obj (bldTy T) x)
         (fun L => ⟨e1, hW, [.pointer (some ⟨loc.blk, 0, none⟩), c1], T, ⟨⟨_, rfl, rfl⟩, (show Rd ρ w (.sl (.int .u8)) x.2 [c1] from hc.2).later L⟩, hset, fun T0 h => ⟨(hhd T0 h).1, fun v hv => by cases hv; exact .inr rfl⟩⟩)
        refine ⟨h3.alike ⟨fun _ => rfl, fun i => ?_, rfl, rfl⟩, h4, ⟨[], rfl, trivial⟩, fun _ _ => rfl⟩
        show look ((id, PO.obj (bldTy T) x) :: s.hp) i = look s.hp i
        rw [look_cons]
        split
        ·rename_i e; subst e; exact ho.symm
        ·rfl
       ·refine (Hused loc.blk w h0).mono ?_
        rintro e w' ⟨rfl, rfl⟩
        exact ⟨_, rfl, ρ, ⟨hr, Later.refl _ _, ⟨[], rfl, trivial⟩, fun _ _ => rfl⟩⟩
    ·cases h
   ·cases h
  ·cases h
def strJoin' (n : Nat) (f : Nat → ByteArray) (sep : ByteArray) : Option ByteArray :=
 let r := Lib.join (((List.range n).map f).map (·.data.toList)) sep.data.toList
 bif Nat.ble r.length 140737488355328 && Nat.ble n 140737488355328 then some ⟨r.toArray⟩ else none
noncomputable def strJoin : Nat → (Nat → ByteArray) → ByteArray → Option ByteArray := veil strJoin'
theorem strJoin_eq (n : Nat) (f : Nat → ByteArray) (sep : ByteArray) : strJoin n f sep = strJoin' n f sep := by unfold strJoin; rw [veil_eq]
def strRepeat' (s : ByteArray) (c : Int) : Option ByteArray :=
 bif decide (0 ≤ c) && Nat.ble c.toNat 9223372036854775807 && Nat.ble (s.size * c.toNat) 140737488355328 then some ⟨(Lib.repeatL s.data.toList c.toNat).toArray⟩ else none
noncomputable def strRepeat : ByteArray → Int → Option ByteArray := veil strRepeat'
theorem strRepeat_eq (s : ByteArray) (c : Int) : strRepeat s c = strRepeat' s c := by unfold strRepeat; rw [veil_eq]
theorem strRepeat_ok {P : Program} {f : FuncId} (hent : ∀ args w, (callFunc f args).run P w = .ok (.enter f args) w)
  (H : ∀ (s : ByteArray) (c : Nat) (w : World), c ≤ 9223372036854775807 → s.size * c ≤ 140737488355328 → Calls P f #[.string s, .int .i64 c] w fun e w' => e = .returned (.string ⟨(Lib.repeatL s.data.toList c).toArray⟩) ∧ Below w.heap.size w w') :
  ConOk P f (conV true [.str, .int .i64] [.str] fun x => strRepeat x.1 x.2.1) := by
 refine conV_of hent _ _ _ rfl fun w xs res vargs hv hi => ?_
 obtain ⟨s, c, _⟩ := xs
 rw [strRepeat_eq] at hi
 simp only [strRepeat'] at hi
 cases hb : decide (0 ≤ c) && Nat.ble c.toNat 9223372036854775807 && Nat.ble (s.size * c.toNat) 140737488355328
 ·rw [hb] at hi; cases hi
 ·rw [hb] at hi; cases hi
  simp only [Bool.and_eq_true, decide_eq_true_eq] at hb
  match vargs, hv with
  | [v1, v2], ⟨h1, h2, _⟩ =>
   have e1 := VR.str h1; have e2 := VR.int h2
   subst e1; subst e2
   have h := H s c.toNat w (Nat.le_of_ble_eq_true hb.1.2) (Nat.le_of_ble_eq_true hb.2)
   rw [Int.toNat_of_nonneg hb.1.1] at h
   exact h.mono fun e w' ⟨he, hw⟩ => ⟨_, he, hw, VR.mkStr⟩
theorem strJoin_ok {P : Program} {f : FuncId} (hent : ∀ args w, (callFunc f args).run P w = .ok (.enter f args) w)
  (H0 : ∀ (a : Option Addr) (c : Nat) (sep : ByteArray) (w : World), Calls P f #[.slice a 0 c, .string sep] w fun e w' => e = .returned (.string ⟨#[]⟩) ∧ w' = w)
  (H : ∀ (bk o c : Nat) (xs : List ByteArray) (sep : ByteArray) (w : World), (∀ (j : Nat) x, xs[j]? = some x → w.cell? ⟨bk, o + j, none⟩ = some (.string x)) → bk < w.heap.size → xs.length ≤ 140737488355328 → xs.length ≤ c →
   (Lib.join (xs.map (·.data.toList)) sep.data.toList).length ≤ 140737488355328 → Calls P f #[.slice (some ⟨bk, o, none⟩) xs.length c, .string sep] w fun e w' => e = .returned (.string ⟨(Lib.join (xs.map (·.data.toList)) sep.data.toList).toArray⟩) ∧ Below w.heap.size w w') :
  ConOk P f (conV true [.sl .str, .str] [.str] fun x => strJoin x.1.1 x.1.2 x.2.1) := by
 refine conV_of hent _ _ _ rfl fun w xs res vargs hv hi => ?_
 obtain ⟨⟨n, f'⟩, sep, _⟩ := xs
 rw [strJoin_eq] at hi
 simp only [strJoin'] at hi
 generalize hr : Lib.join (((List.range n).map f').map (·.data.toList)) sep.data.toList = r at hi
 cases hb : Nat.ble r.length 140737488355328 && Nat.ble n 140737488355328
 ·rw [hb] at hi; cases hi
 ·rw [hb] at hi; cases hi
  simp only [Bool.and_eq_true] at hb
  match vargs, hv with
  | [v1, v2], ⟨h1, h2, _⟩ =>
   have e2 := VR.str h2
   subst e2
   obtain ⟨ad, cap, rfl, hnc, hall⟩ := VR.slFz h1
   rcases Nat.eq_zero_or_pos n with h0 | h0
   ·subst h0
    refine (H0 ad cap sep w).mono fun e w' ⟨he, hw⟩ => ⟨_, he, hw ▸ Below.refl _ _, ?_⟩
    have : r = [] := by rw [← hr]; rfl
    subst this
    exact VR.mkStr
   ·obtain ⟨b, o, c0, hab, _, hfz0⟩ := hall 0 h0
    subst hab
    have h := H b o cap ((List.range n).map f') sep w (fun j x hj => by
     simp only [List.getElem?_map, Option.map_eq_some_iff] at hj
     obtain ⟨i, hi, rfl⟩ := hj
     have hlt : j < n := by have := (List.getElem?_eq_some_iff.1 hi).1; simpa using this
     have ei : i = j := by have := (List.getElem?_eq_some_iff.1 hi).2; simpa using this.symm
     subst ei
     obtain ⟨b', o', c, hab', hrd, hfz⟩ := hall i hlt
     cases hab'
     have : c = [.string (f' i)] := hrd
     subst this
     have := hfz.2.2 0 _ rfl
     simpa [Ty.size] using this) hfz0.2.1 (by simpa using Nat.le_of_ble_eq_true hb.2) (by simpa using hnc) (by rw [hr]; exact Nat.le_of_ble_eq_true hb.1)
    rw [hr] at h
    simp only [List.length_map, List.length_range] at h
    exact h.mono fun e w' ⟨he, hw⟩ => ⟨_, he, hw, VR.mkStr⟩
end Go.Den
