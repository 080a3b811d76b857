/-
  More of groups.
-/
import Derived.Test.YtccbdhpcblfopaaGreatMD
set_option linter.unusedVariables false
set_option linter.unusedSimpArgs false
namespace Go.Pl
open Go Go.Den Go.Num
section
variable {g : GroupT} {P Q G : Nat}
theorem IsGroup.pow_in (h : IsGroup g P Q G) (e : Nat) : (G ^ e % P) ≠ 0 ∧ G ^ e % P < P ∧ (G ^ e % P) ^ Q % P = 1 := by
  have hQ : 0 < Q := h.qpos
  have h1 : (G ^ e % P) ^ Q % P = 1 := by
    rw [← Nat.pow_mod, ← Nat.pow_mul, Nat.mul_comm, Nat.pow_mul, Nat.pow_mod, h.order, Nat.one_pow]
    exact Nat.mod_eq_of_lt h.pp.1
  refine ⟨fun h0 => ?_, Nat.mod_lt _ h.ppos, h1⟩
  rw [h0, Nat.zero_pow hQ] at h1
  simp at h1
end
theorem two_nats {a b : Nat → Int} {x y : Nat} (ha : IsN a x) (hb : IsN b y) : ∀ i, i < 2 → IsN ((fun j => upd (upd (fun _ => fun _ => 0) 0 a) 1 b (0 + j)) i) ((fun i => if i = 0 then x else y) i) := fun i hi => by
  rcases (show i = 0 ∨ i = 1 by omega) with rfl | rfl
  · exact ha
  · exact hb
end Go.Pl
