/-
  What the statements of a layer share.
-/
import Derived.Test.YtkhhonbkgckjjaaGreatDenI
import Derived.Test.YtkhhonbkgckjjaaGreatPlA
import Derived.Test.YtkhhonbkgckjjaaGreatPseek
import Derived.Test.YtkhhonbkgckjjaaGreatEqA
import Derived.Test.YtkhhonbkgckjjaaGreatEseek
import Derived.Test.YtkhhonbkgckjjaaGreatMH
set_option linter.unusedVariables false
set_option linter.unusedSimpArgs false
set_option maxRecDepth 100000
set_option maxHeartbeats 0
namespace Go.Pl
end Go.Pl
open Go Go.Den Go.Pl
namespace Go.Pl
open Go.IntKind (i64 u64 u32 u8)
noncomputable def l37_of' (n : Int) : Option (NI) :=
 match (r01_Int n) with
 | none => none
 | some r => (
 some r)
noncomputable def l37_of := veil l37_of'
theorem l37_of_eq : l37_of = l37_of' := veil_eq _
noncomputable def l37_awake'  : Option (Bool) :=
 match (seek_First 65500) with
 | none => none
 | some r => (
 match (l37_of 101) with
 | none => none
 | some r1 => (
 match (seek_Next r1 11 (fun _ => 0)) with
 | none => none
 | some r2 => (
 match (l37_of 607) with
 | none => none
 | some r3 => (
 match (l37_of 101) with
 | none => none
 | some r4 => (
 match (seek_Spawn r3 r4) with
 | none => none
 | some r5 => (
 bif (r.1 == 65519) then (
 bif (r.2 == 0) then (
 bif (r2.2 == 0) then (
 match (l37_of 1213) with
 | none => none
 | some r6 => (
 bif (eqF (.arr 4 (.int .u64)) r2.1.1 r6) then (
 bif (r2.1.2 == 2) then (
 match (l37_of 101) with
 | none => none
 | some r7 => (
 match (prime_Step r2.1.1 r7 r2.1.2) with
 | none => none
 | some r8 => (
 bif r8 then (
 bif (r5.2 == 0) then (
 match (l37_of 64) with
 | none => none
 | some r9 => (
 some (eqF (.arr 4 (.int .u64)) r5.1 r9)))
 else (
 some false))
 else (
 some false))))
 else (
 some false))
 else (
 some false)))
 else (
 some false))
 else (
 some false))
 else (
 some false)))))))
noncomputable def l37_awake := veil l37_awake'
theorem l37_awake_eq : l37_awake = l37_awake' := veil_eq _
end Go.Pl

namespace Go.Proofs.YtkhhonbkgckjjaaGreat
noncomputable def c_l37_of : Con := conV true [tI] [tN] fun x => l37_of x.1
noncomputable def x_l37_of : Cx := { ti := ti, con := [(20, c12_)], fns := [], un := 6 }
theorem xok_l37_of : CxOk Tryz.prog x_l37_of := CxOk.of mixed ti_ok (fc ⟨con12_, fz⟩) fz
theorem fn_l37_of : FnOk Tryz.prog 9 Tryz.f9 [] := ⟨Tryz.func9, Tryz.call9, lps_nil⟩
theorem e_l37_of (n : Int) : bodyK x_l37_of [] (denF x_l37_of 8) Tryz.f9 (domV [tI] (n, ())) [] 0 (kOut [tN]) = l37_of' n := by kernel_rfl
theorem con_l37_of : ConOk Tryz.prog 9 c_l37_of := con_ok xok_l37_of 8 fn_l37_of true [tI] [tN] _ (by decide) (fun x => by rw [l37_of_eq]; exact e_l37_of x.1)
noncomputable def c_l37_awake : Con := conV true [] [.bool] fun x => l37_awake 
noncomputable def x_l37_awake : Cx := { ti := ti, con := [(7, c20_), (9, c_l37_of), (8, c25_), (10, c26_), (11, c0y_)], fns := [], un := 6 }
theorem xok_l37_awake : CxOk Tryz.prog x_l37_awake := CxOk.of mixed ti_ok (fc ⟨con20_, fc ⟨con_l37_of, fc ⟨con25_, fc ⟨con26_, fc ⟨con0y_, fz⟩⟩⟩⟩⟩) fz
theorem fn_l37_awake : FnOk Tryz.prog 4 Tryz.f4 [] := ⟨Tryz.func4, Tryz.call4, lps_nil⟩
theorem e_l37_awake  : bodyK x_l37_awake [] (denF x_l37_awake 8) Tryz.f4 (domV [] (())) [] 0 (kOut [.bool]) = l37_awake'  := by kernel_rfl
theorem con_l37_awake : ConOk Tryz.prog 4 c_l37_awake := con_ok xok_l37_awake 8 fn_l37_awake true [] [.bool] _ (by decide) (fun x => by rw [l37_awake_eq]; exact e_l37_awake )
end Go.Proofs.YtkhhonbkgckjjaaGreat

set_option maxRecDepth 4000
namespace Go.Pl
open Go Go.Den Go.Num
theorem l37_of_l (n : Nat) (hn : (OfNat.ofNat n : Nat) < 9223372036854775808) : ∃ a, l37_of (no_index (OfNat.ofNat n : Int)) = some a ∧ IsN a (OfNat.ofNat n) := by
  obtain ⟨a, h1, h2⟩ := r01_Int_spec (n := ((OfNat.ofNat n : Nat) : Int)) (by omega)
  refine ⟨a, ?_, h2⟩
  have h1' : r01_Int (no_index (OfNat.ofNat n : Int)) = some a := h1
  rw [l37_of_eq, l37_of', h1']
theorem prime_65519 : Pr 65519 := prime_tries (r := 255) (by decide) (by decide) (by decide +kernel)
theorem prime_101 : Pr 101 := prime_tries (r := 10) (by decide) (by decide) (by decide)
theorem no_prime_65500 : ∀ k, 65500 ≤ k → k < 65519 → ¬ Pr k := by
  have h : ∀ k, k < 19 → ∃ d, d < 256 ∧ 2 ≤ d ∧ (65500 + k) % d = 0 := by decide +kernel
  intro k h1 h2 hp
  obtain ⟨d, d1, d2, d3⟩ := h (k - 65500) (by omega)
  rw [show 65500 + (k - 65500) = k by omega] at d3
  rcases hp.2 d (Nat.dvd_of_mod_eq_zero d3) with h3 | h3 <;> omega
theorem first_65500 : seek_First 65500 = some (65519, 0) := by
  obtain ⟨n, h1, h2, h3, h4, h5⟩ := seek_First_spec (a := 65500) (by decide)
  have : n = 65519 := by
    have a1 : ¬ n < 65519 := fun h => no_prime_65500 n h2 h h4
    have a2 : ¬ 65519 < n := fun h => h5 65519 (by decide) h prime_65519
    omega
  subst this
  exact h1
theorem wit_1213 : StepP 1213 101 ((2 : Nat) : Int) := by decide +kernel
theorem next_101 : nextM 101 11 0 = some (1213, 2) := by
  have hw : witL 1213 101 = some 2 := witL_some (by decide) (by decide) wit_1213 (fun k h1 h2 => by omega)
  have hk : leastK 101 11 = 12 := by decide +kernel
  rw [nextM, hk]
  show searchN 101 11 (1023 + 1) 12 = _
  rw [searchN_succ, if_neg (by decide +kernel)]
  show (match witL 1213 101 with
    | some a => some (1213, a)
    | none => searchN 101 11 1023 (12 + 2)) = _
  rw [hw]
theorem spawn_607 : spawnN 607 ((607 - 1) / 101) 99 2 = some 64 := by
  show spawnN 607 6 (98 + 1) 2 = _
  rw [spawnN_succ, if_neg (by decide)]
theorem l37_awake_true : l37_awake = some true := by
  obtain ⟨a101, a1, a2⟩ : ∃ a, l37_of 101 = some a ∧ IsN a 101 := l37_of_l 101 (by decide)
  obtain ⟨a607, b1, b2⟩ : ∃ a, l37_of 607 = some a ∧ IsN a 607 := l37_of_l 607 (by decide)
  obtain ⟨a1213, c1, c2⟩ : ∃ a, l37_of 1213 = some a ∧ IsN a 1213 := l37_of_l 1213 (by decide)
  obtain ⟨a64, d1, d2⟩ : ∃ a, l37_of 64 = some a ∧ IsN a 64 := l37_of_l 64 (by decide)
  have hl : blen 101 = 7 := by decide +kernel
  obtain ⟨n, n1, n2⟩ := (seek_Next_spec (b := 11) a2 IsN.zero prime_101 (by decide) (by decide) (by omega) (by omega) (by decide)).2 1213 2 next_101
  have n1' : seek_Next a101 11 (fun _ => 0) = some ((n, 2), 0) := n1
  obtain ⟨x, x1, x2⟩ := (seek_Spawn_spec b2 a2 (by decide) (by decide) (by decide) (by decide)).2 64 spawn_607
  have hs : prime_Step n a101 2 = some true := by
    rw [prime_Step_spec n2 a2 2]
    congr 1
  rw [l37_awake_eq, l37_awake', first_65500]
  simp only [a1, b1, c1, d1, n1', x1, n2.eqb c2, x2.eqb d2, hs, decide_true, show ((65519 : Int) == 65519) = true from rfl, show ((0 : Int) == 0) = true from rfl, show ((2 : Int) == 2) = true from rfl, cond_true]
end Go.Pl
