/-
  The library's functions, by contracts.
-/
import Derived.Test.YtidodcilgldjoaaGreatEqA
import Derived.Test.YtidodcilgldjoaaGreatShelf
import Derived.Test.YtidodcilgldjoaaGreatDenM
import Derived.WalkKit
import Derived.WalkSpells
import Derived.StillTactics
import Derived.Laws.Pointers
import Derived.RowKit3
import Derived.BigQuiet
import Derived.Deep.QuietTactic
import Derived.IntWalk
import Derived.Shelf.RegionOpenPlain
import Derived.Lib.Walk
import Derived.Lib.UnsafeStr
import Derived.Laws.Externs
import Derived.Test.YtidodcilgldjoaaGreatDenL
set_option linter.unusedVariables false
set_option linter.unusedSimpArgs false
set_option maxRecDepth 100000
set_option maxHeartbeats 0
namespace Go.Pl
end Go.Pl
open Go Go.Den Go.Pl
namespace Go.Proofs.YtidodcilgldjoaaGreat
open Go.RowKit in
theorem aeJ(b:Nat)(w:World)(h0:w.cell? ⟨b,0,none⟩=some (.pointer (some ⟨b,0,none⟩))):
    Calls Tryz.prog 122 #[.pointer (some ⟨b,0,none⟩)] w fun e w'=>e= .returned (.tuple #[])∧w'=w:=by
  obtain⟨j,hj,_⟩:=Option.map_eq_some_iff.1 (show(Tryz.prog.info? 82).map (·.size)=some 2 by kernel_rfl)
  go_enter Tryz.func122,Tryz.ntmps122
  go_wp2
  rw[Lib.run_neq_ptr_same w _ Tryz.underlying80 hj]
  go_wp2
  go_end0
  exact⟨rfl,rfl⟩
open Go.RowKit in
theorem a1f(b:Nat)(w:World)(e:TypeId)(n:Nat)(h0:w.cell? ⟨b,0,none⟩=some (.pointer none))(hsh:w.shape? b=some (e,n))(hfz:w.frozen? ⟨b,0,none⟩=false)
    (hn:0<n) (hl:liesAt Tryz.prog Tryz.prog.depth e (n/Tryz.prog.cellsOf e) 0 82 1=true):
    Calls Tryz.prog 122 #[.pointer (some ⟨b,0,none⟩)] w fun e w'=>e= .returned (.tuple #[])∧w'=w.setCell ⟨b,0,none⟩ (.pointer (some ⟨b,0,none⟩)):=by
  obtain⟨j,hj,hjs⟩:=Option.map_eq_some_iff.1 (show(Tryz.prog.info? 82).map (·.size)=some 2 by kernel_rfl)
  go_enter Tryz.func122,Tryz.ntmps122
  go_wp2
  rw[Lib.run_to_unsafe w ⟨b,0,none⟩ Tryz.underlying80 Tryz.underlying259 hj (by rw[hjs]; decide) hsh hn]
  simp only[Result.andThen]
  rw[Oper.upon_value]
  go_wp2
  rw[run_callFunc_extern Tryz.func162 (by kernel_rfl) (by kernel_rfl) (by kernel_rfl) (e:=Extern.AbiNoEscape.same) (by kernel_rfl)]
  rw[Lib.run_noEscape]
  simp only[Result.andThen]
  rw[Oper.upon_value]
  go_wp2
  rw[Lib.run_from_unsafe w ⟨b,0,none⟩ Tryz.underlying259 Tryz.underlying80 hj hsh hl]
  simp only[Result.andThen]
  rw[Oper.upon_value]
  go_wp2
  go_end0
  exact⟨rfl,rfl⟩
theorem a5Y(b:Nat)(w:World)(e:TypeId)(n:Nat)(h0:w.cell? ⟨b,0,none⟩=some (.pointer none))(hsh:w.shape? b=some (e,n))(hfz:w.frozen? ⟨b,0,none⟩=false)(h:(e=82∧n=2)∨(e=VK∧n=2+Ty.size .bool)):
    Calls Tryz.prog 122 #[.pointer (some ⟨b,0,none⟩)] w fun e w'=>e= .returned (.tuple #[])∧w'=w.setCell ⟨b,0,none⟩ (.pointer (some ⟨b,0,none⟩)):=by
  rcases h with⟨rfl,rfl⟩|⟨rfl,rfl⟩
  · exact a1f b w _ _ h0 hsh hfz (by decide) (by kernel_rfl)
  · exact a1f b w _ _ h0 hsh hfz (by decide) (by kernel_rfl)
noncomputable def wG:Con:=U3 82 .bool
theorem vS:aD Tryz.prog 122 wG:=a4d Tryz.call122 aeJ a5Y
noncomputable def QU:Con:=Cj 9
theorem QV:aD Tryz.prog 107 QU:=WU Tryz.call107 Tryz.slices_Clone_string_nil Tryz.slices_Clone_string_zero Tryz.slices_Clone_string
open Go.RowKit in
theorem quota(b o:Nat)(n m e:Int)(w:World)(h0:w.cell? ⟨b,o,none⟩=some (.int .i64 n))(h1:w.cell? ⟨b,o+1,none⟩=some (.int .i64 m)):
    Calls Tryz.prog 105 #[.pointer (some ⟨b,o,none⟩),.int .i64 e] w fun r w'=>r= .returned (.int .i64 (BD n m e))∧w'.heap=w.heap∧w'.os=w.os∧w'.tape=w.tape∧w'.output=w.output:=by
  have hw: ∀x,IntKind.i64.wrap x=wrap64 x:=fun x=>by rw[IntKind.wrap_i64]; unfold wrap64; rfl
  by_cases c1:e<1
  · have d1:decide (e<1)=true:=by simpa using c1
    have hv:BD n m e=0:=by unfold BD; rw[if_pos (.inl c1)]
    go_enter Tryz.func105,Tryz.ntmps105
    go_wp2
    go_quiet (fail)
    go_wp2
    go_ret
    exact⟨by rw[hv]; rfl,rfl,rfl,rfl,rfl⟩
  · have d1:decide (e<1)=false:=by simpa using c1
    by_cases c2:IntKind.i64.wrap (n+m)<e
    · have d2:decide (wrap64 (n+m)<e)=true:=decide_eq_true (by rw[←hw]; exact c2)
      have hv:BD n m e=0:=by unfold BD; rw[if_pos (.inr c2)]
      go_enter Tryz.func105,Tryz.ntmps105
      go_wp2
      go_quiet (fail)
      go_wp2
      go_ret
      exact⟨by rw[hv]; rfl,rfl,rfl,rfl,rfl⟩
    · have d2:decide (wrap64 (n+m)<e)=false:=decide_eq_false (by rw[←hw]; exact c2)
      have c12: ¬(e<1∨IntKind.i64.wrap (n+m)<e):=fun h=>h.elim c1 c2
      by_cases c3:e≤n
      · have d3:decide (e≤n)=true:=by simpa using c3
        have hv:BD n m e=IntKind.i64.wrap (IntKind.i64.wrap (m*n)*4):=by unfold BD; rw[if_neg c12,if_pos c3]
        rw[hw,hw]at hv
        go_enter Tryz.func105,Tryz.ntmps105
        go_wp2
        go_quiet (fail)
        go_wp2
        go_quiet (fail)
        go_wp2
        go_ret
        exact⟨by rw[hv]; rfl,rfl,rfl,rfl,rfl⟩
      · have d3:decide (e≤n)=false:=by simpa using c3
        have hv:BD n m e=4:=by unfold BD; rw[if_neg c12,if_neg c3]
        go_enter Tryz.func105,Tryz.ntmps105
        go_wp2
        go_quiet (fail)
        go_wp2
        go_ret
        exact⟨by rw[hv]; rfl,rfl,rfl,rfl,rfl⟩
open Go.RowKit in
theorem aeK(e:Int)(w:World):Calls Tryz.prog 105 #[.pointer none,.int .i64 e] w fun r w'=>r= .returned (.int .i64 0)∧w'.heap=w.heap∧w'.os=w.os∧w'.tape=w.tape∧w'.output=w.output:=by
  go_enter Tryz.func105,Tryz.ntmps105
  go_wp2
  go_quiet (fail)
  go_wp2
  go_ret
  exact⟨rfl,rfl,rfl,rfl,rfl⟩
noncomputable def Xt:Con:=MO (.pair (.sl .str) .mp) BD
theorem a0a:aD Tryz.prog 105 Xt:=a2l Tryz.call105 quota aeK
end Go.Proofs.YtidodcilgldjoaaGreat
