/-
  The library's functions, by contracts.
-/
import Derived.Test.YtlohbhpbkieoeaaGreatEqA
import Derived.Test.YtlohbhpbkieoeaaGreatShelf
import Derived.Test.YtlohbhpbkieoeaaGreatDenM
import Derived.WalkKit
import Derived.WalkSpells
import Derived.StillTactics
import Derived.Laws.Pointers
import Derived.RowKit3
import Derived.BigQuiet
import Derived.Deep.QuietTactic
import Derived.IntWalk
import Derived.Shelf.RegionOpenPlain
import Derived.Lib.Walk
import Derived.Lib.UnsafeStr
import Derived.Laws.Externs
import Derived.Test.YtlohbhpbkieoeaaGreatDenL
set_option linter.unusedVariables false
set_option linter.unusedSimpArgs false
set_option maxRecDepth 100000
set_option maxHeartbeats 0
namespace Go.Pl
end Go.Pl
open Go Go.Den Go.Pl
namespace Go.Proofs.YtlohbhpbkieoeaaGreat
noncomputable section
open Go.RowKit in
theorem afW(b:Nat)(w:World)(h0:w.cell? ⟨b,0,none⟩=some (.pointer (some ⟨b,0,none⟩))):
    Calls Tryz.prog 128 #[.pointer (some ⟨b,0,none⟩)] w λe w'=>e= .returned (.tuple #[])/\w'=w:=by
  obtain⟨j,hj,_⟩:=axr.1 (show(Tryz.prog.info? 131).map (·.size)=some 2 by kernel_rfl)
  go_enter Tryz.func128,Tryz.ntmps128
  go_wp2
  rw[Lib.run_neq_ptr_same w _ Tryz.underlying129 hj]
  go_wp2
  go_end0
  exact⟨rfl,rfl⟩
open Go.RowKit in
theorem a4l(b:Nat)(w:World)(e:TypeId)(n:Nat)(h0:w.cell? ⟨b,0,none⟩=some (.pointer none))(hsh:w.shape? b=some (e,n))(hfz:w.frozen? ⟨b,0,none⟩=false)
    (hn:0<n) (hl:liesAt Tryz.prog Tryz.prog.depth e (n/Tryz.prog.cellsOf e) 0 131 1=true):
    Calls Tryz.prog 128 #[.pointer (some ⟨b,0,none⟩)] w λe w'=>e= .returned (.tuple #[])/\w'=w.setCell ⟨b,0,none⟩ (.pointer (some ⟨b,0,none⟩)):=by
  obtain⟨j,hj,hjs⟩:=axr.1 (show(Tryz.prog.info? 131).map (·.size)=some 2 by kernel_rfl)
  go_enter Tryz.func128,Tryz.ntmps128
  go_wp2
  rw[Lib.run_to_unsafe w ⟨b,0,none⟩ Tryz.underlying129 Tryz.underlying269 hj (by rw[hjs];decide) hsh hn];simp only[Result.andThen];rw[Oper.upon_value]
  go_wp2
  rw[run_callFunc_extern Tryz.func160 (by kernel_rfl) (by kernel_rfl) (by kernel_rfl) (e:=Extern.AbiNoEscape.same) (by kernel_rfl)];rw[Lib.run_noEscape];simp only[Result.andThen];rw[Oper.upon_value]
  go_wp2
  rw[Lib.run_from_unsafe w ⟨b,0,none⟩ Tryz.underlying269 Tryz.underlying129 hj hsh hl];simp only[Result.andThen];rw[Oper.upon_value]
  go_wp2
  go_end0
  exact⟨rfl,rfl⟩
theorem a7R(b:Nat)(w:World)(e:TypeId)(n:Nat)(h0:w.cell? ⟨b,0,none⟩=some (.pointer none))(hsh:w.shape? b=some (e,n))(hfz:w.frozen? ⟨b,0,none⟩=false)(h:(e=131/\n=2)\/(e=ZF/\n=2+Ty.size .bool)):
    Calls Tryz.prog 128 #[.pointer (some ⟨b,0,none⟩)] w λe w'=>e= .returned (.tuple #[])/\w'=w.setCell ⟨b,0,none⟩ (.pointer (some ⟨b,0,none⟩)):=by
  rcases h with⟨rfl,rfl⟩|⟨rfl,rfl⟩
  · exact a4l b w _ _ h0 hsh hfz (by decide) (by kernel_rfl)
  · exact a4l b w _ _ h0 hsh hfz (by decide) (by kernel_rfl)
def Gt:Con:=XA 131 .bool
theorem JV:aA Tryz.prog 128 Gt:=a6T Tryz.call128 afW a7R
def Nk:Con:=CB 9
theorem Lm:aA Tryz.prog 72 Nk:=a0p Tryz.call72 Tryz.slices_Clone_string_nil Tryz.slices_Clone_string_zero Tryz.slices_Clone_string
open Go.RowKit in
theorem quota(b o:Nat)(n m e:Int)(w:World)(h0:w.cell? ⟨b,o,none⟩=some (.int .i64 n))(h1:w.cell? ⟨b,o+1,none⟩=some (.int .i64 m)):
    Calls Tryz.prog 70 #[.pointer (some ⟨b,o,none⟩),.int .i64 e] w λr w'=>r= .returned (.int .i64 (iR n m e))/\w'.heap=w.heap/\w'.os=w.os/\w'.tape=w.tape/\w'.output=w.output:=by
  have hw: ∀x,IntKind.i64.wrap x=wrap64 x:=λx=>by rw[IntKind.wrap_i64];unfold wrap64;rfl
  by_cases c1:e<1
  · have d1:decide (e<1)=true:=by simpa using c1
    have hv:iR n m e=0:=by unfold iR;rw[awQ (.inl c1)]
    go_enter Tryz.func70,Tryz.ntmps70
    go_wp2
    go_quiet (fail)
    go_wp2
    go_ret
    exact⟨by rw[hv];rfl,rfl,rfl,rfl,rfl⟩
  · have d1:decide (e<1)=false:=by simpa using c1
    by_cases c2:IntKind.i64.wrap (n+m)<e
    · have d2:decide (wrap64 (n+m)<e)=true:=awv (by rw[<-hw];exact c2)
      have hv:iR n m e=0:=by unfold iR;rw[awQ (.inr c2)]
      go_enter Tryz.func70,Tryz.ntmps70
      go_wp2
      go_quiet (fail)
      go_wp2
      go_ret
      exact⟨by rw[hv];rfl,rfl,rfl,rfl,rfl⟩
    · have d2:decide (wrap64 (n+m)<e)=false:=aww (by rw[<-hw];exact c2)
      have c12: ¬(e<1\/IntKind.i64.wrap (n+m)<e):=λh=>h.elim c1 c2
      by_cases c3:e<=n
      · have d3:decide (e<=n)=true:=by simpa using c3
        have hv:iR n m e=IntKind.i64.wrap (IntKind.i64.wrap (m*n)*4):=by unfold iR;rw[awG c12,awQ c3]
        rw[hw,hw]at hv
        go_enter Tryz.func70,Tryz.ntmps70
        go_wp2
        go_quiet (fail)
        go_wp2
        go_quiet (fail)
        go_wp2
        go_ret
        exact⟨by rw[hv];rfl,rfl,rfl,rfl,rfl⟩
      · have d3:decide (e<=n)=false:=by simpa using c3
        have hv:iR n m e=4:=by unfold iR;rw[awG c12,awG c3]
        go_enter Tryz.func70,Tryz.ntmps70
        go_wp2
        go_quiet (fail)
        go_wp2
        go_ret
        exact⟨by rw[hv];rfl,rfl,rfl,rfl,rfl⟩
open Go.RowKit in
theorem afX(e:Int)(w:World):Calls Tryz.prog 70 #[.pointer none,.int .i64 e] w λr w'=>r= .returned (.int .i64 0)/\w'.heap=w.heap/\w'.os=w.os/\w'.tape=w.tape/\w'.output=w.output:=by
  go_enter Tryz.func70,Tryz.ntmps70
  go_wp2
  go_quiet (fail)
  go_wp2
  go_ret
  exact⟨rfl,rfl,rfl,rfl,rfl⟩
def a0x:Con:=OO (.pair (.sl .str) .mp) iR
theorem a2Y:aA Tryz.prog 70 a0x:=a5q Tryz.call70 quota afX
end
end Go.Proofs.YtlohbhpbkieoeaaGreat
