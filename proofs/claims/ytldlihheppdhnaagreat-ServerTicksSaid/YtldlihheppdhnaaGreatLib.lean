/-
  The library's functions, by contracts.
-/
import Derived.Test.YtldlihheppdhnaaGreatEqA
import Derived.Test.YtldlihheppdhnaaGreatShelf
import Derived.Test.YtldlihheppdhnaaGreatDenL
import Derived.WalkKit
import Derived.WalkSpells
import Derived.StillTactics
import Derived.Laws.Pointers
import Derived.RowKit3
import Derived.BigQuiet
import Derived.Deep.QuietTactic
import Derived.IntWalk
import Derived.Shelf.RegionOpenPlain
import Derived.Lib.Walk
import Derived.Lib.UnsafeStr
import Derived.Laws.Externs
set_option linter.unusedVariables false
set_option linter.unusedSimpArgs false
set_option maxRecDepth 100000
set_option maxHeartbeats 0
namespace Go.Pl
end Go.Pl
open Go Go.Den Go.Pl
namespace Go.Proofs.YtldlihheppdhnaaGreat
noncomputable section
open Go.RowKit in
theorem ag4(b:Nat)(w:World)(h0:w.cell? ⟨b,0,none⟩=some (.pointer (some ⟨b,0,none⟩))):
    Calls Tryz.prog 195 #[.pointer (some ⟨b,0,none⟩)] w λe w'=>e= .returned (.tuple #[])/\w'=w:=by
  obtain⟨j,hj,_⟩:=ayh.1 (show(Tryz.prog.info? 244).map (·.size)=some 2 by kernel_rfl)
  go_enter Tryz.func195,Tryz.ntmps195
  go_wp2
  rw[Lib.run_neq_ptr_same w _ Tryz.underlying242 hj]
  go_wp2
  go_end0
  exact⟨rfl,rfl⟩
open Go.RowKit in
theorem abf(b:Nat)(w:World)(e:TypeId)(n:Nat)(h0:w.cell? ⟨b,0,none⟩=some (.pointer none))(hsh:w.shape? b=some (e,n))(hfz:w.frozen? ⟨b,0,none⟩=false)
    (hn:0<n) (hl:liesAt Tryz.prog Tryz.prog.depth e (n/Tryz.prog.cellsOf e) 0 244 1=true):
    Calls Tryz.prog 195 #[.pointer (some ⟨b,0,none⟩)] w λe w'=>e= .returned (.tuple #[])/\w'=w.setCell ⟨b,0,none⟩ (.pointer (some ⟨b,0,none⟩)):=by
  obtain⟨j,hj,hjs⟩:=ayh.1 (show(Tryz.prog.info? 244).map (·.size)=some 2 by kernel_rfl)
  go_enter Tryz.func195,Tryz.ntmps195
  go_wp2
  rw[Lib.run_to_unsafe w ⟨b,0,none⟩ Tryz.underlying242 Tryz.underlying318 hj (by rw[hjs];decide) hsh hn];simp only[Result.andThen];rw[Oper.upon_value]
  go_wp2
  rw[run_callFunc_extern Tryz.func223 (by kernel_rfl) (by kernel_rfl) (by kernel_rfl) (e:=Extern.AbiNoEscape.same) (by kernel_rfl)];rw[Lib.run_noEscape];simp only[Result.andThen];rw[Oper.upon_value]
  go_wp2
  rw[Lib.run_from_unsafe w ⟨b,0,none⟩ Tryz.underlying318 Tryz.underlying242 hj hsh hl];simp only[Result.andThen];rw[Oper.upon_value]
  go_wp2
  go_end0
  exact⟨rfl,rfl⟩
def QM:Con:=XT 244
theorem Xa:aA Tryz.prog 195 QM:=a7L Tryz.call195 ag4 (λb w h0 h1 h2=>abf b w _ _ h0 h1 h2 (by decide) (by kernel_rfl))
def UD:Con:=CY 9
theorem UE:aA Tryz.prog 77 UD:=a0U Tryz.call77 Tryz.slices_Clone_string_nil Tryz.slices_Clone_string_zero Tryz.slices_Clone_string
open Go.RowKit in
theorem quota(b o:Nat)(n m e:Int)(w:World)(h0:w.cell? ⟨b,o,none⟩=some (.int .i64 n))(h1:w.cell? ⟨b,o+1,none⟩=some (.int .i64 m)):
    Calls Tryz.prog 136 #[.pointer (some ⟨b,o,none⟩),.int .i64 e] w λr w'=>r= .returned (.int .i64 (lM n m e))/\w'.heap=w.heap/\w'.os=w.os/\w'.tape=w.tape/\w'.output=w.output:=by
  have hw: ∀x,IntKind.i64.wrap x=wrap64 x:=λx=>by rw[IntKind.wrap_i64];unfold wrap64;rfl
  by_cases c1:e<1
  · have d1:decide (e<1)=true:=by simpa using c1
    have hv:lM n m e=0:=by unfold lM;rw[axp (.inl c1)]
    go_enter Tryz.func136,Tryz.ntmps136
    go_wp2
    go_quiet (fail)
    go_wp2
    go_ret
    exact⟨by rw[hv];rfl,rfl,rfl,rfl,rfl⟩
  · have d1:decide (e<1)=false:=by simpa using c1
    by_cases c2:IntKind.i64.wrap (n+m)<e
    · have d2:decide (wrap64 (n+m)<e)=true:=axw (by rw[<-hw];exact c2)
      have hv:lM n m e=0:=by unfold lM;rw[axp (.inr c2)]
      go_enter Tryz.func136,Tryz.ntmps136
      go_wp2
      go_quiet (fail)
      go_wp2
      go_ret
      exact⟨by rw[hv];rfl,rfl,rfl,rfl,rfl⟩
    · have d2:decide (wrap64 (n+m)<e)=false:=axz (by rw[<-hw];exact c2)
      have c12: ¬(e<1\/IntKind.i64.wrap (n+m)<e):=λh=>h.elim c1 c2
      by_cases c3:e<=n
      · have d3:decide (e<=n)=true:=by simpa using c3
        have hv:lM n m e=IntKind.i64.wrap (IntKind.i64.wrap (m*n)*4):=by unfold lM;rw[axi c12,axp c3]
        rw[hw,hw]at hv
        go_enter Tryz.func136,Tryz.ntmps136
        go_wp2
        go_quiet (fail)
        go_wp2
        go_quiet (fail)
        go_wp2
        go_ret
        exact⟨by rw[hv];rfl,rfl,rfl,rfl,rfl⟩
      · have d3:decide (e<=n)=false:=by simpa using c3
        have hv:lM n m e=4:=by unfold lM;rw[axi c12,axi c3]
        go_enter Tryz.func136,Tryz.ntmps136
        go_wp2
        go_quiet (fail)
        go_wp2
        go_ret
        exact⟨by rw[hv];rfl,rfl,rfl,rfl,rfl⟩
open Go.RowKit in
theorem ag5(e:Int)(w:World):Calls Tryz.prog 136 #[.pointer none,.int .i64 e] w λr w'=>r= .returned (.int .i64 0)/\w'.heap=w.heap/\w'.os=w.os/\w'.tape=w.tape/\w'.output=w.output:=by
  go_enter Tryz.func136,Tryz.ntmps136
  go_wp2
  go_quiet (fail)
  go_wp2
  go_ret
  exact⟨rfl,rfl,rfl,rfl,rfl⟩
def UF:Con:=OH (.pair (.sl .str) .mp) lM
theorem UG:aA Tryz.prog 136 UF:=a5S Tryz.call136 quota ag5
def Nq:Con:=aQ true [.str,.str] [.int .i64] λx=>zW x.1 x.2.1
theorem UH:aA Tryz.prog 186 Nq:=WY Tryz.call186 Tryz.strings_Compare
def ag6:Go.Shelf.Ren:=⟨λ|22=>138|17=>233|29=>187|30=>188|36=>219|n=>n,λ|0=>0|3=>3|4=>4|9=>9|24=>43|n=>n,λ|n=>n⟩
theorem ag7:Go.Proofs.Lays2.n22 Tryz.prog ag6:= {
  mixed:=by kernel_rfl
  f17:=Tryz.func233.trans (congrArg some (by kernel_rfl))
  f22:=Tryz.func138.trans (congrArg some (by kernel_rfl))
  f29:=Tryz.func187.trans (congrArg some (by kernel_rfl))
  f30:=Tryz.func188.trans (congrArg some (by kernel_rfl))
  f36:=Tryz.func219.trans (congrArg some (by kernel_rfl))
  t0:=Tryz.underlying0
  a0:=Tryz.isAgg0
  z0:=Tryz.sizeOf0
  v0:=Tryz.zeroValue0
  t3:=Tryz.underlying3
  a3:=Tryz.isAgg3
  z3:=Tryz.sizeOf3
  v3:=Tryz.zeroValue3
  t4:=Tryz.underlying4
  a4:=Tryz.isAgg4
  z4:=Tryz.sizeOf4
  v4:=Tryz.zeroValue4
  t9:=Tryz.underlying9
  a9:=Tryz.isAgg9
  z9:=Tryz.sizeOf9
  v9:=Tryz.zeroValue9
  t24:=Tryz.underlying43
  a24:=Tryz.isAgg43
  z24:=Tryz.sizeOf43
  v24:=Tryz.zeroValue43
  i9:=by kernel_rfl }
def Y1:Con:=KY 9
theorem a14:aA Tryz.prog 138 Y1:=a3d ag7 Tryz.call138
end
end Go.Proofs.YtldlihheppdhnaaGreat
