/-
  What may not be changes nothing, and nothing goes out then or later: for every input.
-/
import Derived.Test.YtldlihheppdhnaaGreatRows
import Derived.WalkKit
import Derived.ProofKit
import Derived.OpenShut
import Derived.Test.YtldlihheppdhnaaGreatL23ServerStill
namespace Go.Pl
end Go.Pl
namespace Go.Proofs.YtldlihheppdhnaaGreat.serverStill
open Go.ChangeShapes Go.WideShapes Go.ChangeAt Go.RowKit Go.Den Go.Pl
set_option linter.unusedVariables false
set_option maxRecDepth 100000
theorem own:ownKnob Tryz.prog.godebug=none:=by kernel_rfl
theorem laid:laidOutB Tryz.prog=true:=by kernel_rfl
theorem hands:handed um.ti Tryz.f5.params.toList [(.int .i64),(.sl (.pair (.int .i64) (.pair (.int .i64) (.pair (.int .i64) (.pair (.int .i64) (.pair (.pair (.int .i64) (.int .i64)) (.pair (.int .i64) (.int .i64)))))))),(.pair (.int .i64) (.pair (.int .i64) (.pair (.int .i64) (.pair (.int .i64) (.pair (.pair (.int .i64) (.int .i64)) (.pair (.int .i64) (.int .i64)))))))]=true:=by kernel_rfl
theorem reads:(Tryz.f5.params.toList.all fun t=>Tryz.prog.readableRec t&&decide (t<Tryz.prog.types.size))=true:=by kernel_rfl
theorem law: ∀xs,a6Q [(.int .i64),(.sl (.pair (.int .i64) (.pair (.int .i64) (.pair (.int .i64) (.pair (.int .i64) (.pair (.pair (.int .i64) (.int .i64)) (.pair (.int .i64) (.int .i64)))))))),(.pair (.int .i64) (.pair (.int .i64) (.pair (.int .i64) (.pair (.int .i64) (.pair (.pair (.int .i64) (.int .i64)) (.pair (.int .i64) (.int .i64)))))))] xs→bV um [(1,pU)] (dU um 8) Tryz.f5 (jf [(.int .i64),(.sl (.pair (.int .i64) (.pair (.int .i64) (.pair (.int .i64) (.pair (.int .i64) (.pair (.pair (.int .i64) (.int .i64)) (.pair (.int .i64) (.int .i64)))))))),(.pair (.int .i64) (.pair (.int .i64) (.pair (.int .i64) (.pair (.int .i64) (.pair (.pair (.int .i64) (.int .i64)) (.pair (.int .i64) (.int .i64)))))))] xs) [] 0 a6R=some ():=fun xs hg=>
  match xs,hg with
  |(x0,x1,x2,()),⟨h0,h1,h2,_⟩=>(a4L x0 x1.1 x1.2 x2).trans (a1T h0.1 h1.1 h2.1)
theorem lifted(os:Os)(started:os.Started)(H:Type)(enc:TypeId×Value→H):
    ReturnsInHanded {} Tryz.checked os 5 .any (Rows.serverStillSpec.pre6 enc Tryz.prog Tryz.f5 Rows.serverStillRow.domain false) (Rows.serverStillSpec.post enc Tryz.prog Tryz.f5 false true false false):=by
  refine returnsInHanded_of_change (C:=Tryz.checked) own started (by kernel_rfl) Tryz.func5
    (ChangeSpec.witness6 (enc:=enc) (C:=Tryz.checked) false ⟨#[], #[.int .i64 0,.slice none 0 0,.agg #[.int .i64 0,.int .i64 0,.int .i64 0,.int .i64 0,.int .i64 0,.int .i64 0,.int .i64 0,.int .i64 0]],[]⟩ 8 (by kernel_rfl) (by kernel_rfl) (by kernel_rfl) (by kernel_rfl)) ?_
  intro W base args ds gs before hval0 hW hcnd _
  have hval: ∀(j:Nat) t v,Tryz.f5.params[j]?=some t→args[j]?=some v→Value.okWide Tryz.prog W .any base t v:=hval0
  have hW':=hW
  obtain⟨p,q,hA0,hV,rfl,hfz,hnd⟩:=hW
  have hA:DataW.TrodAll enc Tryz.prog W 0 (fun _=>true) true Tryz.f5.params.toList args.toList ds p:=hA0
  obtain⟨rfl,rfl⟩:=trodVars_none hV
  have hds:Rows.serverStillSpec.fn H (ds++[])= { results:=[.lit (.bool true)],args:=ds } :=by
    have hA1:DataW.TrodAll enc Tryz.prog W 0 (fun _=>true) true [3,22,33] args.toList ds p:=hA
    obtain⟨v0,vs0,d0,ds0,p0,q0,_,rfl,_,t0,r0⟩:=trodAll_cons hA1
    obtain⟨v1,vs1,d1,ds1,p1,q1,_,rfl,_,t1,r1⟩:=trodAll_cons r0
    obtain⟨v2,vs2,d2,ds2,p2,q2,_,rfl,_,t2,r2⟩:=trodAll_cons r1
    obtain⟨_,rfl,_⟩:=trodAll_nil r2
    rfl
  simp only[List.append_nil]at hW'
  refine(aiY Jl 8 Tryz.func5 a3U.blocks [(.int .i64),(.sl (.pair (.int .i64) (.pair (.int .i64) (.pair (.int .i64) (.pair (.int .i64) (.pair (.pair (.int .i64) (.int .i64)) (.pair (.int .i64) (.int .i64)))))))),(.pair (.int .i64) (.pair (.int .i64) (.pair (.int .i64) (.pair (.int .i64) (.pair (.pair (.int .i64) (.int .i64)) (.pair (.int .i64) (.int .i64)))))))] hands law hval hA).mono fun e W' ⟨he,hg⟩=>?_
  subst he
  rw[List.append_nil]at hds
  exact⟨_,rfl,Go.Den.adl (pa:=p) (pv:=[]) hW' (fun _ _ _=>by rw[List.append_nil,hds]; exact(trodAll_cons_mk (shut_bool Tryz.underlying4 _) trodAll_mk0)) (fun sp hs=>by rw[List.append_nil,hds]; exact aiR hg laid reads hA sp hs) (fun _ _=>by rw[List.append_nil,hds]; rfl) (by rw[List.append_nil])
    (hg.frame _) hg.2.1 (ok_one (by kernel_rfl) rfl (okWide_bool_mk Tryz.underlying4 _))⟩
theorem over:Rows.serverStillRow.holds Tryz.pinned (OpenSpec.ofChange Rows.serverStillSpec):=
  OpenClaim.holds_of_wide 5 Tryz.f5 rfl rfl rfl rfl rfl rfl rfl ⟨rfl,rfl,rfl,rfl,rfl⟩ rfl rfl rfl rfl rfl (by kernel_rfl) Tryz.func5 (by kernel_rfl)
    (of_decide_eq_true (by kernel_rfl)) (by unfold Func.isWrapper; first|(rw[if_pos (by decide+kernel)]; kernel_rfl)|(rw[if_neg (by decide+kernel)]; exact⟨rfl,rfl⟩))
    (fun os started H enc _=>lifted os started H enc)
theorem proved:Rows.ServerStillSaid:=over
end Go.Proofs.YtldlihheppdhnaaGreat.serverStill
