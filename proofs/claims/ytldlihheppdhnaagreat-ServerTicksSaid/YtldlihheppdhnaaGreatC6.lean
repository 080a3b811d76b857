/-
  A tick changes nothing, and says the same again; a server that nobody made says nothing, and does not fail: for every input.
-/
import Derived.Test.YtldlihheppdhnaaGreatRows
import Derived.WalkKit
import Derived.ProofKit
import Derived.OpenShut
import Derived.Test.YtldlihheppdhnaaGreatL23ServerTicks
namespace Go.Pl
end Go.Pl
namespace Go.Proofs.YtldlihheppdhnaaGreat.serverTicks
open Go.ChangeShapes Go.WideShapes Go.ChangeAt Go.RowKit Go.Den Go.Pl
set_option linter.unusedVariables false
set_option maxRecDepth 100000
theorem own:ownKnob Tryz.prog.godebug=none:=by kernel_rfl
theorem laid:laidOutB Tryz.prog=true:=by kernel_rfl
theorem hands:handed uY.ti Tryz.f6.params.toList [(.int .i64),(.sl (.pair (.int .i64) (.pair (.int .i64) (.pair (.int .i64) (.pair (.int .i64) (.pair (.pair (.int .i64) (.int .i64)) (.pair (.int .i64) (.int .i64))))))))]=true:=by kernel_rfl
theorem reads:(Tryz.f6.params.toList.all fun t=>Tryz.prog.readableRec t&&decide (t<Tryz.prog.types.size))=true:=by kernel_rfl
theorem law: ∀xs,a7v [(.int .i64),(.sl (.pair (.int .i64) (.pair (.int .i64) (.pair (.int .i64) (.pair (.int .i64) (.pair (.pair (.int .i64) (.int .i64)) (.pair (.int .i64) (.int .i64))))))))] xs→cu uY [(0,qE),(4,qF)] (dX uY 8) Tryz.f6 (jv [(.int .i64),(.sl (.pair (.int .i64) (.pair (.int .i64) (.pair (.int .i64) (.pair (.int .i64) (.pair (.pair (.int .i64) (.int .i64)) (.pair (.int .i64) (.int .i64))))))))] xs) [] 0 a7w=some ():=fun xs hg=>
  match xs,hg with
  |(x0,x1,()),⟨h0,h1,_⟩=>(a5m x0 x1.1 x1.2).trans (a2v h0.1 h1.1)
theorem lifted(os:Os)(started:os.Started)(H:Type)(enc:TypeId×Value→H):
    ReturnsInHanded {} Tryz.checked os 6 .any (Rows.serverTicksSpec.pre6 enc Tryz.prog Tryz.f6 Rows.serverTicksRow.domain false) (Rows.serverTicksSpec.post enc Tryz.prog Tryz.f6 false true false false):=by
  refine returnsInHanded_of_change (C:=Tryz.checked) own started (by kernel_rfl) Tryz.func6
    (ChangeSpec.witness6 (enc:=enc) (C:=Tryz.checked) false ⟨#[], #[.int .i64 0,.slice none 0 0],[]⟩ 8 (by kernel_rfl) (by kernel_rfl) (by kernel_rfl) (by kernel_rfl)) ?_
  intro W base args ds gs before hval0 hW hcnd _
  have hval: ∀(j:Nat) t v,Tryz.f6.params[j]?=some t→args[j]?=some v→Value.okWide Tryz.prog W .any base t v:=hval0
  have hW':=hW
  obtain⟨p,q,hA0,hV,rfl,hfz,hnd⟩:=hW
  have hA:DataW.TrodAll enc Tryz.prog W 0 (fun _=>true) true Tryz.f6.params.toList args.toList ds p:=hA0
  obtain⟨rfl,rfl⟩:=trodVars_none hV
  have hds:Rows.serverTicksSpec.fn H (ds++[])= { results:=[.lit (.bool true)],args:=ds } :=by
    have hA1:DataW.TrodAll enc Tryz.prog W 0 (fun _=>true) true [3,22] args.toList ds p:=hA
    obtain⟨v0,vs0,d0,ds0,p0,q0,_,rfl,_,t0,r0⟩:=trodAll_cons hA1
    obtain⟨v1,vs1,d1,ds1,p1,q1,_,rfl,_,t1,r1⟩:=trodAll_cons r0
    obtain⟨_,rfl,_⟩:=trodAll_nil r1
    rfl
  simp only[List.append_nil]at hW'
  refine(ajt yY 8 Tryz.func6 a4x.blocks [(.int .i64),(.sl (.pair (.int .i64) (.pair (.int .i64) (.pair (.int .i64) (.pair (.int .i64) (.pair (.pair (.int .i64) (.int .i64)) (.pair (.int .i64) (.int .i64))))))))] hands law hval hA).mono fun e W' ⟨he,hg⟩=>?_
  subst he
  rw[List.append_nil]at hds
  exact⟨_,rfl,Go.Den.adP (pa:=p) (pv:=[]) hW' (fun _ _ _=>by rw[List.append_nil,hds]; exact(trodAll_cons_mk (shut_bool Tryz.underlying4 _) trodAll_mk0)) (fun sp hs=>by rw[List.append_nil,hds]; exact ajm hg laid reads hA sp hs) (fun _ _=>by rw[List.append_nil,hds]; rfl) (by rw[List.append_nil])
    (hg.frame _) hg.2.1 (ok_one (by kernel_rfl) rfl (okWide_bool_mk Tryz.underlying4 _))⟩
theorem over:Rows.serverTicksRow.holds Tryz.pinned (OpenSpec.ofChange Rows.serverTicksSpec):=
  OpenClaim.holds_of_wide 6 Tryz.f6 rfl rfl rfl rfl rfl rfl rfl ⟨rfl,rfl,rfl,rfl,rfl⟩ rfl rfl rfl rfl rfl (by kernel_rfl) Tryz.func6 (by kernel_rfl)
    (of_decide_eq_true (by kernel_rfl)) (by unfold Func.isWrapper; first|(rw[if_pos (by decide+kernel)]; kernel_rfl)|(rw[if_neg (by decide+kernel)]; exact⟨rfl,rfl⟩))
    (fun os started H enc _=>lifted os started H enc)
theorem proved:Rows.ServerTicksSaid:=over
end Go.Proofs.YtldlihheppdhnaaGreat.serverTicks
