/-
  A server is made of a state just where the document says that the state may be, and the state that it tells then is that one: for every input.
-/
import Derived.Test.YtlohbhpbkieoeaaGreatRows
import Derived.WalkKit
import Derived.ProofKit
import Derived.OpenShut
import Derived.Test.YtlohbhpbkieoeaaGreatL38KeepMay
namespace Go.Pl
end Go.Pl
namespace Go.Proofs.YtlohbhpbkieoeaaGreat.keepMay
open Go.ChangeShapes Go.WideShapes Go.ChangeAt Go.RowKit Go.Den Go.Pl
set_option linter.unusedVariables false
set_option maxRecDepth 100000
theorem own:ownKnob Tryz.prog.godebug=none:=by kernel_rfl
theorem laid:laidOutB Tryz.prog=true:=by kernel_rfl
theorem hands:handed Cm.ti Tryz.f3.params.toList [(.int .i64),(.pair (.int .i64) (.pair (.int .i64) (.pair (.int .i64) (.pair (.sl (.int .i64)) (.sl (.pair .str (.pair (.pair (.pair (.int .i64) (.int .i64)) (.pair .str (.pair (.sl (.sl (.arr 4 (.int .u64)))) (.pair (.sl (.arr 4 (.int .u64))) (.int .i64))))) (.pair (.sl (.pair (.int .i64) (.pair (.pair (.int .i64) (.int .i64)) .str))) (.pair (.sl (.pair (.int .i64) (.pair (.pair (.int .i64) (.int .i64)) .str))) (.sl (.pair (.pair (.pair (.int .i64) (.int .i64)) (.pair .str (.pair (.sl (.sl (.arr 4 (.int .u64)))) (.pair (.sl (.arr 4 (.int .u64))) (.int .i64))))) (.pair (.pair (.pair (.int .i64) (.int .i64)) (.pair .str (.pair (.sl (.sl (.arr 4 (.int .u64)))) (.pair (.sl (.arr 4 (.int .u64))) (.int .i64))))) (.pair (.pair (.pair (.int .i64) (.int .i64)) (.pair .str (.pair (.sl (.sl (.arr 4 (.int .u64)))) (.pair (.sl (.arr 4 (.int .u64))) (.int .i64))))) (.pair (.int .i64) (.int .i64)))))))))))))))]=true:=by kernel_rfl
theorem reads:(Tryz.f3.params.toList.all fun t=>Tryz.prog.readableRec t&&decide (t<Tryz.prog.types.size))=true:=by kernel_rfl
theorem law: ∀xs,a6B [(.int .i64),(.pair (.int .i64) (.pair (.int .i64) (.pair (.int .i64) (.pair (.sl (.int .i64)) (.sl (.pair .str (.pair (.pair (.pair (.int .i64) (.int .i64)) (.pair .str (.pair (.sl (.sl (.arr 4 (.int .u64)))) (.pair (.sl (.arr 4 (.int .u64))) (.int .i64))))) (.pair (.sl (.pair (.int .i64) (.pair (.pair (.int .i64) (.int .i64)) .str))) (.pair (.sl (.pair (.int .i64) (.pair (.pair (.int .i64) (.int .i64)) .str))) (.sl (.pair (.pair (.pair (.int .i64) (.int .i64)) (.pair .str (.pair (.sl (.sl (.arr 4 (.int .u64)))) (.pair (.sl (.arr 4 (.int .u64))) (.int .i64))))) (.pair (.pair (.pair (.int .i64) (.int .i64)) (.pair .str (.pair (.sl (.sl (.arr 4 (.int .u64)))) (.pair (.sl (.arr 4 (.int .u64))) (.int .i64))))) (.pair (.pair (.pair (.int .i64) (.int .i64)) (.pair .str (.pair (.sl (.sl (.arr 4 (.int .u64)))) (.pair (.sl (.arr 4 (.int .u64))) (.int .i64))))) (.pair (.int .i64) (.int .i64)))))))))))))))] xs→dJ Cm [] (fD Cm 8) Tryz.f3 (nU [(.int .i64),(.pair (.int .i64) (.pair (.int .i64) (.pair (.int .i64) (.pair (.sl (.int .i64)) (.sl (.pair .str (.pair (.pair (.pair (.int .i64) (.int .i64)) (.pair .str (.pair (.sl (.sl (.arr 4 (.int .u64)))) (.pair (.sl (.arr 4 (.int .u64))) (.int .i64))))) (.pair (.sl (.pair (.int .i64) (.pair (.pair (.int .i64) (.int .i64)) .str))) (.pair (.sl (.pair (.int .i64) (.pair (.pair (.int .i64) (.int .i64)) .str))) (.sl (.pair (.pair (.pair (.int .i64) (.int .i64)) (.pair .str (.pair (.sl (.sl (.arr 4 (.int .u64)))) (.pair (.sl (.arr 4 (.int .u64))) (.int .i64))))) (.pair (.pair (.pair (.int .i64) (.int .i64)) (.pair .str (.pair (.sl (.sl (.arr 4 (.int .u64)))) (.pair (.sl (.arr 4 (.int .u64))) (.int .i64))))) (.pair (.pair (.pair (.int .i64) (.int .i64)) (.pair .str (.pair (.sl (.sl (.arr 4 (.int .u64)))) (.pair (.sl (.arr 4 (.int .u64))) (.int .i64))))) (.pair (.int .i64) (.int .i64)))))))))))))))] xs) [] 0 a6C=some ():=fun xs hg=>
  match xs,hg with
  |(x0,x1,()),⟨h0,h1,_⟩=>(aaB x0 x1).trans (a6d h0.1 h1.1)
theorem lifted(os:Os)(started:os.Started)(H:Type)(enc:TypeId×Value→H):
    ReturnsInHanded {} Tryz.checked os 3 .any (Rows.keepMaySpec.pre6 enc Tryz.prog Tryz.f3 Rows.keepMayRow.domain false) (Rows.keepMaySpec.post enc Tryz.prog Tryz.f3 false true false false):=by
  refine returnsInHanded_of_change (C:=Tryz.checked) own started (by kernel_rfl) Tryz.func3
    (ChangeSpec.witness6 (enc:=enc) (C:=Tryz.checked) false ⟨#[], #[.int .i64 0,.agg #[.int .i64 0,.int .i64 0,.int .i64 0,.slice none 0 0,.slice none 0 0]],[]⟩ 8 (by kernel_rfl) (by kernel_rfl) (by kernel_rfl) (by kernel_rfl)) ?_
  intro W base args ds gs before hval0 hW hcnd _
  have hval: ∀(j:Nat) t v,Tryz.f3.params[j]?=some t→args[j]?=some v→Value.okWide Tryz.prog W .any base t v:=hval0
  have hW':=hW
  obtain⟨p,q,hA0,hV,rfl,hfz,hnd⟩:=hW
  have hA:DataW.TrodAll enc Tryz.prog W 0 (fun _=>true) true Tryz.f3.params.toList args.toList ds p:=hA0
  obtain⟨rfl,rfl⟩:=trodVars_none hV
  have hds:Rows.keepMaySpec.fn H (ds++[])= { results:=[.lit (.bool true)],args:=ds } :=by
    have hA1:DataW.TrodAll enc Tryz.prog W 0 (fun _=>true) true [3,25] args.toList ds p:=hA
    obtain⟨v0,vs0,d0,ds0,p0,q0,_,rfl,_,t0,r0⟩:=trodAll_cons hA1
    obtain⟨v1,vs1,d1,ds1,p1,q1,_,rfl,_,t1,r1⟩:=trodAll_cons r0
    obtain⟨_,rfl,_⟩:=trodAll_nil r1
    rfl
  simp only[List.append_nil]at hW'
  refine(aiL a6e 8 Tryz.func3 aaA.blocks [(.int .i64),(.pair (.int .i64) (.pair (.int .i64) (.pair (.int .i64) (.pair (.sl (.int .i64)) (.sl (.pair .str (.pair (.pair (.pair (.int .i64) (.int .i64)) (.pair .str (.pair (.sl (.sl (.arr 4 (.int .u64)))) (.pair (.sl (.arr 4 (.int .u64))) (.int .i64))))) (.pair (.sl (.pair (.int .i64) (.pair (.pair (.int .i64) (.int .i64)) .str))) (.pair (.sl (.pair (.int .i64) (.pair (.pair (.int .i64) (.int .i64)) .str))) (.sl (.pair (.pair (.pair (.int .i64) (.int .i64)) (.pair .str (.pair (.sl (.sl (.arr 4 (.int .u64)))) (.pair (.sl (.arr 4 (.int .u64))) (.int .i64))))) (.pair (.pair (.pair (.int .i64) (.int .i64)) (.pair .str (.pair (.sl (.sl (.arr 4 (.int .u64)))) (.pair (.sl (.arr 4 (.int .u64))) (.int .i64))))) (.pair (.pair (.pair (.int .i64) (.int .i64)) (.pair .str (.pair (.sl (.sl (.arr 4 (.int .u64)))) (.pair (.sl (.arr 4 (.int .u64))) (.int .i64))))) (.pair (.int .i64) (.int .i64)))))))))))))))] hands law hval hA).mono fun e W' ⟨he,hg⟩=>?_
  subst he
  rw[List.append_nil]at hds
  exact⟨_,rfl,Go.Den.adL (pa:=p) (pv:=[]) hW' (fun _ _ _=>by rw[List.append_nil,hds]; exact(trodAll_cons_mk (shut_bool Tryz.underlying4 _) trodAll_mk0)) (fun sp hs=>by rw[List.append_nil,hds]; exact aiF hg laid reads hA sp hs) (fun _ _=>by rw[List.append_nil,hds]; rfl) (by rw[List.append_nil])
    (hg.frame _) hg.2.1 (ok_one (by kernel_rfl) rfl (okWide_bool_mk Tryz.underlying4 _))⟩
theorem over:Rows.keepMayRow.holds Tryz.pinned (OpenSpec.ofChange Rows.keepMaySpec):=
  OpenClaim.holds_of_wide 3 Tryz.f3 rfl rfl rfl rfl rfl rfl rfl ⟨rfl,rfl,rfl,rfl,rfl⟩ rfl rfl rfl rfl rfl (by kernel_rfl) Tryz.func3 (by kernel_rfl)
    (of_decide_eq_true (by kernel_rfl)) (by unfold Func.isWrapper; first|(rw[if_pos (by decide+kernel)]; kernel_rfl)|(rw[if_neg (by decide+kernel)]; exact⟨rfl,rfl⟩))
    (fun os started H enc _=>lifted os started H enc)
theorem proved:Rows.KeepMaySaid:=over
end Go.Proofs.YtlohbhpbkieoeaaGreat.keepMay
