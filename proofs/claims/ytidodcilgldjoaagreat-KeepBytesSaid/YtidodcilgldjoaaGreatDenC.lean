/-
 The plain reading of code: regions and functions hold.
-/
import Derived.Test.YtidodcilgldjoaaGreatDenB
import Derived.Scope
set_option linter.unusedVariables false
set_option linter.unusedSimpArgs false
namespace Go.Den
def mD(ρ:Rho)(nx:Nat):Prop:= ∀id,nx≤id→ρ id=none
def VPs(ρ:Rho)(w:World):List PV→List Value→Prop
 | [],[]=>True
 |x::l,v::vs=>VP ρ w x v∧VPs ρ w l vs
 |_,_=>False
def Ph(P:Program)(f:FuncId)(vargs:List Value)(w:World)(R:Value→World→Prop):Prop:=
 (∃v w',(callFunc f vargs.toArray).run P w= .ok (.value v) w'∧R v w')∨
 ((callFunc f vargs.toArray).run P w= .ok (.enter f vargs.toArray) w∧Calls P f vargs.toArray w fun e w'=> ∃v,e= .returned v∧R v w')
structure a3A(B:Base)(ρ:Rho)(s:DS)(a:Act)(w:World)(nx:Nat)(pv:PV)(u:Upd)(n:Nat)(v:Value)(ρ':Rho)(w':World):Prop where
 rel:aP B ρ' { s with hp:=u++s.hp } a w'
 later:Later ρ w ρ' w'
 val:VP ρ' w' pv v
 same: ∀id,id<nx∨nx+n≤id→ρ' id=ρ id
structure aD(P:Program)(f:FuncId)(c:Con):Prop where
 loc: ∀(args:List PV) (h h':Heap) (nx:Nat) (r:Ans),(∀id∈(c.fp args h).1,h id=h' id)→c.run args h nx pk=some r→c.run args h' nx pk=some r∧c.fp args h'=c.fp args h
 upd: ∀(args:List PV) (h:Heap) (nx:Nat) (r:Ans),c.run args h nx pk=some r→ ∀x∈r.2.1,x.1∈(c.fp args h).2∨(nx≤x.1∧x.1<nx+r.2.2)
 nat: ∀(R:Type) (args:List PV) (h:Heap) (nx:Nat) (K:K3 R),c.run args h nx K=(c.run args h nx pk).bind fun r=>K r.1 r.2.1 r.2.2
 sound: ∀(B:Base) (ρ:Rho) (s:DS) (a:Act) (w:World) (nx:Nat) (args:List PV) (vargs:List Value) (r:Ans),aP B ρ s a w→(∀id,nx≤id→id<nx+r.2.2→ρ id=none)→VPs ρ w args vargs→
  c.run args s.h nx pk=some r→Ph P f vargs w fun v w'=> ∃ρ',a3A B ρ s a w nx r.1 r.2.1 r.2.2 v ρ' w'
def Post(B:Base)(ρ:Rho)(w:World) {R:Type}(s:DS)(K:Exit→DS→Option R)(x:R)(L:Prop):Exit→Act→World→Prop:=fun e a' w'=>
 ∃s' ρ',K e s'=some x∧aP B ρ' s' a' w'∧mD ρ' s'.nx∧s'.n=s.n∧(L→Later ρ w ρ' w')
def bF(P:Program)(id:Nat)(body:Code)(lp:Lp):Prop:= ∀(R:Type) (s:DS) (K:Exit→DS→Option R) (x:R),lp.run s K=some x→
 ∀(B:Base) (ρ:Rho) (a:Act) (w:World),aP B ρ s a w→mD ρ s.nx→(Code.block id body).wp P (Post B ρ w s K x True) a w
def blocks:Code→List (Nat×Code)
 | .seq a b=>blocks a++blocks b
 | .cond _ x y=>blocks x++blocks y
 | .block id b=>(id,b)::blocks b
 | .loop b=>blocks b
 | .scope b=>blocks b
 |_=>[]
structure ay(P:Program)(C:Cx):Prop where
 mixed:P.follows .mixedOrders=true
 ti:xw P C.ti
 con: ∀f c,look C.con f=some c→aD P f c
 fns: ∀f fn lps,look C.fns f=some (fn,lps)→P.funcs[f]?=some fn∧(∀args w,(callFunc f args).run P w= .ok (.enter f args) w)∧ ∀c,fn.body=some c→ ∀q∈blocks c,∀lp,look lps q.1=some lp→bF P q.1 q.2 lp
section
variable {P:Program} {C:Cx} (hC:ay P C) {R:Type}
def za(P:Program)(call:Ak R):Prop:= ∀(f:Nat) (args:List PV) (s:DS) (K:PV→DS→Option R) (x:R),call f args s K=some x→
 ∀(B:Base) (ρ:Rho) (a:Act) (w:World) (vargs:List Value),aP B ρ s a w→mD ρ s.nx→VPs ρ w args vargs→
  Ph P f vargs w fun v w'=> ∃pv s' ρ',K pv s'=some x∧aP B ρ' s' a w'∧mD ρ' s'.nx∧VP ρ' w' pv v∧Later ρ w ρ' w'∧s'.n=s.n
theorem aP.nx {B:Base} {ρ:Rho} {s:DS} {a:Act} {w:World}(h:aP B ρ s a w)(k:Nat):aP B ρ { s with nx:=k } a w:=
 ⟨h.defers,h.tmps,h.env,h.obj,h.inj,h.own,h.ownA,h.base,h.may⟩
theorem Km {s:DS} {dst:Option Tmp} {pv:PV} {K:DS→Option R} {x:R}(h:s.put dst pv K=some x) {B:Base} {ρ:Rho} {a:Act} {w:World} {v:Value}(hr:aP B ρ s a w)(hv:VP ρ w pv v):
  ∃s',K s'=some x∧aP B ρ s' (a.put dst v) w∧s'.nx=s.nx∧s'.n=s.n∧s'.hp=s.hp:=by
 unfold DS.put at h
 split at h
 ·exact⟨s,h,hr.putNone v,rfl,rfl,rfl⟩
 ·rename_i d
  cases hb:Nat.blt d s.n
  ·rw[hb]at h; cases h
  ·rw[hb]at h
   exact⟨_,h,hr.put (F7 hb) hv,rfl,rfl,rfl⟩
theorem Ph.wp {o:Oper} {c:Call} {fo:Operand} {f:FuncId} {caps:List Value} {a:Act} {w:World} {R':Value→World→Prop} {K:Act→World→Prop} {Q:Exit→Act→World→Prop}
  (ho:o.op= .call c) (hc:c.callee= .value fo) (hf:a.eval fo= .func (.func f) #[] caps.toArray)
  (h:Ph P f (c.args.toList.map a.eval++caps) w R') (hk: ∀v w',R' v w'→K (a.put o.dst v) w'):o.wp P a w K Q:=by
 have hex:execOp a.eval o=(do let d←resolve a.eval c o.type; invoke d.target d.args):=by simp only[execOp,ho]
 have hrun:(execOp a.eval o).run P w=(callFunc f (c.args.toList.map a.eval++caps).toArray).run P w:=by
  rw[hex]
  simp only[resolve,hc,hf,Deferred.ofValue,Sem.run_bind,Sem.run_pure,Result.andThen_ok,invoke]
  congr 2
  apply Array.ext'
  simp
 unfold Oper.wp
 rw[hrun]
 rcases h with⟨v,w',h1,h2⟩|⟨h1,h2⟩
 ·rw[h1]; exact hk _ _ h2
 ·rw[h1]
  simp only[Oper.upon]
  exact h2.mono fun e w' ⟨v,he,hR⟩=>by subst he; exact hk _ _ hR
theorem NJ {o:Oper} {s:DS} {f:Nat} {args:List PV}(h:JB o s.val=some (f,args)) {B:Base} {ρ:Rho} {a:Act} {w:World}(hr:aP B ρ s a w):
  ∃c fo caps,o.op= .call c∧c.callee= .value fo∧a.eval fo= .func (.func f) #[] (List.toArray caps)∧VPs ρ w args (c.args.toList.map a.eval++caps):=by
 unfold JB at h
 split at h
 ·rename_i c hop
  split at h
  ·rename_i fo hcal
   split at h
   ·rename_i f' cps hv
    cases h
    have hfv:=hr.eval fo
    rw[hv]at hfv
    obtain⟨cs,⟨vs,rfl,hl,hcaps⟩,e⟩:=hfv
    refine⟨c,fo,vs,hop,hcal,by rw[e]; rfl,?_⟩
    have h1: ∀l:List Operand,VPs ρ w (l.map s.val++cps.map fun c=>.v ⟨.ptr c.1,.rf c.2.1 c.2.2⟩) (l.map a.eval++vs):=by
     intro l
     induction l with
     |nil=>
      simp only[List.map_nil,List.nil_append]
      clear hv e
      induction cps generalizing vs with
      |nil=>cases vs with
       |nil=>trivial
       |cons=>simp at hl
      |cons c cps ih=>cases vs with
       |nil=>simp at hl
       |cons v vs=>exact⟨VR.mkRf (hcaps 0 c v rfl rfl),ih vs (by simpa using hl) (fun j c v hc hv=>hcaps (j+1) c v (by simpa using hc) (by simpa using hv))⟩
     |cons x l ih=>exact⟨hr.eval x,ih⟩
    exact h1 _
   ·cases h
  ·cases h
 ·cases h
include hC in
theorem Wm {call:Ak R}(hcall:za P call) {draw:Bool} {o:Oper} {s:DS} {K:DS→Fp→Option R} {x:R}(h:Nw C draw call o s K=some x)
  {B:Base} {ρ:Rho} {a:Act} {w:World} (hr:aP B ρ s a w) (hf:mD ρ s.nx) (Q:Exit→Act→World→Prop):
  o.wp P a w (fun a' w'=> ∃s' fp ρ',K s' fp=some x∧aP B ρ' s' a' w'∧mD ρ' s'.nx∧s'.n=s.n∧Later ρ w ρ' w') Q:=by
 unfold Nw at h
 split at h
 ·rename_i f args hco
  obtain⟨c,fo,caps,h1,h2,h3,h4⟩:=NJ hco hr
  split at h
  ·rename_i con hcon
   have ok:=hC.con f con hcon
   rw[ok.nat]at h
   cases hrun:con.run args s.h s.nx pk with
   |none=>rw[hrun]at h; cases h
   |some r=>
    rw[hrun]at h
    simp only[Option.bind_some]at h
    refine(ok.sound B ρ s a w s.nx args _ r hr (fun id h1 _=>hf id h1) h4 hrun).wp h1 h2 h3 (fun v w' ⟨ρ',haf⟩=>?_)
    obtain⟨s',h5,h6,h7,h8,_⟩:=Km h (haf.rel.nx (s.nx+r.2.2)) haf.val
    refine⟨s',_,ρ',h5,h6,fun id hid=>?_,h8,haf.later⟩
    rw[h7]at hid
    change s.nx+r.2.2≤id at hid
    rw[haf.same id (.inr hid)]
    exact hf id (by omega)
  ·cases draw
   ·simp only[cond_false]at h
    refine(hcall f args s _ x h B ρ a w _ hr hf h4).wp h1 h2 h3 (fun v w' ⟨pv,s1,ρ',h5,h6,h7,h8,h9,h10⟩=>?_)
    obtain⟨s',h11,h12,h13,h14,_⟩:=Km h5 h6 h8
    exact⟨s',_,ρ',h11,h12,by rw[h13]; exact h7,h14.trans h10,h9⟩
   ·cases h
 ·rw[VW]at h
  cases hrun:EX C o s.val s.h s.nx pk with
  |none=>rw[hrun]at h; cases h
  |some r=>
   obtain⟨pv,u,n⟩:=r
   rw[hrun]at h
   simp only[Option.bind_some]at h
   obtain⟨ρ',w',v,hg,haf⟩:=Qj hC.ti hr s.nx (hf s.nx (Nat.le_refl _)) hrun
   obtain⟨s',h5,h6,h7,h8,_⟩:=Km h (haf.rel.nx (s.nx+n)) haf.val
   refine hg.wp ⟨s',_,ρ',h5,h6,fun id hid=>?_,h8,haf.later⟩
   rw[h7]at hid
   change s.nx+n≤id at hid
   rcases Nat.eq_zero_or_pos n with e|e
   ·rw[haf.new e]; exact hf id (by omega)
   ·rw[haf.same id (by omega)]; exact hf id (by omega)
theorem Wn {o:Oper} {s:DS} {K:DS→Fp→Option R} {x:R}(h:Q8 o s K=some x) {B:Base} {ρ:Rho} {a:Act} {w:World}(hr:aP B ρ s a w):
  ∃s',K s' ([],[])=some x∧aP B ρ s' (a.put o.dst undef) w∧s'.nx=s.nx∧s'.n=s.n:=by
 obtain⟨s',h1,h2,h3,h4,_⟩:=Km (v:=undef) h hr ⟨[],rfl,trivial⟩
 exact⟨s',h1,h2,h3,h4⟩
theorem aP.setBool {B:Base} {ρ:Rho} {s:DS} {a:Act} {w:World}(h:aP B ρ s a w) {t:Nat} {b:Bool}(ht:look s.env t=some (.v ⟨.bool,b⟩)):aP B ρ { s with env:=(t,.v ⟨.bool,b⟩)::s.env } a w:=by
 refine⟨h.defers,h.tmps,fun t' pv' hl=>?_,h.obj,h.inj,h.own,h.ownA,h.base,h.may⟩
 change look ((t,_)::s.env) t'=some pv' at hl
 rw[aV]at hl
 split at hl
 ·rename_i e; subst e
  simp only[Option.some.injEq]at hl; subst hl
  exact h.env t _ ht
 ·exact h.env t' pv' hl
theorem NK {ops:List Oper} {o:Oper} {j:Nat} {want:Bool} {t:Nat} {b:Bool} {B:Base} {ρ:Rho} {s:DS} {a:Act} {w:World}(hg:o.guard=some (j,want))(ht:uZ ops j=some t)(hr:aP B ρ s a w)
  (he:look s.env t=some (.v ⟨.bool,b⟩)):Region.wanted o (yielded ops.toArray a.tmps)=(b==want):=by
 obtain⟨v,h1,h2⟩:=hr.env t _ he
 have h2:=VR.bool h2; subst h2
 have:((ops.toArray[j]?).bind (·.dst))=some t:=by simpa [uZ]using ht
 simp only[Region.wanted,hg,yielded,this,Option.bind_some,h1]
 cases b<;>cases want<;>rfl
theorem Kn {ops:List Oper} {o:Oper} {j:Nat} {want:Bool} {t:Nat} {B:Base} {ρ:Rho} {s:DS} {a:Act} {w:World}(hg:o.guard=some (j,want))(ht:uZ ops j=some t)(hr:aP B ρ s a w)
  (he:look s.env t=some (.tup [])):Region.wanted o (yielded ops.toArray a.tmps)=false:=by
 obtain⟨v,h1,h2⟩:=hr.env t _ he
 obtain⟨vs,rfl,h3⟩:=h2
 have:((ops.toArray[j]?).bind (·.dst))=some t:=by simpa [uZ]using ht
 simp only[Region.wanted,hg,yielded,this,Option.bind_some,h1]
 rfl
include hC in
theorem ZC {call:Ak R}(hcall:za P call) {all:List Oper} {K:DS→Option R} {x:R}(Q:Exit→Act→World→Prop) {B:Base}(N:Nat)(ρ0:Rho)(w0:World)
  (hQ: ∀s' ρ' a' w',K s'=some x→aP B ρ' s' a' w'→mD ρ' s'.nx→s'.n=N→Later ρ0 w0 ρ' w'→Q .normal a' w'):
  ∀(rest:List Oper) (k:Nat) (tr:List Fp) (s:DS) (ρ:Rho) (a:Act) (w:World),(∀j,rest[j]?=all[k+j]?)→C8 C false call all rest tr s K=some x→aP B ρ s a w→mD ρ s.nx→s.n=N→Later ρ0 w0 ρ w→
   wpOps P all.toArray Q (List.range' k rest.length) a w:=by
 intro rest
 induction rest with
 |nil=>
  intro k tr s ρ a w _ h hr hf hn hl
  simp only[C8,cond_false]at h
  exact hQ s ρ a w h hr hf hn hl
 |cons o rest ih=>
  intro k tr s ρ a w hj h hr hf hn hl
  have ho:all.toArray[k]?=some o:=by have:=hj 0; simpa using this.symm
  have hj': ∀j,rest[j]?=all[k+1+j]?:=fun j=>by have:=hj (j+1); simpa [Nat.add_assoc,Nat.add_comm 1 j]using this
  simp only[List.length_cons,List.range'_succ,wpOps,ho]
  have doStep: ∀s1,s1.nx=s.nx→s1.n=s.n→aP B ρ s1 a w→Nw C false call o s1 (fun s' fp=>C8 C false call all rest (tr++[fp]) s' K)=some x→
    o.wp P a w (wpOps P all.toArray Q (List.range' (k+1) rest.length)) Q:=by
   intro s1 e1 e2 hr1 hs
   refine Oper.wp_mono (fun a' w' ⟨s',fp,ρ',h1,h2,h3,h4,h5⟩=>?_) (Wm hC hcall hs hr1 (by rw[e1]; exact hf) Q)
   exact ih (k+1) _ s' ρ' a' w' hj' h1 h2 h3 (by rw[h4,e2,hn]) (hl.trans h5)
  have doSkip: ∀s1,s1.nx=s.nx→s1.n=s.n→aP B ρ s1 a w→Q8 o s1 (fun s' fp=>C8 C false call all rest (tr++[fp]) s' K)=some x→
    wpOps P all.toArray Q (List.range' (k+1) rest.length) (a.put o.dst undef) w:=by
   intro s1 e1 e2 hr1 hs
   obtain⟨s',h1,h2,h3,h4⟩:=Wn hs hr1
   exact ih (k+1) _ s' ρ _ w hj' h1 h2 (by rw[h3,e1]; exact hf) (by rw[h4,e2,hn]) hl
  unfold C8 at h
  split at h
  ·rename_i hg
   have hw:Region.wanted o (yielded all.toArray a.tmps)=true:=by simp[Region.wanted,hg]
   rw[if_pos hw]
   exact .inl (doStep s rfl rfl hr h)
  ·rename_i j want hg
   split at h
   ·cases h
   ·rename_i t ht
    split at h
    ·rename_i b hb
     have hw:=NK hg ht hr hb
     cases b
     ·simp only[cond_false]at h
      cases want
      ·simp only[cond_false]at h
       rw[if_pos (show Region.wanted o (yielded all.toArray a.tmps)=true from hw.trans rfl)]
       exact .inl (doStep { s with env:=(t,.v ⟨.bool,false⟩)::s.env } rfl rfl (hr.setBool hb) h)
      ·simp only[cond_true]at h
       rw[if_neg (by rw[hw]; decide)]
       exact doSkip { s with env:=(t,.v ⟨.bool,false⟩)::s.env } rfl rfl (hr.setBool hb) h
     ·simp only[cond_true]at h
      cases want
      ·simp only[cond_false]at h
       rw[if_neg (by rw[hw]; decide)]
       exact doSkip { s with env:=(t,.v ⟨.bool,true⟩)::s.env } rfl rfl (hr.setBool hb) h
      ·simp only[cond_true]at h
       rw[if_pos (show Region.wanted o (yielded all.toArray a.tmps)=true from hw.trans rfl)]
       exact .inl (doStep { s with env:=(t,.v ⟨.bool,true⟩)::s.env } rfl rfl (hr.setBool hb) h)
    ·rename_i hb
     have hw:=Kn hg ht hr hb
     rw[if_neg (by rw[hw]; decide)]
     exact doSkip s rfl rfl hr h
    ·cases h
def UH(P:Program)(C:Cx)(R:Type):Prop:= ∀(id:Nat) (ops:Array Oper) (call:Ak R) (K:DS→Option R) (x:R) (s:DS) (B:Base) (ρ:Rho) (a:Act) (w:World) (Q:Exit→Act→World→Prop),
 za P call→C8 C true call ops.toList ops.toList [] s K=some x→aP B ρ s a w→mD ρ s.nx→
 (∀s' ρ' a' w',K s'=some x→aP B ρ' s' a' w'→mD ρ' s'.nx→s'.n=s.n→Later ρ w ρ' w'→Q .normal a' w')→(Code.region id ops true).wp P Q a w
theorem Wo {P:Program} {f:DS→(Exit→DS→Option R)→Option R} {body:Code} {L:Prop}(hf: ∀(s:DS) (K:Exit→DS→Option R) (x:R),f s K=some x→ ∀(B:Base) (ρ:Rho) (a:Act) (w:World),aP B ρ s a w→mD ρ s.nx→body.wp P (Post B ρ w s K x L) a w)
  (n:Nat) (s:DS) (K:Exit→DS→Option R) (x:R) (h:a15 f n s K=some x) (B:Base) (ρ:Rho) (a:Act) (w:World) (hr:aP B ρ s a w) (hfr:mD ρ s.nx):(Code.loop body).wp P (Post B ρ w s K x L) a w:=by
 intro b k cs
 have key: ∀(n:Nat) (s:DS),a15 f n s K=some x→ ∀(ρ:Rho) (a:Act) (w:World),aP B ρ s a w→mD ρ s.nx→
   ∃e a' w',Post B ρ w s K x L e a' w'∧Arrives P (lone (b.at a (.code body:: .inLoop body::k)) cs w) b k cs e a' w':=by
  intro n
  induction n with
  |zero=>intro s h; cases h
  |succ n ih=>
   intro s h ρ a w hr hfr
   obtain⟨e,a',w',⟨s',ρ',h2,h3,h4,h5,h6⟩,harr⟩:=hf s _ x h B ρ a w hr hfr b (.inLoop body::k) cs
   cases e with
   |normal=>
    obtain⟨e2,a2,w2,⟨s2,ρ2,h7,h8,h9,h10,h11⟩,harr2⟩:=ih s' h2 ρ' a' w' h3 h4
    exact⟨e2,a2,w2,⟨s2,ρ2,h7,h8,h9,h10.trans h5,fun hl=>(h6 hl).trans (h11 hl)⟩,.of_steps (Steps.trans harr (.one step_inLoop)) harr2⟩
   |exit id=>exact⟨_,a',w',⟨s',ρ',h2,h3,h4,h5,h6⟩,.pass (x:=.inLoop body) rfl (fun _ _=>.inl (by simp)) harr⟩
   |goto l=>exact⟨_,a',w',⟨s',ρ',h2,h3,h4,h5,h6⟩,.pass (x:=.inLoop body) rfl (fun _ _=>.inl (by simp)) harr⟩
   |ret=>exact⟨_,a',w',⟨s',ρ',h2,h3,h4,h5,h6⟩,.pass (x:=.inLoop body) rfl (fun _ _=>.inl (by simp)) harr⟩
   |panic ch=>exact⟨_,a',w',⟨s',ρ',h2,h3,h4,h5,h6⟩,.pass (x:=.inLoop body) rfl (fun _ _=>.inl (by simp)) harr⟩
   |outgrown=>exact⟨_,a',w',⟨s',ρ',h2,h3,h4,h5,h6⟩,.pass (x:=.inLoop body) rfl (fun _ _=>.inl (by simp)) harr⟩
 obtain⟨e,a',w',hp,harr⟩:=key n s h ρ a w hr hfr
 exact⟨e,a',w',hp,.of_steps (.one step_loop) harr⟩
theorem Post.normal {B:Base} {ρ:Rho} {w:World} {s:DS} {K:Exit→DS→Option R} {x:R} {L:Prop} {a:Act}(hr:aP B ρ s a w)(hf:mD ρ s.nx) {e:Exit}(h:K e s=some x):Post B ρ w s K x L e a w:=
 ⟨s,ρ,h,hr,hf,rfl,fun _=>Later.refl _ _⟩
include hC in
theorem Qk(hD:UH P C R) {call:Ak R}(hcall:za P call)(lps:List (Nat×Lp))(L:Prop): ∀(c:Code),(∀q∈blocks c,∀lp,look lps q.1=some lp→bF P q.1 q.2 lp)→
  ∀(s:DS) (K:Exit→DS→Option R) (x:R),bJ C lps call c s K=some x→ ∀(B:Base) (ρ:Rho) (a:Act) (w:World),aP B ρ s a w→mD ρ s.nx→c.wp P (Post B ρ w s K x L) a w:=by
 intro c
 induction c with
 |skip=>intro _ s K x h B ρ a w hr hf; exact wp_skip (Post.normal hr hf h)
 |label l=>intro _ s K x h B ρ a w hr hf; exact wp_label (Post.normal hr hf h)
 |exit id=>intro _ s K x h B ρ a w hr hf; exact wp_exit (Post.normal hr hf h)
 |ret=>intro _ s K x h B ρ a w hr hf; exact wp_ret (Post.normal hr hf h)
 |seq p q ihp ihq=>
  intro hb s K x h B ρ a w hr hf
  refine wp_seq (wp_mono (ihp (fun y hy=>hb y (List.mem_append_left _ hy)) s _ x h B ρ a w hr hf) ?_)
  rintro e a' w' ⟨s',ρ',h1,h2,h3,h4,h5⟩
  cases e with
  |normal=>
   refine wp_mono (ihq (fun y hy=>hb y (List.mem_append_right _ hy)) s' K x h1 B ρ' a' w' h2 h3) ?_
   rintro e a2 w2 ⟨s2,ρ2,h6,h7,h8,h9,h10⟩
   exact⟨s2,ρ2,h6,h7,h8,h9.trans h4,fun hl=>(h5 hl).trans (h10 hl)⟩
  |exit id=>exact⟨s',ρ',h1,h2,h3,h4,h5⟩
  |goto l=>exact⟨s',ρ',h1,h2,h3,h4,h5⟩
  |ret=>exact⟨s',ρ',h1,h2,h3,h4,h5⟩
  |panic ch=>exact⟨s',ρ',h1,h2,h3,h4,h5⟩
  |outgrown=>exact⟨s',ρ',h1,h2,h3,h4,h5⟩
 |cond c p q ihp ihq=>
  intro hb s K x h B ρ a w hr hf
  simp only[bJ]at h
  split at h
  ·rename_i b hcv
   have hv:=hr.eval c; rw[hcv]at hv
   have hv:=VR.bool hv
   cases b
   ·exact wp_cond_false hv (ihq (fun y hy=>hb y (List.mem_append_right _ hy)) s K x h B ρ a w hr hf)
   ·exact wp_cond_true hv (ihp (fun y hy=>hb y (List.mem_append_left _ hy)) s K x h B ρ a w hr hf)
  ·cases h
 |block id body ih=>
  intro hb s K x h B ρ a w hr hf
  simp only[bJ]at h
  split at h
  ·rename_i lp hlp
   refine wp_mono (hb (id,body) (List.mem_cons_self ..) lp hlp R s K x h B ρ a w hr hf) ?_
   rintro e a' w' ⟨s',ρ',h1,h2,h3,h4,h5⟩
   exact⟨s',ρ',h1,h2,h3,h4,fun _=>h5 trivial⟩
  ·refine wp_block (wp_mono (ih (fun y hy=>hb y (List.mem_cons_of_mem _ hy)) s _ x h B ρ a w hr hf) ?_)
   rintro e a' w' ⟨s',ρ',h1,h2,h3,h4,h5⟩
   cases e with
   |exit id'=>
    simp only at h1
    simp only[Exit.inBlock]
    by_cases e:id'=id
    ·subst e
     simp only[Nat.beq_refl,cond_true]at h1
     rw[if_pos rfl]
     exact⟨s',ρ',h1,h2,h3,h4,h5⟩
    ·have:Nat.beq id' id=false:=by
      cases hbq:Nat.beq id' id
      ·rfl
      ·exact absurd (Nat.eq_of_beq_eq_true hbq) e
     rw[this]at h1
     rw[if_neg e]
     exact⟨s',ρ',h1,h2,h3,h4,h5⟩
   |normal=>exact⟨s',ρ',h1,h2,h3,h4,h5⟩
   |goto l=>exact⟨s',ρ',h1,h2,h3,h4,h5⟩
   |ret=>exact⟨s',ρ',h1,h2,h3,h4,h5⟩
   |panic ch=>exact⟨s',ρ',h1,h2,h3,h4,h5⟩
   |outgrown=>exact⟨s',ρ',h1,h2,h3,h4,h5⟩
 |loop body ih=>
  intro hb s K x h B ρ a w hr hf
  exact Wo (fun s K x h B ρ a w hr hf=>ih hb s K x h B ρ a w hr hf) C.un s K x h B ρ a w hr hf
 |scope c ih=>
  intro hb s K x h B ρ a w hr hf
  simp only[bJ]at h
  refine wp_scope_straight (wp_mono (ih hb s _ x h B ρ a w hr hf) ?_)
  rintro e a' w' ⟨s',ρ',h1,h2,h3,h4,h5⟩
  cases e with
  |goto l=>cases h1
  |normal=>exact⟨s',ρ',h1,h2,h3,h4,h5⟩
  |exit id=>exact⟨s',ρ',h1,h2,h3,h4,h5⟩
  |ret=>exact⟨s',ρ',h1,h2,h3,h4,h5⟩
  |panic ch=>exact⟨s',ρ',h1,h2,h3,h4,h5⟩
  |outgrown=>exact⟨s',ρ',h1,h2,h3,h4,h5⟩
 |region id ops draw=>
  intro hb s K x h B ρ a w hr hf
  simp only[bJ]at h
  cases draw
  ·refine wp_region ?_
   have:=ZC hC hcall (all:=ops.toList) (K:=K .normal) (x:=x) (Post B ρ w s K x L) s.n ρ w (fun s' ρ' a' w' h1 h2 h3 h4 h5=>⟨s',ρ',h1,h2,h3,h4,fun _=>h5⟩)
    ops.toList 0 [] s ρ a w (fun j=>by simp) h hr hf rfl (Later.refl _ _)
   simpa [List.range_eq_range']using this
  ·exact hD id ops call (K .normal) x s B ρ a w _ hcall h hr hf (fun s' ρ' a' w' h1 h2 h3 h4 h5=>⟨s',ρ',h1,h2,h3,h4,fun _=>h5⟩)
 |_=>intro _ s K x h; cases h
end
end Go.Den
namespace Go.Den
section
variable {P:Program} {C:Cx} (hC:ay P C) {R:Type}
def a1R(tmps:Array Value):ResultVar→Sem Value
 | .tmp t=>pure (tmps.getD t undef)
 | .cell ad t=>do loadVar t (←asAddr (tmps.getD ad undef))
def a3B:List Value→Value
 | [v]=>v
 |l=>.tuple l.toArray
theorem a1S(hti:xw P C.ti) {s:DS} {r:ResultVar} {K:V→Option R} {x:R}(h:acN C s r K=some x) {B:Base} {ρ:Rho} {a:Act} {w:World}(hr:aP B ρ s a w):
  ∃v vv,K v=some x∧(a1R a.tmps r).run P w= .ok vv w∧VR ρ w v vv:=by
 unfold acN at h
 split at h
 ·rename_i t
  split at h
  ·rename_i v hv
   obtain⟨vv,h1,h2⟩:=hr.env t _ hv
   exact⟨v,vv,h,by simp[a1R,h1],h2⟩
  ·cases h
 ·rename_i ad T
  split at h
  ·rename_i pv hv
   rw[Dh]at h
   cases hp:qY C.ti T pv s.h some with
   |none=>rw[hp]at h; cases h
   |some r=>
    rw[hp]at h
    simp only[Option.bind_some]at h
    obtain⟨va,h1,h2⟩:=hr.env ad _ hv
    obtain⟨v,h3,h4⟩:=Ke hti hr h2 hp
    split at h
    ·rename_i v'
     refine⟨v',v,h,?_,h4⟩
     have hva: ∃p,va= .pointer (some p):=by
      unfold qY at hp
      split at hp
      ·obtain⟨loc,_,_,_,_,e⟩:=VR.ptrRf h2; exact⟨_,e⟩
      ·obtain⟨b,o,c,e,_⟩:=VR.ptrFz h2; exact⟨_,e⟩
      ·cases hp
     obtain⟨p,rfl⟩:=hva
     simp only[a1R,Array.getD_eq_getD_getElem?,h1,Option.getD_some,asAddr,Sem.run_bind,Sem.run_pure,Result.andThen_ok]
     simpa [Instr.loadAt,Instr.sureAddr]using h3
    ·cases h
  ·cases h
theorem ZE(hti:xw P C.ti) {s:DS} {B:Base} {ρ:Rho} {a:Act} {w:World}(hr:aP B ρ s a w): ∀ {l:List ResultVar} {K:List V→Option R} {x:R},VQ C s l K=some x→
  ∃vs vvs,K vs=some x∧(l.mapM (a1R a.tmps)).run P w= .ok vvs w∧VRs ρ w vs vvs:=by
 intro l
 induction l with
 |nil=>intro K x h; exact⟨[],[],h,rfl,trivial⟩
 |cons r l ih=>
  intro K x h
  simp only[VQ]at h
  obtain⟨v,vv,h1,h2,h3⟩:=a1S hti h hr
  obtain⟨vs,vvs,h4,h5,h6⟩:=ih h1
  refine⟨v::vs,vv::vvs,h4,?_,h3,h6⟩
  simp only[List.mapM_cons,Sem.run_bind,h2,Result.andThen_ok,h5,Sem.run_pure]
theorem VRs.length {ρ:Rho} {w:World} : ∀ {l:List V} {vs:List Value},VRs ρ w l vs→l.length=vs.length
 | [],[],_=>rfl
 |_::_,_::_,h=>by simp[VRs.length h.2]
theorem Wp {fn:Func} {a:Act} {w:World} {vvs:List Value}(h:(fn.results.toList.mapM (a1R a.tmps)).run P w= .ok vvs w):
  (results fn a.tmps).run P w= .ok (a3B vvs) w:=by
 have e:results fn a.tmps=(do let vs←fn.results.mapM (a1R a.tmps); pure (if h:vs.size=1 then vs[0]else .tuple vs)):=by
  unfold results
  congr 1
 rw[e,Array.mapM_eq_mapM_toList]
 simp only[Sem.run_bind,Sem.run_map,h,Result.andThen_ok,Sem.run_pure]
 match vvs with
 | []=>rfl
 | [v]=>rfl
 |v::u::l=>simp[a3B]
theorem aa1 {ρ:Rho} {w:World} {vs:List V} {vvs:List Value}(h:VRs ρ w vs vvs):VP ρ w (OJ vs) (a3B vvs):=by
 match vs,vvs,h with
 | [],[],_=>exact⟨[],rfl,trivial⟩
 | [v],[vv],h=>exact h.1
 |v::u::l,vv::uu::ll,h=>exact⟨vv::uu::ll,rfl,h⟩
theorem Bz: ∀(args:List PV) (i t:Nat) (pv:PV),look (numbered i args) t=some pv→i≤t∧args[t-i]?=some pv:=by
 intro args
 induction args with
 |nil=>intro i t pv h; cases h
 |cons x l ih=>
  intro i t pv h
  simp only[numbered]at h
  rw[aV]at h
  split at h
  ·rename_i e; subst e; simp only[Option.some.injEq]at h; subst h; simp
  ·obtain⟨h1,h2⟩:=ih (i+1) t pv h
   refine⟨by omega,?_⟩
   rw[show t-i=(t-(i+1))+1 by omega,List.getElem?_cons_succ]; exact h2
theorem VPs.get {ρ:Rho} {w:World} : ∀ {l:List PV} {vs:List Value},VPs ρ w l vs→ ∀(j:Nat) pv,l[j]?=some pv→ ∃v,vs[j]?=some v∧VP ρ w pv v
 | [],[],_,j,pv,h=>by simp at h
 |x::l,v::vs,h,0,pv,hj=>by simp only[List.getElem?_cons_zero,Option.some.injEq]at hj; subst hj; exact⟨v,rfl,h.1⟩
 |x::l,v::vs,h,j+1,pv,hj=>by
  obtain⟨u,h1,h2⟩:=VPs.get h.2 j pv (by simpa using hj)
  exact⟨u,by simpa using h1,h2⟩
theorem aP.enter {B:Base} {ρ:Rho} {s:DS} {a:Act} {w:World}(hr:aP B ρ s a w) {args:List PV} {vargs:List Value}(hv:VPs ρ w args vargs)(n:Nat):
  aP B ρ { env:=numbered 0 args,hp:=s.hp,nx:=s.nx,n:=n } { tmps:=vargs.toArray++Array.replicate (n-vargs.toArray.size) undef,defers:=[] } w:=by
 refine⟨rfl,by simp; omega,fun t pv hl=>?_,hr.obj,hr.inj,hr.own,hr.ownA,hr.base,hr.may⟩
 obtain⟨_,h1⟩:=Bz args 0 t pv hl
 obtain⟨v,h2,h3⟩:=hv.get t pv (by simpa using h1)
 refine⟨v,?_,h3⟩
 have hlt:=(List.getElem?_eq_some_iff.1 h2).1
 rw[Array.getElem?_append_left (by simpa using hlt)]
 simpa using h2
include hC in
theorem Ao(hD:UH P C R) {call:Ak R}(hcall:za P call)(lps:List (Nat×Lp)) {f:FuncId} {fn:Func}(hf:P.funcs[f]?=some fn)
  (hlp: ∀c,fn.body=some c→ ∀q∈blocks c,∀lp,look lps q.1=some lp→bF P q.1 q.2 lp) {args:List PV} {s:DS} {K:PV→DS→Option R} {x:R}
  (h:bodyK C lps call fn args s.hp s.nx K=some x) {B:Base} {ρ:Rho} {a:Act} {w:World} {vargs:List Value} (hr:aP B ρ s a w) (hfr:mD ρ s.nx) (hv:VPs ρ w args vargs):
  Calls P f vargs.toArray w fun e w'=> ∃v,e= .returned v∧ ∃pv s' ρ' a',K pv s'=some x∧aP B ρ' s' a' w'∧mD ρ' s'.nx∧VP ρ' w' pv v∧Later ρ w ρ' w':=by
 unfold bodyK at h
 split at h
 ·rename_i c hc
  refine calls_of_wp hf hc ?_
  refine wp_mono (Qk hC hD hcall lps True c (hlp c hc) _ _ x h B ρ _ w (hr.enter hv fn.ntmps) hfr) ?_
  rintro e a' w' ⟨s',ρ',h1,h2,h3,h4,h5⟩
  have fin:VQ C s' fn.results.toList (fun vs=>K (OJ vs) s')=some x→a'.defers=[]∧ ∃v,(results fn a'.tmps).run P w'= .ok v w'∧ ∃v',Ending.returned v= .returned v'∧ ∃pv s' ρ' a',K pv s'=some x∧aP B ρ' s' a' w'∧mD ρ' s'.nx∧VP ρ' w' pv v'∧Later ρ w ρ' w':=by
   intro h6
   obtain⟨vs,vvs,h7,h8,h9⟩:=ZE hC.ti h2 h6
   exact⟨h2.defers,_,Wp h8,_,rfl,_,s',ρ',a',h7,h2,h3,aa1 h9,h5 trivial⟩
  cases e with
  |normal=>exact fin h1
  |ret=>exact fin h1
  |_=>cases h1
 ·cases h
include hC in
theorem Dq(hD:UH P C R): ∀d,za P (denF C d:Ak R):=by
 intro d
 induction d with
 |zero=>intro f args s K x h; cases h
 |succ d ih=>
  intro f args s K x h B ρ a w vargs hr hfr hv
  simp only[denF]at h
  split at h
  ·rename_i fn lps hfn
   obtain⟨h1,h2,h9⟩:=hC.fns f fn lps hfn
   refine .inr ⟨h2 _ _,?_⟩
   refine(Ao hC hD ih lps h1 h9 (s:=s) h hr hfr hv).mono ?_
   rintro e w' ⟨v,rfl,pv,s',ρ',a',h3,h4,h5,h6,h7⟩
   have L:=h7
   refine⟨v,rfl,pv,_,ρ',h3,⟨hr.defers,hr.tmps,fun t pv hl=>?_,h4.obj,h4.inj,h4.own,h4.ownA,h4.base,h4.may⟩,h5,h6,L,rfl⟩
   obtain⟨v',h8,h9⟩:=hr.env t pv hl
   exact⟨v',h8,h9.later L⟩
  ·cases h
end
end Go.Den
namespace Go.Den
section
variable {α:Type}
def wr:List (List (Nat×α))→Nat→(Nat→Bool)→List (Nat×α)→List (Nat×α)
 | [],_,_,l=>l
 |u::us,k,D,l=>wr us (k+1) D (if D k then u++l else l)
theorem fH {u l:List (Nat×α)} {t:Nat} :look (u++l) t=match look u t with|some x=>some x|none=>look l t:=by
 induction u with
 |nil=>rfl
 |cons x u ih=>
  obtain⟨n,x⟩:=x
  rw[List.cons_append,aV,aV]
  split
  ·rfl
  ·exact ih
theorem MK {u:List (Nat×α)} {t:Nat}(h: ∀x∈u,x.1≠t):look u t=none:=by
 induction u with
 |nil=>rfl
 |cons x u ih=>
  obtain⟨n,x⟩:=x
  rw[aV,if_neg (h (n,x) (by simp))]
  exact ih fun y hy=>h y (by simp[hy])
theorem Ql {t:Nat} : ∀(us:List (List (Nat×α))) (k:Nat) (D D':Nat→Bool) (l l':List (Nat×α)),look l t=look l' t→
  (∀(j:Nat) u,us[j]?=some u→(∃x∈u,x.1=t)→D (k+j)=D' (k+j))→look (wr us k D l) t=look (wr us k D' l') t:=by
 intro us
 induction us with
 |nil=>intro k D D' l l' h _; exact h
 |cons u us ih=>
  intro k D D' l l' h hd
  simp only[wr]
  apply ih
  ·by_cases hu: ∃x∈u,x.1=t
   ·have:=hd 0 u rfl hu
    simp only[Nat.add_zero]at this
    rw[this]
    cases D' k
    ·exact h
    ·simp only[if_true]; rw[fH,fH,h]
   ·have hn:look u t=none:=MK fun x hx e=>hu ⟨x,hx,e⟩
    have h1: ∀(b:Bool) (l:List (Nat×α)),look (if b then u++l else l) t=look l t:=by
     intro b l
     cases b
     ·rfl
     ·simp only[if_true]; rw[fH,hn]
    rw[h1,h1,h]
  ·intro j u' hj hx
   have:=hd (j+1) u' (by simpa using hj) hx
   rwa [show k+(j+1)=k+1+j by omega]at this
theorem a3C {t:Nat} : ∀(us:List (List (Nat×α))) (k:Nat) (D D':Nat→Bool) (i:Nat) (u:List (Nat×α)) (l:List (Nat×α)),us[i]?=some u→D' (k+i)=true→D (k+i)=false→
  (∀j,j≠k+i→D' j=D j)→(∀(j:Nat) v,i<j→us[j]?=some v→D (k+j)=true→(∃x∈u,x.1=t)→ ∀x∈v,x.1≠t)→
  look (wr us k D' l) t=look (u++wr us k D l) t:=by
 intro us
 induction us with
 |nil=>intro k D D' i u l h; simp at h
 |cons v us ih=>
  intro k D D' i u l h h1 h0 hD hlast
  cases i with
  |zero=>
   simp only[List.getElem?_cons_zero,Option.some.injEq]at h; subst h
   simp only[Nat.add_zero]at h1 h0 hD
   simp only[wr,h1,h0,if_true,Bool.false_eq_true,if_false]
   by_cases hu: ∃x∈v,x.1=t
   ·
    have: ∀(us:List (List (Nat×α))) (k':Nat) (l1 l2:List (Nat×α)),(∀(j:Nat) u',us[j]?=some u'→D' (k'+j)=true→ ∀x∈u',x.1≠t)→look (wr us k' D' l1) t=look l1 t:=by
     intro us
     induction us with
     |nil=>intro k' l1 _ _; rfl
     |cons u' us ih2=>
      intro k' l1 l2 hh
      simp only[wr]
      rw[ih2 (k'+1) _ l2 (fun j u'' hj hd=>hh (j+1) u'' (by simpa using hj) (by rwa [show k'+(j+1)=k'+1+j by omega]))]
      cases hk:D' k'
      ·rfl
      ·simp only[if_true]
       rw[fH,MK (hh 0 u' rfl (by simpa using hk))]
    rw[this us (k+1) _ l (fun j u' hj hd x hx=>hlast (j+1) u' (by omega) (by simpa using hj) (by rw[←hD _ (by omega),show k+(j+1)=k+1+j by omega]; exact hd) hu x hx)]
    rw[fH,fH]
    obtain⟨x,hx,hxt⟩:=hu
    have:look v t≠none:=by
     clear hlast this
     induction v with
     |nil=>cases hx
     |cons y v ihv=>
      obtain⟨n,y⟩:=y
      rw[aV]
      split
      ·simp
      ·rename_i hne
       rcases List.mem_cons.1 hx with e|e
       ·subst e; exact absurd hxt hne
       ·exact ihv e
    cases hl:look v t with
    |none=>exact absurd hl this
    |some y=>rfl
   ·have hn:look v t=none:=MK fun x hx e=>hu ⟨x,hx,e⟩
    rw[fH,hn]
    apply Ql
    ·rw[fH,hn]
    ·intro j u' hj _
     exact hD _ (by omega)
  |succ i=>
   simp only[wr]
   have hk:D' k=D k:=hD k (by omega)
   rw[hk]
   refine ih (k+1) D D' i u _ (by simpa using h) (by rw[show k+1+i=k+(i+1)by omega]; exact h1) (by rw[show k+1+i=k+(i+1)by omega]; exact h0) (fun j hj=>hD j (by omega)) (fun j v' hij hj hd hu x hx=>?_)
   exact hlast (j+1) v' (by omega) (by simpa using hj) (by rw[show k+(j+1)=k+1+j by omega]; exact hd) hu x hx
end
end Go.Den
namespace Go.Den
section
variable {C:Cx} {R:Type}
theorem a18 {β:Type} {vl vl':Operand→PV} {l:List β} {g:β→Operand} {F:β→PV→Nat×PV}(h: ∀b∈l,vl (g b)=vl' (g b)):(l.map fun b=>F b (vl (g b)))=l.map fun b=>F b (vl' (g b)):=
 List.map_congr_left fun b hb=>by rw[h b hb]
theorem ZF {ti:List (Nat×TI)} {T:TypeId} {a:PV} {h h':Heap} {K:PV→Option R}(hh: ∀t id p,a= .v ⟨.ptr t,.rf id p⟩→h id=h' id):qY ti T a h K=qY ti T a h' K:=by
 unfold qY
 split
 ·rw[hh _ _ _ rfl]
 ·rfl
 ·rfl
theorem Wq {ti:List (Nat×TI)} {T:TypeId} {a v:PV} {h h':Heap} {K:PV→Upd→Option R}(hh: ∀t id p,a= .v ⟨.ptr t,.rf id p⟩→h id=h' id):qO ti T a v h K=qO ti T a v h' K:=by
 unfold qO
 split
 ·rw[hh _ _ _ rfl]
 ·rfl
theorem ZG {ti:List (Nat×TI)} {T:TypeId} {d x:PV} {h h':Heap} {K:K3 R}(hh: ∀t id p lo len t' id' p' lo' len',d= .v ⟨.sl t,.ms id p lo len⟩→x= .v ⟨.sl t',.ms id' p' lo' len'⟩→h id=h' id∧h id'=h' id'):Br ti T d x h K=Br ti T d x h' K:=by
 unfold Br
 split
 ·split
  ·split
   ·split
    ·congr 1
     obtain⟨h1,h2⟩:=hh _ _ _ _ _ _ _ _ _ _ rfl rfl
     rw[h1,h2]
    ·rfl
   ·rfl
  ·rfl
 ·rfl
theorem a1T {d:PV} {t:Ty} {e:TypeId} {h h':Heap}(hh: ∀id∈yx d,h id=h' id):rowOf d t e h=rowOf d t e h':=by
 unfold rowOf
 split
 ·rfl
 ·rw[hh _ (by simp[yx])]
 ·rfl
theorem NM {d:PV} {t:Ty} {h h':Heap}(hh: ∀id∈yx d,h id=h' id):sO d t h=sO d t h':=by
 unfold sO
 split
 ·rfl
 ·rfl
 ·rw[hh _ (by simp[yx])]
 ·rfl
theorem Kq {ti:List (Nat×TI)} {T:TypeId} {d x:PV} {h h':Heap} {nx:Nat} {K:K3 R}(hh: ∀id∈yx d++yx x,h id=h' id):iV ti T d x h nx K=iV ti T d x h' nx K:=by
 unfold iV
 split
 ·split
  ·split
   ·split
    ·rw[a1T (fun id hi=>hh id (List.mem_append_left _ hi)),NM (fun id hi=>hh id (List.mem_append_right _ hi))]
    ·rfl
   ·rfl
  ·rfl
 ·rfl
theorem SQ {ti:List (Nat×TI)} {src dst:TypeId} {x:PV} {h h':Heap} {nx:Nat} {K:K3 R}(hh: ∀id∈yx x,h id=h' id):lM ti src dst x h nx K=lM ti src dst x h' nx K:=by
 unfold lM
 rw[NM hh]
theorem a3D {o:Oper} {vl vl':Operand→PV} {h h':Heap} {nx:Nat} {K:K3 R}(hv: ∀x∈o.op.operands,vl x=vl' x)(hh: ∀id∈(Sz o vl nx).1,h id=h' id):
  EX C o vl h nx K=EX C o vl' h' nx K:=by
 unfold EX Sz at*
 cases hop:o.op with
 |move x=>simp only[hop]at hv⊢; rw[hv x (by simp[Op.operands])]
 |assign x=>simp only[hop]at hv⊢; rw[hv x (by simp[Op.operands])]
 |pick c a b=>simp only[hop]at hv⊢; rw[hv c (by simp[Op.operands]),hv a (by simp[Op.operands]),hv b (by simp[Op.operands])]
 |alloc T=>rfl
 |box T x=>simp only[hop]at hv⊢; rw[hv x (by simp[Op.operands])]
 |build T ps=>
  simp only[hop]at hv⊢
  rw[a18 (l:=ps.toList) (g:=fun p=>p.2) (F:=fun p x=>(p.1,x)) (fun b hb=>hv b.2 (by simp only[Op.operands]; simpa using⟨b.1,by simpa using hb⟩))]
 |buildSlice T len ps=>
  simp only[hop]at hv⊢
  rw[a18 (l:=ps.toList) (g:=fun p=>p.2) (F:=fun p x=>(p.1,x)) (fun b hb=>hv b.2 (by simp only[Op.operands]; simpa using⟨b.1,by simpa using hb⟩))]
 |load T a=>
  simp only[hop]at hv hh⊢
  rw[←hv a (by simp[Op.operands])]
  exact ZF fun t id p e=>hh id (by rw[e]; simp)
 |store T a x=>
  simp only[hop]at hv hh⊢
  rw[←hv a (by simp[Op.operands]),←hv x (by simp[Op.operands])]
  exact Wq fun t id p e=>hh id (by rw[e]; simp)
 |nilCheck x=>simp only[hop]at hv⊢; rw[hv x (by simp[Op.operands])]
 |binOp op T x y _=>simp only[hop]at hv⊢; rw[hv x (by simp[Op.operands]),hv y (by simp[Op.operands])]
 |unOp op T x=>simp only[hop]at hv⊢; rw[hv x (by simp[Op.operands])]
 |convert S T x=>
  simp only[hop]at hv hh⊢
  rw[←hv x (by simp[Op.operands])]
  exact SQ fun id hid=>hh id hid
 |sliceToArrayPointer T x=>simp only[hop]at hv⊢; rw[hv x (by simp[Op.operands])]
 |makeFunc fn first caps=>
  simp only[hop]at hv⊢
  rw[List.map_congr_left fun x hx=>hv x (by simp only[Op.operands]; exact Array.mem_append.2 (.inr (by simpa using hx)))]
 |slice T x lo hi mx=>
  simp only[hop]at hv⊢
  have e1:lo.map vl=lo.map vl':=by cases lo with
   |none=>rfl
   |some y=>simp only[Option.map_some]; rw[hv y (by simp[Op.operands])]
  have e2:hi.map vl=hi.map vl':=by cases hi with
   |none=>rfl
   |some y=>simp only[Option.map_some]; rw[hv y (by simp[Op.operands])]
  rw[hv x (by simp[Op.operands]),e1,e2]
 |fieldAddr T x j=>simp only[hop]at hv⊢; rw[hv x (by simp[Op.operands])]
 |field T x j=>simp only[hop]at hv⊢; rw[hv x (by simp[Op.operands])]
 |indexAddr T x y=>simp only[hop]at hv⊢; rw[hv x (by simp[Op.operands]),hv y (by simp[Op.operands])]
 |index T x y=>simp only[hop]at hv⊢; rw[hv x (by simp[Op.operands]),hv y (by simp[Op.operands])]
 |extract x j=>simp only[hop]at hv⊢; rw[hv x (by simp[Op.operands])]
 |makeSlice T x y=>simp only[hop]at hv⊢; rw[hv x (by simp[Op.operands]),hv y (by simp[Op.operands])]
 |lookup T x y ok=>
  simp only[hop]at hv hh⊢
  rw[←hv x (by simp[Op.operands]),←hv y (by simp[Op.operands])]
  unfold qz
  split
  ·split
   ·split
    ·rfl
    ·rename_i e; rw[hh _ (by rw[e]; simp[Sy])]
    ·rfl
   ·rfl
  ·rfl
 |mapUpdate T x y z=>
  simp only[hop]at hv hh⊢
  rw[←hv x (by simp[Op.operands]),←hv y (by simp[Op.operands]),←hv z (by simp[Op.operands])]
  unfold jh
  split
  ·split
   ·split
    ·rename_i e; rw[hh _ (by rw[e]; simp[Sy])]
    ·rfl
   ·rfl
  ·rfl
 |mapEntry T x y=>
  simp only[hop]at hv hh⊢
  rw[←hv x (by simp[Op.operands]),←hv y (by simp[Op.operands])]
  unfold kS
  split
  ·split
   ·split
    ·rename_i e; rw[hh _ (by rw[e]; simp[Sy])]
    ·rfl
   ·rfl
  ·rfl
 |entryStore T x y z=>
  simp only[hop]at hv hh⊢
  rw[←hv x (by simp[Op.operands]),←hv y (by simp[Op.operands]),←hv z (by simp[Op.operands])]
  unfold iA
  split
  ·split
   ·split
    ·rename_i e; rw[hh _ (by rw[e]; simp[Sy])]
    ·rfl
   ·rfl
  ·rfl
 |call c=>
  simp only[hop]at hv hh⊢
  rw[←List.map_congr_left fun x hx=>hv x (by simp only[Op.operands,Call.operands]; exact Array.mem_append.2 (.inr (by simpa using hx)))]
  unfold rR
  split
  ·split
   ·rfl
   ·rename_i hcal
    have e3:= ‹List.map vl c.args.toList=_›
    rw[hcal,e3]at hh
    unfold Bt
    split
    ·split
     ·rfl
     ·simp only[yx]at hh
      rw[hh _ (by simp)]
     ·rfl
    ·rfl
   ·rename_i hcal
    have e3:= ‹List.map vl c.args.toList=_›
    rw[hcal,e3]at hh
    unfold Bu
    split
    ·split
     ·simp only[List.mem_singleton,forall_eq]at hh
      rw[hh]
     ·rfl
    ·rfl
   ·rfl
   ·rfl
   ·rename_i hargs _ hcal
    have e3:= ‹List.map vl c.args.toList=_›
    rw[hcal,e3]at hh
    split
    ·unfold Aj
     split
     ·split
      ·split
       ·simp[yx]at hh
        rw[hh]
       ·rfl
      ·rfl
     ·rfl
    refine ZG fun t id p lo len t' id' p' lo' len' e1 e2=>?_
    subst e1
    subst e2
    exact⟨hh id (by simp[yx]),hh id' (by simp[yx])⟩
   ·rename_i hargs _ hcal
    split
    ·have e3:= ‹List.map vl c.args.toList=_›
     refine Kq fun id hid=>?_
     rw[hcal,e3]at hh
     exact hh id hid
    ·split
     ·have e3:= ‹List.map vl c.args.toList=_›
      rw[hcal,e3]at hh
      congr 1
      refine Kq fun id hid=>hh id ?_
      simpa [yx]using hid
     ·rfl
   ·rfl
  ·rfl
 |_=>rfl
theorem ZH {o:Oper} {vl vl':Operand→PV}(hv: ∀x∈o.op.operands,vl x=vl' x):JB o vl=JB o vl':=by
 unfold JB
 cases hop:o.op with
 |call c=>
  simp only[hop]at hv⊢
  cases hc:c.callee with
  |value f=>
   simp only
   rw[hv f (by simp[Op.operands,Call.operands,hc]),List.map_congr_left fun x hx=>hv x (by simp only[Op.operands,Call.operands]; exact Array.mem_append.2 (.inr (by simpa using hx)))]
  |_=>rfl
 |_=>rfl
theorem a3E {o:Oper} {vl vl':Operand→PV} {nx:Nat}(hv: ∀x∈o.op.operands,vl x=vl' x):Sz o vl nx=Sz o vl' nx:=by
 unfold Sz
 cases hop:o.op with
 |load T a=>simp only[hop]at hv⊢; rw[hv a (by simp[Op.operands])]
 |store T a x=>simp only[hop]at hv⊢; rw[hv a (by simp[Op.operands])]
 |convert S T x=>simp only[hop]at hv⊢; rw[hv x (by simp[Op.operands])]
 |lookup T x y ok=>simp only[hop]at hv⊢; rw[hv x (by simp[Op.operands])]
 |mapUpdate T x y z=>simp only[hop]at hv⊢; rw[hv x (by simp[Op.operands])]
 |mapEntry T x y=>simp only[hop]at hv⊢; rw[hv x (by simp[Op.operands])]
 |entryStore T x y z=>simp only[hop]at hv⊢; rw[hv x (by simp[Op.operands])]
 |call c=>
  simp only[hop]at hv⊢
  rw[List.map_congr_left fun x hx=>hv x (by simp only[Op.operands,Call.operands]; exact Array.mem_append.2 (.inr (by simpa using hx)))]
 |_=>rfl
end
end Go.Den
namespace Go.Den
structure Rec where
 skip:Bool
 pv:PV
 u:Upd
 n:Nat
 nx:Nat
 fp:Fp
def Fb(C:Cx)(o:Oper)(vl:Operand→PV)(h:Heap)(r:Rec):Prop:=
 match JB o vl with
 |some (f,args)=> ∃c,look C.con f=some c∧c.run args h r.nx pk=some (r.pv,r.u,r.n)∧r.fp=((c.fp args h).1,(c.fp args h).2++List.range' r.nx r.n)
 |none=>EX C o vl h r.nx pk=some (r.pv,r.u,r.n)∧r.fp=Sz o vl r.nx
def vO(dst:Option Tmp)(pv:PV):List (Nat×PV):=match dst with|some d=>[(d,pv)]|none=>[]
def DS.behind(s:DS)(o:Oper)(r:Rec):DS:= { s with env:=vO o.dst r.pv++s.env,hp:=r.u++s.hp,nx:=r.nx+r.n }
def vo(all:List Oper)(o:Oper)(e:Nat→Option PV):Option Bool:=
 match o.guard with
 |none=>some true
 |some (j,want)=>match uZ all j with
  |none=>none
  |some t=>match e t with
   |some (.v ⟨.bool,b⟩)=>some (b==want)
   |some (.tup [])=>some false
   |_=>none
inductive Run(C:Cx)(all:List Oper):List Oper→DS→List Rec→DS→Prop
 |nil (s:DS):Run C all [] s [] s
 |step {o rest s r rs s'} (hw:vo all o (look s.env)=some true) (hs:r.skip=false) (hn:r.nx=s.nx) (ht:Fb C o s.val s.h r) (hd: ∀d,o.dst=some d→d<s.n)
   (hr:Run C all rest (s.behind o r) rs s'):Run C all (o::rest) s (r::rs) s'
 |skip {o rest s r rs s'} (hw:vo all o (look s.env)=some false) (hs:r.skip=true) (hn:r.nx=s.nx) (hr0:r.pv= .tup []∧r.u=[]∧r.n=0∧r.fp=([],[])) (hd: ∀d,o.dst=some d→d<s.n)
   (hr:Run C all rest (s.behind o r) rs s'):Run C all (o::rest) s (r::rs) s'
theorem Qm {R:Type} {s:DS} {dst:Option Tmp} {pv:PV} {K:DS→Option R} {x:R}(h:s.put dst pv K=some x):(∀d,dst=some d→d<s.n)∧K { s with env:=vO dst pv++s.env } =some x:=by
 unfold DS.put at h
 split at h
 ·exact⟨(fun d e=>by cases e),h⟩
 ·rename_i d
  cases hb:Nat.blt d s.n
  ·rw[hb]at h; cases h
  ·rw[hb]at h
   exact⟨(fun d' e=>by cases e; exact F7 hb),h⟩
structure Alike(s s':DS):Prop where
 env: ∀t,look s.env t=look s'.env t
 hp: ∀t,look s.hp t=look s'.hp t
 nx:s.nx=s'.nx
 n:s.n=s'.n
theorem Alike.val {s s':DS}(h:Alike s s'):s.val=s'.val:=by
 funext x; cases x<;>simp[DS.val,h.env]
theorem Alike.h {s s':DS}(h:Alike s s'):s.h=s'.h:=by funext t; exact h.hp t
theorem Alike.behind {s s':DS}(h:Alike s s')(o:Oper)(r:Rec):Alike (s.behind o r) (s'.behind o r):=
 ⟨fun t=>by simp only[DS.behind,fH,h.env],fun t=>by simp only[DS.behind,fH,h.hp],rfl,h.n⟩
theorem Alike.refl(s:DS):Alike s s:=⟨fun _=>rfl,fun _=>rfl,rfl,rfl⟩
theorem Alike.symm {s s':DS}(h:Alike s s'):Alike s' s:=⟨fun t=>(h.env t).symm,fun t=>(h.hp t).symm,h.nx.symm,h.n.symm⟩
theorem Alike.trans {s s' s'':DS}(h:Alike s s')(h':Alike s' s''):Alike s s'':=⟨fun t=>(h.env t).trans (h'.env t),fun t=>(h.hp t).trans (h'.hp t),h.nx.trans h'.nx,h.n.trans h'.n⟩
theorem Run.alike {C:Cx} {all rest:List Oper} {s:DS} {rs:List Rec} {s1:DS}(h:Run C all rest s rs s1): ∀s',Alike s s'→ ∃s1',Run C all rest s' rs s1'∧Alike s1 s1':=by
 induction h with
 |nil s=>intro s' ha; exact⟨s',.nil s',ha⟩
 |step hw hs hn ht hd hr ih=>
  intro s' ha
  obtain⟨s1',h1,h2⟩:=ih _ (ha.behind _ _)
  refine⟨s1',.step ?_ hs (hn.trans ha.nx) (by rw[←ha.val,←ha.h]; exact ht) (by rw[←ha.n]; exact hd) h1,h2⟩
  rw[←hw]; congr 1; funext t; exact(ha.env t).symm
 |skip hw hs hn h0 hd hr ih=>
  intro s' ha
  obtain⟨s1',h1,h2⟩:=ih _ (ha.behind _ _)
  refine⟨s1',.skip ?_ hs (hn.trans ha.nx) h0 (by rw[←ha.n]; exact hd) h1,h2⟩
  rw[←hw]; congr 1; funext t; exact(ha.env t).symm
theorem aP.alike {B:Base} {ρ:Rho} {s s':DS} {a:Act} {w:World}(h:aP B ρ s a w)(ha:Alike s s'):aP B ρ s' a w:=
 ⟨h.defers,by rw[←ha.n]; exact h.tmps,fun t pv hl=>h.env t pv (by rw[ha.env]; exact hl),fun id o hl=>h.obj id o (by rw[ha.hp]; exact hl),
  fun i j o1 o2 l1 l2 h1 h2 d1 d2 h3 h4 h5=>h.inj i j o1 o2 l1 l2 (by rw[ha.hp]; exact h1) (by rw[ha.hp]; exact h2) d1 d2 h3 h4 h5,h.own,h.ownA,h.base,h.may⟩
theorem vP {s:DS} {t:Nat} {b:Bool}(h:look s.env t=some (.v ⟨.bool,b⟩)):Alike { s with env:=(t,.v ⟨.bool,b⟩)::s.env } s:=by
 refine⟨fun t'=>?_,fun _=>rfl,rfl,rfl⟩
 show look ((t,_)::s.env) t'=_
 rw[aV]
 split
 ·rename_i e; subst e; exact h.symm
 ·rfl
theorem a3F {C:Cx} {R:Type} {call:Ak R} {all:List Oper} {K:DS→Option R} {x:R} : ∀(rest:List Oper) (tr:List Fp) (s:DS),(∀f c,look C.con f=some c→ ∃P,aD P f c)→C8 C true call all rest tr s K=some x→
  ∃rs s' s2,Run C all rest s rs s'∧Alike s' s2∧JC all (tr++rs.map (·.fp))=true∧K s2=some x:=by
 intro rest
 induction rest with
 |nil=>
  intro tr s _ h
  simp only[C8,cond_true]at h
  cases hd:JC all tr
  ·rw[hd]at h; cases h
  ·rw[hd]at h; exact⟨[],s,s,.nil s,Alike.refl s,by simpa using hd,h⟩
 |cons o rest ih=>
  intro tr s hcon h
  have doStep: ∀s1,Alike s1 s→vo all o (look s.env)=some true→Nw C true call o s1 (fun s' fp=>C8 C true call all rest (tr++[fp]) s' K)=some x→
    ∃rs s' s2,Run C all (o::rest) s rs s'∧Alike s' s2∧JC all (tr++rs.map (·.fp))=true∧K s2=some x:=by
   intro s1 ha hw hs
   unfold Nw at hs
   have fin: ∀(r:Rec),r.nx=s1.nx→r.skip=false→Fb C o s1.val s1.h r→(s1.app r.u r.n).put o.dst r.pv (fun s'=>C8 C true call all rest (tr++[r.fp]) s' K)=some x→
     ∃rs s' s2,Run C all (o::rest) s rs s'∧Alike s' s2∧JC all (tr++rs.map (·.fp))=true∧K s2=some x:=by
    intro r hnx hsk ht hp
    obtain⟨hd,hp⟩:=Qm hp
    obtain⟨rs,s',s2,h1,h2,h3,h4⟩:=ih _ _ hcon hp
    have hb:Alike { s1.app r.u r.n with env:=vO o.dst r.pv++(s1.app r.u r.n).env } (s.behind o r):=by
     refine⟨fun t=>?_,fun t=>?_,?_,ha.n⟩
     ·simp only[DS.app,DS.behind,fH,ha.env]
     ·simp only[DS.app,DS.behind,fH,ha.hp]
     ·simp only[DS.app,DS.behind,hnx]
    obtain⟨s'',h5,h6⟩:=h1.alike _ hb
    exact⟨r::rs,s'',s2,.step hw hsk (hnx.trans ha.nx) (by rw[←ha.val,←ha.h]; exact ht) (by rw[←ha.n]; exact hd) h5,h6.symm.trans h2,by simpa using h3,h4⟩
   split at hs
   ·rename_i f args hco
    split at hs
    ·rename_i c hc
     obtain⟨P,ok⟩:=hcon f c hc
     rw[ok.nat]at hs
     cases hrun:c.run args s1.h s1.nx pk with
     |none=>rw[hrun]at hs; cases hs
     |some r=>
      obtain⟨pv,u,n⟩:=r
      rw[hrun]at hs
      exact fin ⟨false,pv,u,n,s1.nx,((c.fp args s1.h).1,(c.fp args s1.h).2++List.range' s1.nx n)⟩ rfl rfl (by unfold Fb; rw[hco]; exact⟨c,hc,hrun,rfl⟩) hs
    ·cases hs
   ·rename_i hco
    rw[VW]at hs
    cases hrun:EX C o s1.val s1.h s1.nx pk with
    |none=>rw[hrun]at hs; cases hs
    |some r=>
     obtain⟨pv,u,n⟩:=r
     rw[hrun]at hs
     exact fin ⟨false,pv,u,n,s1.nx,Sz o s1.val s1.nx⟩ rfl rfl (by unfold Fb; rw[hco]; exact⟨hrun,rfl⟩) hs
  have doSkip: ∀s1,Alike s1 s→vo all o (look s.env)=some false→Q8 o s1 (fun s' fp=>C8 C true call all rest (tr++[fp]) s' K)=some x→
    ∃rs s' s2,Run C all (o::rest) s rs s'∧Alike s' s2∧JC all (tr++rs.map (·.fp))=true∧K s2=some x:=by
   intro s1 ha hw hs
   unfold Q8 at hs
   obtain⟨hd,hp⟩:=Qm hs
   obtain⟨rs,s',s2,h1,h2,h3,h4⟩:=ih _ _ hcon hp
   let r:Rec:=⟨true,.tup [],[],0,s.nx,([],[])⟩
   have hb:Alike { s1 with env:=vO o.dst (.tup [])++s1.env } (s.behind o r):=by
    refine⟨fun t=>?_,fun t=>?_,?_,ha.n⟩
    ·simp only[DS.behind,fH,ha.env,r]
    ·simp only[DS.behind,ha.hp,r,List.nil_append]
    ·simp only[DS.behind,r,ha.nx,Nat.add_zero]
   obtain⟨s'',h5,h6⟩:=h1.alike _ hb
   exact⟨r::rs,s'',s2,.skip hw rfl rfl ⟨rfl,rfl,rfl,rfl⟩ (by rw[←ha.n]; exact hd) h5,h6.symm.trans h2,by simpa [r]using h3,h4⟩
  unfold C8 at h
  split at h
  ·rename_i hg
   exact doStep s (Alike.refl s) (by simp[vo,hg]) h
  ·rename_i j want hg
   split at h
   ·cases h
   ·rename_i t ht
    split at h
    ·rename_i b hb
     have hw:vo all o (look s.env)=some (b==want):=by simp only[vo,hg,ht,hb]
     cases b
     ·simp only[cond_false]at h
      cases want
      ·simp only[cond_false]at h
       exact doStep { s with env:=(t,.v ⟨.bool,false⟩)::s.env } (vP hb) hw h
      ·simp only[cond_true]at h
       exact doSkip { s with env:=(t,.v ⟨.bool,false⟩)::s.env } (vP hb) hw h
     ·simp only[cond_true]at h
      cases want
      ·simp only[cond_false]at h
       exact doSkip { s with env:=(t,.v ⟨.bool,true⟩)::s.env } (vP hb) hw h
      ·simp only[cond_true]at h
       exact doStep { s with env:=(t,.v ⟨.bool,true⟩)::s.env } (vP hb) hw h
    ·rename_i hb
     have hw:vo all o (look s.env)=some false:=by simp only[vo,hg,ht,hb]
     exact doSkip s (Alike.refl s) hw h
    ·cases h
end Go.Den
namespace Go.Den
theorem Kr {ti:List (Nat×TI)} {T:TypeId} {d y:PV} {h:Heap} {nx:Nat} {r:Ans}(hr:iV ti T d y h nx pk=some r): ∀x∈r.2.1,x.1∈nx::yx d:=by
 intro x hx
 unfold iV at hr
 split at hr
 ·split at hr
  ·split at hr
   ·split at hr
    ·split at hr
     ·rename_i hro _
      generalize (Nat.ble _ _&&_)=b at hr
      cases b
      ·cases hr
      ·cases hr
       simp only[List.mem_cons]at hx
       rcases hx with rfl|hx
       ·simp
       ·unfold rowOf at hro
        split at hro
        ·cases hro; cases hx
        ·split at hro
         ·split at hro
          ·rename_i e' _ _ _ _ _
           generalize Nat.beq _ _=b at hro
           cases b
           ·cases hro
           ·cases hro
            simp at hx; subst hx; simp[yx]
          ·cases hro
         ·cases hro
        ·cases hro
     ·cases hr
    ·cases hr
   ·cases hr
  ·cases hr
 ·cases hr
theorem a3G {C:Cx} {o:Oper} {vl:Operand→PV} {h:Heap} {nx:Nat} {r:Ans}(hr:EX C o vl h nx pk=some r): ∀x∈r.2.1,x.1∈(Sz o vl nx).2:=by
 have pure0: ∀(f:(R:Type)→(PV→Option R)→Option R),(∀(R:Type) (K:PV→Option R),f R K=(f PV some).bind K)→f Ans (fun v=>pk v [] 0)=some r→r.2.1=[]:=by
  intro f hf h
  rw[hf]at h
  cases hp:f PV some with
  |none=>rw[hp]at h; cases h
  |some pv'=>rw[hp]at h; cases h; rfl
 intro x hx
 unfold EX k0 at hr
 unfold Sz
 cases hop:o.op<;>simp only[hop]at hr⊢
 case move=>cases hr; cases hx
 case assign=>cases hr; cases hx
 case pick=>
  split at hr
  ·rename_i b _
   cases b<;>(cases hr; cases hx)
  ·cases hr
 case alloc=>
  split at hr
  ·cases hr; simp at hx; subst hx; simp
  ·cases hr
 case box=>
  split at hr
  ·split at hr
   ·generalize List.any _ _=b at hr
    cases b
    ·simp only[cond_false]at hr
     generalize Ty.spHead _=b at hr
     cases b
     ·cases hr; simp at hx; subst hx; simp
     ·cases hr
    ·simp only[cond_true]at hr
     generalize fV _ _=b at hr
     cases b
     ·cases hr
     ·cases hr; cases hx
   ·cases hr
  ·split at hr
   ·generalize List.any _ _=b at hr
    cases b
    ·cases hr; simp at hx; subst hx; simp
    ·cases hr
   ·cases hr
  ·cases hr
 case build=>rw[pure0 (fun R K=>yj C.ti _ _ K) (fun R K=>F3 ..) hr]at hx; cases hx
 case buildSlice=>
  split at hr
  ·split at hr
   ·split at hr
    ·split at hr
     ·split at hr
      ·rename_i f _
       generalize (Nat.ble _ _&&_)=b at hr
       cases b
       ·cases hr
       ·simp only[cond_true]at hr
        generalize List.any _ _=b at hr
        cases b
        ·cases hr; simp at hx; subst hx; simp
        ·simp only[cond_true]at hr
         generalize Ty.flat _=b at hr
         cases b
         ·cases hr
         ·cases hr; cases hx
      ·cases hr
     ·cases hr
    ·cases hr
   ·cases hr
  ·cases hr
 case load=>rw[pure0 (fun R K=>qY C.ti _ _ h K) (fun R K=>Dh ..) hr]at hx; cases hx
 case store T a v=>
  unfold qO at hr
  split at hr
  ·rename_i t id p v' ha hv
   split at hr
   ·split at hr
    ·generalize Nat.beq _ _=b at hr
     cases b
     ·cases hr
     ·simp only[cond_true]at hr
      split at hr
      ·cases hr; simp at hx; subst hx; rw[ha]; simp
      ·cases hr
    ·cases hr
   ·cases hr
  ·cases hr
 case nilCheck=>
  split at hr
  ·cases hr; cases hx
  ·cases hr; cases hx
  ·cases hr
 case binOp=>rw[pure0 (fun R K=>K6 C.ti _ _ _ _ K) (fun R K=>MC ..) hr]at hx; cases hx
 case unOp=>rw[pure0 (fun R K=>Uw _ _ K) (fun R K=>Q9 ..) hr]at hx; cases hx
 case convert=>
  unfold lM at hr
  split at hr
  ·split at hr
   ·split at hr
    ·cases hr; cases hx
    ·cases hr
   ·generalize MB _ _=b at hr
    cases b
    ·cases hr
    ·simp only[cond_true]at hr
     split at hr
     ·cases hr; cases hx
     ·cases hr
   ·generalize MB _ _=b at hr
    cases b
    ·cases hr
    ·simp only[cond_true]at hr
     split at hr
     ·rename_i hxx
      generalize Nat.ble _ _=b at hr
      cases b
      ·cases hr
      ·cases hr; simp at hx; subst hx; rw[hxx]; simp[isStr]
     ·cases hr
   ·cases hr
  ·cases hr
 case sliceToArrayPointer=>rw[pure0 (fun R K=>sN C.ti _ _ K) (fun R K=>Di ..) hr]at hx; cases hx
 case makeFunc=>rw[pure0 (fun R K=>oI _ _ _ K) (fun R K=>zi ..) hr]at hx; cases hx
 case slice=>
  split at hr
  ·rw[pure0 (fun R K=>yw C.ti _ _ _ _ K) (fun R K=>F6 ..) hr]at hx; cases hx
  ·cases hr
 case fieldAddr=>rw[pure0 (fun R K=>jS C.ti _ _ _ K) (fun R K=>xk ..) hr]at hx; cases hx
 case field=>rw[pure0 (fun R K=>yt C.ti _ _ _ K) (fun R K=>F4 ..) hr]at hx; cases hx
 case indexAddr=>rw[pure0 (fun R K=>jT C.ti _ _ _ K) (fun R K=>xq ..) hr]at hx; cases hx
 case index=>rw[pure0 (fun R K=>yu C.ti _ _ _ K) (fun R K=>F5 ..) hr]at hx; cases hx
 case extract=>rw[pure0 (fun R K=>pV _ _ K) (fun R K=>Bv ..) hr]at hx; cases hx
 case makeSlice=>
  unfold Dg at hr
  split at hr
  ·split at hr
   ·split at hr
    ·split at hr
     ·split at hr
      ·generalize (_&&_)=b at hr
       cases b
       ·cases hr
       ·cases hr; simp at hx; subst hx; simp
      ·cases hr
     ·cases hr
    ·cases hr
   ·cases hr
  ·cases hr
 case makeMap T m=>
  split at hr
  ·unfold rQ at hr
   split at hr
   ·cases hr; simp at hx; subst hx; simp
   ·cases hr
  ·cases hr
 case lookup=>rw[pure0 (fun R K=>qz C.ti _ _ _ _ h K) (fun R K=>Dj ..) hr]at hx; cases hx
 case mapUpdate T m k v=>
  unfold jh at hr
  split at hr
  ·split at hr
   ·split at hr
    ·rename_i hm
     split at hr
     ·split at hr
      ·cases hr; simp at hx; subst hx; rw[hm]; simp[Sy]
      ·cases hr
     ·cases hr
    ·cases hr
   ·cases hr
  ·cases hr
 case mapEntry T m k=>
  unfold kS at hr
  split at hr
  ·split at hr
   ·split at hr
    ·rename_i hm
     split at hr
     ·split at hr
      ·cases hr; simp at hx; subst hx; rw[hm]; simp[Sy]
      ·cases hr
     ·cases hr
    ·cases hr
   ·cases hr
  ·cases hr
 case entryStore T m st v=>
  unfold iA at hr
  split at hr
  ·split at hr
   ·split at hr
    ·rename_i hm
     split at hr
     ·split at hr
      ·generalize inb _ _=b at hr
       cases b
       ·cases hr
       ·cases hr; simp at hx; subst hx; rw[hm]; simp[Sy]
      ·cases hr
     ·cases hr
    ·cases hr
   ·cases hr
  ·cases hr
 case call c=>
  unfold rR at hr
  split at hr
  ·split at hr
   ·rw[pure0 (fun R K=>K9 C.ti _ _ K) (fun R K=>MG ..) hr]at hx; cases hx
   ·rw[pure0 (fun R K=>Bt C.ti _ _ h K) (fun R K=>JD ..) hr]at hx; cases hx
   ·rename_i hcal
    have e3:= ‹List.map vl c.args.toList=_›
    rw[hcal,e3]
    unfold Bu at hr
    split at hr
    ·split at hr
     ·generalize (_&&_)=b at hr
      cases b
      ·cases hr
      ·simp only[cond_true]at hr
       split at hr
       ·generalize (_&&_)=b at hr
        cases b
        ·cases hr
        ·cases hr; simp at hx; subst hx; simp
       ·generalize Nat.beq _ 0=b at hr
        cases b
        ·cases hr
        ·cases hr; cases hx
     ·cases hr
    ·cases hr
   ·rw[pure0 (fun R K=>K7 _ _ K) (fun R K=>ME ..) hr]at hx; cases hx
   ·rw[pure0 (fun R K=>K8 _ _ K) (fun R K=>MF ..) hr]at hx; cases hx
   ·rename_i hargs _ hcal
    have e3:= ‹List.map vl c.args.toList=_›
    rw[hcal,e3]
    split at hr
    ·unfold Aj at hr
     split at hr
     ·split at hr
      ·split at hr
       ·split at hr
        ·generalize (Nat.ble _ _||_)=b at hr
         cases b
         ·simp only[cond_false]at hr
          split at hr
          ·split at hr
           ·cases hr; simp at hx; subst hx; simp[yx]
           ·cases hr
          ·cases hr
         ·cases hr; cases hx
        ·cases hr
       ·cases hr
      ·cases hr
     ·cases hr
    unfold Br at hr
    split at hr
    ·split at hr
     ·split at hr
      ·split at hr
       ·generalize (Nat.ble _ _||_)=b at hr
        cases b
        ·simp only[cond_false]at hr
         split at hr
         ·split at hr
          ·split at hr
           ·cases hr
            simp at hx; subst hx; simp[yx]
           ·cases hr
          ·cases hr
         ·cases hr
        ·cases hr; cases hx
       ·cases hr
      ·cases hr
     ·cases hr
    ·cases hr
   ·rename_i d y _ _ _ hcal
    rw[hcal]
    have e3:= ‹List.map vl c.args.toList=_›
    rw[e3]
    split at hr
    ·exact Kr hr x hx
    ·split at hr
     ·generalize GY _ _=b at hr
      cases b
      ·cases hr
      ·exact Kr hr x hx
     ·cases hr
   ·cases hr
  ·cases hr
 all_goals cases hr
theorem ZI {ti:List (Nat×TI)} {T:TypeId} {l c:PV} {nx:Nat} {r:Ans}(hr:Dg ti T l c nx pk=some r):r.2.2=1:=by
 unfold Dg at hr
 split at hr
 ·split at hr
  ·split at hr
   ·split at hr
    ·split at hr
     ·generalize (_&&_)=b at hr
      cases b
      ·cases hr
      ·cases hr; rfl
     ·cases hr
    ·cases hr
   ·cases hr
  ·cases hr
 ·cases hr
theorem Kt {ti:List (Nat×TI)} {T:TypeId} {l c:PV} {h:Heap} {nx:Nat} {r:Ans}(hr:iV ti T l c h nx pk=some r):r.2.2=1:=by
 unfold iV at hr
 split at hr
 ·split at hr
  ·split at hr
   ·split at hr
    ·split at hr
     ·generalize (_&&_)=b at hr
      cases b
      ·cases hr
      ·cases hr; rfl
     ·cases hr
    ·cases hr
   ·cases hr
  ·cases hr
 ·cases hr
theorem aa2 {C:Cx} {o:Oper} {vl:Operand→PV} {h:Heap} {nx:Nat} {pv:PV} {u:Upd}(hr:EX C o vl h nx pk=some (pv,u,0))(nx':Nat):EX C o vl h nx' pk=some (pv,u,0):=by
 unfold EX k0 at hr⊢
 cases hop:o.op<;>simp only[hop]at hr⊢ <;>try exact hr
 case alloc=>
  split at hr
  ·cases hr
  ·cases hr
 case box=>
  split at hr
  ·split at hr
   ·generalize List.any _ _=b at hr
    cases b
    ·simp only[cond_false]at hr
     generalize Ty.spHead _=b at hr
     cases b
     ·cases hr
     ·cases hr
    ·simp only[cond_true]at hr
     generalize fV _ _=b at hr
     cases b
     ·cases hr
     ·cases hr
   ·cases hr
  ·split at hr
   ·generalize List.any _ _=b at hr
    cases b
    ·cases hr
    ·cases hr
   ·cases hr
  ·cases hr
 case convert=>
  unfold lM at hr⊢
  split at hr
  ·split at hr
   ·split at hr
    ·exact hr
    ·cases hr
   ·generalize MB _ _=b at hr⊢
    cases b
    ·cases hr
    ·simp only[cond_true]at hr⊢
     split at hr
     ·exact hr
     ·cases hr
   ·generalize MB _ _=b at hr
    cases b
    ·cases hr
    ·simp only[cond_true]at hr
     split at hr
     ·generalize Nat.ble _ _=b at hr
      cases b
      ·cases hr
      ·cases hr
     ·cases hr
   ·cases hr
  ·cases hr
 case buildSlice=>
  split at hr
  ·split at hr
   ·split at hr
    ·split at hr
     ·split at hr
      ·generalize (Nat.ble _ _&&_)=b at hr
       cases b
       ·cases hr
       ·simp only[cond_true]at hr
        generalize List.any _ _=b at hr
        cases b
        ·cases hr
        ·simp only[cond_true]at hr
         generalize Ty.flat _=b at hr
         cases b
         ·cases hr
         ·cases hr
      ·cases hr
     ·cases hr
    ·cases hr
   ·cases hr
  ·cases hr
 case makeSlice=>have:=ZI hr; cases this
 case makeMap=>
  split at hr
  ·unfold rQ at hr
   split at hr
   ·cases hr
   ·cases hr
  ·cases hr
 case call c=>
  unfold rR at hr⊢
  split at hr
  ·split at hr
   ·exact hr
   ·exact hr
   ·exact hr
   ·exact hr
   ·exact hr
   ·exact hr
   ·split at hr
    ·have:=Kt hr; cases this
    ·split at hr
     ·generalize GY _ _=b at hr
      cases b
      ·cases hr
      ·have:=Kt hr; cases this
     ·cases hr
   ·cases hr
  ·cases hr
end Go.Den
namespace Go.Den
theorem H6 {α:Type} : ∀(us:List (List (Nat×α))) (k:Nat) (D:Nat→Bool) (l:List (Nat×α)),(∀j,D (k+j)=false)→wr us k D l=l:=by
 intro us
 induction us with
 |nil=>intro k D l _; rfl
 |cons u us ih=>
  intro k D l h
  simp only[wr]
  have:=h 0
  simp only[Nat.add_zero]at this
  rw[this]
  exact ih (k+1) D l (fun j=>by have:=h (j+1); rwa [show k+(j+1)=k+1+j by omega]at this)
theorem Ku {α:Type} : ∀(us:List (List (Nat×α))) (k:Nat) (D:Nat→Bool) (l:List (Nat×α)),wr us (k+1) D l=wr us k (fun j=>D (j+1)) l:=by
 intro us
 induction us with
 |nil=>intro k D l; rfl
 |cons u us ih=>intro k D l; simp only[wr]; exact ih (k+1) D _
def We(ops:List Oper)(rs:List Rec):List (List (Nat×PV)):=(ops.zip rs).map fun x=>vO x.1.dst x.2.pv
def Wh(rs:List Rec):List (List (Nat×PO)):=rs.map (·.u)
def stD(ops:List Oper)(rs:List Rec)(s:DS)(D:Nat→Bool):DS:= { s with env:=wr (We ops rs) 0 D s.env,hp:=wr (Wh rs) 0 D s.hp }
theorem acR {ops:List Oper} {rs:List Rec} {i:Nat} {o:Oper} {r:Rec}(ho:ops[i]?=some o)(hr:rs[i]?=some r):(We ops rs)[i]?=some (vO o.dst r.pv):=by
 have:(ops.zip rs)[i]?=some (o,r):=List.getElem?_zip_eq_some.2 ⟨ho,hr⟩
 simp[We,List.getElem?_map,this]
theorem acS {rs:List Rec} {i:Nat} {r:Rec}(hr:rs[i]?=some r):(Wh rs)[i]?=some r.u:=by simp[Wh,hr]
structure Fact(C:Cx)(all:List Oper)(s:DS)(o:Oper)(r:Rec):Prop where
 want:vo all o (look s.env)=some (!r.skip)
 tells:r.skip=false→Fb C o s.val s.h r
 skips:r.skip=true→r.pv= .tup []∧r.u=[]∧r.n=0∧r.fp=([],[])
 dst: ∀d,o.dst=some d→d<s.n
theorem Run.len {C:Cx} {all rest:List Oper} {s:DS} {rs:List Rec} {s':DS}(h:Run C all rest s rs s'):rest.length=rs.length:=by
 induction h<;>simp_all
theorem Run.fact {C:Cx} {all rest:List Oper} {s:DS} {rs:List Rec} {s':DS}(h:Run C all rest s rs s'): ∀(i:Nat) (o:Oper) (r:Rec),rest[i]?=some o→rs[i]?=some r→Fact C all (stD rest rs s (fun j=>decide (j<i))) o r:=by
 induction h with
 |nil s=>intro i o r h; simp at h
 | @step o rest s r rs s' hw hs hn ht hd hr ih=>
  intro i o' r' ho hr'
  cases i with
  |zero=>
   simp only[List.getElem?_cons_zero,Option.some.injEq]at ho hr'; subst ho; subst hr'
   have e:stD (o::rest) (r::rs) s (fun j=>decide (j<0))=s:=by
    unfold stD
    rw[H6 _ _ _ _ (fun j=>by simp),H6 _ _ _ _ (fun j=>by simp)]
   rw[e]
   exact⟨by rw[hw,hs]; rfl,fun _=>ht,(fun h=>by rw[hs]at h; cases h),hd⟩
  |succ i=>
   have:=ih i o' r' (by simpa using ho) (by simpa using hr')
   have e:stD (o::rest) (r::rs) s (fun j=>decide (j<i+1))= { stD rest rs (s.behind o r) (fun j=>decide (j<i))with nx:=s.nx } :=by
    unfold stD We Wh DS.behind
    simp only[List.zip_cons_cons,List.map_cons,wr,Nat.zero_lt_succ,decide_true,if_true,Ku,Nat.add_lt_add_iff_right]
   rw[e]
   exact⟨this.want,this.tells,this.skips,this.dst⟩
 | @skip o rest s r rs s' hw hs hn h0 hd hr ih=>
  intro i o' r' ho hr'
  cases i with
  |zero=>
   simp only[List.getElem?_cons_zero,Option.some.injEq]at ho hr'; subst ho; subst hr'
   have e:stD (o::rest) (r::rs) s (fun j=>decide (j<0))=s:=by
    unfold stD
    rw[H6 _ _ _ _ (fun j=>by simp),H6 _ _ _ _ (fun j=>by simp)]
   rw[e]
   exact⟨by rw[hw,hs]; rfl,(fun h=>by rw[hs]at h; cases h),fun _=>h0,hd⟩
  |succ i=>
   have:=ih i o' r' (by simpa using ho) (by simpa using hr')
   have e:stD (o::rest) (r::rs) s (fun j=>decide (j<i+1))= { stD rest rs (s.behind o r) (fun j=>decide (j<i))with nx:=s.nx } :=by
    unfold stD We Wh DS.behind
    simp only[List.zip_cons_cons,List.map_cons,wr,Nat.zero_lt_succ,decide_true,if_true,Ku,Nat.add_lt_add_iff_right]
   rw[e]
   exact⟨this.want,this.tells,this.skips,this.dst⟩
theorem Run.last {C:Cx} {all rest:List Oper} {s:DS} {rs:List Rec} {s':DS}(h:Run C all rest s rs s'): ∀(D:Nat→Bool),(∀j,j<rest.length→D j=true)→Alike { stD rest rs s D with nx:=s'.nx } s'∧s'.n=s.n:=by
 induction h with
 |nil s=>intro D _; exact⟨Alike.refl _,rfl⟩
 | @step o rest s r rs s' hw hs hn ht hd hr ih=>
  intro D hD
  have:=ih (fun j=>D (j+1)) (fun j hj=>hD (j+1) (by simpa using hj))
  have e:({ stD (o::rest) (r::rs) s D with nx:=s'.nx } :DS)= { stD rest rs (s.behind o r) (fun j=>D (j+1))with nx:=s'.nx } :=by
   unfold stD We Wh DS.behind
   simp only[List.zip_cons_cons,List.map_cons,wr,hD 0 (by simp),if_true,Ku]
  rw[e]; exact this
 | @skip o rest s r rs s' hw hs hn h0 hd hr ih=>
  intro D hD
  have:=ih (fun j=>D (j+1)) (fun j hj=>hD (j+1) (by simpa using hj))
  have e:({ stD (o::rest) (r::rs) s D with nx:=s'.nx } :DS)= { stD rest rs (s.behind o r) (fun j=>D (j+1))with nx:=s'.nx } :=by
   unfold stD We Wh DS.behind
   simp only[List.zip_cons_cons,List.map_cons,wr,hD 0 (by simp),if_true,Ku]
  rw[e]; exact this
theorem Run.nx {C:Cx} {all rest:List Oper} {s:DS} {rs:List Rec} {s':DS}(h:Run C all rest s rs s'):s.nx≤s'.nx∧(∀(i:Nat) r,rs[i]?=some r→s.nx≤r.nx∧r.nx+r.n≤s'.nx)∧
  ∀(i j:Nat) r q,i<j→rs[i]?=some r→rs[j]?=some q→r.nx+r.n≤q.nx:=by
 have main: ∀ {o:Oper} {rest:List Oper} {s:DS} {r:Rec} {rs:List Rec} {s':DS},r.nx=s.nx→Run C all rest (s.behind o r) rs s'→((s.behind o r).nx≤s'.nx∧(∀(i:Nat) q,rs[i]?=some q→(s.behind o r).nx≤q.nx∧q.nx+q.n≤s'.nx)∧ ∀(i j:Nat) q p,i<j→rs[i]?=some q→rs[j]?=some p→q.nx+q.n≤p.nx)→
   s.nx≤s'.nx∧(∀(i:Nat) q,(r::rs)[i]?=some q→s.nx≤q.nx∧q.nx+q.n≤s'.nx)∧ ∀(i j:Nat) q p,i<j→(r::rs)[i]?=some q→(r::rs)[j]?=some p→q.nx+q.n≤p.nx:=by
  intro o rest s r rs s' hn hr ⟨h1,h2,h3⟩
  have e:(s.behind o r).nx=r.nx+r.n:=rfl
  rw[e]at h1 h2
  refine⟨by omega,fun i q hq=>?_,fun i j q p hij hq hp=>?_⟩
  ·cases i with
   |zero=>simp only[List.getElem?_cons_zero,Option.some.injEq]at hq; subst hq; omega
   |succ i=>have:=h2 i q (by simpa using hq); omega
  ·cases j with
   |zero=>omega
   |succ j=>
    cases i with
    |zero=>simp only[List.getElem?_cons_zero,Option.some.injEq]at hq; subst hq; have:=h2 j p (by simpa using hp); omega
    |succ i=>exact h3 i j q p (by omega) (by simpa using hq) (by simpa using hp)
 induction h with
 |nil s=>exact⟨Nat.le_refl _,fun i r h=>by simp at h,fun i j r q _ h=>by simp at h⟩
 |step hw hs hn ht hd hr ih=>exact main hn hr ih
 |skip hw hs hn h0 hd hr ih=>exact main hn hr ih
theorem Fe {o:Oper} {i:Nat}(h:GZ o i=true): ∃e∈o.after,Region.binds .any e=true∧e.on=i:=by
 unfold GZ at h
 obtain⟨e,he,h1⟩:=List.any_eq_true.1 h
 simp only[Bool.and_eq_true]at h1
 exact⟨e,by simpa using he,h1.1,Nat.eq_of_beq_eq_true h1.2⟩
theorem NN {all:Array Oper} {listed:Array Bool}(hdc: ∀(j:Nat) o,all[j]?=some o→listed.getD j false=true→ ∀e∈o.after,Region.binds .any e=true→listed.getD e.on false=true):
  ∀(n:Nat) (o:Oper) (i:Nat),(∀e∈o.after,Region.binds .any e=true→listed.getD e.on false=true)→Ka all n o i=true→listed.getD i false=true:=by
 intro n
 induction n with
 |zero=>
  intro o i ho h
  obtain⟨e,he,hb,rfl⟩:=Fe h
  exact ho e he hb
 |succ n ih=>
  intro o i ho h
  simp only[Ka,Bool.or_eq_true]at h
  rcases h with h|h
  ·obtain⟨e,he,hb,rfl⟩:=Fe h
   exact ho e he hb
  ·obtain⟨e,he,h1⟩:=List.any_eq_true.1 h
   simp only[Bool.and_eq_true]at h1
   obtain⟨hb,_,h2⟩:=h1
   have he':e∈o.after:=by simpa using he
   split at h2
   ·rename_i p hp
    exact ih p i (hdc e.on p hp (ho e he' hb)) h2
   ·cases h2
theorem Wt {all:Array Oper} {n:Nat} {o:Oper} {i:Nat}(h:GZ o i=true):Ka all n o i=true:=by
 cases n with
 |zero=>exact h
 |succ n=>simp only[Ka,h,Bool.true_or]
theorem UJ {all:Array Oper} {o:Oper} {fp:Fp} : ∀ {l:List (Oper×Fp)} {i:Nat},Pg all o fp i l=true→ ∀(j:Nat) x,l[j]?=some x→Ka all 6 o (i+j)=true∨(Oper.apart all x.1 o=true∧clash x.2 fp=false):=by
 intro l
 induction l with
 |nil=>intro i _ j x h; simp at h
 |cons y l ih=>
  intro i h j x hx
  simp only[Pg,Bool.and_eq_true]at h
  cases j with
  |zero=>
   simp only[List.getElem?_cons_zero,Option.some.injEq]at hx; subst hx
   have:=h.1
   simp only[Bool.or_eq_true,Bool.and_eq_true,Bool.not_eq_true']at this
   rcases this with h|h|h
   ·exact .inl (Wt h)
   ·exact .inr h
   ·exact .inl h
  |succ j=>
   have:=ih h.2 j x (by simpa using hx)
   rwa [show i+1+j=i+(j+1)by omega]at this
theorem ZJ {all:Array Oper} : ∀ {l done:List (Oper×Fp)} {j:Nat},j=done.length→a14 all j done l=true→ ∀(k:Nat) x,l[k]?=some x→VN x.1 (j+k)=true∧
  ∀(i:Nat) y,i<j+k→(done++l)[i]?=some y→Ka all 6 x.1 i=true∨(Oper.apart all y.1 x.1=true∧clash y.2 x.2=false):=by
 intro l
 induction l with
 |nil=>intro done j _ _ k x h; simp at h
 |cons z l ih=>
  intro done j hj h k x hx
  simp only[a14,Bool.and_eq_true]at h
  obtain⟨⟨⟨h1,h2⟩,h3⟩,h4⟩:=h
  cases k with
  |zero=>
   simp only[List.getElem?_cons_zero,Option.some.injEq]at hx; subst hx
   refine⟨h1,fun i y hi hy=>?_⟩
   rw[List.getElem?_append_left (by omega)]at hy
   have:=UJ h3 i y hy
   rwa [Nat.zero_add]at this
  |succ k=>
   obtain⟨h5,h6⟩:=ih (done:=done++[z]) (j:=j+1) (by simp[hj]) h4 k x (by simpa using hx)
   refine⟨by rwa [show j+1+k=j+(k+1)by omega]at h5,fun i y hi hy=>h6 i y (by omega) (by simpa using hy)⟩
theorem aa3 {o:Oper} {j:Nat}(h:VN o j=true) {e:Edge}(he:e∈o.after)(hb:Region.binds .any e=true):e.on<j:=by
 unfold VN at h
 have:=List.all_eq_true.1 h e (by simpa using he)
 simp only[hb,Bool.not_true,Bool.false_or]at this
 exact F7 this
theorem JJ {a b:Fp}(h:clash a b=false):(∀i∈a.2,i∉ b.1∧i∉ b.2)∧(∀i∈a.1,i∉ b.2):=by
 unfold clash at h
 simp only[Bool.or_eq_false_iff]at h
 obtain⟨h1,h2⟩:=h
 have beq: ∀ {i:Nat} {l:List Nat},l.any (Nat.beq i)=false→i∉ l:=by
  intro i l h hm
  have:=List.any_eq_false.1 h i hm
  simp at this
 refine⟨fun i hi=>?_,fun i hi=>?_⟩
 ·have:=List.any_eq_false.1 h1 i hi
  simp only[Bool.or_eq_true,not_or,Bool.not_eq_true]at this
  exact⟨beq this.1,beq this.2⟩
 ·have:=List.any_eq_false.1 h2 i hi
  simp only[Bool.not_eq_true]at this
  exact beq this
theorem ML {C:Cx}(hcon: ∀f c,look C.con f=some c→ ∃P,aD P f c) {o:Oper} {vl:Operand→PV} {h:Heap} {r:Rec}(ht:Fb C o vl h r): ∀x∈r.u,x.1∈r.fp.2:=by
 intro x hx
 unfold Fb at ht
 split at ht
 ·obtain⟨c,hc,hrun,hfp⟩:=ht
  obtain⟨P,ok⟩:=hcon _ c hc
  rw[hfp]
  rcases ok.upd _ _ _ _ hrun x hx with h|h
  ·exact List.mem_append_left _ h
  ·exact List.mem_append_right _ (List.mem_range'_1.2 h)
 ·rw[ht.2]; exact a3G ht.1 x hx
theorem a1U {C:Cx}(hcon: ∀f c,look C.con f=some c→ ∃P,aD P f c) {o:Oper} {vl vl':Operand→PV} {h h':Heap} {r:Rec}(hv: ∀x∈o.op.operands,vl x=vl' x)(hh: ∀id∈r.fp.1,h id=h' id)(ht:Fb C o vl h r):Fb C o vl' h' r:=by
 unfold Fb at ht⊢
 rw[←ZH hv]
 split at ht
 ·rename_i f args hco
  obtain⟨c,hc,hrun,hfp⟩:=ht
  obtain⟨P,ok⟩:=hcon _ c hc
  rw[hfp]at hh
  obtain⟨h1,h2⟩:=ok.loc args h h' r.nx _ hh hrun
  exact⟨c,hc,h1,by rw[h2]; exact hfp⟩
 ·obtain⟨h1,h2⟩:=ht
  rw[h2]at hh
  exact⟨by rw[←a3D hv hh]; exact h1,by rw[←a3E hv]; exact h2⟩
theorem Fg {dst:Option Tmp} {pv:PV} {x:Nat×PV}(h:x∈vO dst pv):dst=some x.1:=by
 cases dst with
 |none=>cases h
 |some d=>simp[vO]at h; subst h; rfl
theorem OQ {ops:Array Oper} {o:Oper} {t:Nat}(h:Operand.tmp t∈o.op.operands):t∈o.looksAt ops:=by
 unfold Oper.looksAt
 refine List.mem_append_left _ (List.mem_filterMap.2 ⟨.tmp t,by simpa using h,rfl⟩)
theorem SV {ops:List Oper} {o:Oper} {j:Nat} {want:Bool} {t:Nat}(hg:o.guard=some (j,want))(ht:uZ ops j=some t):t∈o.looksAt ops.toArray:=by
 unfold Oper.looksAt
 refine List.mem_append_right _ ?_
 rw[hg]
 have h:((ops[j]?).bind (·.dst))=some t:=ht
 cases hj:ops[j]? with
 |none=>rw[hj]at h; cases h
 |some o'=>rw[hj]at h; simp only[Option.bind_some]at h; simp[hj,h]
end Go.Den
namespace Go.Den
theorem a3H {l:Array Bool} {i j:Nat}(hi:i<l.size):(l.setIfInBounds i true).getD j false=if j=i then true else l.getD j false:=by
 simp only[Array.getD_eq_getD_getElem?,Array.getElem?_setIfInBounds]
 by_cases h:i=j
 ·subst h; simp[hi]
 ·rw[if_neg h,if_neg (Ne.symm h)]
theorem a3I {P:Program} {C:Cx}(hC:ay P C) {R:Type} {ops:Array Oper} {call:Ak R} {K:DS→Option R} {x:R} {s:DS} {B:Base} {ρ0:Rho} {a0:Act} {w0:World} {Q:Exit→Act→World→Prop}
  (h:C8 C true call ops.toList ops.toList [] s K=some x) (hr0:aP B ρ0 s a0 w0) (hf0:mD ρ0 s.nx)
  (hQ: ∀s' ρ' a' w',K s'=some x→aP B ρ' s' a' w'→mD ρ' s'.nx→s'.n=s.n→Later ρ0 w0 ρ' w'→Q .normal a' w'):wpAny P .any ops Q ops.size (Array.replicate ops.size false) a0 { w0 with drawn:=w0.drawn+1 } :=by
 have hcon: ∀f c,look C.con f=some c→ ∃P,aD P f c:=fun f c h=>⟨P,hC.con f c h⟩
 obtain⟨rs,s',s2,hrun,hal,hdraw,hK⟩:=a3F ops.toList [] s hcon h
 have hlen:=hrun.len
 have hfact:=hrun.fact
 obtain⟨hnx1,hnx2,hnx3⟩:=hrun.nx
 have hall:=ZJ (all:=ops.toList.toArray) (l:=ops.toList.zip (rs.map (·.fp))) (done:=[]) rfl (by simpa [JC]using hdraw)
 have pair: ∀(i j:Nat) (oi oj:Oper) (ri rj:Rec),i<j→ops.toList[i]?=some oi→ops.toList[j]?=some oj→rs[i]?=some ri→rs[j]?=some rj→
   Ka ops 6 oj i=true∨(Oper.apart ops oi oj=true∧clash ri.fp rj.fp=false):=by
  intro i j oi oj ri rj hij h1 h2 h3 h4
  obtain⟨_,h5⟩:=hall j (oj,rj.fp) (List.getElem?_zip_eq_some.2 ⟨h2,by simp[h4]⟩)
  have:=h5 i (oi,ri.fp) (by omega) (by simpa using List.getElem?_zip_eq_some.2 ⟨h1,by simp[h3]⟩)
  simpa using this
 have back: ∀(j:Nat) (oj:Oper),ops.toList[j]?=some oj→VN oj j=true:=by
  intro j oj h1
  obtain⟨rj,h2⟩: ∃r,rs[j]?=some r:=by
   have:=(List.getElem?_eq_some_iff.1 h1).1
   exact⟨rs[j]'(by omega),List.getElem?_eq_getElem (by omega)⟩
  have:=(hall j (oj,rj.fp) (List.getElem?_zip_eq_some.2 ⟨h1,by simp[h2]⟩)).1
  simpa using this
 have main: ∀(fuel:Nat) (listed:Array Bool) (ρ:Rho) (a:Act) (w:World),listed.size=ops.size→
   ((List.range ops.size).filter fun i=>!listed.getD i false).length=fuel→
   aP B ρ (stD ops.toList rs s (fun i=>listed.getD i false)) a w→mD ρ s'.nx→
   (∀(i:Nat) r,rs[i]?=some r→listed.getD i false=false→ ∀id,r.nx≤id→id<r.nx+r.n→ρ id=none)→Later ρ0 w0 ρ w→
   (∀(j:Nat) o,ops.toList[j]?=some o→listed.getD j false=true→ ∀e∈o.after,Region.binds .any e=true→listed.getD e.on false=true)→
   wpAny P .any ops Q fuel listed a w:=by
  intro fuel
  induction fuel with
  |zero=>
   intro listed ρ a w hsz hcnt hr hf hfi hl hdc
   have hfull: ∀j,j<ops.size→listed.getD j false=true:=by
    intro j hj
    have:=List.length_eq_zero_iff.1 hcnt
    rw[List.filter_eq_nil_iff]at this
    simpa using this j (by simpa using hj)
   have hrdy:Region.ready .any ops listed=[]:=by
    rw[List.eq_nil_iff_forall_not_mem]
    intro j hj
    obtain⟨h1,oj,h2,_⟩:=mem_ready.1 hj
    have hjs:j<ops.size:=(Array.getElem?_eq_some_iff.1 h2).1
    have:=hfull j hjs
    rw[Array.getD_eq_getD_getElem?]at h1 this
    rw[Array.getElem?_eq_getElem (by omega)]at h1 this
    simp at h1 this; rw[h1]at this; cases this
   obtain⟨h1,h2⟩:=hrun.last (fun i=>listed.getD i false) (fun j hj=>hfull j (by simpa using hj))
   exact⟨hrdy,hQ s2 ρ a w hK ((hr.nx s'.nx).alike (h1.trans hal)) (by rw[←hal.nx]; exact hf) (by rw[←hal.n,h2]) hl⟩
  |succ fuel ih=>
   intro listed ρ a w hsz hcnt hr hf hfi hl hdc
   refine⟨fun hnil=>?_,fun i hi=>?_⟩
   ·
    exfalso
    have hne:((List.range ops.size).filter fun i=>!listed.getD i false)≠ []:=by intro e; rw[e]at hcnt; cases hcnt
    obtain⟨m,hm⟩:=List.exists_mem_of_ne_nil _ hne
    simp only[List.mem_filter,List.mem_range,Bool.not_eq_true']at hm
    have: ∀k,k<ops.size→listed.getD k false=false→False:=by
     intro k
     induction k using Nat.strongRecOn with
     |_ k ihk=>
      intro hk hkl
      have:k∈Region.ready .any ops listed:=by
       refine mem_ready.2 ⟨?_,ops[k],Array.getElem?_eq_getElem hk,fun e he hb=>?_⟩
       ·rw[Array.getD_eq_getD_getElem?,Array.getElem?_eq_getElem (by omega)]at hkl⊢; simpa using hkl
       ·have hlt:=aa3 (back k ops[k] (by simp[hk])) he hb
        cases hle:listed.getD e.on false with
        |true=>rfl
        |false=>exact(ihk e.on hlt (by omega) hle).elim
      rw[hnil]at this; cases this
    exact this m hm.1 hm.2
   ·obtain⟨hil,o,ho,hpre⟩:=mem_ready.1 hi
    have his:i<ops.size:=(Array.getElem?_eq_some_iff.1 ho).1
    have hio:ops.toList[i]?=some o:=by simpa using ho
    obtain⟨r,hir⟩: ∃r,rs[i]?=some r:=⟨rs[i]'(by simp at hlen; omega),List.getElem?_eq_getElem _⟩
    have hDi:listed.getD i false=false:=by
     rw[Array.getD_eq_getD_getElem?,Array.getElem?_eq_getElem (by omega)]at hil⊢; simpa using hil
    have fact:=hfact i o r hio hir
    have hbefore: ∀(j:Nat) oj rj,ops.toList[j]?=some oj→rs[j]?=some rj→j<i→listed.getD j false=false→Oper.apart ops oj o=true∧clash rj.fp r.fp=false:=by
     intro j oj rj h1 h2 hji hjl
     rcases pair j i oj o rj r hji h1 hio h2 hir with h|h
     ·have:=NN (fun j o hj hl=>hdc j o (by simpa using hj) hl) 6 o j hpre h
      rw[hjl]at this; cases this
     ·exact h
    have hbehind: ∀(j:Nat) oj rj,ops.toList[j]?=some oj→rs[j]?=some rj→i<j→listed.getD j false=true→Oper.apart ops o oj=true∧clash r.fp rj.fp=false:=by
     intro j oj rj h1 h2 hij hjl
     rcases pair i j o oj r rj hij hio h1 hir h2 with h|h
     ·have:=NN (fun j o hj hl=>hdc j o (by simpa using hj) hl) 6 oj i (hdc j oj h1 hjl) h
      rw[hDi]at this; cases this
     ·exact h
    have both: ∀(us:List Oper) (j:Nat) (p:Oper×Rec),(ops.toList.zip rs)[j]?=some p→ops.toList[j]?=some p.1∧rs[j]?=some p.2:=fun _ j p hp=>List.getElem?_zip_eq_some.1 hp
    have henv: ∀t,t∈o.looksAt ops→look (stD ops.toList rs s (fun j=>decide (j<i))).env t=look (stD ops.toList rs s (fun i=>listed.getD i false)).env t:=by
     intro t ht
     refine Ql _ 0 _ _ _ _ rfl (fun j u hj hx=>?_)
     simp only[We,List.getElem?_map,Option.map_eq_some_iff]at hj
     obtain⟨p,hp,rfl⟩:=hj
     obtain⟨h1,h2⟩:=both [] j p hp
     obtain⟨y,hy,hyt⟩:=hx
     have hd:=Fg hy
     rw[hyt]at hd
     simp only[Nat.zero_add]
     by_cases hji:j<i
     ·simp only[hji,decide_true]
      cases hl':listed.getD j false with
      |true=>rfl
      |false=>exact absurd ht ((Oper.apart_spec (hbefore j _ _ h1 h2 hji hl').1).1 t hd)
     ·simp only[hji,decide_false]
      cases hl':listed.getD j false with
      |false=>rfl
      |true=>
       have hij:i<j:=by
        rcases Nat.lt_or_ge i j with h|h
        ·exact h
        ·have:j=i:=by omega
         subst this; rw[hDi]at hl'; cases hl'
       exact absurd ht ((Oper.apart_spec (hbehind j _ _ h1 h2 hij hl').1).2.2 t hd)
    have hheap:r.skip=false→ ∀id∈r.fp.1,(stD ops.toList rs s (fun j=>decide (j<i))).h id=(stD ops.toList rs s (fun i=>listed.getD i false)).h id:=by
     intro hsk id hid
     refine Ql _ 0 _ _ _ _ rfl (fun j u hj hx=>?_)
     simp only[Wh,List.getElem?_map,Option.map_eq_some_iff]at hj
     obtain⟨rj,h2,rfl⟩:=hj
     have hjs:j<ops.toList.length:=by have:=(List.getElem?_eq_some_iff.1 h2).1; omega
     have h1:ops.toList[j]?=some (ops.toList[j]):=List.getElem?_eq_getElem hjs
     obtain⟨y,hy,hyt⟩:=hx
     have hmem:id∈rj.fp.2:=by
      have fj:=hfact j _ rj h1 h2
      cases hsj:rj.skip
      ·have:=ML hcon (fj.tells hsj) y hy; rwa [hyt]at this
      ·have:=(fj.skips hsj).2.1; rw[this]at hy; cases hy
     simp only[Nat.zero_add]
     by_cases hji:j<i
     ·simp only[hji,decide_true]
      cases hl':listed.getD j false with
      |true=>rfl
      |false=>exact absurd hid ((JJ (hbefore j _ _ h1 h2 hji hl').2).1 id hmem).1
     ·simp only[hji,decide_false]
      cases hl':listed.getD j false with
      |false=>rfl
      |true=>
       have hij:i<j:=by
        rcases Nat.lt_or_ge i j with h|h
        ·exact h
        ·have:j=i:=by omega
         subst this; rw[hDi]at hl'; cases hl'
       exact absurd hmem ((JJ (hbehind j _ _ h1 h2 hij hl').2).2 id hid)
    have hwant:vo ops.toList o (look (stD ops.toList rs s (fun i=>listed.getD i false)).env)=some (!r.skip):=by
     rw[←fact.want]
     unfold vo
     split
     ·rfl
     ·rename_i j want hg
      split
      ·rfl
      ·rename_i t ht
       rw[henv t (by simpa using SV hg ht)]
    have hwanted:Region.wanted o (yielded ops a.tmps)= !r.skip:=by
     have hopsA:ops.toList.toArray=ops:=by simp
     unfold vo at hwant
     split at hwant
     ·rename_i hg
      simp only[Option.some.injEq]at hwant
      rw[←hwant]; simp[Region.wanted,hg]
     ·rename_i j want hg
      split at hwant
      ·cases hwant
      ·rename_i t ht
       split at hwant
       ·rename_i b hb
        simp only[Option.some.injEq]at hwant
        rw[←hwant,←hopsA]
        exact NK hg ht hr hb
       ·rename_i hb
        simp only[Option.some.injEq]at hwant
        rw[←hwant,←hopsA]
        exact Kn hg ht hr hb
       ·cases hwant
    have next: ∀(ρ':Rho) (a':Act) (w':World),aP B ρ' { stD ops.toList rs s (fun i=>listed.getD i false)with env:=vO o.dst r.pv++(stD ops.toList rs s (fun i=>listed.getD i false)).env,hp:=r.u++(stD ops.toList rs s (fun i=>listed.getD i false)).hp } a' w'→
      (∀id,id<r.nx∨r.nx+r.n≤id→ρ' id=ρ id)→Later ρ w ρ' w'→wpAny P .any ops Q fuel (listed.setIfInBounds i true) a' w':=by
     intro ρ' a' w' hr' hsame hl'
     have hset: ∀j,(listed.setIfInBounds i true).getD j false=if j=i then true else listed.getD j false:=fun j=>a3H (by omega)
     refine ih _ ρ' a' w' (by simpa using hsz) ?_ (hr'.alike ⟨fun t=>?_,fun t=>?_,rfl,rfl⟩) (fun id hid=>?_) (fun j q hq hjl id h1 h2=>?_) (hl.trans hl') (fun j oj hoj hjl e he hb=>?_)
     ·
      have hcount: ∀(l:List Nat),l.Nodup→i∈l→(l.filter fun j=>!listed.getD j false).length=(l.filter fun j=>!(listed.setIfInBounds i true).getD j false).length+1:=by
       intro l
       induction l with
       |nil=>intro _ h; cases h
       |cons y l ihl=>
        intro hnd hm
        rw[List.nodup_cons]at hnd
        simp only[List.filter_cons,hset]
        rcases List.mem_cons.1 hm with e|e
        ·subst e
         simp only[hDi,Bool.not_false,if_true,Bool.not_true,Bool.false_eq_true,if_false,List.length_cons]
         congr 2
         refine List.filter_congr fun z hz=>?_
         rw[if_neg (show¬z=i from fun e=>hnd.1 (by rw[←e]; exact hz))]
        ·have hne:y≠i:=fun h=>hnd.1 (h▸e)
         have:=ihl hnd.2 e
         simp only[hset]at this
         rw[if_neg hne]
         cases hy:listed.getD y false
         ·simp only[Bool.not_false,if_true,List.length_cons]; omega
         ·simp only[Bool.not_true,Bool.false_eq_true,if_false]; exact this
      have:=hcount (List.range ops.size) List.nodup_range (by simpa using his)
      omega
     ·symm
      refine a3C _ 0 _ _ i _ _ (acR hio hir) (by simp[hset]) (by simpa using hDi) (fun j hj=>?_) (fun j v hij hj hd hx y hy=>?_)
      ·rw[hset,if_neg (by omega)]
      ·simp only[We,List.getElem?_map,Option.map_eq_some_iff]at hj
       obtain⟨p,hp,rfl⟩:=hj
       obtain⟨h1,h2⟩:=both [] j p hp
       obtain⟨z,hz,hzt⟩:=hx
       have e1:=Fg hz
       have e2:=Fg hy
       intro e
       exact(Oper.apart_spec (hbehind j _ _ h1 h2 hij (by simpa using hd)).1).2.1 _ e1 (by rw[e2,e,hzt])
     ·symm
      refine a3C _ 0 _ _ i _ _ (acS hir) (by simp[hset]) (by simpa using hDi) (fun j hj=>?_) (fun j v hij hj hd hx y hy=>?_)
      ·rw[hset,if_neg (by omega)]
      ·simp only[Wh,List.getElem?_map,Option.map_eq_some_iff]at hj
       obtain⟨rj,h2,rfl⟩:=hj
       have hjs:j<ops.toList.length:=by have:=(List.getElem?_eq_some_iff.1 h2).1; omega
       have h1:ops.toList[j]?=some (ops.toList[j]):=List.getElem?_eq_getElem hjs
       obtain⟨z,hz,hzt⟩:=hx
       have hm1:t∈r.fp.2:=by
        cases hsk:r.skip
        ·have:=ML hcon (fact.tells hsk) z hz; rwa [hzt]at this
        ·have:=(fact.skips hsk).2.1; rw[this]at hz; cases hz
       have hm2:y.1∈rj.fp.2:=by
        have fj:=hfact j _ rj h1 h2
        cases hsj:rj.skip
        ·exact ML hcon (fj.tells hsj) y hy
        ·have:=(fj.skips hsj).2.1; rw[this]at hy; cases hy
       intro e
       rw[e]at hm2
       exact((JJ (hbehind j _ _ h1 h2 hij (by simpa using hd)).2).1 t hm1).2 hm2
     ·rw[hsame id (.inr (by have:=(hnx2 i r hir).2; omega))]
      exact hf id hid
     ·rw[hset]at hjl
      by_cases e:j=i
      ·rw[if_pos e]at hjl; cases hjl
      ·rw[if_neg e]at hjl
       rw[hsame id ?_]
       ·exact hfi j q hq hjl id h1 h2
       ·rcases Nat.lt_or_gt_of_ne e with hlt|hgt
        ·have:=hnx3 j i q r hlt hq hir; omega
        ·have:=hnx3 i j r q hgt hir hq; omega
     ·rw[hset]at hjl⊢
      by_cases e1:e.on=i
      ·rw[if_pos e1]
      ·rw[if_neg e1]
       by_cases e2:j=i
       ·subst e2
        rw[hio]at hoj; cases hoj
        exact hpre e he hb
       ·rw[if_neg e2]at hjl
        exact hdc j oj hoj hjl e he hb
    unfold wpOp
    simp only[ho]
    cases hsk:r.skip
    ·rw[if_pos (by rw[hwanted,hsk]; rfl)]
     left
     have hval: ∀x∈o.op.operands,(stD ops.toList rs s (fun j=>decide (j<i))).val x=(stD ops.toList rs s (fun i=>listed.getD i false)).val x:=by
      intro x hx
      cases x with
      |tmp t=>simp only[DS.val]; rw[henv t (OQ hx)]
      |_=>rfl
     have tells:=a1U hcon hval (hheap hsk) (fact.tells hsk)
     have putd: ∀ {ρ':Rho} {w':World} {v:Value},aP B ρ' { stD ops.toList rs s (fun i=>listed.getD i false)with hp:=r.u++(stD ops.toList rs s (fun i=>listed.getD i false)).hp } a w'→VP ρ' w' r.pv v→
       aP B ρ' { stD ops.toList rs s (fun i=>listed.getD i false)with env:=vO o.dst r.pv++(stD ops.toList rs s (fun i=>listed.getD i false)).env,hp:=r.u++(stD ops.toList rs s (fun i=>listed.getD i false)).hp } (a.put o.dst v) w':=by
      intro ρ' w' v hr' hv
      cases hd:o.dst with
      |none=>exact hr'.putNone v
      |some d=>exact hr'.put (fact.dst d hd) hv
     unfold Fb at tells
     split at tells
     ·rename_i f args hco
      obtain⟨c,hc,hrn,hfp⟩:=tells
      obtain⟨cl,fo,caps,h1,h2,h3,h4⟩:=NJ hco hr
      refine((hC.con f c hc).sound B ρ _ a w r.nx args _ _ hr (fun id h1 h2=>hfi i r hir hDi id h1 h2) h4 hrn).wp h1 h2 h3 (fun v w' ⟨ρ',haf⟩=>?_)
      exact next ρ' _ w' (putd haf.rel haf.val) haf.same haf.later
     ·obtain⟨hev,hfp⟩:=tells
      obtain⟨nx',hn1,hn2,hn3⟩: ∃nx',ρ nx'=none∧EX C o (stD ops.toList rs s (fun i=>listed.getD i false)).val (stD ops.toList rs s (fun i=>listed.getD i false)).h nx' pk=some (r.pv,r.u,r.n)∧(0<r.n→nx'=r.nx):=by
       rcases Nat.eq_zero_or_pos r.n with e|e
       ·exact⟨s'.nx,hf _ (Nat.le_refl _),by rw[e]at hev⊢; exact aa2 hev _,fun h=>by omega⟩
       ·exact⟨r.nx,hfi i r hir hDi r.nx (Nat.le_refl _) (by omega),hev,fun _=>rfl⟩
      obtain⟨ρ',w',v,hg,haf⟩:=Qj hC.ti hr nx' hn1 hn2
      refine hg.wp (next ρ' _ w' (putd haf.rel haf.val) (fun id hid=>?_) haf.later)
      rcases Nat.eq_zero_or_pos r.n with e|e
      ·rw[haf.new e]
      ·exact haf.same id (by rw[hn3 e]; omega)
    ·rw[if_neg (by rw[hwanted,hsk]; decide)]
     obtain⟨e1,e2,e3,e4⟩:=fact.skips hsk
     refine next ρ _ w ?_ (fun id _=>rfl) (Later.refl _ _)
     rw[e1,e2]
     have hv:VP ρ w (.tup []) undef:=⟨[],rfl,trivial⟩
     cases hd:o.dst with
     |none=>exact hr.putNone undef
     |some d=>exact hr.put (fact.dst d hd) hv
 refine main ops.size _ ρ0 a0 _ (by simp) ?_ ?_ (fun id hid=>hf0 id (by omega)) (fun i r hi _ id h1 _=>hf0 id (by have:=(hnx2 i r hi).1; omega)) ⟨Nat.le_refl _,fun _ _ h=>h,fun _ h=>.inl h,fun _ h=>.inl h,fun _ _ h _=>h,fun _ _ _=>rfl⟩ (fun j o _ hj=>?_)
 ·rw[List.filter_eq_self.2]
  ·simp
  ·intro i hi; simp at hi; simp[hi]
 ·have e:stD ops.toList rs s (fun i=>(Array.replicate ops.size false).getD i false)=s:=by
   unfold stD
   have: ∀j,(Array.replicate ops.size false).getD (0+j) false=false:=by
    intro j
    rw[Array.getD_eq_getD_getElem?,Array.getElem?_replicate]
    split<;>rfl
   rw[H6 _ _ _ _ this,H6 _ _ _ _ this]
  rw[e]
  exact(hr0.same (w':=w0.drew) (Nat.le_refl _) (fun _ _=>rfl) rfl rfl rfl (fun _ _=>rfl)).1
 ·exfalso
  rw[Array.getD_eq_getD_getElem?,Array.getElem?_replicate]at hj
  split at hj<;>cases hj
theorem Ap {P:Program} {C:Cx}(hC:ay P C)(R:Type):UH P C R:=
 fun _ _ _ _ _ _ _ _ _ _ _ _ h hr hf hQ=>wp_region_any hC.mixed (a3I hC h hr hf hQ)
end Go.Den
