/-
 The plain reading of code: regions and functions hold.
-/
import Derived.Test.YtlohbhpbkieoeaaGreatDenB
import Derived.Scope
set_option linter.unusedVariables false
set_option linter.unusedSimpArgs false
namespace Go.Den
def kL(ρ:Rho)(nx:Nat):Prop:= ∀id,nx<=id->ρ id=none
def VPs(ρ:Rho)(w:World):List PV->List Value->Prop| [],[]=>True|x::l,v::vs=>VP ρ w x v/\VPs ρ w l vs|_,_=>False
def Iq(P:Program)(f:FuncId)(vargs:List Value)(w:World)(R:Value->World->Prop):Prop:=
 (∃v w',(callFunc f vargs.toArray).run P w= .ok (.value v) w'/\R v w')\/
 ((callFunc f vargs.toArray).run P w= .ok (.enter f vargs.toArray) w/\Calls P f vargs.toArray w λe w'=> ∃v,e= .returned v/\R v w')
structure a6m(B:Base)(ρ:Rho)(s:DS)(a:Act)(w:World)(nx:Nat)(pv:PV)(u:Upd)(n:Nat)(v:Value)(ρ':Rho)(w':World):Prop where
 rel:aJ B ρ' { s with hp:=u++s.hp } a w'
 later:Later ρ w ρ' w'
 val:VP ρ' w' pv v
 same: ∀id,id<nx\/nx+n<=id->ρ' id=ρ id
structure aA(P:Program)(f:FuncId)(c:Con):Prop where
 loc: ∀(args:List PV) (h h':Heap) (nx:Nat) (r:Ans),(∀id∈(c.fp args h).1,h id=h' id)->c.run args h nx pk=some r->c.run args h' nx pk=some r/\c.fp args h'=c.fp args h
 upd: ∀(args:List PV) (h:Heap) (nx:Nat) (r:Ans),c.run args h nx pk=some r-> ∀x∈r.2.1,x.1∈(c.fp args h).2\/(nx<=x.1/\x.1<nx+r.2.2)
 nat: ∀(R:Type) (args:List PV) (h:Heap) (nx:Nat) (K:K3 R),c.run args h nx K=(c.run args h nx pk).bind λr=>K r.1 r.2.1 r.2.2
 sound: ∀(B:Base) (ρ:Rho) (s:DS) (a:Act) (w:World) (nx:Nat) (args:List PV) (vargs:List Value) (r:Ans),aJ B ρ s a w->(∀id,nx<=id->id<nx+r.2.2->ρ id=none)->VPs ρ w args vargs->
  c.run args s.h nx pk=some r->Iq P f vargs w λv w'=> ∃ρ',a6m B ρ s a w nx r.1 r.2.1 r.2.2 v ρ' w'
def Post(B:Base)(ρ:Rho)(w:World){R:Type}(s:DS)(K:Exit->DS->Option R)(x:R)(L:Prop):Exit->Act->World->Prop:=λe a' w'=>
 ∃s' ρ',K e s'=some x/\aJ B ρ' s' a' w'/\kL ρ' s'.nx/\s'.n=s.n/\(L->Later ρ w ρ' w')
def aX(P:Program)(id:Nat)(body:Code)(lp:Lp):Prop:= ∀(R:Type) (s:DS) (K:Exit->DS->Option R) (x:R),lp.run s K=some x->
 ∀(B:Base) (ρ:Rho) (a:Act) (w:World),aJ B ρ s a w->kL ρ s.nx->(Code.block id body).wp P (Post B ρ w s K x True) a w
def blocks:Code->List (Nat×Code)| .seq a b=>blocks a++blocks b| .cond _ x y=>blocks x++blocks y| .block id b=>(id,b)::blocks b| .loop b=>blocks b| .scope b=>blocks b|_=>[]
structure av(P:Program)(C:Cx):Prop where
 mixed:P.follows .mixedOrders=true
 ti:wL P C.ti
 con: ∀f c,look C.con f=some c->aA P f c
 fns: ∀f fn lps,look C.fns f=some (fn,lps)->P.funcs[f]?=some fn/\(∀args w,(callFunc f args).run P w= .ok (.enter f args) w)/\ ∀c,fn.body=some c-> ∀q∈blocks c,∀lp,look lps q.1=some lp->aX P q.1 q.2 lp
section
variable {P:Program} {C:Cx} (hC:av P C) {R:Type}
def z8(P:Program)(call:Ak R):Prop:= ∀(f:Nat) (args:List PV) (s:DS) (K:PV->DS->Option R) (x:R),call f args s K=some x->
 ∀(B:Base) (ρ:Rho) (a:Act) (w:World) (vargs:List Value),aJ B ρ s a w->kL ρ s.nx->VPs ρ w args vargs->
  Iq P f vargs w λv w'=> ∃pv s' ρ',K pv s'=some x/\aJ B ρ' s' a w'/\kL ρ' s'.nx/\VP ρ' w' pv v/\Later ρ w ρ' w'/\s'.n=s.n
theorem aJ.nx {B:Base}{ρ:Rho}{s:DS}{a:Act}{w:World}(h:aJ B ρ s a w)(k:Nat):aJ B ρ { s with nx:=k } a w:=
 ⟨h.defers,h.tmps,h.env,h.obj,h.inj,h.own,h.ownA,h.base,h.may,h.hid⟩
theorem Ms {s:DS}{dst:Option Tmp}{pv:PV}{K:DS->Option R}{x:R}(h:s.put dst pv K=some x){B:Base}{ρ:Rho}{a:Act}{w:World}{v:Value}(hr:aJ B ρ s a w)(hv:VP ρ w pv v):
  ∃s',K s'=some x/\aJ B ρ s' (a.put dst v) w/\s'.nx=s.nx/\s'.n=s.n/\s'.hp=s.hp:=by
 unfold DS.put at h;split at h
 ·exact⟨s,h,hr.putNone v,rfl,rfl,rfl⟩
 ·rename_i d;cases hb:Nat.blt d s.n
  ·rw[hb]at h;cases h
  ·rw[hb]at h;exact⟨_,h,hr.put (FJ hb) hv,rfl,rfl,rfl⟩
theorem Iq.wp {o:Oper}{c:Call}{fo:Operand}{f:FuncId}{caps:List Value}{a:Act}{w:World}{R':Value->World->Prop}{K:Act->World->Prop}{Q:Exit->Act->World->Prop}
  (ho:o.op= .call c) (hc:c.callee= .value fo) (hf:a.eval fo= .func (.func f) #[] caps.toArray)
  (h:Iq P f (c.args.toList.map a.eval++caps) w R') (hk: ∀v w',R' v w'->K (a.put o.dst v) w'):o.wp P a w K Q:=by
 have hex:execOp a.eval o=(do let d<-resolve a.eval c o.type;invoke d.target d.args):=by simp only[execOp,ho]
 have hrun:(execOp a.eval o).run P w=(callFunc f (c.args.toList.map a.eval++caps).toArray).run P w:=by
  rw[hex];simp only[resolve,hc,hf,Deferred.ofValue,awx,awM,aws,invoke]
  congr 2
  apply ayt;simp
 unfold Oper.wp;rw[hrun];rcases h with⟨v,w',h1,h2⟩|⟨h1,h2⟩
 ·rw[h1];exact hk _ _ h2
 ·rw[h1];simp only[Oper.upon];exact h2.mono λe w' ⟨v,he,hR⟩=>by subst he;exact hk _ _ hR
theorem Qe {o:Oper}{s:DS}{f:Nat}{args:List PV}(h:KQ o s.val=some (f,args)){B:Base}{ρ:Rho}{a:Act}{w:World}(hr:aJ B ρ s a w):
  ∃c fo caps,o.op= .call c/\c.callee= .value fo/\a.eval fo= .func (.func f) #[] (List.toArray caps)/\VPs ρ w args (c.args.toList.map a.eval++caps):=by
 unfold KQ at h;split at h
 ·rename_i c hop;split at h
  ·rename_i fo hcal;split at h
   ·rename_i f' cps hv;cases h;have hfv:=hr.eval fo;rw[hv]at hfv;obtain⟨cs,⟨vs,rfl,hl,hcaps⟩,e⟩:=hfv;refine⟨c,fo,vs,hop,hcal,by rw[e];rfl,?_⟩;have h1: ∀l:List Operand,VPs ρ w (l.map s.val++cps.map λc=>.v ⟨.ptr c.1,.rf c.2.1 c.2.2⟩) (l.map a.eval++vs):=by
     intro l
     induction l with
     |nil=>
      simp only[ayI,ayZ];clear hv e
      induction cps generalizing vs with
      |nil=>cases vs with
       |nil=>trivial
       |cons=>simp at hl
      |cons c cps ih=>cases vs with
       |nil=>simp at hl
       |cons v vs=>exact⟨VR.mkRf (hcaps 0 c v rfl rfl),ih vs (by simpa using hl) (λj c v hc hv=>hcaps (j+1) c v (by simpa using hc) (by simpa using hv))⟩
     |cons x l ih=>exact⟨hr.eval x,ih⟩
    exact h1 _
   ·cases h
  ·cases h
 ·cases h
include hC in
theorem ZX {call:Ak R}(hcall:z8 P call){draw:Bool}{o:Oper}{s:DS}{K:DS->Fp->Option R}{x:R}(h:Q5 C draw call o s K=some x)
  {B:Base} {ρ:Rho} {a:Act} {w:World} (hr:aJ B ρ s a w) (hf:kL ρ s.nx) (Q:Exit->Act->World->Prop):
  o.wp P a w (λa' w'=> ∃s' fp ρ',K s' fp=some x/\aJ B ρ' s' a' w'/\kL ρ' s'.nx/\s'.n=s.n/\Later ρ w ρ' w') Q:=by
 unfold Q5 at h;split at h
 ·rename_i f args hco;obtain⟨c,fo,caps,h1,h2,h3,h4⟩:=Qe hco hr;split at h
  ·rename_i con hcon;have ok:=hC.con f con hcon;rw[ok.nat]at h;cases hrun:con.run args s.h s.nx pk with
   |none=>rw[hrun]at h;cases h
   |some r=>
    rw[hrun]at h;simp only[axh]at h;refine(ok.sound B ρ s a w s.nx args _ r hr (λid h1 _=>hf id h1) h4 hrun).wp h1 h2 h3 (λv w' ⟨ρ',haf⟩=>?_);obtain⟨s',h5,h6,h7,h8,_⟩:=Ms h (haf.rel.nx (s.nx+r.2.2)) haf.val;refine⟨s',_,ρ',h5,h6,λid hid=>?_,h8,haf.later⟩;rw[h7]at hid;change s.nx+r.2.2<=id at hid;rw[haf.same id (.inr hid)];exact hf id (by omega)
  ·cases draw
   ·simp only[awW]at h;refine(hcall f args s _ x h B ρ a w _ hr hf h4).wp h1 h2 h3 (λv w' ⟨pv,s1,ρ',h5,h6,h7,h8,h9,h10⟩=>?_);obtain⟨s',h11,h12,h13,h14,_⟩:=Ms h5 h6 h8;exact⟨s',_,ρ',h11,h12,by rw[h13];exact h7,h14.trans h10,h9⟩
   ·cases h
 ·rw[ZL]at h;cases hrun:Fw C o s.val s.h s.nx pk with
  |none=>rw[hrun]at h;cases h
  |some r=>
   obtain⟨pv,u,n⟩:=r;rw[hrun]at h;simp only[axh]at h;obtain⟨ρ',w',v,hg,haf⟩:=SI hC.ti hr s.nx (hf s.nx (ax2 _)) (λi hi _=>hf i hi) hrun;obtain⟨s',h5,h6,h7,h8,_⟩:=Ms h (haf.rel.nx (s.nx+n)) haf.val;refine hg.wp ⟨s',_,ρ',h5,h6,λid hid=>?_,h8,haf.later⟩;rw[h7]at hid;change s.nx+n<=id at hid;rcases axd n with e|e
   ·rw[haf.new e];exact hf id (by omega)
   ·rw[haf.same id (by omega)];exact hf id (by omega)
theorem ZY {o:Oper}{s:DS}{K:DS->Fp->Option R}{x:R}(h:Sk o s K=some x){B:Base}{ρ:Rho}{a:Act}{w:World}(hr:aJ B ρ s a w):
  ∃s',K s' ([],[])=some x/\aJ B ρ s' (a.put o.dst undef) w/\s'.nx=s.nx/\s'.n=s.n:=by
 obtain⟨s',h1,h2,h3,h4,_⟩:=Ms (v:=undef) h hr ⟨[],rfl,trivial⟩;exact⟨s',h1,h2,h3,h4⟩
theorem aJ.setBool {B:Base}{ρ:Rho}{s:DS}{a:Act}{w:World}(h:aJ B ρ s a w){t:Nat}{b:Bool}(ht:look s.env t=some (.v ⟨.bool,b⟩)):aJ B ρ { s with env:=(t,.v ⟨.bool,b⟩)::s.env } a w:=by
 refine⟨h.defers,h.tmps,λt' pv' hl=>?_,h.obj,h.inj,h.own,h.ownA,h.base,h.may,h.hid⟩;change look ((t,_)::s.env) t'=some pv' at hl;rw[aH]at hl;split at hl
 ·rename_i e;subst e;simp only[awr]at hl;subst hl;exact h.env t _ ht
 ·exact h.env t' pv' hl
theorem Qf {ops:List Oper}{o:Oper}{j:Nat}{want:Bool}{t:Nat}{b:Bool}{B:Base}{ρ:Rho}{s:DS}{a:Act}{w:World}(hg:o.guard=some (j,want))(ht:uR ops j=some t)(hr:aJ B ρ s a w)
  (he:look s.env t=some (.v ⟨.bool,b⟩)):Region.wanted o (yielded ops.toArray a.tmps)=(b==want):=by
 obtain⟨v,h1,h2⟩:=hr.env t _ he;have h2:=VR.bool h2;subst h2;have:((ops.toArray[j]?).bind (·.dst))=some t:=by simpa [uR]using ht
 simp only[Region.wanted,hg,yielded,this,axh,h1];cases b<;>cases want<;>rfl
theorem Mt {ops:List Oper}{o:Oper}{j:Nat}{want:Bool}{t:Nat}{B:Base}{ρ:Rho}{s:DS}{a:Act}{w:World}(hg:o.guard=some (j,want))(ht:uR ops j=some t)(hr:aJ B ρ s a w)
  (he:look s.env t=some (.tup [])):Region.wanted o (yielded ops.toArray a.tmps)=false:=by
 obtain⟨v,h1,h2⟩:=hr.env t _ he;obtain⟨vs,rfl,h3⟩:=h2;have:((ops.toArray[j]?).bind (·.dst))=some t:=by simpa [uR]using ht
 simp only[Region.wanted,hg,yielded,this,axh,h1];rfl
include hC in
theorem a2m {call:Ak R}(hcall:z8 P call){all:List Oper}{K:DS->Option R}{x:R}(Q:Exit->Act->World->Prop){B:Base}(N:Nat)(ρ0:Rho)(w0:World)
  (hQ: ∀s' ρ' a' w',K s'=some x->aJ B ρ' s' a' w'->kL ρ' s'.nx->s'.n=N->Later ρ0 w0 ρ' w'->Q .normal a' w'):
  ∀(rest:List Oper) (k:Nat) (tr:List Fp) (s:DS) (ρ:Rho) (a:Act) (w:World),(∀j,rest[j]?=all[k+j]?)->Cn C false call all rest tr s K=some x->aJ B ρ s a w->kL ρ s.nx->s.n=N->Later ρ0 w0 ρ w->
   wpOps P all.toArray Q (List.range' k rest.length) a w:=by
 intro rest
 induction rest with
 |nil=>
  intro k tr s ρ a w _ h hr hf hn hl;simp only[Cn,awW]at h;exact hQ s ρ a w h hr hf hn hl
 |cons o rest ih=>
  intro k tr s ρ a w hj h hr hf hn hl;have ho:all.toArray[k]?=some o:=by have:=hj 0;simpa using this.symm
  have hj': ∀j,rest[j]?=all[k+1+j]?:=λj=>by have:=hj (j+1);simpa [ayG,axP 1 j]using this
  simp only[axH,List.range'_succ,wpOps,ho];have doStep: ∀s1,s1.nx=s.nx->s1.n=s.n->aJ B ρ s1 a w->Q5 C false call o s1 (λs' fp=>Cn C false call all rest (tr++[fp]) s' K)=some x->
    o.wp P a w (wpOps P all.toArray Q (List.range' (k+1) rest.length)) Q:=by
   intro s1 e1 e2 hr1 hs;refine Oper.wp_mono (λa' w' ⟨s',fp,ρ',h1,h2,h3,h4,h5⟩=>?_) (ZX hC hcall hs hr1 (by rw[e1];exact hf) Q);exact ih (k+1) _ s' ρ' a' w' hj' h1 h2 h3 (by rw[h4,e2,hn]) (hl.trans h5)
  have doSkip: ∀s1,s1.nx=s.nx->s1.n=s.n->aJ B ρ s1 a w->Sk o s1 (λs' fp=>Cn C false call all rest (tr++[fp]) s' K)=some x->
    wpOps P all.toArray Q (List.range' (k+1) rest.length) (a.put o.dst undef) w:=by
   intro s1 e1 e2 hr1 hs;obtain⟨s',h1,h2,h3,h4⟩:=ZY hs hr1;exact ih (k+1) _ s' ρ _ w hj' h1 h2 (by rw[h3,e1];exact hf) (by rw[h4,e2,hn]) hl
  unfold Cn at h;split at h
  ·rename_i hg;have hw:Region.wanted o (yielded all.toArray a.tmps)=true:=by simp[Region.wanted,hg]
   rw[awQ hw];exact .inl (doStep s rfl rfl hr h)
  ·rename_i j want hg;split at h
   ·cases h
   ·rename_i t ht;split at h
    ·rename_i b hb;have hw:=Qf hg ht hr hb;cases b
     ·simp only[awW]at h;cases want
      ·simp only[awW]at h;rw[awQ (show Region.wanted o (yielded all.toArray a.tmps)=true from hw.trans rfl)];exact .inl (doStep { s with env:=(t,.v ⟨.bool,false⟩)::s.env } rfl rfl (hr.setBool hb) h)
      ·simp only[awL]at h;rw[awG (by rw[hw];decide)];exact doSkip { s with env:=(t,.v ⟨.bool,false⟩)::s.env } rfl rfl (hr.setBool hb) h
     ·simp only[awL]at h;cases want
      ·simp only[awW]at h;rw[awG (by rw[hw];decide)];exact doSkip { s with env:=(t,.v ⟨.bool,true⟩)::s.env } rfl rfl (hr.setBool hb) h
      ·simp only[awL]at h;rw[awQ (show Region.wanted o (yielded all.toArray a.tmps)=true from hw.trans rfl)];exact .inl (doStep { s with env:=(t,.v ⟨.bool,true⟩)::s.env } rfl rfl (hr.setBool hb) h)
    ·rename_i hb;have hw:=Mt hg ht hr hb;rw[awG (by rw[hw];decide)];exact doSkip s rfl rfl hr h
    ·cases h
def Yw(P:Program)(C:Cx)(R:Type):Prop:= ∀(id:Nat) (ops:Array Oper) (call:Ak R) (K:DS->Option R) (x:R) (s:DS) (B:Base) (ρ:Rho) (a:Act) (w:World) (Q:Exit->Act->World->Prop),
 z8 P call->Cn C true call ops.toList ops.toList [] s K=some x->aJ B ρ s a w->kL ρ s.nx->
 (∀s' ρ' a' w',K s'=some x->aJ B ρ' s' a' w'->kL ρ' s'.nx->s'.n=s.n->Later ρ w ρ' w'->Q .normal a' w')->(Code.region id ops true).wp P Q a w
theorem a00 {P:Program}{f:DS->(Exit->DS->Option R)->Option R}{body:Code}{L:Prop}(hf: ∀(s:DS) (K:Exit->DS->Option R) (x:R),f s K=some x-> ∀(B:Base) (ρ:Rho) (a:Act) (w:World),aJ B ρ s a w->kL ρ s.nx->body.wp P (Post B ρ w s K x L) a w)
  (n:Nat) (s:DS) (K:Exit->DS->Option R) (x:R) (h:a3V f n s K=some x) (B:Base) (ρ:Rho) (a:Act) (w:World) (hr:aJ B ρ s a w) (hfr:kL ρ s.nx):(Code.loop body).wp P (Post B ρ w s K x L) a w:=by
 intro b k cs;have key: ∀(n:Nat) (s:DS),a3V f n s K=some x-> ∀(ρ:Rho) (a:Act) (w:World),aJ B ρ s a w->kL ρ s.nx->
   ∃e a' w',Post B ρ w s K x L e a' w'/\Arrives P (lone (b.at a (.code body:: .inLoop body::k)) cs w) b k cs e a' w':=by
  intro n
  induction n with
  |zero=>intro s h;cases h
  |succ n ih=>
   intro s h ρ a w hr hfr;obtain⟨e,a',w',⟨s',ρ',h2,h3,h4,h5,h6⟩,harr⟩:=hf s _ x h B ρ a w hr hfr b (.inLoop body::k) cs;cases e with
   |normal=>
    obtain⟨e2,a2,w2,⟨s2,ρ2,h7,h8,h9,h10,h11⟩,harr2⟩:=ih s' h2 ρ' a' w' h3 h4;exact⟨e2,a2,w2,⟨s2,ρ2,h7,h8,h9,h10.trans h5,λhl=>(h6 hl).trans (h11 hl)⟩,.of_steps (Steps.trans harr (.one step_inLoop)) harr2⟩
   |exit id=>exact⟨_,a',w',⟨s',ρ',h2,h3,h4,h5,h6⟩,.pass (x:=.inLoop body) rfl (λ_ _=>.inl (by simp)) harr⟩
   |goto l=>exact⟨_,a',w',⟨s',ρ',h2,h3,h4,h5,h6⟩,.pass (x:=.inLoop body) rfl (λ_ _=>.inl (by simp)) harr⟩
   |ret=>exact⟨_,a',w',⟨s',ρ',h2,h3,h4,h5,h6⟩,.pass (x:=.inLoop body) rfl (λ_ _=>.inl (by simp)) harr⟩
   |panic ch=>exact⟨_,a',w',⟨s',ρ',h2,h3,h4,h5,h6⟩,.pass (x:=.inLoop body) rfl (λ_ _=>.inl (by simp)) harr⟩
   |outgrown=>exact⟨_,a',w',⟨s',ρ',h2,h3,h4,h5,h6⟩,.pass (x:=.inLoop body) rfl (λ_ _=>.inl (by simp)) harr⟩
 obtain⟨e,a',w',hp,harr⟩:=key n s h ρ a w hr hfr;exact⟨e,a',w',hp,.of_steps (.one step_loop) harr⟩
theorem Post.normal {B:Base}{ρ:Rho}{w:World}{s:DS}{K:Exit->DS->Option R}{x:R}{L:Prop}{a:Act}(hr:aJ B ρ s a w)(hf:kL ρ s.nx){e:Exit}(h:K e s=some x):Post B ρ w s K x L e a w:=
 ⟨s,ρ,h,hr,hf,rfl,λ_=>Later.refl _ _⟩
include hC in
theorem SK(hD:Yw P C R){call:Ak R}(hcall:z8 P call)(lps:List (Nat×Lp))(L:Prop): ∀(c:Code),(∀q∈blocks c,∀lp,look lps q.1=some lp->aX P q.1 q.2 lp)->
  ∀(s:DS) (K:Exit->DS->Option R) (x:R),wJ C lps call c s K=some x-> ∀(B:Base) (ρ:Rho) (a:Act) (w:World),aJ B ρ s a w->kL ρ s.nx->c.wp P (Post B ρ w s K x L) a w:=by
 intro c
 induction c with
 |skip=>intro _ s K x h B ρ a w hr hf;exact wp_skip (Post.normal hr hf h)
 |label l=>intro _ s K x h B ρ a w hr hf;exact wp_label (Post.normal hr hf h)
 |exit id=>intro _ s K x h B ρ a w hr hf;exact wp_exit (Post.normal hr hf h)
 |ret=>intro _ s K x h B ρ a w hr hf;exact wp_ret (Post.normal hr hf h)
 |seq p q ihp ihq=>
  intro hb s K x h B ρ a w hr hf;refine wp_seq (wp_mono (ihp (λy hy=>hb y (awK _ hy)) s _ x h B ρ a w hr hf) ?_);rintro e a' w' ⟨s',ρ',h1,h2,h3,h4,h5⟩;cases e with
  |normal=>
   refine wp_mono (ihq (λy hy=>hb y (awE _ hy)) s' K x h1 B ρ' a' w' h2 h3) ?_;rintro e a2 w2 ⟨s2,ρ2,h6,h7,h8,h9,h10⟩;exact⟨s2,ρ2,h6,h7,h8,h9.trans h4,λhl=>(h5 hl).trans (h10 hl)⟩
  |exit id=>exact⟨s',ρ',h1,h2,h3,h4,h5⟩
  |goto l=>exact⟨s',ρ',h1,h2,h3,h4,h5⟩
  |ret=>exact⟨s',ρ',h1,h2,h3,h4,h5⟩
  |panic ch=>exact⟨s',ρ',h1,h2,h3,h4,h5⟩
  |outgrown=>exact⟨s',ρ',h1,h2,h3,h4,h5⟩
 |cond c p q ihp ihq=>
  intro hb s K x h B ρ a w hr hf;simp only[wJ]at h;split at h
  ·rename_i b hcv;have hv:=hr.eval c;rw[hcv]at hv;have hv:=VR.bool hv;cases b
   ·exact wp_cond_false hv (ihq (λy hy=>hb y (awE _ hy)) s K x h B ρ a w hr hf)
   ·exact wp_cond_true hv (ihp (λy hy=>hb y (awK _ hy)) s K x h B ρ a w hr hf)
  ·cases h
 |block id body ih=>
  intro hb s K x h B ρ a w hr hf;simp only[wJ]at h;split at h
  ·rename_i lp hlp;refine wp_mono (hb (id,body) (ax9 ..) lp hlp R s K x h B ρ a w hr hf) ?_;rintro e a' w' ⟨s',ρ',h1,h2,h3,h4,h5⟩;exact⟨s',ρ',h1,h2,h3,h4,λ_=>h5 trivial⟩
  ·refine wp_block (wp_mono (ih (λy hy=>hb y (ax8 _ hy)) s _ x h B ρ a w hr hf) ?_);rintro e a' w' ⟨s',ρ',h1,h2,h3,h4,h5⟩;cases e with
   |exit id'=>
    simp only at h1;simp only[Exit.inBlock];by_cases e:id'=id
    ·subst e;simp only[Nat.beq_refl,awL]at h1;rw[awQ rfl];exact⟨s',ρ',h1,h2,h3,h4,h5⟩
    ·have:Nat.beq id' id=false:=by
      cases hbq:Nat.beq id' id
      ·rfl
      ·exact absurd (ax0 hbq) e
     rw[this]at h1;rw[awG e];exact⟨s',ρ',h1,h2,h3,h4,h5⟩
   |normal=>exact⟨s',ρ',h1,h2,h3,h4,h5⟩
   |goto l=>exact⟨s',ρ',h1,h2,h3,h4,h5⟩
   |ret=>exact⟨s',ρ',h1,h2,h3,h4,h5⟩
   |panic ch=>exact⟨s',ρ',h1,h2,h3,h4,h5⟩
   |outgrown=>exact⟨s',ρ',h1,h2,h3,h4,h5⟩
 |loop body ih=>
  intro hb s K x h B ρ a w hr hf;exact a00 (λs K x h B ρ a w hr hf=>ih hb s K x h B ρ a w hr hf) C.un s K x h B ρ a w hr hf
 |scope c ih=>
  intro hb s K x h B ρ a w hr hf;simp only[wJ]at h;refine wp_scope_straight (wp_mono (ih hb s _ x h B ρ a w hr hf) ?_);rintro e a' w' ⟨s',ρ',h1,h2,h3,h4,h5⟩;cases e with
  |goto l=>cases h1
  |normal=>exact⟨s',ρ',h1,h2,h3,h4,h5⟩
  |exit id=>exact⟨s',ρ',h1,h2,h3,h4,h5⟩
  |ret=>exact⟨s',ρ',h1,h2,h3,h4,h5⟩
  |panic ch=>exact⟨s',ρ',h1,h2,h3,h4,h5⟩
  |outgrown=>exact⟨s',ρ',h1,h2,h3,h4,h5⟩
 |region id ops draw=>
  intro hb s K x h B ρ a w hr hf;simp only[wJ]at h;cases draw
  ·refine wp_region ?_;have:=a2m hC hcall (all:=ops.toList) (K:=K .normal) (x:=x) (Post B ρ w s K x L) s.n ρ w (λs' ρ' a' w' h1 h2 h3 h4 h5=>⟨s',ρ',h1,h2,h3,h4,λ_=>h5⟩)
    ops.toList 0 [] s ρ a w (λj=>by simp) h hr hf rfl (Later.refl _ _)
   simpa [List.range_eq_range']using this
  ·exact hD id ops call (K .normal) x s B ρ a w _ hcall h hr hf (λs' ρ' a' w' h1 h2 h3 h4 h5=>⟨s',ρ',h1,h2,h3,h4,λ_=>h5⟩)
 |_=>intro _ s K x h;cases h
end
section
variable {P:Program} {C:Cx} (hC:av P C) {R:Type}
def a4V(tmps:Array Value):ResultVar->Sem Value| .tmp t=>pure (tmps.getD t undef)| .cell ad t=>do loadVar t (<-asAddr (tmps.getD ad undef))
def a6n:List Value->Value| [v]=>v|l=>.tuple l.toArray
theorem a4W(hti:wL P C.ti){s:DS}{r:ResultVar}{K:V->Option R}{x:R}(h:adA C s r K=some x){B:Base}{ρ:Rho}{a:Act}{w:World}(hr:aJ B ρ s a w):
  ∃v vv,K v=some x/\(a4V a.tmps r).run P w= .ok vv w/\VR ρ w v vv:=by
 unfold adA at h;split at h
 ·rename_i t;split at h
  ·rename_i v hv;obtain⟨vv,h1,h2⟩:=hr.env t _ hv;exact⟨v,vv,h,by simp[a4V,h1],h2⟩
  ·cases h
 ·rename_i ad T;split at h
  ·rename_i pv hv;rw[Dq]at h;cases hp:rC C.ti T pv s.h some with
   |none=>rw[hp]at h;cases h
   |some r=>
    rw[hp]at h;simp only[axh]at h;obtain⟨va,h1,h2⟩:=hr.env ad _ hv;obtain⟨v,h3,h4⟩:=Mg hti hr h2 hp;split at h
    ·rename_i v';refine⟨v',v,h,?_,h4⟩;have hva: ∃p,va= .pointer (some p):=by
      unfold rC at hp;split at hp
      ·obtain⟨loc,_,_,_,_,e⟩:=VR.ptrRf h2;exact⟨_,e⟩
      ·obtain⟨b,o,c,e,_⟩:=VR.ptrFz h2;exact⟨_,e⟩
      ·cases hp
     obtain⟨p,rfl⟩:=hva;simp only[a4V,axJ,h1,Option.getD_some,asAddr,awx,awM,aws];simpa [Instr.loadAt,Instr.sureAddr]using h3
    ·cases h
  ·cases h
theorem a2n(hti:wL P C.ti){s:DS}{B:Base}{ρ:Rho}{a:Act}{w:World}(hr:aJ B ρ s a w): ∀ {l:List ResultVar} {K:List V->Option R} {x:R},ZI C s l K=some x->
  ∃vs vvs,K vs=some x/\(l.mapM (a4V a.tmps)).run P w= .ok vvs w/\VRs ρ w vs vvs:=by
 intro l
 induction l with
 |nil=>intro K x h;exact⟨[],[],h,rfl,trivial⟩
 |cons r l ih=>
  intro K x h;simp only[ZI]at h;obtain⟨v,vv,h1,h2,h3⟩:=a4W hti h hr;obtain⟨vs,vvs,h4,h5,h6⟩:=ih h1;refine⟨v::vs,vv::vvs,h4,?_,h3,h6⟩;simp only[List.mapM_cons,awx,h2,aws,h5,awM]
theorem VRs.length {ρ:Rho}{w:World} : ∀ {l:List V} {vs:List Value},VRs ρ w l vs->l.length=vs.length
 | [],[],_=>rfl
 |_::_,_::_,h=>by simp[VRs.length h.2]
theorem a01 {fn:Func}{a:Act}{w:World}{vvs:List Value}(h:(fn.results.toList.mapM (a4V a.tmps)).run P w= .ok vvs w):
  (results fn a.tmps).run P w= .ok (a6n vvs) w:=by
 have e:results fn a.tmps=(do let vs<-fn.results.mapM (a4V a.tmps);pure (if h:vs.size=1 then vs[0]else .tuple vs)):=by
  unfold results
  congr 1
 rw[e,Array.mapM_eq_mapM_toList];simp only[awx,Sem.run_map,h,aws,awM]
 match vvs with
 | []=>rfl
 | [v]=>rfl
 |v::u::l=>simp[a6n]
theorem aaG {ρ:Rho}{w:World}{vs:List V}{vvs:List Value}(h:VRs ρ w vs vvs):VP ρ w (Ra vs) (a6n vvs):=by
 match vs,vvs,h with
 | [],[],_=>exact⟨[],rfl,trivial⟩
 | [v],[vv],h=>exact h.1
 |v::u::l,vv::uu::ll,h=>exact⟨vv::uu::ll,rfl,h⟩
theorem BA: ∀(args:List PV) (i t:Nat) (pv:PV),look (numbered i args) t=some pv->i<=t/\args[t-i]?=some pv:=by
 intro args
 induction args with
 |nil=>intro i t pv h;cases h
 |cons x l ih=>
  intro i t pv h;simp only[numbered]at h;rw[aH]at h;split at h
  ·rename_i e;subst e;simp only[awr]at h;subst h;simp
  ·obtain⟨h1,h2⟩:=ih (i+1) t pv h;refine⟨by omega,?_⟩;rw[show t-i=(t-(i+1))+1 by omega,axF];exact h2
theorem VPs.get {ρ:Rho}{w:World} : ∀ {l:List PV} {vs:List Value},VPs ρ w l vs-> ∀(j:Nat) pv,l[j]?=some pv-> ∃v,vs[j]?=some v/\VP ρ w pv v
 | [],[],_,j,pv,h=>by simp at h
 |x::l,v::vs,h,0,pv,hj=>by simp only[ax5,awr]at hj;subst hj;exact⟨v,rfl,h.1⟩
 |x::l,v::vs,h,j+1,pv,hj=>by obtain⟨u,h1,h2⟩:=VPs.get h.2 j pv (by simpa using hj);exact⟨u,by simpa using h1,h2⟩
theorem aJ.enter {B:Base}{ρ:Rho}{s:DS}{a:Act}{w:World}(hr:aJ B ρ s a w){args:List PV}{vargs:List Value}(hv:VPs ρ w args vargs)(n:Nat):
  aJ B ρ { env:=numbered 0 args,hp:=s.hp,nx:=s.nx,n:=n } { tmps:=vargs.toArray++Array.replicate (n-vargs.toArray.size) undef,defers:=[] } w:=by
 refine⟨rfl,by simp;omega,λt pv hl=>?_,hr.obj,hr.inj,hr.own,hr.ownA,hr.base,hr.may,hr.hid⟩;obtain⟨_,h1⟩:=BA args 0 t pv hl;obtain⟨v,h2,h3⟩:=hv.get t pv (by simpa using h1);refine⟨v,?_,h3⟩;have hlt:=(awH.1 h2).1;rw[Array.getElem?_append_left (by simpa using hlt)];simpa using h2
include hC in
theorem Aq(hD:Yw P C R){call:Ak R}(hcall:z8 P call)(lps:List (Nat×Lp)){f:FuncId}{fn:Func}(hf:P.funcs[f]?=some fn)
  (hlp: ∀c,fn.body=some c-> ∀q∈blocks c,∀lp,look lps q.1=some lp->aX P q.1 q.2 lp) {args:List PV} {s:DS} {K:PV->DS->Option R} {x:R}
  (h:dJ C lps call fn args s.hp s.nx K=some x) {B:Base} {ρ:Rho} {a:Act} {w:World} {vargs:List Value} (hr:aJ B ρ s a w) (hfr:kL ρ s.nx) (hv:VPs ρ w args vargs):
  Calls P f vargs.toArray w λe w'=> ∃v,e= .returned v/\ ∃pv s' ρ' a',K pv s'=some x/\aJ B ρ' s' a' w'/\kL ρ' s'.nx/\VP ρ' w' pv v/\Later ρ w ρ' w':=by
 unfold dJ at h;split at h
 ·rename_i c hc;refine calls_of_wp hf hc ?_;refine wp_mono (SK hC hD hcall lps True c (hlp c hc) _ _ x h B ρ _ w (hr.enter hv fn.ntmps) hfr) ?_;rintro e a' w' ⟨s',ρ',h1,h2,h3,h4,h5⟩;have fin:ZI C s' fn.results.toList (λvs=>K (Ra vs) s')=some x->a'.defers=[]/\ ∃v,(results fn a'.tmps).run P w'= .ok v w'/\ ∃v',Ending.returned v= .returned v'/\ ∃pv s' ρ' a',K pv s'=some x/\aJ B ρ' s' a' w'/\kL ρ' s'.nx/\VP ρ' w' pv v'/\Later ρ w ρ' w':=by intro h6;obtain⟨vs,vvs,h7,h8,h9⟩:=a2n hC.ti h2 h6;exact⟨h2.defers,_,a01 h8,_,rfl,_,s',ρ',a',h7,h2,h3,aaG h9,h5 trivial⟩
  cases e with
  |normal=>exact fin h1
  |ret=>exact fin h1
  |_=>cases h1
 ·cases h
include hC in
theorem Dy(hD:Yw P C R): ∀d,z8 P (fD C d:Ak R):=by
 intro d
 induction d with
 |zero=>intro f args s K x h;cases h
 |succ d ih=>
  intro f args s K x h B ρ a w vargs hr hfr hv;simp only[fD]at h;split at h
  ·rename_i fn lps hfn;obtain⟨h1,h2,h9⟩:=hC.fns f fn lps hfn;refine .inr ⟨h2 _ _,?_⟩;refine(Aq hC hD ih lps h1 h9 (s:=s) h hr hfr hv).mono ?_;rintro e w' ⟨v,rfl,pv,s',ρ',a',h3,h4,h5,h6,h7⟩;have L:=h7;refine⟨v,rfl,pv,_,ρ',h3,⟨hr.defers,hr.tmps,λt pv hl=>?_,h4.obj,h4.inj,h4.own,h4.ownA,h4.base,h4.may,h4.hid⟩,h5,h6,L,rfl⟩;obtain⟨v',h8,h9⟩:=hr.env t pv hl;exact⟨v',h8,h9.later L⟩
  ·cases h
end
section
variable {α:Type}
def wr:List (List (Nat×α))->Nat->(Nat->Bool)->List (Nat×α)->List (Nat×α)| [],_,_,l=>l|u::us,k,D,l=>wr us (k+1) D (if D k then u++l else l)
theorem bV {u l:List (Nat×α)}{t:Nat} :look (u++l) t=match look u t with|some x=>some x|none=>look l t:=by
 induction u with
 |nil=>rfl
 |cons x u ih=>
  obtain⟨n,x⟩:=x;rw[ayv,aH,aH];split
  ·rfl
  ·exact ih
theorem OI {u:List (Nat×α)}{t:Nat}(h: ∀x∈u,x.1≠t):look u t=none:=by
 induction u with
 |nil=>rfl
 |cons x u ih=>
  obtain⟨n,x⟩:=x;rw[aH,awG (h (n,x) (by simp))];exact ih λy hy=>h y (by simp[hy])
theorem SL {t:Nat} : ∀(us:List (List (Nat×α))) (k:Nat) (D D':Nat->Bool) (l l':List (Nat×α)),look l t=look l' t->
  (∀(j:Nat) u,us[j]?=some u->(∃x∈u,x.1=t)->D (k+j)=D' (k+j))->look (wr us k D l) t=look (wr us k D' l') t:=by
 intro us
 induction us with
 |nil=>intro k D D' l l' h _;exact h
 |cons u us ih=>
  intro k D D' l l' h hd;simp only[wr];apply ih
  ·by_cases hu: ∃x∈u,x.1=t
   ·have:=hd 0 u rfl hu;simp only[axE]at this;rw[this];cases D' k
    ·exact h
    ·simp only[axV];rw[bV,bV,h]
   ·have hn:look u t=none:=OI λx hx e=>hu ⟨x,hx,e⟩
    have h1: ∀(b:Bool) (l:List (Nat×α)),look (if b then u++l else l) t=look l t:=by
     intro b l;cases b
     ·rfl
     ·simp only[axV];rw[bV,hn]
    rw[h1,h1,h]
  ·intro j u' hj hx;have:=hd (j+1) u' (by simpa using hj) hx
   rwa [show k+(j+1)=k+1+j by omega]at this
theorem a6o {t:Nat} : ∀(us:List (List (Nat×α))) (k:Nat) (D D':Nat->Bool) (i:Nat) (u:List (Nat×α)) (l:List (Nat×α)),us[i]?=some u->D' (k+i)=true->D (k+i)=false->
  (∀j,j≠k+i->D' j=D j)->(∀(j:Nat) v,i<j->us[j]?=some v->D (k+j)=true->(∃x∈u,x.1=t)-> ∀x∈v,x.1≠t)->
  look (wr us k D' l) t=look (u++wr us k D l) t:=by
 intro us
 induction us with
 |nil=>intro k D D' i u l h;simp at h
 |cons v us ih=>
  intro k D D' i u l h h1 h0 hD hlast;cases i with
  |zero=>
   simp only[ax5,awr]at h;subst h;simp only[axE]at h1 h0 hD;simp only[wr,h1,h0,axV,axi,ay4];by_cases hu: ∃x∈v,x.1=t
   ·
    have: ∀(us:List (List (Nat×α))) (k':Nat) (l1 l2:List (Nat×α)),(∀(j:Nat) u',us[j]?=some u'->D' (k'+j)=true-> ∀x∈u',x.1≠t)->look (wr us k' D' l1) t=look l1 t:=by
     intro us
     induction us with
     |nil=>intro k' l1 _ _;rfl
     |cons u' us ih2=>
      intro k' l1 l2 hh;simp only[wr];rw[ih2 (k'+1) _ l2 (λj u'' hj hd=>hh (j+1) u'' (by simpa using hj) (by rwa [show k'+(j+1)=k'+1+j by omega]))];cases hk:D' k'
      ·rfl
      ·simp only[axV];rw[bV,OI (hh 0 u' rfl (by simpa using hk))]
    rw[this us (k+1) _ l (λj u' hj hd x hx=>hlast (j+1) u' (by omega) (by simpa using hj) (by rw[<-hD _ (by omega),show k+(j+1)=k+1+j by omega];exact hd) hu x hx)];rw[bV,bV];obtain⟨x,hx,hxt⟩:=hu;have:look v t≠none:=by
     clear hlast this
     induction v with
     |nil=>cases hx
     |cons y v ihv=>
      obtain⟨n,y⟩:=y;rw[aH];split
      ·simp
      ·rename_i hne;rcases axL.1 hx with e|e
       ·subst e;exact absurd hxt hne
       ·exact ihv e
    cases hl:look v t with
    |none=>exact absurd hl this
    |some y=>rfl
   ·have hn:look v t=none:=OI λx hx e=>hu ⟨x,hx,e⟩
    rw[bV,hn];apply SL
    ·rw[bV,hn]
    ·intro j u' hj _;exact hD _ (by omega)
  |succ i=>
   simp only[wr];have hk:D' k=D k:=hD k (by omega);rw[hk];refine ih (k+1) D D' i u _ (by simpa using h) (by rw[show k+1+i=k+(i+1)by omega];exact h1) (by rw[show k+1+i=k+(i+1)by omega];exact h0) (λj hj=>hD j (by omega)) (λj v' hij hj hd hu x hx=>?_);exact hlast (j+1) v' (by omega) (by simpa using hj) (by rw[show k+(j+1)=k+1+j by omega];exact hd) hu x hx
end
section
variable {C:Cx} {R:Type}
theorem a3Y {β:Type}{vl vl':Operand->PV}{l:List β}{g:β->Operand}{F:β->PV->Nat×PV}(h: ∀b∈l,vl (g b)=vl' (g b)):(l.map λb=>F b (vl (g b)))=l.map λb=>F b (vl' (g b)):=
 ayf λb hb=>by rw[h b hb]
theorem a2o {ti:List (Nat×TI)}{T:TypeId}{a:PV}{h h':Heap}{K:PV->Option R}(hh: ∀t id p,a= .v ⟨.ptr t,.rf id p⟩->h id=h' id):rC ti T a h K=rC ti T a h' K:=by
 unfold rC;split
 ·rw[hh _ _ _ rfl]
 ·rfl
 ·rfl
theorem a02 {ti:List (Nat×TI)}{T:TypeId}{a v:PV}{h h':Heap}{K:PV->Upd->Option R}(hh: ∀t id p,a= .v ⟨.ptr t,.rf id p⟩->h id=h' id):qY ti T a v h K=qY ti T a v h' K:=by
 unfold qY;split
 ·rw[hh _ _ _ rfl]
 ·rfl
theorem a2p {ti:List (Nat×TI)}{T:TypeId}{d x:PV}{h h':Heap}{K:K3 R}(hh: ∀t id p lo len t' id' p' lo' len',d= .v ⟨.sl t,.ms id p lo len⟩->x= .v ⟨.sl t',.ms id' p' lo' len'⟩->h id=h' id/\h id'=h' id'):Bt ti T d x h K=Bt ti T d x h' K:=by
 unfold Bt;split
 ·split
  ·split
   ·split
    ·congr 1
     obtain⟨h1,h2⟩:=hh _ _ _ _ _ _ _ _ _ _ rfl rfl;rw[h1,h2]
    ·rfl
   ·rfl
  ·rfl
 ·rfl
theorem a4X {d:PV}{t:Ty}{e:TypeId}{h h':Heap}(hh: ∀id∈yD d,h id=h' id):rowOf d t e h=rowOf d t e h':=by
 unfold rowOf;split
 ·rfl
 ·rw[hh _ (by simp[yD])]
 ·rfl
theorem Qg {d:PV}{t:Ty}{h h':Heap}(hh: ∀id∈yD d,h id=h' id):sQ d t h=sQ d t h':=by
 unfold sQ;split
 ·rfl
 ·rfl
 ·rw[hh _ (by simp[yD])]
 ·rfl
theorem Mw {ti:List (Nat×TI)}{T:TypeId}{d x:PV}{h h':Heap}{nx:Nat}{K:K3 R}(hh: ∀id∈yD d++yD x,h id=h' id):iN ti T d x h nx K=iN ti T d x h' nx K:=by
 unfold iN;split
 ·split
  ·split
   ·split
    ·rw[a4X (λid hi=>hh id (awK _ hi)),Qg (λid hi=>hh id (awE _ hi))]
    ·rfl
   ·rfl
  ·rfl
 ·rfl
theorem Wy {ti:List (Nat×TI)}{src dst:TypeId}{x:PV}{h h':Heap}{nx:Nat}{K:K3 R}(hh: ∀id∈yD x,h id=h' id):kR ti src dst x h nx K=kR ti src dst x h' nx K:=by unfold kR;rw[Qg hh]
theorem a6p {o:Oper}{vl vl':Operand->PV}{h h':Heap}{nx:Nat}{K:K3 R}(hv: ∀x∈o.op.operands,vl x=vl' x)(hh: ∀id∈(Wd o vl nx).1,h id=h' id):
  Fw C o vl h nx K=Fw C o vl' h' nx K:=by
 unfold Fw Wd at*;cases hop:o.op with
 |move x=>simp only[hop]at hv⊢;rw[hv x (by simp[Op.operands])]
 |assign x=>simp only[hop]at hv⊢;rw[hv x (by simp[Op.operands])]
 |pick c a b=>simp only[hop]at hv⊢;rw[hv c (by simp[Op.operands]),hv a (by simp[Op.operands]),hv b (by simp[Op.operands])]
 |alloc T=>rfl
 |box T x=>simp only[hop]at hv⊢;rw[hv x (by simp[Op.operands])]
 |build T ps=>
  simp only[hop]at hv⊢;rw[a3Y (l:=ps.toList) (g:=λp=>p.2) (F:=λp x=>(p.1,x)) (λb hb=>hv b.2 (by simp only[Op.operands];simpa using⟨b.1,by simpa using hb⟩))]
 |buildSlice T len ps=>
  simp only[hop]at hv⊢;rw[a3Y (l:=ps.toList) (g:=λp=>p.2) (F:=λp x=>(p.1,x)) (λb hb=>hv b.2 (by simp only[Op.operands];simpa using⟨b.1,by simpa using hb⟩))]
 |load T a=>
  simp only[hop]at hv hh⊢;rw[<-hv a (by simp[Op.operands])];exact a2o λt id p e=>hh id (by rw[e];simp)
 |store T a x=>
  simp only[hop]at hv hh⊢;rw[<-hv a (by simp[Op.operands]),<-hv x (by simp[Op.operands])];exact a02 λt id p e=>hh id (by rw[e];simp)
 |nilCheck x=>simp only[hop]at hv⊢;rw[hv x (by simp[Op.operands])]
 |binOp op T x y _=>simp only[hop]at hv⊢;rw[hv x (by simp[Op.operands]),hv y (by simp[Op.operands])]
 |unOp op T x=>simp only[hop]at hv⊢;rw[hv x (by simp[Op.operands])]
 |convert S T x=>
  simp only[hop]at hv hh⊢;rw[<-hv x (by simp[Op.operands])];exact Wy λid hid=>hh id hid
 |sliceToArrayPointer T x=>simp only[hop]at hv⊢;rw[hv x (by simp[Op.operands])]
 |makeFunc fn first caps=>
  simp only[hop]at hv⊢;rw[ayf λx hx=>hv x (by simp only[Op.operands];exact Array.mem_append.2 (.inr (by simpa using hx)))]
 |slice T x lo hi mx=>
  simp only[hop]at hv⊢;have e1:lo.map vl=lo.map vl':=by cases lo with
   |none=>rfl
   |some y=>simp only[ay6];rw[hv y (by simp[Op.operands])]
  have e2:hi.map vl=hi.map vl':=by cases hi with
   |none=>rfl
   |some y=>simp only[ay6];rw[hv y (by simp[Op.operands])]
  rw[hv x (by simp[Op.operands]),e1,e2]
 |fieldAddr T x j=>simp only[hop]at hv⊢;rw[hv x (by simp[Op.operands])]
 |field T x j=>simp only[hop]at hv⊢;rw[hv x (by simp[Op.operands])]
 |indexAddr T x y=>simp only[hop]at hv⊢;rw[hv x (by simp[Op.operands]),hv y (by simp[Op.operands])]
 |index T x y=>simp only[hop]at hv⊢;rw[hv x (by simp[Op.operands]),hv y (by simp[Op.operands])]
 |extract x j=>simp only[hop]at hv⊢;rw[hv x (by simp[Op.operands])]
 |makeSlice T x y=>simp only[hop]at hv⊢;rw[hv x (by simp[Op.operands]),hv y (by simp[Op.operands])]
 |lookup T x y ok=>
  simp only[hop]at hv hh⊢;rw[<-hv x (by simp[Op.operands]),<-hv y (by simp[Op.operands])];split
  ·unfold pJ;split
   ·split
    ·congr 1
     split
     ·rfl
     ·rename_i e;rw[hh _ (by rw[e];simp[KP])]
     ·rfl
    ·rfl
   ·rfl
  ·unfold qE;split
   ·split
    ·split
     ·rfl
     ·rename_i e;rw[hh _ (by rw[e];simp[KP])]
     ·rfl
    ·rfl
   ·rfl
 |mapUpdate T x y z=>
  simp only[hop]at hv hh⊢;rw[<-hv x (by simp[Op.operands]),<-hv y (by simp[Op.operands]),<-hv z (by simp[Op.operands])];split
  ·unfold qF;split
   ·split
    ·split
     ·rename_i e;rw[hh _ (by rw[e];simp[KP])]
     ·rfl
    ·rfl
   ·rfl
  ·unfold jd;split
   ·split
    ·split
     ·rename_i e;rw[hh _ (by rw[e];simp[KP])]
     ·rfl
    ·rfl
   ·rfl
 |mapEntry T x y=>
  simp only[hop]at hv hh⊢;rw[<-hv x (by simp[Op.operands]),<-hv y (by simp[Op.operands])];unfold jW;split
  ·split
   ·split
    ·rename_i e;rw[hh _ (by rw[e];simp[KP])]
    ·rfl
   ·rfl
  ·rfl
 |entryStore T x y z=>
  simp only[hop]at hv hh⊢;rw[<-hv x (by simp[Op.operands]),<-hv y (by simp[Op.operands]),<-hv z (by simp[Op.operands])];unfold gZ;split
  ·split
   ·split
    ·rename_i e;rw[hh _ (by rw[e];simp[KP])]
    ·rfl
   ·rfl
  ·rfl
 |call c=>
  simp only[hop]at hv hh⊢;rw[<-ayf λx hx=>hv x (by simp only[Op.operands,Call.operands];exact Array.mem_append.2 (.inr (by simpa using hx)))];unfold rY;split
  ·split
   ·rfl
   ·rename_i hcal;have e3:= ‹List.map vl c.args.toList=_›;rw[hcal,e3]at hh;unfold Bu;split
    ·split
     ·rfl
     ·simp only[yD]at hh;rw[hh _ (by simp)]
     ·rfl
    ·rfl
   ·rename_i hcal;have e3:= ‹List.map vl c.args.toList=_›;rw[hcal,e3]at hh;unfold Bv;split
    ·split
     ·simp only[axI,forall_eq]at hh;rw[hh]
     ·rfl
    ·rfl
   ·rfl
   ·rfl
   ·rename_i hargs _ hcal;have e3:= ‹List.map vl c.args.toList=_›;rw[hcal,e3]at hh;split
    ·unfold Ai;split
     ·split
      ·split
       ·simp[yD]at hh;rw[hh]
       ·rfl
      ·rfl
     ·rfl
    refine a2p λt id p lo len t' id' p' lo' len' e1 e2=>?_
    subst e1;subst e2;exact⟨hh id (by simp[yD]),hh id' (by simp[yD])⟩
   ·rename_i hargs _ hcal;split
    ·have e3:= ‹List.map vl c.args.toList=_›;refine Mw λid hid=>?_
     rw[hcal,e3]at hh;exact hh id hid
    ·split
     ·have e3:= ‹List.map vl c.args.toList=_›;rw[hcal,e3]at hh
      congr 1
      refine Mw λid hid=>hh id ?_
      simpa [yD]using hid
     ·rfl
   ·rfl
  ·rfl
 |_=>rfl
theorem a2q {o:Oper}{vl vl':Operand->PV}(hv: ∀x∈o.op.operands,vl x=vl' x):KQ o vl=KQ o vl':=by
 unfold KQ;cases hop:o.op with
 |call c=>
  simp only[hop]at hv⊢;cases hc:c.callee with
  |value f=>
   simp only;rw[hv f (by simp[Op.operands,Call.operands,hc]),ayf λx hx=>hv x (by simp only[Op.operands,Call.operands];exact Array.mem_append.2 (.inr (by simpa using hx)))]
  |_=>rfl
 |_=>rfl
theorem a6q {o:Oper}{vl vl':Operand->PV}{nx:Nat}(hv: ∀x∈o.op.operands,vl x=vl' x):Wd o vl nx=Wd o vl' nx:=by
 unfold Wd;cases hop:o.op with
 |load T a=>simp only[hop]at hv⊢;rw[hv a (by simp[Op.operands])]
 |store T a x=>simp only[hop]at hv⊢;rw[hv a (by simp[Op.operands])]
 |convert S T x=>simp only[hop]at hv⊢;rw[hv x (by simp[Op.operands])]
 |lookup T x y ok=>simp only[hop]at hv⊢;rw[hv x (by simp[Op.operands])]
 |mapUpdate T x y z=>simp only[hop]at hv⊢;rw[hv x (by simp[Op.operands])]
 |mapEntry T x y=>simp only[hop]at hv⊢;rw[hv x (by simp[Op.operands])]
 |entryStore T x y z=>simp only[hop]at hv⊢;rw[hv x (by simp[Op.operands])]
 |call c=>
  simp only[hop]at hv⊢;rw[ayf λx hx=>hv x (by simp only[Op.operands,Call.operands];exact Array.mem_append.2 (.inr (by simpa using hx)))]
 |_=>rfl
end
structure Rec where
 skip:Bool
 pv:PV
 u:Upd
 n:Nat
 nx:Nat
 fp:Fp
def FN(C:Cx)(o:Oper)(vl:Operand->PV)(h:Heap)(r:Rec):Prop:=match KQ o vl with|some (f,args)=> ∃c,look C.con f=some c/\c.run args h r.nx pk=some (r.pv,r.u,r.n)/\r.fp=((c.fp args h).1,(c.fp args h).2++List.range' r.nx r.n)|none=>Fw C o vl h r.nx pk=some (r.pv,r.u,r.n)/\r.fp=Wd o vl r.nx
def vY(dst:Option Tmp)(pv:PV):List (Nat×PV):=match dst with|some d=>[(d,pv)]|none=>[]
def DS.behind(s:DS)(o:Oper)(r:Rec):DS:= { s with env:=vY o.dst r.pv++s.env,hp:=r.u++s.hp,nx:=r.nx+r.n }
def uW(all:List Oper)(o:Oper)(e:Nat->Option PV):Option Bool:=
 match o.guard with
 |none=>some true
 |some (j,want)=>match uR all j with
  |none=>none
  |some t=>match e t with
   |some (.v ⟨.bool,b⟩)=>some (b==want)
   |some (.tup [])=>some false
   |_=>none
inductive Run(C:Cx)(all:List Oper):List Oper->DS->List Rec->DS->Prop
 |nil (s:DS):Run C all [] s [] s
 |step {o rest s r rs s'} (hw:uW all o (look s.env)=some true) (hs:r.skip=false) (hn:r.nx=s.nx) (ht:FN C o s.val s.h r) (hd: ∀d,o.dst=some d->d<s.n)
   (hr:Run C all rest (s.behind o r) rs s'):Run C all (o::rest) s (r::rs) s'
 |skip {o rest s r rs s'} (hw:uW all o (look s.env)=some false) (hs:r.skip=true) (hn:r.nx=s.nx) (hr0:r.pv= .tup []/\r.u=[]/\r.n=0/\r.fp=([],[])) (hd: ∀d,o.dst=some d->d<s.n)
   (hr:Run C all rest (s.behind o r) rs s'):Run C all (o::rest) s (r::rs) s'
theorem SQ {R:Type}{s:DS}{dst:Option Tmp}{pv:PV}{K:DS->Option R}{x:R}(h:s.put dst pv K=some x):(∀d,dst=some d->d<s.n)/\K { s with env:=vY dst pv++s.env } =some x:=by
 unfold DS.put at h;split at h
 ·exact⟨(λd e=>by cases e),h⟩
 ·rename_i d;cases hb:Nat.blt d s.n
  ·rw[hb]at h;cases h
  ·rw[hb]at h;exact⟨(λd' e=>by cases e;exact FJ hb),h⟩
structure Alike(s s':DS):Prop where
 env: ∀t,look s.env t=look s'.env t
 hp: ∀t,look s.hp t=look s'.hp t
 nx:s.nx=s'.nx
 n:s.n=s'.n
theorem Alike.val {s s':DS}(h:Alike s s'):s.val=s'.val:=by
 funext x;cases x<;>simp[DS.val,h.env]
theorem Alike.h {s s':DS}(h:Alike s s'):s.h=s'.h:=by funext t;exact h.hp t
theorem Alike.behind {s s':DS}(h:Alike s s')(o:Oper)(r:Rec):Alike (s.behind o r) (s'.behind o r):=
 ⟨λt=>by simp only[DS.behind,bV,h.env],λt=>by simp only[DS.behind,bV,h.hp],rfl,h.n⟩
theorem Alike.refl(s:DS):Alike s s:=⟨λ_=>rfl,λ_=>rfl,rfl,rfl⟩
theorem Alike.symm {s s':DS}(h:Alike s s'):Alike s' s:=⟨λt=>(h.env t).symm,λt=>(h.hp t).symm,h.nx.symm,h.n.symm⟩
theorem Alike.trans {s s' s'':DS}(h:Alike s s')(h':Alike s' s''):Alike s s'':=⟨λt=>(h.env t).trans (h'.env t),λt=>(h.hp t).trans (h'.hp t),h.nx.trans h'.nx,h.n.trans h'.n⟩
theorem Run.alike {C:Cx}{all rest:List Oper}{s:DS}{rs:List Rec}{s1:DS}(h:Run C all rest s rs s1): ∀s',Alike s s'-> ∃s1',Run C all rest s' rs s1'/\Alike s1 s1':=by
 induction h with
 |nil s=>intro s' ha;exact⟨s',.nil s',ha⟩
 |step hw hs hn ht hd hr ih=>
  intro s' ha;obtain⟨s1',h1,h2⟩:=ih _ (ha.behind _ _);refine⟨s1',.step ?_ hs (hn.trans ha.nx) (by rw[<-ha.val,<-ha.h];exact ht) (by rw[<-ha.n];exact hd) h1,h2⟩;rw[<-hw];congr 1;funext t;exact(ha.env t).symm
 |skip hw hs hn h0 hd hr ih=>
  intro s' ha;obtain⟨s1',h1,h2⟩:=ih _ (ha.behind _ _);refine⟨s1',.skip ?_ hs (hn.trans ha.nx) h0 (by rw[<-ha.n];exact hd) h1,h2⟩;rw[<-hw];congr 1;funext t;exact(ha.env t).symm
theorem aJ.alike {B:Base}{ρ:Rho}{s s':DS}{a:Act}{w:World}(h:aJ B ρ s a w)(ha:Alike s s'):aJ B ρ s' a w:=
 ⟨h.defers,by rw[<-ha.n];exact h.tmps,λt pv hl=>h.env t pv (by rw[ha.env];exact hl),λid o hl=>h.obj id o (by rw[ha.hp];exact hl),
  λi j o1 o2 l1 l2 h1 h2 d1 d2 h3 h4 h5=>h.inj i j o1 o2 l1 l2 (by rw[ha.hp];exact h1) (by rw[ha.hp];exact h2) d1 d2 h3 h4 h5,h.own,h.ownA,h.base,h.may,
  h.hid.imp λF hF=>hF.step (Later.refl ρ w).keeps (λi o c h1 _ h3=>⟨by rw[ha.hp];exact h1,c,h3,rfl⟩) (λ_ _ _ _ _ _ _=>rfl) (λi o c b h1 h2 h3 h4=>⟨rfl,(hF.own i o c b h1 h2 h3 h4).1⟩) (λi o c h1 h2 h3=>.inr ⟨i,o,c,by rw[ha.hp];exact h1,h2,h3,rfl⟩)⟩
theorem vZ {s:DS}{t:Nat}{b:Bool}(h:look s.env t=some (.v ⟨.bool,b⟩)):Alike { s with env:=(t,.v ⟨.bool,b⟩)::s.env } s:=by
 refine⟨λt'=>?_,λ_=>rfl,rfl,rfl⟩;show look ((t,_)::s.env) t'=_;rw[aH];split
 ·rename_i e;subst e;exact h.symm
 ·rfl
theorem a6r {C:Cx}{R:Type}{call:Ak R}{all:List Oper}{K:DS->Option R}{x:R} : ∀(rest:List Oper) (tr:List Fp) (s:DS),(∀f c,look C.con f=some c-> ∃P,aA P f c)->Cn C true call all rest tr s K=some x->
  ∃rs s' s2,Run C all rest s rs s'/\Alike s' s2/\KR all (tr++rs.map (·.fp))=true/\K s2=some x:=by
 intro rest
 induction rest with
 |nil=>
  intro tr s _ h;simp only[Cn,awL]at h;cases hd:KR all tr
  ·rw[hd]at h;cases h
  ·rw[hd]at h;exact⟨[],s,s,.nil s,Alike.refl s,by simpa using hd,h⟩
 |cons o rest ih=>
  intro tr s hcon h;have doStep: ∀s1,Alike s1 s->uW all o (look s.env)=some true->Q5 C true call o s1 (λs' fp=>Cn C true call all rest (tr++[fp]) s' K)=some x->
    ∃rs s' s2,Run C all (o::rest) s rs s'/\Alike s' s2/\KR all (tr++rs.map (·.fp))=true/\K s2=some x:=by
   intro s1 ha hw hs;unfold Q5 at hs;have fin: ∀(r:Rec),r.nx=s1.nx->r.skip=false->FN C o s1.val s1.h r->(s1.app r.u r.n).put o.dst r.pv (λs'=>Cn C true call all rest (tr++[r.fp]) s' K)=some x->
     ∃rs s' s2,Run C all (o::rest) s rs s'/\Alike s' s2/\KR all (tr++rs.map (·.fp))=true/\K s2=some x:=by
    intro r hnx hsk ht hp;obtain⟨hd,hp⟩:=SQ hp;obtain⟨rs,s',s2,h1,h2,h3,h4⟩:=ih _ _ hcon hp;have hb:Alike { s1.app r.u r.n with env:=vY o.dst r.pv++(s1.app r.u r.n).env } (s.behind o r):=by
     refine⟨λt=>?_,λt=>?_,?_,ha.n⟩
     ·simp only[DS.app,DS.behind,bV,ha.env]
     ·simp only[DS.app,DS.behind,bV,ha.hp]
     ·simp only[DS.app,DS.behind,hnx]
    obtain⟨s'',h5,h6⟩:=h1.alike _ hb;exact⟨r::rs,s'',s2,.step hw hsk (hnx.trans ha.nx) (by rw[<-ha.val,<-ha.h];exact ht) (by rw[<-ha.n];exact hd) h5,h6.symm.trans h2,by simpa using h3,h4⟩
   split at hs
   ·rename_i f args hco;split at hs
    ·rename_i c hc;obtain⟨P,ok⟩:=hcon f c hc;rw[ok.nat]at hs;cases hrun:c.run args s1.h s1.nx pk with
     |none=>rw[hrun]at hs;cases hs
     |some r=>
      obtain⟨pv,u,n⟩:=r;rw[hrun]at hs;exact fin ⟨false,pv,u,n,s1.nx,((c.fp args s1.h).1,(c.fp args s1.h).2++List.range' s1.nx n)⟩ rfl rfl (by unfold FN;rw[hco];exact⟨c,hc,hrun,rfl⟩) hs
    ·cases hs
   ·rename_i hco;rw[ZL]at hs;cases hrun:Fw C o s1.val s1.h s1.nx pk with
    |none=>rw[hrun]at hs;cases hs
    |some r=>
     obtain⟨pv,u,n⟩:=r;rw[hrun]at hs;exact fin ⟨false,pv,u,n,s1.nx,Wd o s1.val s1.nx⟩ rfl rfl (by unfold FN;rw[hco];exact⟨hrun,rfl⟩) hs
  have doSkip: ∀s1,Alike s1 s->uW all o (look s.env)=some false->Sk o s1 (λs' fp=>Cn C true call all rest (tr++[fp]) s' K)=some x->
    ∃rs s' s2,Run C all (o::rest) s rs s'/\Alike s' s2/\KR all (tr++rs.map (·.fp))=true/\K s2=some x:=by
   intro s1 ha hw hs;unfold Sk at hs;obtain⟨hd,hp⟩:=SQ hs;obtain⟨rs,s',s2,h1,h2,h3,h4⟩:=ih _ _ hcon hp;let r:Rec:=⟨true,.tup [],[],0,s.nx,([],[])⟩;have hb:Alike { s1 with env:=vY o.dst (.tup [])++s1.env } (s.behind o r):=by
    refine⟨λt=>?_,λt=>?_,?_,ha.n⟩
    ·simp only[DS.behind,bV,ha.env,r]
    ·simp only[DS.behind,ha.hp,r,ayZ]
    ·simp only[DS.behind,r,ha.nx,axE]
   obtain⟨s'',h5,h6⟩:=h1.alike _ hb;exact⟨r::rs,s'',s2,.skip hw rfl rfl ⟨rfl,rfl,rfl,rfl⟩ (by rw[<-ha.n];exact hd) h5,h6.symm.trans h2,by simpa [r]using h3,h4⟩
  unfold Cn at h;split at h
  ·rename_i hg;exact doStep s (Alike.refl s) (by simp[uW,hg]) h
  ·rename_i j want hg;split at h
   ·cases h
   ·rename_i t ht;split at h
    ·rename_i b hb;have hw:uW all o (look s.env)=some (b==want):=by simp only[uW,hg,ht,hb]
     cases b
     ·simp only[awW]at h;cases want
      ·simp only[awW]at h;exact doStep { s with env:=(t,.v ⟨.bool,false⟩)::s.env } (vZ hb) hw h
      ·simp only[awL]at h;exact doSkip { s with env:=(t,.v ⟨.bool,false⟩)::s.env } (vZ hb) hw h
     ·simp only[awL]at h;cases want
      ·simp only[awW]at h;exact doSkip { s with env:=(t,.v ⟨.bool,true⟩)::s.env } (vZ hb) hw h
      ·simp only[awL]at h;exact doStep { s with env:=(t,.v ⟨.bool,true⟩)::s.env } (vZ hb) hw h
    ·rename_i hb;have hw:uW all o (look s.env)=some false:=by simp only[uW,hg,ht,hb]
     exact doSkip s (Alike.refl s) hw h
    ·cases h
theorem Mx {ti:List (Nat×TI)}{T:TypeId}{d y:PV}{h:Heap}{nx:Nat}{r:Ans}(hr:iN ti T d y h nx pk=some r): ∀x∈r.2.1,x.1∈nx::yD d:=by
 intro x hx;unfold iN at hr;split at hr
 ·split at hr
  ·split at hr
   ·split at hr
    ·split at hr
     ·rename_i hro _;generalize (Nat.ble _ _&&_)=b at hr;cases b
      ·cases hr
      ·cases hr;simp only[axL]at hx;rcases hx with rfl|hx
       ·simp
       ·unfold rowOf at hro;split at hro
        ·cases hro;cases hx
        ·split at hro
         ·split at hro
          ·rename_i e' _ _ _ _ _;generalize Nat.beq _ _=b at hro;cases b
           ·cases hro
           ·cases hro;simp at hx;subst hx;simp[yD]
          ·cases hro
         ·cases hro
        ·cases hro
     ·cases hr
    ·cases hr
   ·cases hr
  ·cases hr
 ·cases hr
theorem a03: ∀ {l:List Ty} {y:lC l} {i:Nat},∀x∈vX l y i,i<=x.1/\x.1<i+l.length:=by
 intro l
 induction l with
 |nil=>intro y i x hx;cases hx
 |cons t l ih=>
  intro y i x hx;simp only[vX]at hx;simp only[axH];rcases axL.1 hx with rfl|hx
  ·exact⟨ax2 _,by simp only;omega⟩
  ·have:=ih x hx;omega
theorem a6s {C:Cx}{o:Oper}{vl:Operand->PV}{h:Heap}{nx:Nat}{r:Ans}(hr:Fw C o vl h nx pk=some r): ∀x∈r.2.1,x.1∈(Wd o vl nx).2:=by
 have pure0: ∀(f:(R:Type)->(PV->Option R)->Option R),(∀(R:Type) (K:PV->Option R),f R K=(f PV some).bind K)->f Ans (λv=>pk v [] 0)=some r->r.2.1=[]:=by
  intro f hf h;rw[hf]at h;cases hp:f PV some with
  |none=>rw[hp]at h;cases h
  |some pv'=>rw[hp]at h;cases h;rfl
 intro x hx;unfold Fw k0 at hr;unfold Wd;cases hop:o.op<;>simp only[hop]at hr⊢
 case move=>cases hr;cases hx
 case assign=>cases hr;cases hx
 case pick=>
  split at hr
  ·rename_i b _;cases b<;>(cases hr;cases hx)
  ·cases hr
 case alloc=>
  split at hr
  ·cases hr;simp at hx;subst hx;simp
  ·cases hr
 case box=>
  split at hr
  ·split at hr
   ·generalize List.any _ _=b at hr;cases b
    ·simp only[awW]at hr;generalize Ty.spHead _=b at hr;cases b
     ·cases hr;simp at hx;subst hx;simp
     ·cases hr
    ·simp only[awL]at hr;generalize dG _ _=b at hr;cases b
     ·cases hr
     ·cases hr;cases hx
   ·cases hr
  ·split at hr
   ·generalize List.any _ _=b at hr;cases b
    ·cases hr;simp at hx;subst hx;simp
    ·cases hr
   ·cases hr
  ·cases hr
 case build=>rw[pure0 (λR K=>yx C.ti _ _ K) (λR K=>FD ..) hr]at hx;cases hx
 case buildSlice=>
  split at hr
  ·split at hr
   ·split at hr
    ·split at hr
     ·split at hr
      ·rename_i f _;generalize (Nat.ble _ _&&_)=b at hr;cases b
       ·cases hr
       ·simp only[awL]at hr;generalize List.any _ _=b at hr;cases b
        ·cases hr;simp at hx;subst hx;simp
        ·simp only[awL]at hr;generalize Ty.flat _=b at hr;cases b
         ·cases hr
         ·cases hr;cases hx
      ·cases hr
     ·cases hr
    ·cases hr
   ·cases hr
  ·cases hr
 case load=>rw[pure0 (λR K=>rC C.ti _ _ h K) (λR K=>Dq ..) hr]at hx;cases hx
 case store T a v=>
  unfold qY at hr;split at hr
  ·rename_i t id p v' ha hv;split at hr
   ·split at hr
    ·generalize Nat.beq _ _=b at hr;cases b
     ·cases hr
     ·simp only[awL]at hr;split at hr
      ·cases hr;simp at hx;subst hx;rw[ha];simp
      ·cases hr
    ·cases hr
   ·cases hr
  ·cases hr
 case nilCheck=>
  split at hr
  ·cases hr;cases hx
  ·cases hr;cases hx
  ·cases hr
 case binOp=>rw[pure0 (λR K=>M7 C.ti _ _ _ _ K) (λR K=>Oz ..) hr]at hx;cases hx
 case unOp=>rw[pure0 (λR K=>Ye _ _ K) (λR K=>Sm ..) hr]at hx;cases hx
 case convert=>
  unfold kR at hr;split at hr
  ·split at hr
   ·split at hr
    ·cases hr;cases hx
    ·cases hr
   ·generalize Oy _ _=b at hr;cases b
    ·cases hr
    ·simp only[awL]at hr;split at hr
     ·cases hr;cases hx
     ·cases hr
   ·generalize Oy _ _=b at hr;cases b
    ·cases hr
    ·simp only[awL]at hr;split at hr
     ·rename_i hxx;generalize Nat.ble _ _=b at hr;cases b
      ·cases hr
      ·cases hr;simp at hx;subst hx;rw[hxx];simp[isStr]
     ·cases hr
   ·cases hr
  ·cases hr
 case sliceToArrayPointer=>rw[pure0 (λR K=>sP C.ti _ _ K) (λR K=>Dr ..) hr]at hx;cases hx
 case makeFunc=>rw[pure0 (λR K=>nW _ _ _ K) (λR K=>zk ..) hr]at hx;cases hx
 case slice=>
  split at hr
  ·rw[pure0 (λR K=>yC C.ti _ _ _ _ K) (λR K=>FI ..) hr]at hx;cases hx
  ·cases hr
 case fieldAddr=>rw[pure0 (λR K=>jI C.ti _ _ _ K) (λR K=>xC ..) hr]at hx;cases hx
 case field=>rw[pure0 (λR K=>yA C.ti _ _ _ K) (λR K=>FE ..) hr]at hx;cases hx
 case indexAddr=>rw[pure0 (λR K=>jJ C.ti _ _ _ K) (λR K=>xD ..) hr]at hx;cases hx
 case index=>rw[pure0 (λR K=>yB C.ti _ _ _ K) (λR K=>FH ..) hr]at hx;cases hx
 case extract=>rw[pure0 (λR K=>pI _ _ K) (λR K=>Bw ..) hr]at hx;cases hx
 case makeSlice=>
  unfold Dp at hr;split at hr
  ·split at hr
   ·split at hr
    ·split at hr
     ·split at hr
      ·generalize (_&&_)=b at hr;cases b
       ·cases hr
       ·cases hr;simp at hx;subst hx;simp
      ·cases hr
     ·cases hr
    ·cases hr
   ·cases hr
  ·cases hr
 case makeMap T m=>
  split at hr
  ·unfold rX at hr;split at hr
   ·cases hr;simp at hx;subst hx;simp
   ·split at hr
    ·cases hr;simp at hx;subst hx;simp
    ·cases hr
  ·cases hr
 case lookup T m k ok=>
  split at hr
  ·rename_i kt hbt;have h7:=(ZR hbt).2.2;unfold pJ at hr;split at hr
   ·split at hr
    ·cases ok
     ·cases hr
     ·simp only[awL]at hr⊢;split at hr
      ·cases hr;cases hx
      ·rename_i id hm;split at hr
       ·split at hr
        ·rename_i ee;obtain⟨e1,e2⟩:=ee;subst e1;subst e2;unfold Sj at hr;split at hr
         ·cases hr;cases hx
         ·cases hr;rw[hm];simp only[KP,az3,List.flatMap_nil,ayr,axL,List.mem_range'_1];simp only[axo,axI]at hx;rcases hx with hx|hx
          ·unfold Aj at hx;rcases axL.1 hx with rfl|hx
           ·exact .inr ⟨ax2 _,by simp only;omega⟩
           ·have:=a03 x hx;exact .inr ⟨by omega,by omega⟩
          ·subst hx;exact .inl rfl
        ·cases hr
       ·cases hr
      ·cases hr
    ·cases hr
   ·cases hr
  ·rw[pure0 (λR K=>qE C.ti _ _ _ _ h K) (λR K=>Dt ..) hr]at hx;cases hx
 case mapUpdate T m k v=>
  split at hr
  ·unfold qF at hr;split at hr
   ·split at hr
    ·split at hr
     ·rename_i hm;split at hr
      ·split at hr
       ·cases hr;simp at hx;subst hx;rw[hm];simp[KP]
       ·cases hr
      ·cases hr
     ·cases hr
    ·cases hr
   ·cases hr
  ·unfold jd at hr;split at hr
   ·split at hr
    ·split at hr
     ·rename_i hm;split at hr
      ·split at hr
       ·cases hr;simp at hx;subst hx;rw[hm];simp[KP]
       ·cases hr
      ·cases hr
     ·cases hr
    ·cases hr
   ·cases hr
 case mapEntry T m k=>
  unfold jW at hr;split at hr
  ·split at hr
   ·split at hr
    ·rename_i hm;split at hr
     ·split at hr
      ·cases hr;simp at hx;subst hx;rw[hm];simp[KP]
      ·cases hr
     ·cases hr
    ·cases hr
   ·cases hr
  ·cases hr
 case entryStore T m st v=>
  unfold gZ at hr;split at hr
  ·split at hr
   ·split at hr
    ·rename_i hm;split at hr
     ·split at hr
      ·generalize inb _ _=b at hr;cases b
       ·cases hr
       ·cases hr;simp at hx;subst hx;rw[hm];simp[KP]
      ·cases hr
     ·cases hr
    ·cases hr
   ·cases hr
  ·cases hr
 case call c=>
  unfold rY at hr;split at hr
  ·split at hr
   ·rw[pure0 (λR K=>Md C.ti _ _ K) (λR K=>OC ..) hr]at hx;cases hx
   ·rw[pure0 (λR K=>Bu C.ti _ _ h K) (λR K=>KT ..) hr]at hx;cases hx
   ·rename_i hcal;have e3:= ‹List.map vl c.args.toList=_›;rw[hcal,e3];unfold Bv at hr;split at hr
    ·split at hr
     ·generalize (_&&_)=b at hr;cases b
      ·cases hr
      ·simp only[awL]at hr;split at hr
       ·generalize (_&&_)=b at hr;cases b
        ·cases hr
        ·cases hr;simp at hx;subst hx;simp
       ·generalize Nat.beq _ 0=b at hr;cases b
        ·cases hr
        ·cases hr;cases hx
     ·cases hr
    ·cases hr
   ·rw[pure0 (λR K=>Ma _ _ K) (λR K=>OA ..) hr]at hx;cases hx
   ·rw[pure0 (λR K=>Mc _ _ K) (λR K=>OB ..) hr]at hx;cases hx
   ·rename_i hargs _ hcal;have e3:= ‹List.map vl c.args.toList=_›;rw[hcal,e3];split at hr
    ·unfold Ai at hr;split at hr
     ·split at hr
      ·split at hr
       ·split at hr
        ·generalize (Nat.ble _ _||_)=b at hr;cases b
         ·simp only[awW]at hr;split at hr
          ·split at hr
           ·cases hr;simp at hx;subst hx;simp[yD]
           ·cases hr
          ·cases hr
         ·cases hr;cases hx
        ·cases hr
       ·cases hr
      ·cases hr
     ·cases hr
    unfold Bt at hr;split at hr
    ·split at hr
     ·split at hr
      ·split at hr
       ·generalize (Nat.ble _ _||_)=b at hr;cases b
        ·simp only[awW]at hr;split at hr
         ·split at hr
          ·split at hr
           ·cases hr;simp at hx;subst hx;simp[yD]
           ·cases hr
          ·cases hr
         ·cases hr
        ·cases hr;cases hx
       ·cases hr
      ·cases hr
     ·cases hr
    ·cases hr
   ·rename_i d y _ _ _ hcal;rw[hcal];have e3:= ‹List.map vl c.args.toList=_›;rw[e3];split at hr
    ·exact Mx hr x hx
    ·split at hr
     ·generalize Im _ _=b at hr;cases b
      ·cases hr
      ·exact Mx hr x hx
     ·cases hr
   ·cases hr
  ·cases hr
 all_goals cases hr
theorem a2r {ti:List (Nat×TI)}{T:TypeId}{l c:PV}{nx:Nat}{r:Ans}(hr:Dp ti T l c nx pk=some r):r.2.2=1:=by
 unfold Dp at hr;split at hr
 ·split at hr
  ·split at hr
   ·split at hr
    ·split at hr
     ·generalize (_&&_)=b at hr;cases b
      ·cases hr
      ·cases hr;rfl
     ·cases hr
    ·cases hr
   ·cases hr
  ·cases hr
 ·cases hr
theorem MB {ti:List (Nat×TI)}{T:TypeId}{l c:PV}{h:Heap}{nx:Nat}{r:Ans}(hr:iN ti T l c h nx pk=some r):r.2.2=1:=by
 unfold iN at hr;split at hr
 ·split at hr
  ·split at hr
   ·split at hr
    ·split at hr
     ·generalize (_&&_)=b at hr;cases b
      ·cases hr
      ·cases hr;rfl
     ·cases hr
    ·cases hr
   ·cases hr
  ·cases hr
 ·cases hr
theorem aaH {C:Cx}{o:Oper}{vl:Operand->PV}{h:Heap}{nx:Nat}{pv:PV}{u:Upd}(hr:Fw C o vl h nx pk=some (pv,u,0))(nx':Nat):Fw C o vl h nx' pk=some (pv,u,0):=by
 unfold Fw k0 at hr⊢;cases hop:o.op<;>simp only[hop]at hr⊢ <;>try exact hr
 case alloc=>
  split at hr
  ·cases hr
  ·cases hr
 case box=>
  split at hr
  ·split at hr
   ·generalize List.any _ _=b at hr;cases b
    ·simp only[awW]at hr;generalize Ty.spHead _=b at hr;cases b
     ·cases hr
     ·cases hr
    ·simp only[awL]at hr;generalize dG _ _=b at hr;cases b
     ·cases hr
     ·cases hr
   ·cases hr
  ·split at hr
   ·generalize List.any _ _=b at hr;cases b
    ·cases hr
    ·cases hr
   ·cases hr
  ·cases hr
 case convert=>
  unfold kR at hr⊢;split at hr
  ·split at hr
   ·split at hr
    ·exact hr
    ·cases hr
   ·generalize Oy _ _=b at hr⊢;cases b
    ·cases hr
    ·simp only[awL]at hr⊢;split at hr
     ·exact hr
     ·cases hr
   ·generalize Oy _ _=b at hr;cases b
    ·cases hr
    ·simp only[awL]at hr;split at hr
     ·generalize Nat.ble _ _=b at hr;cases b
      ·cases hr
      ·cases hr
     ·cases hr
   ·cases hr
  ·cases hr
 case buildSlice=>
  split at hr
  ·split at hr
   ·split at hr
    ·split at hr
     ·split at hr
      ·generalize (Nat.ble _ _&&_)=b at hr;cases b
       ·cases hr
       ·simp only[awL]at hr;generalize List.any _ _=b at hr;cases b
        ·cases hr
        ·simp only[awL]at hr;generalize Ty.flat _=b at hr;cases b
         ·cases hr
         ·cases hr
      ·cases hr
     ·cases hr
    ·cases hr
   ·cases hr
  ·cases hr
 case makeSlice=>have:=a2r hr;cases this
 case makeMap=>
  split at hr
  ·unfold rX at hr;split at hr
   ·cases hr
   ·split at hr
    ·cases hr
    ·cases hr
  ·cases hr
 case lookup T m k ok=>
  split at hr
  ·rename_i kt hbt;unfold pJ at hr⊢;split at hr
   ·rename_i hix
    (try simp only[hix])
    split at hr
    ·rename_i hkey
     (try simp only[hkey])
     cases ok
     ·cases hr
     ·simp only[awL]at hr⊢;split at hr
      ·rename_i hm;(try simp only[hm]);exact hr
      ·rename_i id hm
       (try simp only[hm])
       split at hr
       ·rename_i ho
        (try simp only[ho])
        split at hr
        ·rename_i ee;obtain⟨e1,e2⟩:=ee;subst e1;subst e2
         (try simp only[and_self,dite_true])
         unfold Sj at hr⊢;split at hr
         ·rename_i hl;(try simp only[hl]);exact hr
         ·injection hr with hr
          have:=congrArg (λr=>r.2.2) hr;simp at this
        ·cases hr
       ·cases hr
      ·cases hr
    ·cases hr
   ·cases hr
  ·exact hr
 case call c=>
  unfold rY at hr⊢;split at hr
  ·split at hr
   ·exact hr
   ·exact hr
   ·exact hr
   ·exact hr
   ·exact hr
   ·exact hr
   ·split at hr
    ·have:=MB hr;cases this
    ·split at hr
     ·generalize Im _ _=b at hr;cases b
      ·cases hr
      ·have:=MB hr;cases this
     ·cases hr
   ·cases hr
  ·cases hr
theorem Ir {α:Type} : ∀(us:List (List (Nat×α))) (k:Nat) (D:Nat->Bool) (l:List (Nat×α)),(∀j,D (k+j)=false)->wr us k D l=l:=by
 intro us
 induction us with
 |nil=>intro k D l _;rfl
 |cons u us ih=>
  intro k D l h;simp only[wr];have:=h 0;simp only[axE]at this;rw[this];exact ih (k+1) D l (λj=>by have:=h (j+1);rwa [show k+(j+1)=k+1+j by omega]at this)
theorem MC {α:Type} : ∀(us:List (List (Nat×α))) (k:Nat) (D:Nat->Bool) (l:List (Nat×α)),wr us (k+1) D l=wr us k (λj=>D (j+1)) l:=by
 intro us
 induction us with
 |nil=>intro k D l;rfl
 |cons u us ih=>intro k D l;simp only[wr];exact ih (k+1) D _
def We(ops:List Oper)(rs:List Rec):List (List (Nat×PV)):=(ops.zip rs).map λx=>vY x.1.dst x.2.pv
def Wh(rs:List Rec):List (List (Nat×PO)):=rs.map (·.u)
def stD(ops:List Oper)(rs:List Rec)(s:DS)(D:Nat->Bool):DS:= { s with env:=wr (We ops rs) 0 D s.env,hp:=wr (Wh rs) 0 D s.hp }
theorem adH {ops:List Oper}{rs:List Rec}{i:Nat}{o:Oper}{r:Rec}(ho:ops[i]?=some o)(hr:rs[i]?=some r):(We ops rs)[i]?=some (vY o.dst r.pv):=by have:(ops.zip rs)[i]?=some (o,r):=ayc.2 ⟨ho,hr⟩;simp[We,axk,this]
theorem adI {rs:List Rec}{i:Nat}{r:Rec}(hr:rs[i]?=some r):(Wh rs)[i]?=some r.u:=by simp[Wh,hr]
structure Fact(C:Cx)(all:List Oper)(s:DS)(o:Oper)(r:Rec):Prop where
 want:uW all o (look s.env)=some (!r.skip)
 tells:r.skip=false->FN C o s.val s.h r
 skips:r.skip=true->r.pv= .tup []/\r.u=[]/\r.n=0/\r.fp=([],[])
 dst: ∀d,o.dst=some d->d<s.n
theorem Run.len {C:Cx}{all rest:List Oper}{s:DS}{rs:List Rec}{s':DS}(h:Run C all rest s rs s'):rest.length=rs.length:=by
 induction h<;>simp_all
theorem Run.fact {C:Cx}{all rest:List Oper}{s:DS}{rs:List Rec}{s':DS}(h:Run C all rest s rs s'): ∀(i:Nat) (o:Oper) (r:Rec),rest[i]?=some o->rs[i]?=some r->Fact C all (stD rest rs s (λj=>decide (j<i))) o r:=by
 induction h with
 |nil s=>intro i o r h;simp at h
 | @step o rest s r rs s' hw hs hn ht hd hr ih=>
  intro i o' r' ho hr';cases i with
  |zero=>
   simp only[ax5,awr]at ho hr';subst ho;subst hr';have e:stD (o::rest) (r::rs) s (λj=>decide (j<0))=s:=by unfold stD;rw[Ir _ _ _ _ (λj=>by simp),Ir _ _ _ _ (λj=>by simp)]
   rw[e];exact⟨by rw[hw,hs];rfl,λ_=>ht,(λh=>by rw[hs]at h;cases h),hd⟩
  |succ i=>
   have:=ih i o' r' (by simpa using ho) (by simpa using hr');have e:stD (o::rest) (r::rs) s (λj=>decide (j<i+1))= { stD rest rs (s.behind o r) (λj=>decide (j<i))with nx:=s.nx } :=by unfold stD We Wh DS.behind;simp only[List.zip_cons_cons,axQ,wr,Nat.zero_lt_succ,aza,axV,MC,Nat.add_lt_add_iff_right]
   rw[e];exact⟨this.want,this.tells,this.skips,this.dst⟩
 | @skip o rest s r rs s' hw hs hn h0 hd hr ih=>
  intro i o' r' ho hr';cases i with
  |zero=>
   simp only[ax5,awr]at ho hr';subst ho;subst hr';have e:stD (o::rest) (r::rs) s (λj=>decide (j<0))=s:=by unfold stD;rw[Ir _ _ _ _ (λj=>by simp),Ir _ _ _ _ (λj=>by simp)]
   rw[e];exact⟨by rw[hw,hs];rfl,(λh=>by rw[hs]at h;cases h),λ_=>h0,hd⟩
  |succ i=>
   have:=ih i o' r' (by simpa using ho) (by simpa using hr');have e:stD (o::rest) (r::rs) s (λj=>decide (j<i+1))= { stD rest rs (s.behind o r) (λj=>decide (j<i))with nx:=s.nx } :=by unfold stD We Wh DS.behind;simp only[List.zip_cons_cons,axQ,wr,Nat.zero_lt_succ,aza,axV,MC,Nat.add_lt_add_iff_right]
   rw[e];exact⟨this.want,this.tells,this.skips,this.dst⟩
theorem Run.last {C:Cx}{all rest:List Oper}{s:DS}{rs:List Rec}{s':DS}(h:Run C all rest s rs s'): ∀(D:Nat->Bool),(∀j,j<rest.length->D j=true)->Alike { stD rest rs s D with nx:=s'.nx } s'/\s'.n=s.n:=by
 induction h with
 |nil s=>intro D _;exact⟨Alike.refl _,rfl⟩
 | @step o rest s r rs s' hw hs hn ht hd hr ih=>
  intro D hD;have:=ih (λj=>D (j+1)) (λj hj=>hD (j+1) (by simpa using hj));have e:({ stD (o::rest) (r::rs) s D with nx:=s'.nx } :DS)= { stD rest rs (s.behind o r) (λj=>D (j+1))with nx:=s'.nx } :=by unfold stD We Wh DS.behind;simp only[List.zip_cons_cons,axQ,wr,hD 0 (by simp),axV,MC]
  rw[e];exact this
 | @skip o rest s r rs s' hw hs hn h0 hd hr ih=>
  intro D hD;have:=ih (λj=>D (j+1)) (λj hj=>hD (j+1) (by simpa using hj));have e:({ stD (o::rest) (r::rs) s D with nx:=s'.nx } :DS)= { stD rest rs (s.behind o r) (λj=>D (j+1))with nx:=s'.nx } :=by unfold stD We Wh DS.behind;simp only[List.zip_cons_cons,axQ,wr,hD 0 (by simp),axV,MC]
  rw[e];exact this
theorem Run.nx {C:Cx}{all rest:List Oper}{s:DS}{rs:List Rec}{s':DS}(h:Run C all rest s rs s'):s.nx<=s'.nx/\(∀(i:Nat) r,rs[i]?=some r->s.nx<=r.nx/\r.nx+r.n<=s'.nx)/\
  ∀(i j:Nat) r q,i<j->rs[i]?=some r->rs[j]?=some q->r.nx+r.n<=q.nx:=by
 have main: ∀ {o:Oper} {rest:List Oper} {s:DS} {r:Rec} {rs:List Rec} {s':DS},r.nx=s.nx->Run C all rest (s.behind o r) rs s'->((s.behind o r).nx<=s'.nx/\(∀(i:Nat) q,rs[i]?=some q->(s.behind o r).nx<=q.nx/\q.nx+q.n<=s'.nx)/\ ∀(i j:Nat) q p,i<j->rs[i]?=some q->rs[j]?=some p->q.nx+q.n<=p.nx)->
   s.nx<=s'.nx/\(∀(i:Nat) q,(r::rs)[i]?=some q->s.nx<=q.nx/\q.nx+q.n<=s'.nx)/\ ∀(i j:Nat) q p,i<j->(r::rs)[i]?=some q->(r::rs)[j]?=some p->q.nx+q.n<=p.nx:=by
  intro o rest s r rs s' hn hr ⟨h1,h2,h3⟩;have e:(s.behind o r).nx=r.nx+r.n:=rfl;rw[e]at h1 h2;refine⟨by omega,λi q hq=>?_,λi j q p hij hq hp=>?_⟩
  ·cases i with
   |zero=>simp only[ax5,awr]at hq;subst hq;omega
   |succ i=>have:=h2 i q (by simpa using hq);omega
  ·cases j with
   |zero=>omega
   |succ j=>
    cases i with
    |zero=>simp only[ax5,awr]at hq;subst hq;have:=h2 j p (by simpa using hp);omega
    |succ i=>exact h3 i j q p (by omega) (by simpa using hq) (by simpa using hp)
 induction h with
 |nil s=>exact⟨ax2 _,λi r h=>by simp at h,λi j r q _ h=>by simp at h⟩
 |step hw hs hn ht hd hr ih=>exact main hn hr ih
 |skip hw hs hn h0 hd hr ih=>exact main hn hr ih
theorem FP {o:Oper}{i:Nat}(h:Io o i=true): ∃e∈o.after,Region.binds .any e=true/\e.on=i:=by unfold Io at h;obtain⟨e,he,h1⟩:=List.any_eq_true.1 h;simp only[awu]at h1;exact⟨e,by simpa using he,h1.1,ax0 h1.2⟩
theorem Qh {all:Array Oper}{listed:Array Bool}(hdc: ∀(j:Nat) o,all[j]?=some o->listed.getD j false=true-> ∀e∈o.after,Region.binds .any e=true->listed.getD e.on false=true):
  ∀(n:Nat) (o:Oper) (i:Nat),(∀e∈o.after,Region.binds .any e=true->listed.getD e.on false=true)->Me all n o i=true->listed.getD i false=true:=by
 intro n
 induction n with
 |zero=>
  intro o i ho h;obtain⟨e,he,hb,rfl⟩:=FP h;exact ho e he hb
 |succ n ih=>
  intro o i ho h;simp only[Me,axU]at h;rcases h with h|h
  ·obtain⟨e,he,hb,rfl⟩:=FP h;exact ho e he hb
  ·obtain⟨e,he,h1⟩:=List.any_eq_true.1 h;simp only[awu]at h1;obtain⟨hb,_,h2⟩:=h1;have he':e∈o.after:=by simpa using he
   split at h2
   ·rename_i p hp;exact ih p i (hdc e.on p hp (ho e he' hb)) h2
   ·cases h2
theorem a04 {all:Array Oper}{n:Nat}{o:Oper}{i:Nat}(h:Io o i=true):Me all n o i=true:=by
 cases n with
 |zero=>exact h
 |succ n=>simp only[Me,h,Bool.true_or]
theorem Yx {all:Array Oper}{o:Oper}{fp:Fp} : ∀ {l:List (Oper×Fp)} {i:Nat},RP all o fp i l=true-> ∀(j:Nat) x,l[j]?=some x->Me all 6 o (i+j)=true\/(Oper.apart all x.1 o=true/\clash x.2 fp=false):=by
 intro l
 induction l with
 |nil=>intro i _ j x h;simp at h
 |cons y l ih=>
  intro i h j x hx;simp only[RP,awu]at h;cases j with
  |zero=>
   simp only[ax5,awr]at hx;subst hx;have:=h.1;simp only[axU,awu,Bool.not_eq_true']at this;rcases this with h|h|h
   ·exact .inl (a04 h)
   ·exact .inr h
   ·exact .inl h
  |succ j=>
   have:=ih h.2 j x (by simpa using hx)
   rwa [show i+1+j=i+(j+1)by omega]at this
theorem a2s {all:Array Oper} : ∀ {l done:List (Oper×Fp)} {j:Nat},j=done.length->a3U all j done l=true-> ∀(k:Nat) x,l[k]?=some x->ZH x.1 (j+k)=true/\
  ∀(i:Nat) y,i<j+k->(done++l)[i]?=some y->Me all 6 x.1 i=true\/(Oper.apart all y.1 x.1=true/\clash y.2 x.2=false):=by
 intro l
 induction l with
 |nil=>intro done j _ _ k x h;simp at h
 |cons z l ih=>
  intro done j hj h k x hx;simp only[a3U,awu]at h;obtain⟨⟨⟨h1,h2⟩,h3⟩,h4⟩:=h;cases k with
  |zero=>
   simp only[ax5,awr]at hx;subst hx;refine⟨h1,λi y hi hy=>?_⟩;rw[awY (by omega)]at hy;have:=Yx h3 i y hy
   rwa [awR]at this
  |succ k=>
   obtain⟨h5,h6⟩:=ih (done:=done++[z]) (j:=j+1) (by simp[hj]) h4 k x (by simpa using hx);refine⟨by rwa [show j+1+k=j+(k+1)by omega]at h5,λi y hi hy=>h6 i y (by omega) (by simpa using hy)⟩
theorem aaI {o:Oper}{j:Nat}(h:ZH o j=true){e:Edge}(he:e∈o.after)(hb:Region.binds .any e=true):e.on<j:=by unfold ZH at h;have:=axB.1 h e (by simpa using he);simp only[hb,axc,az2]at this;exact FJ this
theorem KZ {a b:Fp}(h:clash a b=false):(∀i∈a.2,i∉ b.1/\i∉ b.2)/\(∀i∈a.1,i∉ b.2):=by
 unfold clash at h;simp only[Bool.or_eq_false_iff]at h;obtain⟨h1,h2⟩:=h;have beq: ∀ {i:Nat} {l:List Nat},l.any (Nat.beq i)=false->i∉ l:=by intro i l h hm;have:=List.any_eq_false.1 h i hm;simp at this
 refine⟨λi hi=>?_,λi hi=>?_⟩
 ·have:=List.any_eq_false.1 h1 i hi;simp only[axU,not_or,Bool.not_eq_true]at this;exact⟨beq this.1,beq this.2⟩
 ·have:=List.any_eq_false.1 h2 i hi;simp only[Bool.not_eq_true]at this;exact beq this
theorem OJ {C:Cx}(hcon: ∀f c,look C.con f=some c-> ∃P,aA P f c){o:Oper}{vl:Operand->PV}{h:Heap}{r:Rec}(ht:FN C o vl h r): ∀x∈r.u,x.1∈r.fp.2:=by
 intro x hx;unfold FN at ht;split at ht
 ·obtain⟨c,hc,hrun,hfp⟩:=ht;obtain⟨P,ok⟩:=hcon _ c hc;rw[hfp];rcases ok.upd _ _ _ _ hrun x hx with h|h
  ·exact awK _ h
  ·exact awE _ (List.mem_range'_1.2 h)
 ·rw[ht.2];exact a6s ht.1 x hx
theorem a4Y {C:Cx}(hcon: ∀f c,look C.con f=some c-> ∃P,aA P f c){o:Oper}{vl vl':Operand->PV}{h h':Heap}{r:Rec}(hv: ∀x∈o.op.operands,vl x=vl' x)(hh: ∀id∈r.fp.1,h id=h' id)(ht:FN C o vl h r):FN C o vl' h' r:=by
 unfold FN at ht⊢;rw[<-a2q hv];split at ht
 ·rename_i f args hco;obtain⟨c,hc,hrun,hfp⟩:=ht;obtain⟨P,ok⟩:=hcon _ c hc;rw[hfp]at hh;obtain⟨h1,h2⟩:=ok.loc args h h' r.nx _ hh hrun;exact⟨c,hc,h1,by rw[h2];exact hfp⟩
 ·obtain⟨h1,h2⟩:=ht;rw[h2]at hh;exact⟨by rw[<-a6p hv hh];exact h1,by rw[<-a6q hv];exact h2⟩
theorem FQ {dst:Option Tmp}{pv:PV}{x:Nat×PV}(h:x∈vY dst pv):dst=some x.1:=by
 cases dst with
 |none=>cases h
 |some d=>simp[vY]at h;subst h;rfl
theorem Rk {ops:Array Oper}{o:Oper}{t:Nat}(h:Operand.tmp t∈o.op.operands):t∈o.looksAt ops:=by unfold Oper.looksAt;refine awK _ (List.mem_filterMap.2 ⟨.tmp t,by simpa using h,rfl⟩)
theorem Wz {ops:List Oper}{o:Oper}{j:Nat}{want:Bool}{t:Nat}(hg:o.guard=some (j,want))(ht:uR ops j=some t):t∈o.looksAt ops.toArray:=by
 unfold Oper.looksAt;refine awE _ ?_;rw[hg];have h:((ops[j]?).bind (·.dst))=some t:=ht;cases hj:ops[j]? with
 |none=>rw[hj]at h;cases h
 |some o'=>rw[hj]at h;simp only[axh]at h;simp[hj,h]
theorem a6t {l:Array Bool}{i j:Nat}(hi:i<l.size):(l.setIfInBounds i true).getD j false=if j=i then true else l.getD j false:=by
 simp only[axJ,Array.getElem?_setIfInBounds];by_cases h:i=j
 ·subst h;simp[hi]
 ·rw[awG h,awG (Ne.symm h)]
theorem a6u {P:Program}{C:Cx}(hC:av P C){R:Type}{ops:Array Oper}{call:Ak R}{K:DS->Option R}{x:R}{s:DS}{B:Base}{ρ0:Rho}{a0:Act}{w0:World}{Q:Exit->Act->World->Prop}
  (h:Cn C true call ops.toList ops.toList [] s K=some x) (hr0:aJ B ρ0 s a0 w0) (hf0:kL ρ0 s.nx)
  (hQ: ∀s' ρ' a' w',K s'=some x->aJ B ρ' s' a' w'->kL ρ' s'.nx->s'.n=s.n->Later ρ0 w0 ρ' w'->Q .normal a' w'):wpAny P .any ops Q ops.size (Array.replicate ops.size false) a0 { w0 with drawn:=w0.drawn+1 } :=by
 have hcon: ∀f c,look C.con f=some c-> ∃P,aA P f c:=λf c h=>⟨P,hC.con f c h⟩
 obtain⟨rs,s',s2,hrun,hal,hdraw,hK⟩:=a6r ops.toList [] s hcon h;have hlen:=hrun.len;have hfact:=hrun.fact;obtain⟨hnx1,hnx2,hnx3⟩:=hrun.nx;have hall:=a2s (all:=ops.toList.toArray) (l:=ops.toList.zip (rs.map (·.fp))) (done:=[]) rfl (by simpa [KR]using hdraw);have pair: ∀(i j:Nat) (oi oj:Oper) (ri rj:Rec),i<j->ops.toList[i]?=some oi->ops.toList[j]?=some oj->rs[i]?=some ri->rs[j]?=some rj->
   Me ops 6 oj i=true\/(Oper.apart ops oi oj=true/\clash ri.fp rj.fp=false):=by
  intro i j oi oj ri rj hij h1 h2 h3 h4;obtain⟨_,h5⟩:=hall j (oj,rj.fp) (ayc.2 ⟨h2,by simp[h4]⟩);have:=h5 i (oi,ri.fp) (by omega) (by simpa using ayc.2 ⟨h1,by simp[h3]⟩);simpa using this
 have back: ∀(j:Nat) (oj:Oper),ops.toList[j]?=some oj->ZH oj j=true:=by
  intro j oj h1;obtain⟨rj,h2⟩: ∃r,rs[j]?=some r:=by have:=(awH.1 h1).1;exact⟨rs[j]'(by omega),awy (by omega)⟩
  have:=(hall j (oj,rj.fp) (ayc.2 ⟨h1,by simp[h2]⟩)).1;simpa using this
 have main: ∀(fuel:Nat) (listed:Array Bool) (ρ:Rho) (a:Act) (w:World),listed.size=ops.size->
   ((List.range ops.size).filter λi=>!listed.getD i false).length=fuel->
   aJ B ρ (stD ops.toList rs s (λi=>listed.getD i false)) a w->kL ρ s'.nx->
   (∀(i:Nat) r,rs[i]?=some r->listed.getD i false=false-> ∀id,r.nx<=id->id<r.nx+r.n->ρ id=none)->Later ρ0 w0 ρ w->
   (∀(j:Nat) o,ops.toList[j]?=some o->listed.getD j false=true-> ∀e∈o.after,Region.binds .any e=true->listed.getD e.on false=true)->
   wpAny P .any ops Q fuel listed a w:=by
  intro fuel
  induction fuel with
  |zero=>
   intro listed ρ a w hsz hcnt hr hf hfi hl hdc;have hfull: ∀j,j<ops.size->listed.getD j false=true:=by intro j hj;have:=aya.1 hcnt;rw[List.filter_eq_nil_iff]at this;simpa using this j (by simpa using hj)
   have hrdy:Region.ready .any ops listed=[]:=by rw[List.eq_nil_iff_forall_not_mem];intro j hj;obtain⟨h1,oj,h2,_⟩:=mem_ready.1 hj;have hjs:j<ops.size:=(ayl.1 h2).1;have:=hfull j hjs;rw[axJ]at h1 this;rw[axW (by omega)]at h1 this;simp at h1 this;rw[h1]at this;cases this
   obtain⟨h1,h2⟩:=hrun.last (λi=>listed.getD i false) (λj hj=>hfull j (by simpa using hj));exact⟨hrdy,hQ s2 ρ a w hK ((hr.nx s'.nx).alike (h1.trans hal)) (by rw[<-hal.nx];exact hf) (by rw[<-hal.n,h2]) hl⟩
  |succ fuel ih=>
   intro listed ρ a w hsz hcnt hr hf hfi hl hdc;refine⟨λhnil=>?_,λi hi=>?_⟩
   ·
    exfalso;have hne:((List.range ops.size).filter λi=>!listed.getD i false)≠ []:=by intro e;rw[e]at hcnt;cases hcnt
    obtain⟨m,hm⟩:=List.exists_mem_of_ne_nil _ hne;simp only[List.mem_filter,ayo,Bool.not_eq_true']at hm;have: ∀k,k<ops.size->listed.getD k false=false->False:=by
     intro k
     induction k using Nat.strongRecOn with
     |_ k ihk=>
      intro hk hkl;have:k∈Region.ready .any ops listed:=by
       refine mem_ready.2 ⟨?_,ops[k],axW hk,λe he hb=>?_⟩
       ·rw[axJ,axW (by omega)]at hkl⊢;simpa using hkl
       ·have hlt:=aaI (back k ops[k] (by simp[hk])) he hb;cases hle:listed.getD e.on false with
        |true=>rfl
        |false=>exact(ihk e.on hlt (by omega) hle).elim
      rw[hnil]at this;cases this
    exact this m hm.1 hm.2
   ·obtain⟨hil,o,ho,hpre⟩:=mem_ready.1 hi;have his:i<ops.size:=(ayl.1 ho).1;have hio:ops.toList[i]?=some o:=by simpa using ho
    obtain⟨r,hir⟩: ∃r,rs[i]?=some r:=⟨rs[i]'(by simp at hlen;omega),awy _⟩;have hDi:listed.getD i false=false:=by rw[axJ,axW (by omega)]at hil⊢;simpa using hil
    have fact:=hfact i o r hio hir;have hbefore: ∀(j:Nat) oj rj,ops.toList[j]?=some oj->rs[j]?=some rj->j<i->listed.getD j false=false->Oper.apart ops oj o=true/\clash rj.fp r.fp=false:=by
     intro j oj rj h1 h2 hji hjl;rcases pair j i oj o rj r hji h1 hio h2 hir with h|h
     ·have:=Qh (λj o hj hl=>hdc j o (by simpa using hj) hl) 6 o j hpre h;rw[hjl]at this;cases this
     ·exact h
    have hbehind: ∀(j:Nat) oj rj,ops.toList[j]?=some oj->rs[j]?=some rj->i<j->listed.getD j false=true->Oper.apart ops o oj=true/\clash r.fp rj.fp=false:=by
     intro j oj rj h1 h2 hij hjl;rcases pair i j o oj r rj hij hio h1 hir h2 with h|h
     ·have:=Qh (λj o hj hl=>hdc j o (by simpa using hj) hl) 6 oj i (hdc j oj h1 hjl) h;rw[hDi]at this;cases this
     ·exact h
    have both: ∀(us:List Oper) (j:Nat) (p:Oper×Rec),(ops.toList.zip rs)[j]?=some p->ops.toList[j]?=some p.1/\rs[j]?=some p.2:=λ_ j p hp=>ayc.1 hp
    have henv: ∀t,t∈o.looksAt ops->look (stD ops.toList rs s (λj=>decide (j<i))).env t=look (stD ops.toList rs s (λi=>listed.getD i false)).env t:=by
     intro t ht;refine SL _ 0 _ _ _ _ rfl (λj u hj hx=>?_);simp only[We,axk,axr]at hj;obtain⟨p,hp,rfl⟩:=hj;obtain⟨h1,h2⟩:=both [] j p hp;obtain⟨y,hy,hyt⟩:=hx;have hd:=FQ hy;rw[hyt]at hd;simp only[awR];by_cases hji:j<i
     ·simp only[hji,aza];cases hl':listed.getD j false with
      |true=>rfl
      |false=>exact absurd ht ((Oper.apart_spec (hbefore j _ _ h1 h2 hji hl').1).1 t hd)
     ·simp only[hji,decide_false];cases hl':listed.getD j false with
      |false=>rfl
      |true=>
       have hij:i<j:=by
        rcases ayC i j with h|h
        ·exact h
        ·have:j=i:=by omega
         subst this;rw[hDi]at hl';cases hl'
       exact absurd ht ((Oper.apart_spec (hbehind j _ _ h1 h2 hij hl').1).2.2 t hd)
    have hheap:r.skip=false-> ∀id∈r.fp.1,(stD ops.toList rs s (λj=>decide (j<i))).h id=(stD ops.toList rs s (λi=>listed.getD i false)).h id:=by
     intro hsk id hid;refine SL _ 0 _ _ _ _ rfl (λj u hj hx=>?_);simp only[Wh,axk,axr]at hj;obtain⟨rj,h2,rfl⟩:=hj;have hjs:j<ops.toList.length:=by have:=(awH.1 h2).1;omega
     have h1:ops.toList[j]?=some (ops.toList[j]):=awy hjs;obtain⟨y,hy,hyt⟩:=hx;have hmem:id∈rj.fp.2:=by
      have fj:=hfact j _ rj h1 h2;cases hsj:rj.skip
      ·have:=OJ hcon (fj.tells hsj) y hy;rwa [hyt]at this
      ·have:=(fj.skips hsj).2.1;rw[this]at hy;cases hy
     simp only[awR];by_cases hji:j<i
     ·simp only[hji,aza];cases hl':listed.getD j false with
      |true=>rfl
      |false=>exact absurd hid ((KZ (hbefore j _ _ h1 h2 hji hl').2).1 id hmem).1
     ·simp only[hji,decide_false];cases hl':listed.getD j false with
      |false=>rfl
      |true=>
       have hij:i<j:=by
        rcases ayC i j with h|h
        ·exact h
        ·have:j=i:=by omega
         subst this;rw[hDi]at hl';cases hl'
       exact absurd hmem ((KZ (hbehind j _ _ h1 h2 hij hl').2).2 id hid)
    have hwant:uW ops.toList o (look (stD ops.toList rs s (λi=>listed.getD i false)).env)=some (!r.skip):=by
     rw[<-fact.want];unfold uW;split
     ·rfl
     ·rename_i j want hg;split
      ·rfl
      ·rename_i t ht;rw[henv t (by simpa using Wz hg ht)]
    have hwanted:Region.wanted o (yielded ops a.tmps)= !r.skip:=by
     have hopsA:ops.toList.toArray=ops:=by simp
     unfold uW at hwant;split at hwant
     ·rename_i hg;simp only[awr]at hwant;rw[<-hwant];simp[Region.wanted,hg]
     ·rename_i j want hg;split at hwant
      ·cases hwant
      ·rename_i t ht;split at hwant
       ·rename_i b hb;simp only[awr]at hwant;rw[<-hwant,<-hopsA];exact Qf hg ht hr hb
       ·rename_i hb;simp only[awr]at hwant;rw[<-hwant,<-hopsA];exact Mt hg ht hr hb
       ·cases hwant
    have next: ∀(ρ':Rho) (a':Act) (w':World),aJ B ρ' { stD ops.toList rs s (λi=>listed.getD i false)with env:=vY o.dst r.pv++(stD ops.toList rs s (λi=>listed.getD i false)).env,hp:=r.u++(stD ops.toList rs s (λi=>listed.getD i false)).hp } a' w'->
      (∀id,id<r.nx\/r.nx+r.n<=id->ρ' id=ρ id)->Later ρ w ρ' w'->wpAny P .any ops Q fuel (listed.setIfInBounds i true) a' w':=by
     intro ρ' a' w' hr' hsame hl';have hset: ∀j,(listed.setIfInBounds i true).getD j false=if j=i then true else listed.getD j false:=λj=>a6t (by omega)
     refine ih _ ρ' a' w' (by simpa using hsz) ?_ (hr'.alike ⟨λt=>?_,λt=>?_,rfl,rfl⟩) (λid hid=>?_) (λj q hq hjl id h1 h2=>?_) (hl.trans hl') (λj oj hoj hjl e he hb=>?_)
     ·
      have hcount: ∀(l:List Nat),l.Nodup->i∈l->(l.filter λj=>!listed.getD j false).length=(l.filter λj=>!(listed.setIfInBounds i true).getD j false).length+1:=by
       intro l
       induction l with
       |nil=>intro _ h;cases h
       |cons y l ihl=>
        intro hnd hm;rw[ay0]at hnd;simp only[List.filter_cons,hset];rcases axL.1 hm with e|e
        ·subst e;simp only[hDi,axz,axV,axc,axi,ay4,axH]
         congr 2
         refine List.filter_congr λz hz=>?_
         rw[awG (show¬z=i from λe=>hnd.1 (by rw[<-e];exact hz))]
        ·have hne:y≠i:=λh=>hnd.1 (h▸e)
         have:=ihl hnd.2 e;simp only[hset]at this;rw[awG hne];cases hy:listed.getD y false
         ·simp only[axz,axV,axH];omega
         ·simp only[axc,axi,ay4];exact this
      have:=hcount (List.range ops.size) List.nodup_range (by simpa using his);omega
     ·symm;refine a6o _ 0 _ _ i _ _ (adH hio hir) (by simp[hset]) (by simpa using hDi) (λj hj=>?_) (λj v hij hj hd hx y hy=>?_)
      ·rw[hset,awG (by omega)]
      ·simp only[We,axk,axr]at hj;obtain⟨p,hp,rfl⟩:=hj;obtain⟨h1,h2⟩:=both [] j p hp;obtain⟨z,hz,hzt⟩:=hx;have e1:=FQ hz;have e2:=FQ hy;intro e;exact(Oper.apart_spec (hbehind j _ _ h1 h2 hij (by simpa using hd)).1).2.1 _ e1 (by rw[e2,e,hzt])
     ·symm;refine a6o _ 0 _ _ i _ _ (adI hir) (by simp[hset]) (by simpa using hDi) (λj hj=>?_) (λj v hij hj hd hx y hy=>?_)
      ·rw[hset,awG (by omega)]
      ·simp only[Wh,axk,axr]at hj;obtain⟨rj,h2,rfl⟩:=hj;have hjs:j<ops.toList.length:=by have:=(awH.1 h2).1;omega
       have h1:ops.toList[j]?=some (ops.toList[j]):=awy hjs;obtain⟨z,hz,hzt⟩:=hx;have hm1:t∈r.fp.2:=by
        cases hsk:r.skip
        ·have:=OJ hcon (fact.tells hsk) z hz;rwa [hzt]at this
        ·have:=(fact.skips hsk).2.1;rw[this]at hz;cases hz
       have hm2:y.1∈rj.fp.2:=by
        have fj:=hfact j _ rj h1 h2;cases hsj:rj.skip
        ·exact OJ hcon (fj.tells hsj) y hy
        ·have:=(fj.skips hsj).2.1;rw[this]at hy;cases hy
       intro e;rw[e]at hm2;exact((KZ (hbehind j _ _ h1 h2 hij (by simpa using hd)).2).1 t hm1).2 hm2
     ·rw[hsame id (.inr (by have:=(hnx2 i r hir).2;omega))];exact hf id hid
     ·rw[hset]at hjl;by_cases e:j=i
      ·rw[awQ e]at hjl;cases hjl
      ·rw[awG e]at hjl;rw[hsame id ?_]
       ·exact hfi j q hq hjl id h1 h2
       ·rcases Nat.lt_or_gt_of_ne e with hlt|hgt
        ·have:=hnx3 j i q r hlt hq hir;omega
        ·have:=hnx3 i j r q hgt hir hq;omega
     ·rw[hset]at hjl⊢;by_cases e1:e.on=i
      ·rw[awQ e1]
      ·rw[awG e1];by_cases e2:j=i
       ·subst e2;rw[hio]at hoj;cases hoj;exact hpre e he hb
       ·rw[awG e2]at hjl;exact hdc j oj hoj hjl e he hb
    unfold wpOp;simp only[ho];cases hsk:r.skip
    ·rw[awQ (by rw[hwanted,hsk];rfl)];left;have hval: ∀x∈o.op.operands,(stD ops.toList rs s (λj=>decide (j<i))).val x=(stD ops.toList rs s (λi=>listed.getD i false)).val x:=by
      intro x hx;cases x with
      |tmp t=>simp only[DS.val];rw[henv t (Rk hx)]
      |_=>rfl
     have tells:=a4Y hcon hval (hheap hsk) (fact.tells hsk);have putd: ∀ {ρ':Rho} {w':World} {v:Value},aJ B ρ' { stD ops.toList rs s (λi=>listed.getD i false)with hp:=r.u++(stD ops.toList rs s (λi=>listed.getD i false)).hp } a w'->VP ρ' w' r.pv v->
       aJ B ρ' { stD ops.toList rs s (λi=>listed.getD i false)with env:=vY o.dst r.pv++(stD ops.toList rs s (λi=>listed.getD i false)).env,hp:=r.u++(stD ops.toList rs s (λi=>listed.getD i false)).hp } (a.put o.dst v) w':=by
      intro ρ' w' v hr' hv;cases hd:o.dst with
      |none=>exact hr'.putNone v
      |some d=>exact hr'.put (fact.dst d hd) hv
     unfold FN at tells;split at tells
     ·rename_i f args hco;obtain⟨c,hc,hrn,hfp⟩:=tells;obtain⟨cl,fo,caps,h1,h2,h3,h4⟩:=Qe hco hr;refine((hC.con f c hc).sound B ρ _ a w r.nx args _ _ hr (λid h1 h2=>hfi i r hir hDi id h1 h2) h4 hrn).wp h1 h2 h3 (λv w' ⟨ρ',haf⟩=>?_);exact next ρ' _ w' (putd haf.rel haf.val) haf.same haf.later
     ·obtain⟨hev,hfp⟩:=tells;obtain⟨nx',hn1,hn2,hn3⟩: ∃nx',ρ nx'=none/\Fw C o (stD ops.toList rs s (λi=>listed.getD i false)).val (stD ops.toList rs s (λi=>listed.getD i false)).h nx' pk=some (r.pv,r.u,r.n)/\(0<r.n->nx'=r.nx):=by
       rcases axd r.n with e|e
       ·exact⟨s'.nx,hf _ (ax2 _),by rw[e]at hev⊢;exact aaH hev _,λh=>by omega⟩
       ·exact⟨r.nx,hfi i r hir hDi r.nx (ax2 _) (by omega),hev,λ_=>rfl⟩
      obtain⟨ρ',w',v,hg,haf⟩:=SI hC.ti hr nx' hn1 (λq g1 g2=>by have e:=hn3 (by omega);subst e;exact hfi i r hir hDi q g1 g2) hn2;refine hg.wp (next ρ' _ w' (putd haf.rel haf.val) (λid hid=>?_) haf.later);rcases axd r.n with e|e
      ·rw[haf.new e]
      ·exact haf.same id (by rw[hn3 e];omega)
    ·rw[awG (by rw[hwanted,hsk];decide)];obtain⟨e1,e2,e3,e4⟩:=fact.skips hsk;refine next ρ _ w ?_ (λid _=>rfl) (Later.refl _ _);rw[e1,e2];have hv:VP ρ w (.tup []) undef:=⟨[],rfl,trivial⟩;cases hd:o.dst with
     |none=>exact hr.putNone undef
     |some d=>exact hr.put (fact.dst d hd) hv
 refine main ops.size _ ρ0 a0 _ (by simp) ?_ ?_ (λid hid=>hf0 id (by omega)) (λi r hi _ id h1 _=>hf0 id (by have:=(hnx2 i r hi).1;omega)) ⟨ax2 _,λ_ _ h=>h,λ_ h=>.inl h,λ_ h=>.inl h,λ_ _ h _=>h,λ_ _ _=>rfl⟩ (λj o _ hj=>?_)
 ·rw[List.filter_eq_self.2]
  ·simp
  ·intro i hi;simp at hi;simp[hi]
 ·have e:stD ops.toList rs s (λi=>(Array.replicate ops.size false).getD i false)=s:=by
   unfold stD;have: ∀j,(Array.replicate ops.size false).getD (0+j) false=false:=by intro j;rw[axJ,Array.getElem?_replicate];split<;>rfl
   rw[Ir _ _ _ _ this,Ir _ _ _ _ this]
  rw[e];exact(hr0.same (w':=w0.drew) (ax2 _) (λ_ _=>rfl) rfl rfl rfl (λ_ _=>rfl)).1
 ·exfalso;rw[axJ,Array.getElem?_replicate]at hj;split at hj<;>cases hj
theorem Ar {P:Program}{C:Cx}(hC:av P C)(R:Type):Yw P C R:=
 λ_ _ _ _ _ _ _ _ _ _ _ _ h hr hf hQ=>wp_region_any hC.mixed (a6u hC h hr hf hQ)
end Go.Den
