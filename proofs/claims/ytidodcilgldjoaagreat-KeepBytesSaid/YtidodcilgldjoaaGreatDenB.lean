/-
 The plain reading of code: the operations hold.
-/
import Derived.Test.YtidodcilgldjoaaGreatDenA
import Derived.Laws.MakeOwn
import Derived.Laws.AppendOwn
import Derived.Lib.AppendStr
import Derived.Laws.BytesString
import Derived.Lib.ConvBytes
import Derived.Lib.UnsafeStr
import Derived.MapKept
set_option linter.unusedVariables false
set_option linter.unusedSimpArgs false
namespace Go.Den
section
variable {P:Program} {ti:List (Nat×TI)} (hti:xw P ti) {ρ:Rho} {w:World}
include hti
omit hti in
theorem a1M(op:BinOp)(T:TypeId)(ox oy:Operand)(k k':IntKind)(a b:Int):(eqGuard op T ox oy (.int k a) (.int k' b)).run P w= .ok () w:=by
 cases op<;>simp[eqGuard]
omit hti in
theorem a1N(op:BinOp)(T:TypeId)(ox oy:Operand)(a b:ByteArray):(eqGuard op T ox oy (.string a) (.string b)).run P w= .ok () w:=by
 cases op<;>simp[eqGuard]
omit hti in
theorem Zz(op:BinOp)(T:TypeId)(ox oy:Operand)(a b:Bool):(eqGuard op T ox oy (.bool a) (.bool b)).run P w= .ok () w:=by
 cases op<;>simp[eqGuard]
omit hti in
theorem TP(op:BinOp)(T:TypeId)(ox oy:Operand)(a b:Option Addr):(eqGuard op T ox oy (.pointer a) (.pointer b)).run P w= .ok () w:=by
 cases op<;>simp[eqGuard]
omit hti in
theorem VR.cast {X:V} {t:Ty} {v:Value}(e:X.1=t)(h:VR ρ w X v):VR ρ w ⟨t,e▸X.2⟩ v:=by
 subst e; exact h
omit hti in
theorem TQ(op:BinOp)(T:TypeId)(ox oy:Operand)(a b:Option Nat):(eqGuard op T ox oy (.map a) (.map b)).run P w= .ok () w:=by
 cases op<;>simp[eqGuard]
omit hti in
theorem NA {t:Ty} {x y:t.den} {r:Bool}(h:TM t x y=some r) {vx vy:Value}(hx:VR ρ w ⟨t,x⟩ vx)(hy:VR ρ w ⟨t,y⟩ vy):
  ∃p q,vx= .map p∧vy= .map q∧((p=none∧r=q.isNone)∨(q=none∧r=p.isNone)):=by
 cases t with
 |mp=>
  have form: ∀(z:Option Nat) (v:Value),VR ρ w ⟨.mp,z⟩ v→ ∃p,v= .map p∧p.isNone=z.isNone:=by
   intro z v ⟨cs,h1,h2⟩
   cases z with
   |none=>have:cs=[.map none]:=h1; subst this; exact⟨none,h2,rfl⟩
   |some id=>obtain⟨loc,_,_,rfl⟩:=h1; exact⟨some loc.blk,h2,rfl⟩
  obtain⟨p,rfl,hp⟩:=form x vx hx
  obtain⟨q,rfl,hq⟩:=form y vy hy
  refine⟨p,q,rfl,rfl,?_⟩
  cases x with
  |none=>
   cases p with
   |none=>exact .inl ⟨rfl,by cases y<;>simp_all [TM]⟩
   |some p=>cases hp
  |some id=>
   cases y with
   |none=>
    cases q with
    |none=>exact .inr ⟨rfl,by cases p<;>simp_all [TM]⟩
    |some q=>cases hq
   |some id'=>simp[TM]at h
 |_=>simp[TM]at h
theorem VX {op:BinOp} {T:TypeId} {ox oy:Operand} {x y:PV} {vx vy:Value} {pv:PV}(hx:VP ρ w x vx)(hy:VP ρ w y vy)
  (h:K6 ti op T x y some=some pv): ∃v,(do eqGuard op T ox oy vx vy; binOp op T vx vy:Sem Value).run P w= .ok v w∧VP ρ w pv v:=by
 unfold K6 at h
 split at h
 ·rename_i k a k' b
  have e1:=VR.int hx; have e2:=VR.int hy; subst e1; subst e2
  simp only[Sem.run_bind,a1M,Result.andThen_ok]
  split at h
  ·by_cases hb:b<0
   ·rw[decide_eq_true hb]at h; cases h
   ·rw[decide_eq_false hb]at h; simp only[cond_false,Option.some.injEq]at h; subst h
    exact⟨_,by simp only[binOp,Op.shift,if_neg hb]; rfl,VR.mkInt⟩
  ·by_cases hb:b<0
   ·rw[decide_eq_true hb]at h; cases h
   ·rw[decide_eq_false hb]at h; simp only[cond_false,Option.some.injEq]at h; subst h
    exact⟨_,by simp only[binOp,Op.shift,if_neg hb]; rfl,VR.mkInt⟩
  ·rename_i h1 h2
   split at h
   ·rename_i e; subst e
    obtain⟨v,h3,h4⟩:=Uy T h h1 h2
    exact⟨v,h3 w,h4 ρ w⟩
   ·cases h
 ·have e1:=VR.str hx; have e2:=VR.str hy; subst e1; subst e2
  simp only[Sem.run_bind,a1N,Result.andThen_ok]
  obtain⟨v,h3,h4⟩:=Uz T h
  exact⟨v,h3 w,h4 ρ w⟩
 ·have e1:=VR.bool hx; have e2:=VR.bool hy; subst e1; subst e2
  simp only[Sem.run_bind,Zz,Result.andThen_ok]
  cases hb:Q6 ti T
  ·rw[hb]at h; cases h
  ·rw[hb]at h; simp only[cond_true]at h
   have hu:P.underlying T=some .bool:=by
    unfold Q6 at hb
    split at hb
    ·rename_i i hi
     split at hb
     ·rename_i hd; rw[hti.under T i hi,hd]
     ·cases hb
    ·cases hb
   split at h
   ·simp only[Option.some.injEq]at h; subst h
    exact⟨_,by simp only[binOp,Op.equal,Op.maxDepth,Sem.run_bind,run_equalIn_bool' w 9999 T _ _ hu,Result.andThen_ok]; rfl,VR.mkBool⟩
   ·simp only[Option.some.injEq]at h; subst h
    exact⟨_,by simp only[binOp,Op.equal,Op.maxDepth,Sem.run_bind,run_equalIn_bool' w 9999 T _ _ hu,Result.andThen_ok]; rfl,VR.mkBool⟩
   ·cases h
 ·rename_i t a u b
  cases hb:Uv ti T
  ·rw[hb]at h; cases h
  ·rw[hb]at h; simp only[cond_true]at h
   obtain⟨e,hu⟩: ∃e,P.underlying T=some (.pointer e):=by
    unfold Uv at hb
    split at hb
    ·rename_i i hi
     split at hb
     ·rename_i e hd; exact⟨e,by rw[hti.under T i hi,hd]⟩
     ·cases hb
    ·cases hb
   have key: ∀r,a3w ⟨.ptr t,a⟩ ⟨.ptr u,b⟩=some r→ ∃p q,vx= .pointer p∧vy= .pointer q∧(Op.equalIn 10000 T vx vy).run P w= .ok r w:=by
    intro r hr
    have hfz: ∀ {t:Ty} {x:t.den} {v:Value},VP ρ w (.v ⟨.ptr t,.fz x⟩) v→ ∃p,v= .pointer (some p):=fun h=>let⟨b,o,c,h,_⟩:=VR.ptrFz h;⟨_,h⟩
    have hrf: ∀ {t:Ty} {i:Nat} {p:Path} {v:Value},VP ρ w (.v ⟨.ptr t,.rf i p⟩) v→ ∃p,v= .pointer (some p):=fun h=>let⟨loc,_,_,_,_,h⟩:=VR.ptrRf h;⟨_,h⟩
    cases a<;>cases b<;>simp only[a3w,Option.some.injEq,reduceCtorEq]at hr
    ·subst hr
     have e1:=VR.ptrNil hx; have e2:=VR.ptrNil hy; subst e1; subst e2
     exact⟨_,_,rfl,rfl,vk hu 9999 _ w⟩
    ·subst hr
     have e1:=VR.ptrNil hx; obtain⟨p,e2⟩:=hfz hy; subst e1; subst e2
     exact⟨_,_,rfl,rfl,vk hu 9999 _ w⟩
    ·subst hr
     have e1:=VR.ptrNil hx; obtain⟨p,e2⟩:=hrf hy; subst e1; subst e2
     exact⟨_,_,rfl,rfl,vk hu 9999 _ w⟩
    ·subst hr
     have e1:=VR.ptrNil hy; obtain⟨p,e2⟩:=hfz hx; subst e1; subst e2
     exact⟨_,_,rfl,rfl,Ca hu 9999 _ w⟩
    ·subst hr
     have e1:=VR.ptrNil hy; obtain⟨p,e2⟩:=hrf hx; subst e1; subst e2
     exact⟨_,_,rfl,rfl,Ca hu 9999 _ w⟩
   split at h
   ·rename_i r hr
    simp only[Option.some.injEq]at h; subst h
    obtain⟨p,q,e1,e2,e3⟩:=key r hr
    subst e1; subst e2
    simp only[Sem.run_bind,TP,Result.andThen_ok]
    exact⟨_,by simp only[binOp,Op.equal,Op.maxDepth,Sem.run_bind,e3,Result.andThen_ok]; rfl,VR.mkBool⟩
   ·rename_i r hr
    simp only[Option.some.injEq]at h; subst h
    obtain⟨p,q,e1,e2,e3⟩:=key r hr
    subst e1; subst e2
    simp only[Sem.run_bind,TP,Result.andThen_ok]
    exact⟨_,by simp only[binOp,Op.equal,Op.maxDepth,Sem.run_bind,e3,Result.andThen_ok]; rfl,VR.mkBool⟩
   ·cases h
 ·rename_i X Y _ _ _ _
  split at h
  ·rename_i i hi
   split at h
   ·rename_i e1
    split at h
    ·rename_i e2
     cases hc:i.ty.agg&&i.ty.flat
     ·rw[hc]at h
      simp only[cond_false]at h
      cases hm:Uu ti T
      ·rw[hm]at h; cases h
      ·rw[hm]at h; simp only[cond_true]at h
       have hu: ∃k e,P.underlying T=some (.map k e):=by
        unfold Uu at hm
        rw[hi]at hm
        simp only at hm
        split at hm
        ·rename_i k e hd; exact⟨k,e,by rw[hti.under T i hi,hd]⟩
        ·cases hm
       obtain⟨k,e,hu⟩:=hu
       have hx':=VR.cast e1 hx
       have hy':=VR.cast e2 hy
       generalize (e1▸X.2:i.ty.den)=x at*
       generalize (e2▸Y.2:i.ty.den)=y at*
       split at h
       ·rename_i r hr
        simp only[Option.some.injEq]at h; subst h
        obtain⟨p,q,rfl,rfl,h3⟩:=NA hr hx' hy'
        have e3:=Cb hu 9999 p q r h3 w
        simp only[Sem.run_bind,TQ,Result.andThen_ok]
        exact⟨_,by simp only[binOp,Op.equal,Op.maxDepth,Sem.run_bind,e3,Result.andThen_ok]; rfl,VR.mkBool⟩
       ·rename_i r hr
        simp only[Option.some.injEq]at h; subst h
        obtain⟨p,q,rfl,rfl,h3⟩:=NA hr hx' hy'
        have e3:=Cb hu 9999 p q r h3 w
        simp only[Sem.run_bind,TQ,Result.andThen_ok]
        exact⟨_,by simp only[binOp,Op.equal,Op.maxDepth,Sem.run_bind,e3,Result.andThen_ok]; rfl,VR.mkBool⟩
       ·cases h
     ·rw[hc]at h
      simp only[Bool.and_eq_true]at hc
      obtain⟨ha,hf⟩:=hc
      simp only[cond_true]at h
      have hx':=VR.cast e1 hx
      have hy':=VR.cast e2 hy
      generalize (e1▸X.2:i.ty.den)=x at*
      generalize (e2▸Y.2:i.ty.den)=y at*
      obtain⟨xs,hx1,rfl⟩:=hx'
      obtain⟨ys,hy1,rfl⟩:=hy'
      obtain⟨hg,_,_,hdep⟩:=hti.eq T i hi ha hf
      have heq:=a1L hti i.ty.dep i.ty T i 10000 (Nat.le_refl _) hi rfl hf hdep ρ w x y xs ys w hx1 hy1
      unfold mkV at heq⊢
      rw[ha]at heq⊢
      simp only[if_true]at heq⊢
      simp only[Sem.run_bind,run_eqGuard_agg w op T ox oy _ _ hg,Result.andThen_ok]
      split at h
      ·simp only[Option.some.injEq]at h; subst h
       exact⟨_,by rw[run_eql_struct,heq]; rfl,VR.mkBool⟩
      ·simp only[Option.some.injEq]at h; subst h
       exact⟨_,by rw[run_neq_struct,heq]; rfl,VR.mkBool⟩
      ·cases h
    ·cases h
   ·cases h
  ·cases h
 ·cases h
omit hti in
theorem ZA {op:UnOp} {x:PV} {vx:Value} {pv:PV}(hx:VP ρ w x vx)(h:Uw op x some=some pv): ∃v,(Op.unary op vx).run P w= .ok v w∧VP ρ w pv v:=by
 unfold Uw at h
 split at h
 ·have e:=VR.int hx; subst e
  simp only[Option.some.injEq]at h; subst h
  exact⟨_,rfl,VR.mkInt⟩
 ·have e:=VR.int hx; subst e
  simp only[Option.some.injEq]at h; subst h
  exact⟨_,rfl,VR.mkInt⟩
 ·have e:=VR.bool hx; subst e
  simp only[Option.some.injEq]at h; subst h
  exact⟨_,rfl,VR.mkBool⟩
 ·cases h
omit hti in
theorem VY {T:TypeId} {y:V} {pv:PV}(h:chk ti T y some=some pv):pv= .v y∧ ∃i,look ti T=some i∧i.ty.agg=y.1.agg∧i.ty.size=y.1.size:=by
 unfold chk at h
 split at h
 ·rename_i i hi
  cases hc:(i.ty.agg==y.1.agg)&&Nat.beq i.ty.size y.1.size
  ·rw[hc]at h; cases h
  ·rw[hc]at h
   simp only[cond_true,Option.some.injEq]at h
   simp only[Bool.and_eq_true,beq_iff_eq]at hc
   exact⟨h.symm,i,hi,hc.1,Nat.eq_of_beq_eq_true hc.2⟩
 ·cases h
omit hti in
theorem gQ(b o j:Nat):(⟨b,o,none⟩:Addr).add j=⟨b,o+j,none⟩:=by
 unfold Addr.add; split
 ·rename_i h; subst h; rfl
 ·rfl
theorem NC {T:TypeId} {i:TI}(hi:look ti T=some i) {t:Ty} {x:t.den} {c:List Value}(b o:Nat)(hr:Rd ρ w t x c)(ha:i.ty.agg=t.agg)(hs:i.ty.size=t.size)
  (hc: ∀(j:Nat) v,c[j]?=some v→w.cell? ⟨b,o+j,none⟩=some v):(loadVar T ⟨b,o,none⟩).run P w= .ok (mkV t c) w:=by
 unfold loadVar mkV
 simp only[Sem.run_bind,hti.agg T i w hi,Result.andThen_ok,ha]
 cases hag:t.agg
 ·obtain⟨v,rfl⟩:=hr.single hag
  have:=hc 0 v rfl
  rw[Nat.add_zero]at this
  simp[this]
 ·simp only[if_true,Sem.run_bind,hti.size T i w hi,Result.andThen_ok,hs]
  rw[←hr.length,run_loadCells_list w _ c (fun j v hj=>by rw[gQ]; exact hc j v hj)]
  rfl
omit hti in
theorem TR {ρ:Rho} {t:Ty} {x y:t.den} {cs:List Value}(h:Rd ρ w t x cs)(hs:spl t x some=some y):Rd ρ w t y cs:=by
 induction t generalizing cs with
 |pair a b iha ihb=>
  simp only[spl]at hs
  cases hf:a.flat&&b.flat
  ·rw[hf]at hs
   simp only[cond_false]at hs
   rw[Al]at hs
   cases h1:spl a x.1 some with
   |none=>rw[h1]at hs; cases hs
   |some y1=>
    rw[h1]at hs
    simp only[Option.bind_some]at hs
    rw[Al]at hs
    cases h2:spl b x.2 some with
    |none=>rw[h2]at hs; cases hs
    |some y2=>rw[h2]at hs; cases hs; exact⟨iha h.1 h1,ihb h.2 h2⟩
  ·rw[hf]at hs; cases hs; exact h
 |sl t=>
  cases x with
  |nil=>
   cases hs
   simp only[Rd]at h
   exact⟨none,0,h,Nat.le_refl _,fun i hi=>by cases hi⟩
  |fz n f=>cases hs; exact h
  |ms id p lo len=>cases hs
 |ptr t=>
  cases x with
  |nil=>cases hs; exact h
  |fz z=>cases hs; exact h
  |rf id p=>cases hs
 |mp=>
  cases x with
  |none=>cases hs; exact h
  |some id=>cases hs
 |_=>cases hs; exact h
omit hti in
theorem PO.ne_dead {o:PO} {p:Path} {y:V}(h:o.get p=some y):o≠ .dead:=by
 intro e; subst e; cases h
theorem Ke {T:TypeId} {a:PV} {va:Value} {s:DS} {B:Base} {A:Act} {pv:PV}(hr:aP B ρ s A w)(hx:VP ρ w a va)(h:qY ti T a s.h some=some pv):
  ∃v,(Instr.loadAt T va).run P w= .ok v w∧VP ρ w pv v:=by
 unfold qY at h
 split at h
 ·rename_i id p
  split at h
  ·rename_i o ho
   split at h
   ·rename_i y0 hy
    obtain⟨y,ety,hchk,hsub⟩: ∃y:V,y.1=y0.1∧chk ti T y some=some pv∧ ∀cs,Rd (ρ.at o.shutRow) w y0.1 y0.2 cs→Rd ρ w y.1 y.2 cs:=by
     cases hsr:o.shutRow
     ·rw[hsr]at h
      exact⟨y0,rfl,h,fun cs hc=>hc⟩
     ·rw[hsr]at h
      simp only[cond_true]at h
      rw[Al]at h
      cases hsp:spl y0.1 y0.2 some with
      |none=>rw[hsp]at h; cases h
      |some z=>
       rw[hsp]at h
       exact⟨⟨y0.1,z⟩,rfl,h,fun cs hc=>Rd.openAt (sh:=true) (TR hc hsp)⟩
    obtain⟨rfl,i,hi,ha,hs⟩:=VY hchk
    obtain⟨loc,hloc,hok,_,_,rfl⟩:=VR.ptrRf hx
    have hor:=hr.live ho (PO.ne_dead hy) hloc
    have: ∃(cs sp:List Value) (T':TypeId),Rd ρ w y.1 y.2 ((cs.drop (loc.ty.off p)).take y.1.size)∧lq w loc.blk (cs++sp) T'∧loc.ty.off p+y.1.size≤cs.length:=by
     cases o with
     |obj t x=>
      obtain⟨e,_,cs,T',h1,h2,_⟩:=hor
      rw[e]at hok⊢
      exact⟨cs,[],T',by rw[show y.1.size=y0.1.size by rw[ety]]; exact hsub _ (h1.get hok hy),lq.of (by simpa using h2),by rw[h1.length,ety]; exact Ty.off_le hok (Ty.at_of_get hy)⟩
     |row sh T' t n f=>
      obtain⟨e,_,cs,sp,h1,h2,_⟩:=hor
      rw[e]at hok⊢
      exact⟨cs,sp,T',by rw[show y.1.size=y0.1.size by rw[ety]]; exact hsub _ (h1.get hok hy),h2.weak,by rw[h1.length,ety]; exact Ty.off_le hok (Ty.at_of_get hy)⟩
     |mp k v l=>cases hy
     |dead=>cases hy
    obtain⟨cs,sp,T',h1,h2,h3⟩:=this
    refine⟨_,?_,⟨_,h1,rfl⟩⟩
    simp only[Instr.loadAt,Instr.sureAddr,Sem.run_bind,Sem.run_pure,Result.andThen_ok]
    refine NC hti hi _ _ h1 ha hs (fun j v hj=>?_)
    rw[h2.cell]
    have hj':j<y.1.size:=by
     have:=(List.getElem?_eq_some_iff.1 hj).1
     rw[h1.length]at this; exact this
    rw[List.getElem?_take_of_lt hj',List.getElem?_drop]at hj
    rw[List.getElem?_append_left (by omega)]; exact hj
   ·cases h
  ·cases h
 ·rename_i t x
  rw[Al]at h
  cases hsp:spl t x some with
  |none=>rw[hsp]at h; cases h
  |some y=>
  rw[hsp]at h
  simp only[Option.bind_some]at h
  obtain⟨rfl,i,hi,ha,hs⟩:=VY h
  obtain⟨b,o,c,rfl,h1,h2⟩:=VR.ptrFz hx
  have h1:=TR h1 hsp
  refine⟨_,?_,⟨_,h1.openIn,rfl⟩⟩
  simp only[Instr.loadAt,Instr.sureAddr,Sem.run_bind,Sem.run_pure,Result.andThen_ok]
  exact NC hti hi _ _ h1 ha hs h2.2.2
 ·cases h
omit hti in
theorem OL {x:PV} {vx:Value} {j:Nat} {pv:PV}(hx:VP ρ w x vx)(h:pV x j some=some pv): ∃v,(Instr.extract vx j).run P w= .ok v w∧VP ρ w pv v:=by
 unfold pV at h
 split at h
 ·rename_i l
  split at h
  ·rename_i y hy
   simp only[Option.some.injEq]at h; subst h
   obtain⟨vs,rfl,hvs⟩:=hx
   have: ∀(l:List V) (vs:List Value) (j:Nat),VRs ρ w l vs→l[j]?=some y→ ∃v,vs[j]?=some v∧VR ρ w y v:=by
    intro l
    induction l with
    |nil=>intro vs j _ h; simp at h
    |cons x l ih=>
     intro vs j hv hj
     cases vs with
     |nil=>exact hv.elim
     |cons v vs=>
      cases j with
      |zero=>simp only[List.getElem?_cons_zero,Option.some.injEq]at hj; subst hj; exact⟨v,rfl,hv.1⟩
      |succ j=>exact ih vs j hv.2 (by simpa using hj)
   obtain⟨v,h1,h2⟩:=this l vs j hvs hy
   exact⟨v,by simp[Instr.extract,h1],h2⟩
  ·cases h
 ·cases h
end
end Go.Den
namespace Go.Den
section
variable {P:Program} {ti:List (Nat×TI)} (hti:xw P ti) {ρ:Rho} {w:World}
theorem C9.at: ∀ {fs:List Field} {t:Ty} {o:Nat},C9 ti t o fs→ ∀(j:Nat) (f:Field),fs[j]?=some f→
  ∃i,look ti f.type=some i∧t.at (qg fs.length j)=some i.ty∧f.offset=o+t.off (qg fs.length j)∧0<i.ty.size∧t.okP (qg fs.length j):=by
 intro fs
 induction fs with
 |nil=>intro t o _ j f h; simp at h
 |cons g l ih=>
  intro t o h j f hf
  cases l with
  |nil=>
   have h':g.offset=o∧g.name≠ "_" ∧ ∃i,look ti g.type=some i∧i.ty=t∧0<t.size:=by cases t<;>exact h
   obtain⟨h1,h2,i,h3,h4,h5⟩:=h'
   cases j with
   |zero=>
    simp only[List.getElem?_cons_zero,Option.some.injEq]at hf; subst hf; subst h4
    exact⟨i,h3,by simp[qg,Ty.at],by simp[qg,Ty.off,h1],h5,by simp[qg,Ty.okP]⟩
   |succ j=>simp at hf
  |cons g2 l=>
   cases t with
   |pair a b=>
    simp only[C9]at h
    obtain⟨h1,h2,⟨i,h3,h4,h5⟩,h6⟩:=h
    cases j with
    |zero=>
     simp only[List.getElem?_cons_zero,Option.some.injEq]at hf; subst hf; subst h4
     exact⟨i,h3,by simp[qg,Ty.at],by simp[qg,Ty.off,h1],h5,by simp[qg,Ty.okP]⟩
    |succ j=>
     obtain⟨i',h7,h8,h9,h10,h11⟩:=ih h6 j f (by simpa using hf)
     exact⟨i',h7,by simpa [qg,Ty.at]using h8,by simp only[List.length_cons,qg,Ty.off]at h9⊢; omega,h10,by simpa [qg,Ty.okP]using h11⟩
   |_=>simp only[C9]at h
include hti in
theorem sP {T:TypeId} {i:TI} {fs:Array Field}(hi:look ti T=some i)(hd:i.desc= .struct fs) {j:Nat} {f:Field}(hf:fs[j]?=some f):
  ∃i',look ti f.type=some i'∧i.ty.at (qg fs.size j)=some i'.ty∧f.offset=i.ty.off (qg fs.size j)∧0<i'.ty.size∧i.ty.okP (qg fs.size j)∧i.ty.agg=true:=by
 have hs:=hti.shape T i hi
 unfold ow at hs
 rw[hd]at hs
 obtain⟨hag,hc⟩:=hs
 obtain⟨i',h1,h2,h3,h4,h5⟩:=hc.at j f (by simpa using hf)
 exact⟨i',h1,by simpa using h2,by simpa using h3,h4,by simpa using h5,hag⟩
theorem F7 {a b:Nat}(h:Nat.blt a b=true):a<b:=Nat.le_of_ble_eq_true h
theorem Ty.at_append: ∀ {p:Path} {t:Ty} {q:Path} {u:Ty},t.at p=some u→t.at (p++q)=u.at q:=by
 intro p
 induction p with
 |nil=>intro t q u h; rw[Ty.at_nil]at h; cases h; rfl
 |cons s p ih=>intro t q u h; cases t<;>cases s<;>first|exact ih h|(simp[Ty.at]at h; done)
theorem Ty.off_append: ∀ {p:Path} {t:Ty} {q:Path} {u:Ty},t.at p=some u→t.off (p++q)=t.off p+u.off q:=by
 intro p
 induction p with
 |nil=>intro t q u h; rw[Ty.at_nil]at h; cases h; rw[Ty.off_nil]; simp
 |cons s p ih=>
  intro t q u h
  cases t<;>cases s<;>first
   |(simp[Ty.at]at h; done)
   |exact ih h
   |(have:=ih (q:=q) (u:=u) h; simp only[List.cons_append,Ty.off]; omega)
theorem Ty.okP_append: ∀ {p:Path} {t:Ty} {q:Path} {u:Ty},t.okP p→t.at p=some u→u.okP q→t.okP (p++q):=by
 intro p
 induction p with
 |nil=>intro t q u h hu hq; rw[Ty.at_nil]at hu; cases hu; exact hq
 |cons s p ih=>
  intro t q u h hu hq
  cases t<;>cases s<;>first
   |exact h.elim
   |exact ih h hu hq
   |exact⟨h.1,ih h.2 hu hq⟩
include hti in
theorem SE {T:TypeId} {x:PV} {vx:Value} {j:Nat} {pv:PV}(hx:VP ρ w x vx)(h:yt ti T x j some=some pv): ∃v,(Instr.field T vx j).run P w= .ok v w∧VP ρ w pv v:=by
 unfold yt at h
 split at h
 ·rename_i i X hi
  split at h
  ·rename_i fs hd
   cases hb:Nat.blt j fs.size
   ·rw[hb]at h; cases h
   ·rw[hb]at h; simp only[cond_true]at h
    split at h
    ·rename_i e
     split at h
     ·rename_i y hy
      simp only[Option.some.injEq]at h; subst h
      obtain⟨f,hf⟩: ∃f,fs[j]?=some f:=⟨fs[j]'(F7 hb),Array.getElem?_eq_getElem (F7 hb)⟩
      obtain⟨i',h1,h2,h3,h4,h5,h6⟩:=sP hti hi hd hf
      obtain⟨dd,ty⟩:=i
      obtain⟨tx,x⟩:=X
      change tx=ty at e
      subst e
      have hu:=hti.under T _ hi
      simp only at hd h2 h3 h5 h6 hy hu
      obtain⟨cs,hc,rfl⟩:=hx
      have e2:y.1=i'.ty:=by have:=Ty.at_of_get hy; rw[h2]at this; exact(Option.some.inj this).symm
      obtain⟨ty',y⟩:=y
      change ty'=i'.ty at e2
      subst e2
      have hg:=hc.get h5 hy
      refine⟨_,?_,⟨_,hg,rfl⟩⟩
      unfold Instr.field mkV
      simp only[h6,if_true,Sem.run_bind,run_underlying (hu.trans (by rw[hd])),Result.andThen_ok,hf,asAgg,Sem.run_pure]
      rw[h3]
      exact wz hti h1 _ _ w rfl hg
     ·cases h
    ·cases h
  ·cases h
 ·cases h
include hti in
theorem F8 {f:Field} {i':TI}(hi:look ti f.type=some i')(hs:0<i'.ty.size)(b o:Nat):(fieldPlace ⟨b,o,none⟩ f).run P w= .ok ⟨b,o+f.offset,none⟩ w:=by
 unfold fieldPlace
 simp only[Sem.run_bind,hti.size _ _ w hi,Result.andThen_ok,if_neg (show¬i'.ty.size=0 by omega),Sem.run_pure,gQ]
theorem Fz.sub {b o k n:Nat} {c:List Value}(h:Fz ρ w b o c):Fz ρ w b (o+k) ((c.drop k).take n):=by
 refine⟨h.1,h.2.1,fun j v hj=>?_⟩
 have hj':j<n:=by
  have:=(List.getElem?_eq_some_iff.1 hj).1
  simp only[List.length_take]at this; omega
 rw[List.getElem?_take_of_lt hj',List.getElem?_drop]at hj
 have:=h.2.2 (k+j) v hj
 rw[Nat.add_assoc]; exact this
include hti in
theorem Kg {T:TypeId} {x:PV} {vx:Value} {j:Nat} {pv:PV}(hx:VP ρ w x vx)(h:jS ti T x j some=some pv): ∃v,(Instr.fieldAt T vx j).run P w= .ok v w∧VP ρ w pv v:=by
 unfold jS at h
 split at h
 ·rename_i i hi
  split at h
  ·rename_i fs hd
   cases hb:Nat.blt j fs.size
   ·rw[hb]at h; cases h
   ·rw[hb]at h; simp only[cond_true]at h
    obtain⟨f,hf⟩: ∃f,fs[j]?=some f:=⟨fs[j]'(F7 hb),Array.getElem?_eq_getElem (F7 hb)⟩
    obtain⟨i',h1,h2,h3,h4,h5,h6⟩:=sP hti hi hd hf
    have hu:=hti.under T i hi
    rw[hd]at hu
    split at h
    ·rename_i t id p
     split at h
     ·rename_i e; subst e
      rw[h2]at h
      simp only[Option.some.injEq]at h; subst h
      obtain⟨loc,hloc,hok,hat,hcap,rfl⟩:=VR.ptrRf hx
      refine⟨_,?_,VR.mkRf ⟨loc,hloc,Ty.okP_append hok hat h5,(Ty.at_append hat).trans h2,hcap.imp (fun h=>h) (fun h e=>h (List.append_eq_nil_iff.1 e).1),rfl⟩⟩
      simp only[Instr.fieldAt,Sem.run_bind,run_underlying hu,Result.andThen_ok,hf,Instr.sureAddr,Sem.run_pure,F8 hti h1 h4]
      rw[Ty.off_append hat,h3]
     ·cases h
    ·rename_i t y
     split at h
     ·rename_i e; subst e
      split at h
      ·rename_i z hz
       simp only[Option.some.injEq]at h; subst h
       obtain⟨b,o,c,rfl,h7,h8⟩:=VR.ptrFz hx
       have hg:=h7.get h5 hz
       have e2:z.1=i'.ty:=by have:=Ty.at_of_get hz; rw[h2]at this; exact(Option.some.inj this).symm
       refine⟨_,?_,VR.mkFz hg (h8.sub (k:=i.ty.off (qg fs.size j)))⟩
       simp only[Instr.fieldAt,Sem.run_bind,run_underlying hu,Result.andThen_ok,hf,Instr.sureAddr,Sem.run_pure,F8 hti h1 h4,h3]
      ·cases h
     ·cases h
    ·cases h
  ·cases h
 ·cases h
theorem zl {i:Int} {n:Nat}(h:inb i n=true):0≤i∧i<(n:Int)∧i.toNat<n:=by
 simp only[inb,Bool.and_eq_true,decide_eq_true_eq]at h
 omega
include hti in
theorem array_elem {T:TypeId} {i:TI} {n:Nat} {e:TypeId}(hi:look ti T=some i)(hd:i.desc= .array n e): ∃i',look ti e=some i'∧i.ty= .arr n i'.ty∧0<i'.ty.size:=by
 have hs:=hti.shape T i hi
 unfold ow at hs
 rw[hd]at hs
 obtain⟨i',h1,h2,h3,_⟩:=hs
 exact⟨i',h1,h2,h3⟩
include hti in
theorem oK {T:TypeId} {i:TI} {e:TypeId}(hi:look ti T=some i)(hd:i.desc= .slice e): ∃i',look ti e=some i'∧i.ty= .sl i'.ty∧0<i'.ty.size:=by
 have hs:=hti.shape T i hi
 unfold ow at hs
 rw[hd]at hs
 exact hs
theorem VR.slMs {t:Ty} {id:Nat} {p:Path} {lo len:Nat} {v:Value}(h:VR ρ w ⟨.sl t,.ms id p lo len⟩ v):(len=0∧v= .slice none 0 0)∨ ∃loc m cap o,ρ id=some loc∧loc.ty.okP p∧loc.ty.at p=some (.arr m t)∧lo+len≤m∧
  v= .slice (some ⟨loc.blk,o,none⟩) len cap∧(0<len→o=loc.ty.off p+lo*t.size)∧len≤cap∧(∀c,loc.cap=some c→p=[]→lo=0→cap=c∧o=0):=by
 obtain⟨cs,h1,rfl⟩:=h
 rcases h1 with⟨h1,rfl⟩|⟨loc,m,cap,o,h1,h2,h3,h4,rfl,h5⟩
 ·exact .inl ⟨h1,rfl⟩
 ·exact .inr ⟨loc,m,cap,o,h1,h2,h3,h4,rfl,h5⟩
theorem VR.slFz {t:Ty} {n:Nat} {f:Nat→t.den} {v:Value}(h:VR ρ w ⟨.sl t,.fz n f⟩ v): ∃a cap,v= .slice a n cap∧n≤cap∧ ∀i,i<n→ ∃b o c,a=some ⟨b,o,none⟩∧Rd ρ.shut w t (f i) c∧Fz ρ w b (o+i*t.size) c:=by
 obtain⟨cs,h1,rfl⟩:=h
 obtain⟨a,cap,rfl,h2⟩:=h1
 exact⟨a,cap,rfl,h2⟩
theorem VR.slNil {t:Ty} {v:Value}(h:VR ρ w ⟨.sl t,.nil⟩ v):v= .slice none 0 0:=by
 obtain⟨cs,h1,rfl⟩:=h
 simp only[Rd]at h1; subst h1; rfl
include hti in
theorem Kh {T:TypeId} {x ix:PV} {vx vi:Value} {pv:PV}(hx:VP ρ w x vx)(hix:VP ρ w ix vi)(h:jT ti T x ix some=some pv):
  ∃v,(Instr.indexAt T vx vi).run P w= .ok v w∧VP ρ w pv v:=by
 unfold jT at h
 split at h
 ·rename_i i k n hi
  have e:=VR.int hix; subst e
  have hu:=hti.under T i hi
  split at h
  ·rename_i len e m t hd hty
   rw[hd]at hu
   obtain⟨i',h1,h2,h3⟩:=array_elem hti hi hd
   have:m=len∧t=i'.ty:=by rw[hty]at h2; cases h2; exact⟨rfl,rfl⟩
   obtain⟨rfl,rfl⟩:=this
   split at h
   ·rename_i u id p
    split at h
    ·rename_i e; subst e
     cases hb:inb n m
     ·rw[hb]at h; cases h
     ·rw[hb]at h; simp only[cond_true,Option.some.injEq]at h; subst h
      obtain⟨hn0,hn1,hn2⟩:=zl hb
      obtain⟨loc,hloc,hok,hat,hcap,rfl⟩:=VR.ptrRf hx
      rw[hty]at hat
      refine⟨_,?_,VR.mkRf ⟨loc,hloc,Ty.okP_append hok hat ⟨hn2,by simp[Ty.okP]⟩,by rw[Ty.at_append hat]; simp[Ty.at],.inr (by simp),rfl⟩⟩
      simp only[Instr.indexAt,asIntOf,Sem.run_bind,Sem.run_pure,run_underlying hu,Result.andThen_ok,Instr.sureAddr,if_pos (show 0≤n∧n<(m:Int)from⟨hn0,hn1⟩),hti.size e i' w h1,gQ]
      rw[Ty.off_append hat]
      simp[Ty.off,Nat.add_assoc]
    ·cases h
   ·rename_i m' u f
    split at h
    ·rename_i e2
     obtain⟨rfl,rfl⟩:=e2
     cases hb:inb n m'
     ·rw[hb]at h; cases h
     ·rw[hb]at h; simp only[cond_true,Option.some.injEq]at h; subst h
      obtain⟨hn0,hn1,hn2⟩:=zl hb
      obtain⟨b,o,c,rfl,h7,h8⟩:=VR.ptrFz hx
      refine⟨_,?_,VR.mkFz (h7.2 n.toNat hn2) (h8.sub (k:=n.toNat*i'.ty.size))⟩
      simp only[Instr.indexAt,asIntOf,Sem.run_bind,Sem.run_pure,run_underlying hu,Result.andThen_ok,Instr.sureAddr,if_pos (show 0≤n∧n<(m':Int)from⟨hn0,hn1⟩),hti.size e i' w h1,gQ]
    ·cases h
   ·cases h
  ·rename_i e t hd hty
   rw[hd]at hu
   obtain⟨i',h1,h2,h3⟩:=oK hti hi hd
   have:t=i'.ty:=by rw[hty]at h2; cases h2; rfl
   subst this
   split at h
   ·rename_i u id p lo len
    split at h
    ·rename_i e2; subst e2
     cases hb:inb n len
     ·rw[hb]at h; cases h
     ·rw[hb]at h; simp only[cond_true,Option.some.injEq]at h; subst h
      obtain⟨hn0,hn1,hn2⟩:=zl hb
      obtain⟨h0,_⟩|⟨loc,m,cap,o,hloc,hok,hat,hle,rfl,ho,_⟩:=VR.slMs hx
      ·omega
      have ho:=ho (by omega)
      subst ho
      refine⟨_,?_,VR.mkRf ⟨loc,hloc,Ty.okP_append hok hat ⟨by omega,by simp[Ty.okP]⟩,by rw[Ty.at_append hat]; simp[Ty.at],.inr (by simp),rfl⟩⟩
      simp only[Instr.indexAt,asIntOf,Sem.run_bind,Sem.run_pure,run_underlying hu,Result.andThen_ok,Instr.sureAddr,if_pos (show 0≤n∧n<(len:Int)from⟨hn0,hn1⟩),hti.size e i' w h1,gQ]
      rw[Ty.off_append hat]
      simp[Ty.off,Nat.add_assoc,Nat.add_mul]
    ·cases h
   ·rename_i u len f
    split at h
    ·rename_i e2; subst e2
     cases hb:inb n len
     ·rw[hb]at h; cases h
     ·rw[hb]at h; simp only[cond_true,Option.some.injEq]at h; subst h
      obtain⟨hn0,hn1,hn2⟩:=zl hb
      obtain⟨a,cap,rfl,_,hall⟩:=VR.slFz hx
      obtain⟨b,o,c,rfl,h7,h8⟩:=hall n.toNat hn2
      refine⟨_,?_,VR.mkFz h7 h8⟩
      simp only[Instr.indexAt,asIntOf,Sem.run_bind,Sem.run_pure,run_underlying hu,Result.andThen_ok,Instr.sureAddr,if_pos (show 0≤n∧n<(len:Int)from⟨hn0,hn1⟩),hti.size e i' w h1,gQ]
    ·cases h
   ·cases h
  ·cases h
 ·cases h
include hti in
theorem SF {T:TypeId} {x ix:PV} {vx vi:Value} {pv:PV}(hx:VP ρ w x vx)(hix:VP ρ w ix vi)(h:yu ti T x ix some=some pv):
  ∃v,(Instr.index T vx vi).run P w= .ok v w∧VP ρ w pv v:=by
 unfold yu at h
 split at h
 ·rename_i i k n hi
  have e:=VR.int hix; subst e
  have hu:=hti.under T i hi
  split at h
  ·rename_i len e m t f hd
   rw[hd]at hu
   obtain⟨i',h1,h2,h3⟩:=array_elem hti hi hd
   split at h
   ·rename_i e2
    obtain⟨e3,rfl⟩:=e2
    have:t=i'.ty:=by rw[h2]at e3; cases e3; rfl
    subst this
    cases hb:inb n m
    ·rw[hb]at h; cases h
    ·rw[hb]at h; simp only[cond_true,Option.some.injEq]at h; subst h
     obtain⟨hn0,hn1,hn2⟩:=zl hb
     obtain⟨cs,hc,rfl⟩:=hx
     have hg:=hc.2 n.toNat hn2
     refine⟨_,?_,⟨_,hg,rfl⟩⟩
     simp only[Instr.index,mkV,Ty.agg,if_true,asIntOf,Sem.run_bind,Sem.run_pure,run_underlying hu,Result.andThen_ok,if_pos (show 0≤n∧n<(m:Int)from⟨hn0,hn1⟩),hti.size e i' w h1]
     exact wz hti h1 _ _ w rfl hg
   ·cases h
  ·rename_i s hd
   rw[hd]at hu
   cases hb:inb n s.size
   ·rw[hb]at h; cases h
   ·rw[hb]at h; simp only[cond_true,Option.some.injEq]at h; subst h
    obtain⟨hn0,hn1,hn2⟩:=zl hb
    have e:=VR.str hx; subst e
    refine⟨_,?_,VR.mkInt⟩
    simp only[Instr.index,asIntOf,Sem.run_bind,Sem.run_pure,run_underlying hu,Result.andThen_ok,if_pos hn0]
    have:s[n.toNat]?=some (s.data.toList.getD n.toNat 0):=by
     rw[getElem?_pos s n.toNat hn2]
     have hn3:n.toNat<s.data.toList.length:=by simpa using hn2
     rw[List.getD_eq_getElem?_getD,List.getElem?_eq_getElem hn3]
     rfl
    simp only[this]; rfl
  ·cases h
 ·cases h
include hti in
theorem Qc {T:TypeId} {x:PV} {vx:Value} {pv:PV}(hx:VP ρ w x vx)(h:sN ti T x some=some pv):
  ∃v,(Instr.arrayAt T vx).run P w= .ok v w∧VP ρ w pv v:=by
 unfold sN at h
 split at h
 ·rename_i i hi
  have hu:=hti.under T i hi
  split at h
  ·rename_i n e m t hd hty
   rw[hd]at hu
   have hs:=hti.shape T i hi
   unfold ow at hs
   rw[hd]at hs
   obtain⟨i',h1,h2,h3,h4⟩:=hs
   split at h
   ·rename_i u id p lo len
    split at h
    ·rename_i e2; subst e2
     cases hb:Nat.ble n len
     ·rw[hb]at h; cases h
     ·rw[hb]at h; simp only[cond_true,Option.some.injEq]at h; subst h
      have hn:=Nat.le_of_ble_eq_true hb
      obtain⟨h0,_⟩|⟨loc,m',cap,o,hloc,hok,hat,hle,rfl,ho,_⟩:=VR.slMs hx
      ·omega
      have ho:=ho (by omega)
      subst ho
      refine⟨_,?_,VR.mkRf ⟨loc,hloc,Ty.okP_append hok hat ⟨by omega,Ty.okP_nil _⟩,by rw[Ty.at_append hat]; simp[Ty.at],.inr (by simp),rfl⟩⟩
      simp only[Instr.arrayAt,Sem.run_bind,Sem.run_pure,run_underlying hu,Result.andThen_ok,if_neg (show¬len<n by omega)]
      rw[Ty.off_append hat]
      simp[Ty.off]
    ·cases h
   ·cases h
  ·cases h
 ·cases h
theorem UA {x:Int} {n:Nat}(h:(decide (0≤x)&&decide (x≤(n:Int)))=true):0≤x∧x≤(n:Int)∧x.toNat≤n:=by
 simp only[Bool.and_eq_true,decide_eq_true_eq]at h
 omega
theorem Am {n:Nat} {lo hi:Option PV} {l h:Nat}(hb:bounds n lo hi (fun a b=>some (a,b))=some (l,h)):l≤h∧h≤n∧
  (∀v,lo=some v→ ∃k x,v= .v ⟨.int k,x⟩∧0≤x∧x.toNat=l)∧(lo=none→l=0)∧(∀v,hi=some v→ ∃k x,v= .v ⟨.int k,x⟩∧0≤x∧x.toNat=h)∧(hi=none→h=n):=by
 unfold bounds at hb
 split at hb
 ·split at hb
  ·cases hb; exact⟨by omega,by omega,(fun v h=>by cases h),fun _=>rfl,(fun v h=>by cases h),fun _=>rfl⟩
  ·rename_i k x
   cases hc:decide (0≤x)&&decide (x≤(n:Int))
   ·rw[hc]at hb; cases hb
   ·rw[hc]at hb; simp only[cond_true,Option.some.injEq,Prod.mk.injEq]at hb
    obtain⟨rfl,rfl⟩:=hb
    have hc:=UA hc
    exact⟨hc.2.2,Nat.le_refl _,fun v h=>⟨k,x,(Option.some.inj h).symm,hc.1,rfl⟩,(fun h=>by cases h),(fun v h=>by cases h),fun _=>rfl⟩
  ·cases hb
 ·rename_i k x
  cases hc:decide (0≤x)&&decide (x≤(n:Int))
  ·rw[hc]at hb; cases hb
  ·rw[hc]at hb; simp only[cond_true]at hb
   have hc:=UA hc
   split at hb
   ·cases hb
    exact⟨Nat.zero_le _,hc.2.2,(fun v h=>by cases h),fun _=>rfl,fun v h=>⟨k,x,(Option.some.inj h).symm,hc.1,rfl⟩,(fun h=>by cases h)⟩
   ·rename_i k' y
    cases hd:decide (0≤y)&&decide (y≤((x.toNat:Nat):Int))
    ·rw[hd]at hb; cases hb
    ·rw[hd]at hb; simp only[cond_true,Option.some.injEq,Prod.mk.injEq]at hb
     obtain⟨rfl,rfl⟩:=hb
     have hd:=UA hd
     exact⟨hd.2.2,hc.2.2,fun v h=>⟨k',y,(Option.some.inj h).symm,hd.1,rfl⟩,(fun h=>by cases h),fun v h=>⟨k,x,(Option.some.inj h).symm,hc.1,rfl⟩,(fun h=>by cases h)⟩
   ·cases hb
 ·cases hb
theorem nL {n cap l h:Nat}(isSlice:Bool) {lo hi:Option PV} {vlo vhi:Option Value}(hlo: ∀v x,lo=some x→vlo=some v→VP ρ w x v)(hhi: ∀v x,hi=some x→vhi=some v→VP ρ w x v)
  (elo:lo.isSome=vlo.isSome) (ehi:hi.isSome=vhi.isSome) (hb:bounds n lo hi (fun a b=>some (a,b))=some (l,h)) (hc:n≤cap):
  (Instr.sliceBounds isSlice n cap vlo vhi none).run P w= .ok (l,h,cap) w:=by
 obtain⟨h1,h2,h3,h4,h5,h6⟩:=Am hb
 have hlo':vlo=none∧l=0∨ ∃k x,vlo=some (.int k x)∧0≤x∧x.toNat=l:=by
  cases lo with
  |none=>cases vlo with
   |none=>exact .inl ⟨rfl,h4 rfl⟩
   |some v=>cases elo
  |some x=>cases vlo with
   |none=>cases elo
   |some v=>
    obtain⟨k,y,rfl,hy,e⟩:=h3 x rfl
    have:=VR.int (hlo v _ rfl rfl)
    exact .inr ⟨k,y,by rw[this],hy,e⟩
 have hhi':vhi=none∧h=n∨ ∃k x,vhi=some (.int k x)∧0≤x∧x.toNat=h:=by
  cases hi with
  |none=>cases vhi with
   |none=>exact .inl ⟨rfl,h6 rfl⟩
   |some v=>cases ehi
  |some x=>cases vhi with
   |none=>cases ehi
   |some v=>
    obtain⟨k,y,rfl,hy,e⟩:=h5 x rfl
    have:=VR.int (hhi v _ rfl rfl)
    exact .inr ⟨k,y,by rw[this],hy,e⟩
 unfold Instr.sliceBounds
 rcases hhi' with⟨rfl,e1⟩|⟨k,x,rfl,hx0,e1⟩<;>rcases hlo' with⟨rfl,e2⟩|⟨k',y,rfl,hy0,e2⟩
 ·simp[e1,e2]
 ·simp only[Sem.run_bind,Sem.run_pure,Result.andThen_ok,Instr.sliceBound,asIntOf,Sem.run_ite]
  rw[if_pos ⟨hy0,by omega⟩]
  simp[e1,e2]
 ·simp only[Sem.run_bind,Sem.run_pure,Result.andThen_ok,Instr.sliceBound,asIntOf,Sem.run_ite]
  rw[if_pos ⟨hx0,by omega⟩]
  simp[e1,e2]
 ·simp only[Sem.run_bind,Sem.run_pure,Result.andThen_ok,Instr.sliceBound,asIntOf,Sem.run_ite]
  rw[if_pos ⟨hx0,by omega⟩]
  simp only[Result.andThen_ok]
  rw[if_pos ⟨hy0,by omega⟩]
  simp[e1,e2]
include hti in
theorem SG {T:TypeId} {x:PV} {vx:Value} {lo hi:Option PV} {vlo vhi:Option Value} {pv:PV}(hx:VP ρ w x vx)(hlo: ∀v x,lo=some x→vlo=some v→VP ρ w x v)(hhi: ∀v x,hi=some x→vhi=some v→VP ρ w x v)
  (elo:lo.isSome=vlo.isSome) (ehi:hi.isSome=vhi.isSome) (h:yw ti T x lo hi some=some pv): ∃v,(Instr.sliceAt T vx vlo vhi none).run P w= .ok v w∧VP ρ w pv v:=by
 unfold yw at h
 split at h
 ·rename_i i hi'
  have hu:=hti.under T i hi'
  split at h
  ·rename_i n e m t hd hty
   rw[hd]at hu
   obtain⟨i',h1,h2,h3⟩:=array_elem hti hi' hd
   have:m=n∧t=i'.ty:=by rw[hty]at h2; cases h2; exact⟨rfl,rfl⟩
   obtain⟨rfl,rfl⟩:=this
   split at h
   ·rename_i u id p
    split at h
    ·rename_i e2; subst e2
     rw[iT]at h
     cases hb:bounds m lo hi (fun a b=>some (a,b))with
     |none=>rw[hb]at h; cases h
     |some lh=>
      obtain⟨l,k⟩:=lh
      rw[hb]at h
      simp only[Option.bind_some,Option.some.injEq]at h; subst h
      obtain⟨hlk,hkm,_⟩:=Am hb
      obtain⟨loc,hloc,hok,hat,hcap,rfl⟩:=VR.ptrRf hx
      rw[hty]at hat
      refine⟨.slice (some (if m=l then⟨loc.blk,loc.ty.off p,none⟩else⟨loc.blk,loc.ty.off p+l*i'.ty.size,none⟩)) (k-l) (m-l),?_,?_⟩
      ·simp only[Instr.sliceAt,Sem.run_bind,run_underlying hu,Result.andThen_ok,Instr.sureAddr,Sem.run_pure,nL false hlo hhi elo ehi hb (Nat.le_refl _),hti.size e i' w h1,gQ]
      ·refine⟨[_],.inr ⟨loc,m,m-l,if m=l then loc.ty.off p else loc.ty.off p+l*i'.ty.size,hloc,hok,hat,by omega,?_,fun h=>by rw[if_neg (by omega)],by omega,fun c hc hp hl=>?_⟩,rfl⟩
       ·split<;>rfl
       ·rcases hcap with h|h
        ·rw[h]at hc; cases hc
        ·exact absurd hp h
    ·cases h
   ·cases h
  ·rename_i e t hd hty
   rw[hd]at hu
   obtain⟨i',h1,h2,h3⟩:=oK hti hi' hd
   have:t=i'.ty:=by rw[hty]at h2; cases h2; rfl
   subst this
   split at h
   ·rename_i u id p o0 len
    split at h
    ·rename_i e2; subst e2
     rw[iT]at h
     cases hb:bounds len lo hi (fun a b=>some (a,b))with
     |none=>rw[hb]at h; cases h
     |some lh=>
      obtain⟨l,k⟩:=lh
      rw[hb]at h
      simp only[Option.bind_some,Option.some.injEq]at h; subst h
      obtain⟨hlk,hkm,_⟩:=Am hb
      obtain⟨h0,rfl⟩|⟨loc,m,cap,o,hloc,hok,hat,hle,rfl,ho,hlc,hcap⟩:=VR.slMs hx
      ·refine⟨.slice none 0 0,?_,⟨[_],.inl ⟨by omega,rfl⟩,rfl⟩⟩
       have e1:l=0:=by omega
       have e2:k=0:=by omega
       subst e1; subst e2; subst h0
       simp only[Instr.sliceAt,Sem.run_bind,run_underlying hu,Result.andThen_ok,Instr.slice,Sem.run_pure,nL true hlo hhi elo ehi hb (Nat.le_refl 0),hti.size e i' w h1,Option.map_none]
       simp
      refine⟨.slice (some ⟨loc.blk,if cap=l then o else o+l*i'.ty.size,none⟩) (k-l) (cap-l),?_,?_⟩
      ·simp only[Instr.sliceAt,Sem.run_bind,run_underlying hu,Result.andThen_ok,Instr.slice,Sem.run_pure,nL true hlo hhi elo ehi hb hlc,hti.size e i' w h1,Option.map_some,gQ]
       split<;>rfl
      ·refine⟨[_],.inr ⟨loc,m,cap-l,if cap=l then o else o+l*i'.ty.size,hloc,hok,hat,by omega,rfl,fun h=>?_,by omega,fun c hc hp hl=>?_⟩,rfl⟩
       ·rw[if_neg (by omega),ho (by omega),Nat.add_mul]; omega
       ·obtain⟨e1,e2⟩:=hcap c hc hp (by omega)
        have:l=0:=by omega
        subst this
        refine⟨by omega,?_⟩
        split<;>omega
    ·cases h
   ·rename_i u len f
    split at h
    ·rename_i e2; subst e2
     rw[iT]at h
     cases hb:bounds len lo hi (fun a b=>some (a,b))with
     |none=>rw[hb]at h; cases h
     |some lh=>
      obtain⟨l,k⟩:=lh
      rw[hb]at h
      simp only[Option.bind_some,Option.some.injEq]at h; subst h
      obtain⟨hlk,hkm,_⟩:=Am hb
      obtain⟨a,cap,rfl,hlc,hall⟩:=VR.slFz hx
      refine⟨.slice (if cap=l then a else a.map (·.add (l*i'.ty.size))) (k-l) (cap-l),?_,?_⟩
      ·simp only[Instr.sliceAt,Sem.run_bind,run_underlying hu,Result.andThen_ok,Instr.slice,Sem.run_pure,nL true hlo hhi elo ehi hb hlc,hti.size e i' w h1]
      ·refine⟨[_],⟨_,cap-l,rfl,by omega,fun j hj=>?_⟩,rfl⟩
       obtain⟨b,o,c,rfl,h7,h8⟩:=hall (l+j) (by omega)
       rw[if_neg (by omega)]
       exact⟨b,o+l*i'.ty.size,c,by rw[Option.map_some,gQ],h7,by rw[Nat.add_assoc,←Nat.add_mul]; exact h8⟩
    ·cases h
   ·cases h
  ·rename_i hd
   rw[hd]at hu
   split at h
   ·rename_i s
    rw[iT]at h
    cases hb:bounds s.size lo hi (fun a b=>some (a,b))with
    |none=>rw[hb]at h; cases h
    |some lh=>
     obtain⟨l,k⟩:=lh
     rw[hb]at h
     simp only[Option.bind_some,Option.some.injEq]at h; subst h
     have e:=VR.str hx; subst e
     refine⟨_,?_,VR.mkStr⟩
     simp only[Instr.sliceAt,Sem.run_bind,run_underlying hu,Result.andThen_ok,Instr.slice,Option.isSome_none,Bool.false_eq_true,if_false,Sem.run_pure,nL false hlo hhi elo ehi hb (Nat.le_refl _)]
   ·cases h
  ·cases h
 ·cases h
theorem VZ: ∀ {l:List PV} {vs:List Value} {r:List (Ty×Nat×Path)},l.length=vs.length→(∀(j:Nat) x v,l[j]?=some x→vs[j]?=some v→VP ρ w x v)→Q7 l=some r→
  vs.length=r.length∧ ∀(j:Nat) c v,r[j]?=some c→vs[j]?=some v→uN ρ c.1 c.2.1 c.2.2 v:=by
 intro l
 induction l with
 |nil=>
  intro vs r hl _ h
  simp only[Q7,Option.some.injEq]at h; subst h
  exact⟨hl.symm,fun j c v hc=>by simp at hc⟩
 |cons x l ih=>
  intro vs r hl hv h
  cases vs with
  |nil=>cases hl
  |cons v vs=>
   unfold Q7 at h
   split at h
   ·rename_i e; cases e
   ·rename_i t id p l' e
    cases e
    split at h
    ·rename_i r' hr
     simp only[Option.some.injEq]at h; subst h
     obtain⟨h1,h2⟩:=ih (by simpa using hl) (fun j x v hx hv'=>hv (j+1) x v (by simpa using hx) (by simpa using hv')) hr
     refine⟨by simp[h1],fun j c u hc hu=>?_⟩
     cases j with
     |zero=>
      simp only[List.getElem?_cons_zero,Option.some.injEq]at hc hu; subst hc; subst hu
      exact VR.ptrRf (hv 0 _ _ rfl rfl)
     |succ j=>exact h2 j c u (by simpa using hc) (by simpa using hu)
    ·cases h
   ·cases h
end
end Go.Den
namespace Go.Den
section
variable {P:Program} {ti:List (Nat×TI)} (hti:xw P ti) {ρ:Rho} {w:World}
theorem MH: ∀(c:List Value) (k o:Nat) (cs:List Value),o+k+c.length≤cs.length→
  ((c.zipIdx k).foldl (fun(cs:Array Value) (x:Value×Nat)=>cs.setIfInBounds (o+x.2) x.1) cs.toArray)=(splice cs (o+k) c).toArray:=by
 intro c
 induction c with
 |nil=>intro k o cs h; simp[splice]
 |cons v c ih=>
  intro k o cs h
  simp only[List.length_cons]at h
  simp only[List.zipIdx_cons,List.foldl_cons,List.setIfInBounds_toArray]
  rw[ih (k+1) o _ (by simp; omega)]
  congr 1
  apply List.ext_getElem?
  intro j
  rw[iR (by simp; omega),iR (by simp; omega),List.getElem?_set]
  simp only[List.length_cons]
  by_cases h1:o+k=j
  ·subst h1
   rw[if_neg (by omega),if_pos rfl,if_pos (by omega),if_pos (by omega)]
   simp
  ·by_cases h2:o+(k+1)≤j∧j<o+(k+1)+c.length
   ·rw[if_pos h2,if_pos (by omega)]
    rw[show j-(o+k)=(j-(o+(k+1)))+1 by omega,List.getElem?_cons_succ]
   ·rw[if_neg h2,if_neg (by omega),if_neg (by omega)]
theorem VR.cells {x:V} {v:Value}(h:VR ρ w x v): ∃cs,Rd ρ w x.1 x.2 cs∧v.cells=cs.toArray∧v=mkV x.1 cs:=by
 obtain⟨cs,h1,rfl⟩:=h
 exact⟨cs,h1,jR h1,rfl⟩
theorem Qd {t:Ty} {place:Nat→Path} {pl:Nat→Option (Nat×Nat)} : ∀ {parts:List (Nat×PV)} {vparts:List (Nat×Value)} {x z:t.den} {cs:List Value},
  parts.length=vparts.length→(∀(j:Nat) p v,parts[j]?=some p→vparts[j]?=some v→p.1=v.1∧VP ρ w p.2 v.2)→
  (∀(j:Nat) p u,parts[j]?=some p→t.at (place p.1)=some u→t.okP (place p.1)∧pl p.1=some (t.off (place p.1),u.size))→
  zh t place parts x=some z→Rd ρ w t x cs→ ∃cs',Instr.fill pl cs.toArray vparts=some cs'.toArray∧Rd ρ w t z cs':=by
 intro parts
 induction parts with
 |nil=>
  intro vparts x z cs hl _ _ h hr
  cases vparts with
  |nil=>simp only[zh,Option.some.injEq]at h; subst h; exact⟨cs,rfl,hr⟩
  |cons=>cases hl
 |cons p parts ih=>
  intro vparts x z cs hl hv hp h hr
  cases vparts with
  |nil=>cases hl
  |cons v vparts=>
   obtain⟨i,pv⟩:=p
   obtain⟨i',v⟩:=v
   obtain⟨e,hvr⟩:=hv 0 _ _ rfl rfl
   simp only at e hvr; subst e
   unfold zh at h
   split at h
   ·rename_i e; cases e
   ·rename_i i2 y l e
    cases e
    split at h
    ·rename_i u hu
     split at h
     ·rename_i y' hy
      split at h
      ·rename_i z' hz
       obtain⟨hok,hpl⟩:=hp 0 _ u rfl hu
       obtain⟨c,hc,hcells,_⟩:=(VR.to hvr hy).cells
       have hle:=Ty.off_le (p:=place i) hok hu
       have hcl:=hc.length
       have hrl:=hr.length
       have hr':=hr.set hok hz hc
       obtain⟨cs',h1,h2⟩:=ih (by simpa using hl) (fun j p v hj hj'=>hv (j+1) p v (by simpa using hj) (by simpa using hj')) (fun j p u hj hu=>hp (j+1) p u (by simpa using hj) hu) h hr'
       refine⟨cs',?_,h2⟩
       unfold Instr.fill
       simp only at hcl⊢
       rw[hpl]
       simp only[hcells,List.size_toArray,hcl]
       rw[if_neg (by simp; omega)]
       have:=MH c 0 (t.off (place i)) cs (by omega)
       simp only[Nat.add_zero]at this
       rw[←h1,←this]
       simp
      ·cases h
     ·cases h
    ·cases h
   ·cases h
include hti in
theorem ND: ∀(fs:List Field),(∀f∈fs,∃i,look ti f.type=some i)→(fs.mapM (fun f=>do pure (f.offset,←sizeOf f.type):Field→Sem (Nat×Nat))).run P w= .ok (fs.map fun f=>(f.offset,match look ti f.type with|some i=>i.ty.size|none=>0)) w:=by
 intro fs
 induction fs with
 |nil=>intro _; rfl
 |cons f fs ih=>
  intro h
  obtain⟨i,hi⟩:=h f (by simp)
  simp only[List.mapM_cons,Sem.run_bind,hti.size _ _ w hi,Result.andThen_ok,Sem.run_pure,ih (fun g hg=>h g (by simp[hg])),List.map_cons,hi]
theorem Qe {parts:List (Nat×PV)} {n:Nat}(h:(parts.all fun p=>Nat.blt p.1 n)=true): ∀(j:Nat) p,parts[j]?=some p→p.1<n:=by
 intro j p hp
 exact F7 (List.all_eq_true.1 h p (List.mem_of_getElem? hp))
include hti in
theorem SH {T:TypeId} {parts:List (Nat×PV)} {vparts:Array (Nat×Value)} {pv:PV}(hl:parts.length=vparts.size)(hv: ∀(j:Nat) p v,parts[j]?=some p→vparts[j]?=some v→p.1=v.1∧VP ρ w p.2 v.2)
  (h:yj ti T parts some=some pv): ∃v,(Instr.build T vparts).run P w= .ok v w∧VP ρ w pv v:=by
 unfold yj at h
 split at h
 ·rename_i i hi
  have hu:=hti.under T i hi
  have hz0:=Rd.zero ρ w i.ty
  have hcells:(mkV i.ty i.ty.zcells).cells=i.ty.zcells.toArray:=jR hz0
  split at h
  ·rename_i fs hd
   rw[hd]at hu
   cases hbz:parts.isEmpty&&i.ty.spHead
   rotate_left
   ·rw[hbz]at h; simp only[cond_true,Option.some.injEq]at h
    subst h
    simp only[Bool.and_eq_true,List.isEmpty_iff]at hbz
    have e0:vparts= #[]:=by rw[hbz.1]at hl; exact Array.size_eq_zero_iff.1 hl.symm
    subst e0
    have hag:i.ty.agg=true:=by
     have hs:=hti.shape T i hi
     unfold ow at hs; rw[hd]at hs; exact hs.1
    have hall: ∀f∈fs.toList,∃i,look ti f.type=some i:=by
     intro f hf
     obtain⟨j,hj⟩:=List.mem_iff_getElem?.1 hf
     obtain⟨i',h1,_⟩:=sP hti hi hd (j:=j) (f:=f) (by simpa using hj)
     exact⟨i',h1⟩
    refine⟨_,?_,rfl⟩
    unfold Instr.build mkV
    simp only[Sem.run_bind,hti.zero T i w hi,Result.andThen_ok,hcells,run_underlying hu,hag,if_true]
    rw[Array.mapM_eq_mapM_toList]
    simp only[Sem.run_map,ND hti fs.toList hall,Result.andThen_ok]
    simp[Instr.fill]
   rw[hbz]at h; simp only[cond_false]at h
   cases hb:parts.all fun p=>Nat.blt p.1 fs.size
   ·rw[hb]at h; cases h
   ·rw[hb]at h; simp only[cond_true]at h
    have hlt:=Qe hb
    split at h
    ·rename_i z hz
     simp only[Option.some.injEq]at h; subst h
     have hag:i.ty.agg=true:=by
      have hs:=hti.shape T i hi
      unfold ow at hs; rw[hd]at hs; exact hs.1
     have hall: ∀f∈fs.toList,∃i,look ti f.type=some i:=by
      intro f hf
      obtain⟨j,hj⟩:=List.mem_iff_getElem?.1 hf
      obtain⟨i',h1,_⟩:=sP hti hi hd (j:=j) (f:=f) (by simpa using hj)
      exact⟨i',h1⟩
     obtain⟨cs',h1,h2⟩:=Qd (pl:=((fs.toList.map fun f=>(f.offset,match look ti f.type with|some i=>i.ty.size|none=>0)).toArray[·]?)) (vparts:=vparts.toList) (by simpa using hl)
      (fun j p v hj hj'=>hv j p v hj (by simpa using hj')) (fun j p u hj hu'=>by
       have hp:=hlt j p hj
       obtain⟨i',h3,h4,h5,h6,h7,_⟩:=sP hti hi hd (Array.getElem?_eq_getElem hp)
       rw[h4]at hu'; cases hu'
       refine⟨h7,?_⟩
       simp only[List.getElem?_toArray,List.getElem?_map,Array.getElem?_toList,Array.getElem?_eq_getElem hp,Option.map_some,h3,h5]) hz hz0
     refine⟨_,?_,⟨cs',h2,rfl⟩⟩
     unfold Instr.build mkV
     simp only[Sem.run_bind,hti.zero T i w hi,Result.andThen_ok,hcells,run_underlying hu,hag,if_true]
     rw[Array.mapM_eq_mapM_toList]
     simp only[Sem.run_map,ND hti fs.toList hall,Result.andThen_ok,h1,Sem.run_pure]
    ·cases h
  ·rename_i n e hd
   rw[hd]at hu
   obtain⟨i',h1,h2,h3⟩:=array_elem hti hi hd
   cases hb:parts.all fun p=>Nat.blt p.1 n
   ·rw[hb]at h; cases h
   ·rw[hb]at h; simp only[cond_true]at h
    have hlt:=Qe hb
    split at h
    ·rename_i z hz
     simp only[Option.some.injEq]at h; subst h
     obtain⟨dd,ty⟩:=i
     simp only at h2; subst h2
     obtain⟨cs',h4,h5⟩:=Qd (pl:=fun j=>some (j*i'.ty.size,i'.ty.size)) (vparts:=vparts.toList) (by simpa using hl)
      (fun j p v hj hj'=>hv j p v hj (by simpa using hj')) (fun j p u hj hu'=>by
       have hp:=hlt j p hj
       simp only[Ty.at]at hu'
       cases hu'
       exact⟨⟨hp,Ty.okP_nil _⟩,by simp[Ty.off]⟩) hz hz0
     refine⟨_,?_,⟨cs',h5,rfl⟩⟩
     unfold Instr.build mkV
     simp only[Sem.run_bind,hti.zero T _ w hi,Result.andThen_ok,hcells,run_underlying hu,hti.size e i' w h1,Ty.agg,if_true,h4,Sem.run_pure]
    ·cases h
  ·cases h
 ·cases h
theorem xA(z:List Value): ∀(n:Nat),((Array.range (n*z.length)).map (fun i=>z.toArray[i%z.toArray.size]!))=((List.replicate n z).flatten).toArray:=by
 intro n
 apply Array.ext'
 simp only[Array.toList_map,Array.toList_range,List.size_toArray]
 apply List.ext_getElem?
 intro j
 by_cases hj:j<n*z.length
 ·have hz:0<z.length:=by
   rcases Nat.eq_zero_or_pos z.length with h|h
   ·rw[h]at hj; simp at hj
   ·exact h
  have hq:j/z.length<n:=by rw[Nat.div_lt_iff_lt_mul hz]; exact hj
  have hm:=Nat.mod_lt j hz
  have h1:=rT z n (j/z.length) hq
  have h2:((List.replicate n z).flatten)[j]?=z[j%z.length]?:=by
   have h3:((((List.replicate n z).flatten).drop (j/z.length*z.length)).take z.length)[j%z.length]?=z[j%z.length]?:=by rw[h1]
   rw[List.getElem?_take_of_lt hm,List.getElem?_drop]at h3
   rw[←h3]; congr 1
   have:=Nat.div_add_mod j z.length
   rw[Nat.mul_comm]at this; omega
  rw[h2]
  simp[hj,hm,List.getElem?_eq_getElem hm]
 ·rw[List.getElem?_eq_none (by simp; omega),List.getElem?_eq_none (by simp; omega)]
end
end Go.Den
namespace Go.Den
def Goes(P:Program)(o:Oper)(a:Act)(w:World)(v:Value)(w':World):Prop:=
 (execOp a.eval o).run P w= .ok (.value v) w'∨((execOp a.eval o).run P w= .ok .skip w'∧v=undef)
theorem Goes.wp {P:Program} {o:Oper} {a:Act} {w w':World} {v:Value} {K:Act→World→Prop} {Q:Exit→Act→World→Prop}(h:Goes P o a w v w')(hk:K (a.put o.dst v) w'):o.wp P a w K Q:=by
 unfold Oper.wp
 rcases h with h|⟨h,rfl⟩
 ·rw[h]; exact hk
 ·rw[h]; exact hk
structure After(B:Base)(ρ:Rho)(s:DS)(a:Act)(w:World)(nx:Nat)(pv:PV)(u:Upd)(n:Nat)(v:Value)(ρ':Rho)(w':World):Prop where
 rel:aP B ρ' { s with hp:=u++s.hp } a w'
 later:Later ρ w ρ' w'
 val:VP ρ' w' pv v
 same: ∀id,id≠nx→ρ' id=ρ id
 new:n=0→ρ'=ρ
theorem After.pure {B:Base} {ρ:Rho} {s:DS} {a:Act} {w:World} {nx:Nat} {pv:PV} {v:Value}(h:aP B ρ s a w)(hv:VP ρ w pv v):After B ρ s a w nx pv [] 0 v ρ w:=
 ⟨h,Later.refl _ _,hv,fun _ _=>rfl,fun _=>rfl⟩
section
variable {P:Program} {C:Cx} (hti:xw P C.ti) {B:Base} {ρ:Rho} {s:DS} {a:Act} {w:World}
theorem F9(hr:aP B ρ s a w)(nx:Nat)(hn:ρ nx=none) {t:Ty} {x:t.den} {cs:List Value}(T:TypeId)(hc:Rd ρ w t x cs)(hh: ∀b,a3y t b T cs):
  ∃ρ',After B ρ s a w nx (.v ⟨.ptr t,.rf nx []⟩) [(nx,.obj t x)] 1 (.pointer (some ⟨w.heap.size,0,none⟩)) ρ' (w.alloc (.cells cs.toArray T)):=by
 obtain⟨ρ',h1,h2,h3,h4⟩:=hr.alloc nx hn (.obj t x) cs.toArray T t none (fun ρ' w' L hW hb=>⟨rfl,hW,cs,T,hc.later L,hb,hh _⟩) (w.alloc (.cells cs.toArray T)) rfl rfl rfl rfl
 refine⟨ρ',h1,h2,VR.mkRf ⟨_,h3,Ty.okP_nil _,Ty.at_nil _,.inl rfl,by rw[Ty.off_nil]⟩,h4,fun e=>absurd e (by decide)⟩
theorem NG(hr:aP B ρ s a w): ∀(l:List (Nat×Operand)),(l.map fun p=>(p.1,s.val p.2)).length=(l.map fun(i,x)=>(i,a.eval x)).length∧
  ∀(j:Nat) p v,(l.map fun p=>(p.1,s.val p.2))[j]?=some p→(l.map fun(i,x)=>(i,a.eval x))[j]?=some v→p.1=v.1∧VP ρ w p.2 v.2:=by
 intro l
 refine⟨by simp,fun j p v hp hv=>?_⟩
 simp only[List.getElem?_map,Option.map_eq_some_iff]at hp hv
 obtain⟨q,h1,rfl⟩:=hp
 obtain⟨q',h2,rfl⟩:=hv
 rw[h1]at h2; cases h2
 exact⟨rfl,hr.eval _⟩
theorem Qf(hr:aP B ρ s a w)(o:Option Operand):(∀v x,o.map s.val=some x→o.map a.eval=some v→VP ρ w x v)∧(o.map s.val).isSome=(o.map a.eval).isSome:=by
 cases o with
 |none=>exact⟨(fun v x h=>by cases h),rfl⟩
 |some o=>exact⟨(fun v x h h'=>by cases h; cases h'; exact hr.eval o),rfl⟩
theorem W9(hr:aP B ρ s a w)(l:List Operand):(l.map s.val).length=(l.map a.eval).length∧ ∀(j:Nat) x v,(l.map s.val)[j]?=some x→(l.map a.eval)[j]?=some v→VP ρ w x v:=by
 refine⟨by simp,fun j x v hx hv=>?_⟩
 simp only[List.getElem?_map,Option.map_eq_some_iff]at hx hv
 obtain⟨q,h1,rfl⟩:=hx
 obtain⟨q',h2,rfl⟩:=hv
 rw[h1]at h2; cases h2
 exact hr.eval _
theorem Bw: ∀ {t:Ty} {x:t.den} {cs:List Value},Rd ρ w t x cs→ ∀v∈cs,v.oneCell'=true:=by
 intro t
 induction t with
 |int k=>intro x cs h v hv; simp only[Rd]at h; subst h; simp at hv; subst hv; rfl
 |bool=>intro x cs h v hv; simp only[Rd]at h; subst h; simp at hv; subst hv; rfl
 |str=>intro x cs h v hv; simp only[Rd]at h; subst h; simp at hv; subst hv; rfl
 |unit=>intro x cs h v hv; simp only[Rd]at h; subst h; simp at hv
 |pair a b iha ihb=>
  intro x cs h v hv
  rw[←List.take_append_drop a.size cs]at hv
  rcases List.mem_append.1 hv with h'|h'
  ·exact iha h.1 v h'
  ·exact ihb h.2 v h'
 |arr n t ih=>
  intro x cs h v hv
  obtain⟨j,hj⟩:=List.mem_iff_getElem?.1 hv
  have hlt:=(List.getElem?_eq_some_iff.1 hj).1
  rw[h.1]at hlt
  have hs:0<t.size:=by
   rcases Nat.eq_zero_or_pos t.size with e|e
   ·rw[e]at hlt; simp at hlt
   ·exact e
  have hq:j/t.size<n:=by rw[Nat.div_lt_iff_lt_mul hs]; exact hlt
  refine ih (h.2 (j/t.size) hq) v (List.mem_iff_getElem?.2 ⟨j%t.size,?_⟩)
  rw[List.getElem?_take_of_lt (Nat.mod_lt _ hs),List.getElem?_drop,←hj]
  congr 1
  have:=Nat.div_add_mod j t.size
  rw[Nat.mul_comm]at this; exact this
 |sl t ih=>
  intro x cs h v hv
  cases x with
  |nil=>simp only[Rd]at h; subst h; simp at hv; subst hv; rfl
  |fz n f=>obtain⟨_,_,rfl,_⟩:=h; simp at hv; subst hv; rfl
  |ms id p lo len=>
   rcases h with⟨_,rfl⟩|⟨_,_,_,_,_,_,_,_,rfl,_⟩
   ·simp at hv; subst hv; rfl
   ·simp at hv; subst hv; rfl
 |ptr t ih=>
  intro x cs h v hv
  cases x with
  |nil=>simp only[Rd]at h; subst h; simp at hv; subst hv; rfl
  |fz y=>obtain⟨_,_,_,rfl,_⟩:=h; simp at hv; subst hv; rfl
  |rf id p=>obtain⟨u,rfl,_,_,_,_,_,rfl⟩:=h; simp at hv; subst hv; rfl
 |fn=>
  intro x cs h v hv
  cases x with
  |nil=>simp only[Rd]at h; subst h; simp at hv; subst hv; rfl
  |mk f caps=>obtain⟨_,rfl,_⟩:=h; simp at hv; subst hv; rfl
 |sp _=>intro x cs h v hv; obtain⟨u,rfl,hu⟩:=h; simp at hv; subst hv; cases v<;>first|rfl|cases hu
 |mp=>
  intro x cs h v hv
  cases x with
  |none=>simp only[Rd]at h; subst h; simp at hv; subst hv; rfl
  |some id=>obtain⟨_,_,_,rfl⟩:=h; simp at hv; subst hv; rfl
theorem a1O {n:Nat} {p:Nat→Bool}(h:a3v n p=true): ∀i,i<n→p i=true:=by
 intro i hi
 exact List.all_eq_true.1 h i (List.mem_range.2 hi)
theorem Rd.shutFlat {t:Ty} {ρ:Rho} {w:World} {x:t.den} {cs:List Value}(h:Rd ρ w t x cs)(hf:t.flat=true):Rd ρ.shut w t x cs:=by
 induction t generalizing cs with
 |int k=>exact h
 |bool=>exact h
 |str=>exact h
 |unit=>exact h
 |pair a b iha ihb=>
  simp only[Ty.flat,Bool.and_eq_true]at hf
  exact⟨iha h.1 hf.1,ihb h.2 hf.2⟩
 |arr n t ih=>exact⟨h.1,fun i hi=>ih (h.2 i hi) hf⟩
 |sl t ih=>cases hf
 |ptr t ih=>cases hf
 |fn=>cases hf
 |sp _=>cases hf
 |mp=>cases hf
theorem Rd.shutOf {t:Ty} {ρ:Rho} {w:World} {x:t.den} {cs:List Value}(h:Rd ρ w t x cs)(hf:fV t x=true):Rd ρ.shut w t x cs:=by
 induction t generalizing cs with
 |int k=>exact h
 |bool=>exact h
 |str=>exact h
 |unit=>exact h
 |pair a b iha ihb=>
  simp only[fV,Bool.and_eq_true]at hf
  exact⟨iha h.1 hf.1,ihb h.2 hf.2⟩
 |arr n t ih=>
  simp only[fV,Bool.or_eq_true]at hf
  rcases hf with hf|hf
  ·exact⟨h.1,fun i hi=>(h.2 i hi).shutFlat hf⟩
  ·exact⟨h.1,fun i hi=>ih (h.2 i hi) (a1O hf i hi)⟩
 |sl t ih=>
  cases x with
  |nil=>exact h
  |fz n f=>exact h
  |ms id p lo len=>cases hf
 |ptr t ih=>
  cases x with
  |nil=>exact h
  |fz y=>exact h
  |rf id p=>cases hf
 |fn=>
  cases x with
  |nil=>exact h
  |mk f caps=>
   cases caps with
   |nil=>
    obtain⟨vs,h1,h2,h3⟩:=h
    exact⟨vs,h1,h2,fun j c v hc hv=>by simp at hc⟩
   |cons _ _=>cases hf
 |sp _=>exact h
 |mp=>
  cases x with
  |none=>exact h
  |some id=>cases hf
theorem Rd.atOf {t:Ty} {ρ:Rho} {w:World} {x:t.den} {cs:List Value} {sh:Bool}(h:Rd ρ w t x cs)(hf:(!sh||t.flat||fV t x)=true):Rd (ρ.at sh) w t x cs:=by
 cases sh
 ·exact h
 ·simp only[Bool.not_true,Bool.false_or,Bool.or_eq_true]at hf
  rcases hf with hf|hf
  ·exact h.shutFlat hf
  ·exact h.shutOf hf
theorem oz {P:Program}(fr:Nat×Nat)(g o:Nat)(t:TypeId): ∀(vs:List Value) (i:Nat) (cur:Array Value) (w:World),w.heap[g]?=some (.cells cur t fr)→(fr=(0,0)∨cur.size≤fr.1)→o+i+vs.length≤cur.size→(∀v∈vs,v.oneCell'=true)→
  (storeCells ⟨g,o,none⟩ vs i).run P w= .ok () (w.setRow g (cur.toList.take (o+i)++vs++cur.toList.drop (o+i+vs.length)).toArray)
 | [],i,cur,w,hg,_,_,_=>by
  simp only[storeCells,List.append_nil,List.length_nil,Nat.add_zero,List.take_append_drop,Array.toArray_toList]
  rw[setRow_self w g cur t fr hg]
  rfl
 |v::rest,i,cur,w,hg,hfr,hl,h1=>by
  have hi:o+i<cur.size:=by simp at hl; omega
  have hadd:(⟨g,o,none⟩:Addr).add i=⟨g,o+i,none⟩:=by unfold Addr.add; split<;>simp_all
  have hcell:w.cell? ⟨g,o+i,none⟩=some cur[o+i]:=by simp[World.cell?,hg,hi]
  have hfro:w.frozen? ⟨g,o+i,none⟩=false:=by
   obtain⟨lo,hi'⟩:=fr
   simp only[World.frozen?,hg]
   rcases hfr with h|h
   ·cases h; simp
   ·simp only[Bool.and_eq_false_iff,decide_eq_false_iff_not]; left; simp only at h; omega
  have hst:(store ((⟨g,o,none⟩:Addr).add i) v).run P w= .ok () (w.setRow g (cur.setIfInBounds (o+i) v)):=by
   rw[hadd,run_store P w _ v _ (h1 v (by simp)),hcell]
   simp[hfro,setCell_eq_setRow w g (o+i) cur t fr v hg]
  have ih:=oz (P:=P) fr g o t rest (i+1) (cur.setIfInBounds (o+i) v) (w.setRow g (cur.setIfInBounds (o+i) v)) (setRow_heap w g cur _ t _ hg) (by simpa using hfr) (by simp at hl⊢; omega) (fun x hx=>h1 x (by simp[hx]))
  simp only[storeCells,Sem.run_bind,hst,Result.andThen_ok,ih,setRow_setRow]
  congr 3
  have e:=list_seg_step cur.toList (o+i) v rest (by simp at hl⊢; omega)
  simpa [Array.toList_setIfInBounds,Nat.add_assoc]using e
theorem Fa(hr:aP B ρ s a w) {id:Nat} {o o':PO} {p:Path} {u:Ty} {v:V} {vv:Value} {loc:Loc}(ho:look s.hp id=some o)(hloc:ρ id=some loc)(hok:loc.ty.okP p)(hat:loc.ty.at p=some u)
  (hset:o.set p v=some o') (hv:VR ρ w v vv) (nx:Nat) (hne:id≠nx):
  ∃c w',vv.cells=c.toArray∧c.length=u.size∧(storeCells ⟨loc.blk,loc.ty.off p,none⟩ c).run P w= .ok () w'∧After B ρ s a w nx .un [(id,o')] 0 undef ρ w':=by
 have key: ∀(sh:Bool) (t:Ty) (x:t.den) (cs sp:List Value) (T:TypeId),loc.ty=t→Rd (ρ.at sh) w t x cs→ ∀fr,w.heap[loc.blk]?=some (.cells (cs++sp).toArray T fr)→(fr=(0,0)∨(cs++sp).length≤fr.1)→
   ∀(y:u.den) (z:t.den),v.to u=some y→(!sh||u.flat||fV u y)=true→t.set x p u y=some z→ ∃c w',vv.cells=c.toArray∧c.length=u.size∧(storeCells ⟨loc.blk,loc.ty.off p,none⟩ c).run P w= .ok () w'∧
    w'.heap.size=w.heap.size∧(∀b,b≠loc.blk→w'.heap[b]?=w.heap[b]?)∧w'.os=w.os∧w'.tape=w.tape∧w'.output=w.output∧
    ∃cs',cs'.length=cs.length∧(Later ρ w ρ w'→Rd (ρ.at sh) w' t z cs')∧w'.heap[loc.blk]?=some (.cells (cs'++sp).toArray T fr)∧ ∀j,j<loc.ty.off p→cs'[j]?=cs[j]?:=by
  intro sh t x cs sp T e hc fr hb hfr y z hy hsh hz
  subst e
  obtain⟨c,h1,h2,_⟩:=(VR.to hv hy).cells
  have hcl:=h1.length
  have hle:=Ty.off_le hok hat
  have hcs:=hc.length
  simp only at hcl h1
  have hrun:=oz (P:=P) fr loc.blk (loc.ty.off p) T c 0 (cs++sp).toArray w hb (by simpa using hfr) (by simp; omega) (Bw h1)
  refine⟨c,_,h2,hcl,hrun,by simp,fun b hne=>?_,rfl,rfl,rfl,splice cs (loc.ty.off p) c,qy (by omega),fun L=>(hc.set hok hz (h1.atOf hsh)).keeps (L.keeps.at sh),?_,fun j hj=>by rw[iR (by omega),if_neg (by omega)]⟩
  ·simp only[World.setRow,Array.getElem?_modify]
   rw[if_neg (Ne.symm hne)]
  ·simp only[World.setRow,Array.getElem?_modify,if_pos,hb,Option.map_some]
   congr 2
   simp only[splice,Nat.add_zero]
   rw[List.take_append_of_le_length (by omega),List.drop_append_of_le_length (by omega)]
   simp
 have hd:o≠ .dead:=by intro e; subst e; cases hset
 have hor:=hr.live ho hd hloc
 have hW:=hor.writes hd
 cases o with
 |dead=>cases hset
 |mp k v l=>cases hset
 |obj t x=>
  obtain⟨e,_,cs,T,hc,hb,hhd⟩:=hor
  rw[e]at hat hok
  simp only[PO.set,hat]at hset
  cases hsp:t.spHead&&Nat.beq (t.off p) 0
  rotate_left
  ·rw[hsp]at hset; cases hset
  rw[hsp]at hset
  simp only[cond_false]at hset
  split at hset
  ·rename_i y hy
   split at hset
   ·rename_i z hz
    cases hset
    obtain⟨c,w',h1,h2,h3,h4,h5,h6,h7,h8,cs',h9,h10,h11,h14⟩:=key false t x cs [] T e hc (0,0) (by simpa using hb) (.inl rfl) y z hy rfl hz
    obtain⟨h12,h13⟩:=hr.store ho hd (by intro e; cases e) hloc w' h4 h5 h6 h7 h8 (wu hb (by simpa using h11)) (o':=.obj t z) (fun L=>⟨e,hW,cs',T,h10 L,by simpa using h11,fun T0 hs=>⟨(hhd T0 hs).1,fun v hv=>(hhd T0 hs).2 v (by
     have hs':t.spHead=true:=by simp[Ty.spHead,hs]
     rw[hs']at hsp
     have hne:t.off p≠0:=by intro h0; rw[h0]at hsp; simp at hsp
     rw[←h14 0 (by rw[e]; omega)]; exact hv)⟩⟩)
    exact⟨c,w',h1,h2,h3,h12,h13,trivial,fun _ _=>rfl,fun _=>rfl⟩
   ·cases hset
  ·cases hset
 |row sh e0 t n f=>
  obtain⟨e,_,cs,sp,hc,⟨fr,hb,hfr⟩,cap,hcap,hlen,hn,hm⟩:=hor
  rw[e]at hat hok
  simp only[PO.set,hat]at hset
  split at hset
  ·rename_i y hy
   cases hsh:(!sh||u.flat||fV u y)
   ·rw[hsh]at hset; cases hset
   ·rw[hsh]at hset
    simp only[cond_true]at hset
    split at hset
    ·rename_i z hz
     cases hset
     obtain⟨c,w',h1,h2,h3,h4,h5,h6,h7,h8,cs',h9,h10,h11,_⟩:=key sh (.arr n t) f cs sp e0 e hc fr hb (hfr.imp_right And.left) y z hy hsh hz
     obtain⟨h12,h13⟩:=hr.store ho hd (by intro e; cases e) hloc w' h4 h5 h6 h7 h8 (wu hb h11) (o':=.row sh e0 t n z) (fun L=>⟨e,hW,cs',sp,h10 L,⟨fr,h11,by rw[List.length_append,h9,←List.length_append]; exact hfr⟩,cap,hcap,by simp[h9]at hlen⊢; omega,hn,hm⟩)
     exact⟨c,w',h1,h2,h3,h12,h13,trivial,fun _ _=>rfl,fun _=>rfl⟩
    ·cases hset
  ·cases hset
theorem UC(hti:xw P C.ti) {T:TypeId} {i:TI}(hi:look C.ti T=some i) {vv:Value} {c:List Value}(hc:vv.cells=c.toArray)(hs:i.ty.size=c.length)(ad:Addr) {w':World}
  (h:(storeCells ad c).run P w= .ok () w'):(storeVar T ad vv).run P w= .ok () w':=by
 unfold storeVar
 simp only[Sem.run_bind,hti.size T i w hi,Result.andThen_ok,hc,List.size_toArray]
 rw[if_neg (by omega)]
 simpa using h
theorem PO.at_of_get {o:PO} {p:Path} {y:V} {ρ:Rho} {w:World} {loc:Loc}(h:o.get p=some y)(hor:OR ρ w loc o):loc.ty.at p=some y.1:=by
 cases o with
 |obj t x=>rw[hor.1]; exact Ty.at_of_get h
 |row sh e t n f=>rw[hor.1]; exact Ty.at_of_get h
 |mp k v l=>cases h
 |dead=>cases h
include hti in
theorem SI(hr:aP B ρ s a w) {T:TypeId} {x y:PV} {vx vy:Value} {pv:PV} {u:Upd}(hx:VP ρ w x vx)(hy:VP ρ w y vy)(nx:Nat)(hn:ρ nx=none)(h:qO C.ti T x y s.h (fun p u=>some (p,u))=some (pv,u)):
  ∃w',(Instr.storeAt T vx vy).run P w= .ok () w'∧After B ρ s a w nx pv u 0 undef ρ w':=by
 unfold qO at h
 split at h
 ·rename_i t id p v
  split at h
  ·rename_i o ho
   split at h
   ·rename_i y0 i hy0 hi
    cases hb:Nat.beq i.ty.size y0.1.size
    ·rw[hb]at h; cases h
    ·rw[hb]at h; simp only[cond_true]at h
     split at h
     ·rename_i o' hset
      cases h
      obtain⟨loc,hloc,hok,hat,hcap,rfl⟩:=VR.ptrRf hx
      have hor:=hr.live ho (PO.ne_dead hy0) hloc
      have hat':=PO.at_of_get hy0 hor
      obtain⟨c,w',h1,h2,h3,h4⟩:=Fa (P:=P) hr ho hloc hok hat' hset hy nx (fun e=>by subst e; rw[hloc]at hn; cases hn)
      refine⟨w',?_,h4⟩
      simp only[Instr.storeAt,Instr.sureAddr,Sem.run_bind,Sem.run_pure,Result.andThen_ok]
      exact UC hti hi h1 (by rw[h2]; exact Nat.eq_of_beq_eq_true hb) _ h3
     ·cases h
   ·cases h
  ·cases h
 ·cases h
theorem Ey {id:Nat} {o:PO} {loc:Loc} {p:Path} {m:Nat} {t:Ty} {g:Nat→t.den}(hor:OR ρ w loc o)(hok:loc.ty.okP p)(hg:o.get p=some ⟨.arr m t,g⟩) {lo n:Nat}(hle:lo+n≤m):
  ∃c,Rd ρ w (.arr n t) (fun j=>g (lo+j)) c∧ ∀(j:Nat) v,c[j]?=some v→w.cell? ⟨loc.blk,loc.ty.off p+lo*t.size+j,none⟩=some v:=by
 have key: ∀(t0:Ty) (x:t0.den) (cs sp:List Value) (T:TypeId),loc.ty=t0→t0.get x p=some ⟨.arr m t,g⟩→Rd ρ w t0 x cs→lq w loc.blk (cs++sp) T→
   ∃c,Rd ρ w (.arr n t) (fun j=>g (lo+j)) c∧ ∀(j:Nat) v,c[j]?=some v→w.cell? ⟨loc.blk,loc.ty.off p+lo*t.size+j,none⟩=some v:=by
  intro t0 x cs sp T e hgx hc hb
  subst e
  have h1:Rd ρ w (.arr m t) g ((cs.drop (loc.ty.off p)).take (m*t.size)):=hc.get hok hgx
  have h2:=h1.sub hle
  have hle2:loc.ty.off p+m*t.size≤loc.ty.size:=Ty.off_le hok (Ty.at_of_get hgx)
  have hcs:=hc.length
  refine⟨_,h2,fun j v hj=>?_⟩
  have hl2:=h2.length
  simp only[Ty.size]at hl2
  have hj':j<n*t.size:=by rw[←hl2]; exact(List.getElem?_eq_some_iff.1 hj).1
  have hmul:(lo+n)*t.size≤m*t.size:=Nat.mul_le_mul_right _ hle
  rw[Nat.add_mul]at hmul
  rw[List.getElem?_take_of_lt hj',List.getElem?_drop,List.getElem?_take_of_lt (by omega),List.getElem?_drop]at hj
  rw[hb.cell]
  rw[List.getElem?_append_left (by omega),←hj]
  congr 1; omega
 cases o with
 |dead=>cases hg
 |mp k v l=>cases hg
 |obj t0 x=>
  obtain⟨e,_,cs,T,hc,hb,_⟩:=hor
  exact key t0 x cs [] T e hg hc (lq.of (by simpa using hb))
 |row sh T t0 k f=>
  obtain⟨e,_,cs,sp,hc,hb,_⟩:=hor
  exact key (.arr k t0) f cs sp T e hg hc.openAt hb.weak
include hti in
theorem UD(hr:aP B ρ s a w) {T:TypeId} {Ts:Array TypeId}(hT:Ts[0]?=some T) {ty:TypeId} {x y:PV} {vx vy:Value} {r:Ans}(hx:VP ρ w x vx)(hy:VP ρ w y vy)(nx:Nat)(hn:ρ nx=none)(h:Br C.ti T x y s.h pk=some r):
  ∃v w',(Builtin.copy_ Ts ty #[vx,vy]).run P w= .ok v w'∧After B ρ s a w nx r.1 r.2.1 0 v ρ w'∧r.2.2=0:=by
 unfold Br at h
 split at h
 ·rename_i i hi
  have hu:=hti.under T i hi
  split at h
  ·rename_i e hd
   rw[hd]at hu
   obtain⟨i',h1,h2,h3⟩:=oK hti hi hd
   split at h
   ·rename_i t id p lo len u id' p' lo' len'
    split at h
    ·rename_i ee
     obtain⟨rfl,e2⟩:=ee
     have:u=i'.ty:=by rw[h2]at e2; cases e2; rfl
     subst this
     cases hz0:Nat.ble len 0||Nat.ble len' 0
     ·rw[hz0]at h
      simp only[cond_false]at h
      simp only[Bool.or_eq_false_iff]at hz0
      have hp1:0<len:=by
       rcases Nat.eq_zero_or_pos len with e|e
       ·subst e; exact absurd hz0.1 (by decide)
       ·exact e
      have hp2:0<len':=by
       rcases Nat.eq_zero_or_pos len' with e|e
       ·subst e; exact absurd hz0.2 (by decide)
       ·exact e
      split at h
      ·rename_i o o' ho ho'
       split at h
       ·rename_i m' e' g hg
        split at h
        ·rename_i z hz
         cases h
         obtain⟨h0,_⟩|⟨loc,m,cap,od,hloc,hok,hat,hle,rfl,hod,_⟩:=VR.slMs hx
         ·omega
         obtain⟨h0,_⟩|⟨loc',m2,cap',os,hloc',hok',hat',hle',rfl,hos,_⟩:=VR.slMs hy
         ·omega
         have hor':=hr.live ho' (PO.ne_dead hg) hloc'
         have hga:=PO.at_of_get hg hor'
         rw[hat']at hga
         cases hga
         obtain⟨c,hc,hcell⟩:=Ey (id:=id') hor' hok' hg (lo:=lo') (n:=min len' len) (by omega)
         have hset:loc.ty.at (p++[.S lo (min len' len)])=some (.arr (min len' len) i'.ty):=by rw[Ty.at_append hat]; simp[Ty.at]
         obtain⟨c2,w',h4,h5,h6,h7⟩:=Fa (P:=P) hr ho hloc (Ty.okP_append hok hat (show(Ty.arr m i'.ty).okP [.S lo (min len' len)]from⟨by omega,Ty.okP_nil _⟩)) hset hz (v:=⟨.arr (min len' len) i'.ty,fun j=>g (lo'+j)⟩) ⟨c,hc,rfl⟩ nx (fun e=>by subst e; rw[hloc]at hn; cases hn)
         rw[jR hc]at h4
         have:c=c2:=by simpa using h4
         subst this
         have hcl:=hc.length
         simp only[Ty.size]at hcl
         refine⟨_,w',?_,⟨h7.rel,h7.later,VR.mkInt,h7.same,h7.new⟩,rfl⟩
         unfold Builtin.copy_
         have hT':Ts[0]?=some T:=hT
         simp only[hT',List.getElem?_toArray,List.getElem?_cons_zero,List.getElem?_cons_succ,Sem.run_bind,run_underlying hu,Result.andThen_ok,Builtin.lenOf,Sem.run_pure,hti.size e i' w h1,Builtin.firstCells]
         rw[show Nat.min len' len=min len' len from rfl]
         have hload:(loadCells ⟨loc'.blk,os,none⟩ (min len' len*i'.ty.size)).run P w= .ok c.toArray w:=by
          rw[←hcl,hos (by omega)]
          exact run_loadCells_list w _ c (fun j v hj=>by rw[gQ]; exact hcell j v hj)
         have hstore:(storeCells ⟨loc.blk,od,none⟩ c).run P w= .ok () w':=by
          rw[hod (by omega)]
          rw[Ty.off_append hat]at h6
          simpa [Ty.off]using h6
         rw[hload]
         simp only[Result.andThen_ok,hstore]
         rfl
        ·cases h
       ·cases h
      ·cases h
     ·rw[hz0]at h
      simp only[cond_true]at h
      cases h
      have form: ∀ {id p lo l v},VP ρ w (.v ⟨.sl i'.ty,.ms id p lo l⟩) v→ ∃b cap,v= .slice b l cap:=by
       intro id p lo l v hv
       rcases VR.slMs hv with⟨rfl,rfl⟩|⟨_,_,_,_,_,_,_,_,rfl,_⟩
       ·exact⟨_,_,rfl⟩
       ·exact⟨_,_,rfl⟩
      obtain⟨b1,c1,rfl⟩:=form hx
      obtain⟨b2,c2,rfl⟩:=form hy
      refine⟨_,w,?_,After.pure hr VR.mkInt,rfl⟩
      have h0:Nat.min len' len=0:=by
       simp only[Bool.or_eq_true]at hz0
       rcases hz0 with e|e
       ·have:=Nat.le_of_ble_eq_true e; show min len' len=0; omega
       ·have:=Nat.le_of_ble_eq_true e; show min len' len=0; omega
      unfold Builtin.copy_
      have hT':Ts[0]?=some T:=hT
      simp only[hT',List.getElem?_toArray,List.getElem?_cons_zero,List.getElem?_cons_succ,Sem.run_bind,run_underlying hu,Result.andThen_ok,Builtin.lenOf,Sem.run_pure,hti.size e i' w h1,h0]
      have hf:(Builtin.firstCells i'.ty.size 0 (.slice b2 len' c2)).run P w= .ok #[] w:=by
       cases b2 with
       |none=>exact run_firstCells_none ..
       |some a=>exact run_firstCells_some w _ 0 a _ _ [] (by simp) (fun j v h=>by simp at h)
      rw[hf]
      simp only[Result.andThen_ok]
      cases b1<;>rfl
    ·cases h
   ·cases h
  ·cases h
 ·cases h
end
end Go.Den
namespace Go.Den
section
variable {P:Program} {C:Cx} (hti:xw P C.ti) {B:Base} {ρ:Rho} {s:DS} {a:Act} {w:World}
theorem Rd.congr {t:Ty} {n:Nat} {ρ:Rho} {w:World} {f g:Nat→t.den} {cs:List Value}(h:Rd ρ w (.arr n t) f cs)(e: ∀i,i<n→f i=g i):Rd ρ w (.arr n t) g cs:=
 ⟨h.1,fun i hi=>by rw[←e i hi]; exact h.2 i hi⟩
theorem Rd.glue {t:Ty} {n m:Nat} {ρ:Rho} {w:World} {f g:Nat→t.den} {xs ys:List Value}(h:Rd ρ w (.arr n t) f xs)(h':Rd ρ w (.arr m t) g ys):Rd ρ w (.arr (n+m) t) (Den.glue n f g) (xs++ys):=by
 have h1:xs.length=n*t.size:=h.1
 have h2:ys.length=m*t.size:=h'.1
 refine⟨by rw[List.length_append,h1,h2,Nat.add_mul],fun i hi=>?_⟩
 unfold Den.glue
 by_cases hin:i<n
 ·have hb:Nat.blt i n=true:=by simpa [Nat.blt_eq]using hin
  rw[hb,cond_true]
  have hm:=gq (s:=t.size) hin
  rw[List.drop_append_of_le_length (by omega),List.take_append_of_le_length (by rw[List.length_drop]; omega)]
  exact h.2 i hin
 ·have hb:Nat.blt i n=false:=by
   cases hbb:Nat.blt i n
   ·rfl
   ·exact absurd (by simpa [Nat.blt_eq]using hbb) hin
  rw[hb,cond_false]
  have hge:n*t.size≤i*t.size:=Nat.mul_le_mul_right _ (by omega)
  rw[List.drop_append,List.drop_eq_nil_of_le (by omega),List.nil_append,h1,←Nat.sub_mul]
  exact h'.2 (i-n) (by omega)
theorem Rd.weakAt {sh sh':Bool} {t:Ty} {ρ:Rho} {w:World} {x:t.den} {cs:List Value}(h:Rd (ρ.at sh) w t x cs):Rd (ρ.at (sh&&sh')) w t x cs∧Rd (ρ.at (sh'&&sh)) w t x cs:=by
 cases sh'<;>cases sh
 ·exact⟨h,h⟩
 ·exact⟨h.openIn,h.openIn⟩
 ·exact⟨h,h⟩
 ·exact⟨h,h⟩
theorem a9X {t:Ty} {ρ:Rho} {w:World} {f:Nat→t.den} {a:Option Addr} : ∀(n:Nat),(∀i,i<n→ ∃b o c,a=some ⟨b,o,none⟩∧Rd ρ.shut w t (f i) c∧Fz ρ w b (o+i*t.size) c)→
  ∃cs,Rd ρ.shut w (.arr n t) f cs∧ ∀b o,a=some ⟨b,o,none⟩→ ∀(j:Nat) v,cs[j]?=some v→w.cell? ⟨b,o+j,none⟩=some v:=by
 intro n
 induction n with
 |zero=>intro _; exact⟨[],⟨by simp,fun i hi=>by omega⟩,fun b o _ j v hj=>by simp at hj⟩
 |succ n ih=>
  intro h
  obtain⟨cs,h1,h2⟩:=ih (fun i hi=>h i (by omega))
  obtain⟨b,o,c,h3,h4,h5⟩:=h n (by omega)
  have h6:Rd ρ.shut w (.arr 1 t) (fun _=>f n) c:=⟨by rw[h4.length]; simp,fun i hi=>by
   have:i=0:=by omega
   subst this
   exact h4.take_all|> fun h=>by simpa using h⟩
  refine⟨cs++c,(h1.glue h6).congr (fun i hi=>?_),fun b' o' e j v hj=>?_⟩
  ·unfold Den.glue
   by_cases hin:i<n
   ·have hb:Nat.blt i n=true:=by simpa [Nat.blt_eq]using hin
    rw[hb]; rfl
   ·have:i=n:=by omega
    subst this
    have hb:Nat.blt i i=false:=by
     cases hbb:Nat.blt i i
     ·rfl
     ·simp at hbb
    rw[hb]; rfl
  ·have hl:cs.length=n*t.size:=h1.1
   by_cases hjl:j<cs.length
   ·rw[List.getElem?_append_left hjl]at hj
    exact h2 b' o' e j v hj
   ·rw[List.getElem?_append_right (by omega)]at hj
    rw[h3]at e; cases e
    have:=h5.2.2 (j-cs.length) v hj
    rw[←this]; congr 2; omega
theorem a9Y {t:Ty}(hf:t.flat=true) {n:Nat} {ρ:Rho} {w:World} {x:Nat→t.den} {cs:List Value}(h:Rd ρ w (.arr n t) x cs)(sh:Bool):Rd (ρ.at sh) w (.arr n t) x cs:=by
 cases sh
 ·exact h
 ·exact Rd.shutFlat h hf
theorem Dk(hr:aP B ρ s a w) {x:PV} {vx:Value} {t:Ty} {sh:Bool} {m:Nat} {g:Nat→t.den}(hx:VP ρ w x vx)(h:sO x t s.h=some (sh,m,g)):
  ∃ad cap news,vx= .slice ad m cap∧Rd (ρ.at sh) w (.arr m t) g news∧(m=0∨ ∃b,ad=some b)∧ ∀b,ad=some b→ ∀(j:Nat) v,news[j]?=some v→w.cell? (b.add j)=some v:=by
 have z0: ∀(ρ:Rho) (g:Nat→t.den),Rd ρ w (.arr 0 t) g []:=fun ρ g=>⟨by simp,fun i hi=>by omega⟩
 unfold sO at h
 split at h
 ·cases h
  have e:=VR.slNil hx; subst e
  exact⟨_,_,[],rfl,z0 _ _,.inl rfl,fun b e=>by cases e⟩
 ·rename_i u n f
  split at h
  ·rename_i e; subst e
   cases h
   obtain⟨ad,cap,rfl,_,hall⟩:=VR.slFz hx
   obtain⟨cs,h1,h2⟩:=a9X _ hall
   refine⟨ad,cap,cs,rfl,h1,?_,fun b e j v hj=>?_⟩
   ·rcases Nat.eq_zero_or_pos m with h0|h0
    ·exact .inl h0
    ·obtain⟨b,o,c,e,_⟩:=hall 0 h0; exact .inr ⟨_,e⟩
   ·rcases Nat.eq_zero_or_pos m with h0|h0
    ·subst h0
     have:=h1.1
     simp at this; subst this; simp at hj
    ·obtain⟨b',o,c,e',_⟩:=hall 0 h0
     rw[e']at e; cases e
     rw[gQ]; exact h2 b' o e' j v hj
  ·cases h
 ·rename_i u id p lo len
  split at h
  ·rename_i o ho
   split at h
   ·rename_i k t' g' hg
    split at h
    ·rename_i e
     obtain⟨e1,e2⟩:=e
     subst e1; subst e2
     cases h
     rcases VR.slMs hx with⟨h0,rfl⟩|⟨loc,m',cap,od,hloc,hok,hat,hle,rfl,hod,hlc,_⟩
     ·subst h0
      exact⟨_,_,[],rfl,z0 _ _,.inl rfl,fun b e=>by cases e⟩
     ·have hor:=hr.live ho (PO.ne_dead hg) hloc
      have hga:=PO.at_of_get hg hor
      rw[hat]at hga; cases hga
      obtain⟨c,hc,hcell⟩:=Ey (id:=id) hor hok hg (lo:=lo) (n:=m) hle
      refine⟨_,_,c,rfl,?_,.inr ⟨_,rfl⟩,fun b e j v hj=>?_⟩
      ·cases hfl:u.flat
       ·rw[Bool.false_or]
        cases o with
        |obj t0 x0=>exact hc
        |mp k0 v0 l0=>cases hg
        |dead=>cases hg
        |row sh e0 t0 n0 f0=>
         cases p with
         |cons s p=>exact hc
         |nil=>
          obtain⟨e1,_,cs,sp,hcs,hb,_⟩:=hor
          cases sh
          ·exact hc
          ·
           rw[show(PO.row true e0 t0 n0 f0).get []=some ⟨.arr n0 t0,f0⟩from rfl]at hg
           cases hg
           have h3:=Rd.sub hcs hle
           have hl1:=hc.length
           have hl2:=h3.length
           have:c=((cs.drop (lo*u.size)).take (m*u.size)):=by
            apply List.ext_getElem?
            intro j
            by_cases hj:j<c.length
            ·obtain⟨v,hv⟩: ∃v,c[j]?=some v:=⟨_,List.getElem?_eq_getElem hj⟩
             have h4:=hcell j v hv
             rw[hb.cell]at h4
             simp only[Ty.size]at hl1 hl2
             have hmul:(lo+m)*u.size≤k*u.size:=Nat.mul_le_mul_right _ hle
             rw[Nat.add_mul]at hmul
             have hcl:cs.length=k*u.size:=hcs.1
             rw[Ty.off_nil]at h4
             rw[List.getElem?_append_left (by omega)]at h4
             rw[hv,List.getElem?_take_of_lt (by omega),List.getElem?_drop,←h4]
             congr 1; omega
            ·rw[List.getElem?_eq_none (by omega),List.getElem?_eq_none (by omega)]
           rw[this]; exact h3
       ·exact a9Y hfl hc _
      ·cases e
       rcases Nat.eq_zero_or_pos m with h0|h0
       ·subst h0
        have:=hc.1
        simp at this; subst this; simp at hj
       ·rw[gQ,hod h0]; exact hcell j v hj
    ·cases h
   ·cases h
  ·cases h
 ·cases h
theorem aP.idleRow(h:aP B ρ s a w) {nx:Nat}(hn:ρ nx=none)(sh:Bool)(e:TypeId)(t:Ty)(f:Nat→t.den):aP B ρ { s with hp:=(nx,.row sh e t 0 f)::s.hp } a w:=by
 have hlk: ∀id' o1,look ((nx,PO.row sh e t 0 f)::s.hp) id'=some o1→(id'=nx∧o1= .row sh e t 0 f)∨look s.hp id'=some o1:=by
  intro id' o1 h1
  rw[aV]at h1
  split at h1
  ·rename_i e; simp only[Option.some.injEq]at h1; exact .inl ⟨e.symm,h1.symm⟩
  ·exact .inr h1
 refine⟨h.defers,h.tmps,h.env,fun id' o1 hl'=>?_,fun i j o1 o2 l1 l2 h1 h2 d1 d2 h3 h4 h5=>?_,h.own,h.ownA,h.base,h.may⟩
 ·rcases hlk id' o1 hl' with⟨rfl,rfl⟩|h1
  ·exact .inl (.inr ⟨hn,sh,e,t,f,rfl⟩)
  ·exact h.obj id' o1 h1
 ·rcases hlk i o1 h1 with⟨rfl,_⟩|h1
  ·rw[hn]at h3; cases h3
  ·rcases hlk j o2 h2 with⟨rfl,_⟩|h2
   ·rw[hn]at h4; cases h4
   ·exact h.inj i j o1 o2 l1 l2 h1 h2 d1 d2 h3 h4 h5
theorem JF(hr:aP B ρ s a w) {d:PV} {vd:Value} {t:Ty} {e:TypeId} {sh:Bool} {n:Nat} {f:Nat→t.den} {u:Upd}(hx:VP ρ w d vd)(h:rowOf d t e s.h=some (sh,n,f,u)):
  (vd= .slice none 0 0∧n=0∧ ∃id,u=[]∨u=[(id,.dead)])∨
  ∃(id:Nat) (loc:Loc) (cap k:Nat) (f0:Nat→t.den) (cs sp:List Value),u=[(id,.dead)]∧s.h id=some (.row sh e t k f0)∧ρ id=some loc∧loc.cap=some cap∧vd= .slice (some ⟨loc.blk,0,none⟩) n cap∧n≤cap∧cap≤9223372036854775807∧
   Rd (ρ.at sh) w (.arr n t) f cs∧lq w loc.blk (cs++sp) e t∧(cs++sp).length=cap*t.size:=by
 unfold rowOf at h
 split at h
 ·cases h
  exact .inl ⟨VR.slNil hx,rfl,0,.inl rfl⟩
 ·rename_i u' id len
  split at h
  ·rename_i sh' e' t' k f' ho
   split at h
   ·rename_i ht
    obtain⟨h1,h2⟩:=ht
    subst h1; subst h2
    cases hb:Nat.beq e' e
    ·rw[hb]at h; cases h
    ·rw[hb]at h; simp only[cond_true]at h
     have:=Nat.eq_of_beq_eq_true hb
     subst this
     cases h
     rcases VR.slMs hx with⟨h0,rfl⟩|⟨loc,m',cap,od,hloc,hok,hat,hle,rfl,hod,hlc,hcap⟩
     ·exact .inl ⟨rfl,h0,id,.inr rfl⟩
     ·have hor:=hr.live ho (by intro e; cases e) hloc
      obtain⟨e1,_,cs,sp,hcs,hb,cap',hc1,hc2,hc3,hc4⟩:=hor
      obtain⟨e2,e3⟩:=hcap cap' hc1 rfl rfl
      subst e2; subst e3
      rw[e1,Ty.at_nil]at hat; cases hat
      have hcl:cs.length=k*u'.size:=hcs.1
      have hmul:n*u'.size≤k*u'.size:=Nat.mul_le_mul_right _ (by omega)
      have h3:=Rd.sub hcs (lo:=0) (n:=n) (by omega)
      simp only[Nat.zero_mul,List.drop_zero,Nat.zero_add]at h3
      refine .inr ⟨id,loc,cap,k,f',cs.take (n*u'.size),cs.drop (n*u'.size)++sp,rfl,ho,hloc,hc1,rfl,hlc,hc4,h3,?_,?_⟩
      ·rw[←List.append_assoc,List.take_append_drop]; exact hb
      ·rw[←List.append_assoc,List.take_append_drop]; exact hc2
   ·cases h
  ·cases h
 ·cases h
theorem rU {z:Array Value} {n:Nat} :(Builtin.zeroCells z n).toList.length=n*z.size:=by rw[Array.length_toList,size_zeroCells]
theorem JG {P:Program} {w:World}(fr:Nat×Nat)(t ty e:TypeId)(i:TypeInfo)(ht:P.underlying t=some (.slice e))(hi:P.info? e=some i)
  (g sLen sCap:Nat) (cur:Array Value) (hg:w.heap[g]?=some (.cells cur e fr)) (hfr:fr=(0,0)∨cur.size≤fr.1)
  (a:Addr) (m c:Nat) (news:List Value) (hl:news.length=m*i.size) (hnews: ∀j u,news[j]?=some u→w.cell? (a.add j)=some u) (h1: ∀u∈news,u.oneCell'=true)
  (hroom:sLen+m≤sCap) (hfit:sLen*i.size+news.length≤cur.size):
  (Builtin.append_ #[t,t] ty #[.slice (some ⟨g,0,none⟩) sLen sCap,.slice (some a) m c]).run P w=
   .ok (.slice (some ⟨g,0,none⟩) (sLen+m) sCap) (w.setRow g (cur.toList.take (sLen*i.size)++news++cur.toList.drop (sLen*i.size+news.length)).toArray):=by
 have hf:=run_firstCells_some (P:=P) w i.size m a m c news hl hnews
 have hst:=oz (P:=P) fr g (sLen*i.size) e news 0 cur w hg hfr (by simpa using hfit) h1
 simp only[Nat.add_zero]at hst
 simp[Builtin.append_,run_underlying ht,sizeOf,typeInfo,hi,Builtin.lenOf,hroom,hf,Addr.add_lit,hst]
include hti in
theorem Qg(hr:aP B ρ s a w) {T ty:TypeId} {x y:PV} {vx vy:Value} {r:Ans}(hx:VP ρ w x vx)(hy:VP ρ w y vy)(nx:Nat)(hn:ρ nx=none)(h:iV C.ti T x y s.h nx pk=some r):
  ∃ρ' v w',(Builtin.append_ #[T,T] ty #[vx,vy]).run P w= .ok v w'∧After B ρ s a w nx r.1 r.2.1 r.2.2 v ρ' w':=by
 unfold iV at h
 split at h
 ·rename_i i hi
  have hu:=hti.under T i hi
  split at h
  ·rename_i e t hd hty
   rw[hd]at hu
   obtain⟨ie',h1,h2,h3⟩:=oK hti hi hd
   split at h
   ·rename_i ie hie
    have hii:ie=ie':=by rw[h1]at hie; cases hie; rfl
    subst hii
    have het:t=ie.ty:=by rw[hty]at h2; cases h2; rfl
    subst het
    split at h
    ·split at h
     ·rename_i sh n f u sh' m g hro hel
      cases hb:Nat.ble ((n+m)*ie.bytes) 140737488355328&&Nat.ble (n+m) 9223372036854775807
      ·rw[hb]at h; cases h
      ·rw[hb]at h; simp only[cond_true]at h
       simp only[Bool.and_eq_true]at hb
       have hb1:=Nat.le_of_ble_eq_true hb.1
       have hb2:=Nat.le_of_ble_eq_true hb.2
       cases h
       obtain⟨inf,hinf,hsz,hby,hzero⟩:=hti.info e ie h1
       have hz:(mkV ie.ty ie.ty.zcells).cells.size=ie.ty.size:=by rw[jR (Rd.zero ρ w ie.ty)]; simp[dG]
       obtain⟨ad,ycap,news,rfl,hnews,had,hcell⟩:=Dk hr hy hel
       have hnl:news.length=m*ie.ty.size:=hnews.1
       have hone:=Bw hnews.openAt
       have fresh: ∀(s1:DS) (xs:List Value) (old:Nat),aP B ρ s1 a w→Rd (ρ.at sh) w (.arr n ie.ty) f xs→old<n+m→
         ∃ρ',aP B ρ' { s1 with hp:=(nx,.row (sh&&sh') e ie.ty (n+m) (Den.glue n f g))::s1.hp } a (w.drew.alloc (.cells (xs.toArray++news.toArray++Builtin.zeroCells (mkV ie.ty ie.ty.zcells).cells (grownCap w (n+m) old e-(n+m))) e))∧
          Later ρ w ρ' (w.drew.alloc (.cells (xs.toArray++news.toArray++Builtin.zeroCells (mkV ie.ty ie.ty.zcells).cells (grownCap w (n+m) old e-(n+m))) e))∧
          ρ' nx=some ⟨w.heap.size,.arr (n+m) ie.ty,some (grownCap w (n+m) old e)⟩∧ ∀id,id≠nx→ρ' id=ρ id:=by
        intro s1 xs old hr1 hxs ho
        have hge:=grownCap_ge w (n+m) old e
        have hcm:grownCap w (n+m) old e≤maxLen:=grownCap_le_maxLen w (n+m) old e (by simp only[maxLen]; omega)
        have hrd:=(Rd.weakAt (sh':=sh') hxs).1.glue (Rd.weakAt (sh':=sh) hnews).2
        refine hr1.alloc nx hn (.row (sh&&sh') e ie.ty (n+m) (Den.glue n f g)) (xs.toArray++news.toArray++Builtin.zeroCells (mkV ie.ty ie.ty.zcells).cells (grownCap w (n+m) old e-(n+m))) e _ _ (fun ρ' w' L hW hb=>⟨rfl,hW,xs++news,(Builtin.zeroCells (mkV ie.ty ie.ty.zcells).cells (grownCap w (n+m) old e-(n+m))).toList,hrd.keeps (L.keeps.at _),lq.of ?_,_,rfl,?_,hge,by simp only[maxLen]at hcm; omega⟩) _ ?_ rfl rfl rfl
        ·rw[hb]; congr 2; apply Array.ext'; simp
        ·rw[List.length_append,rU,hz,List.length_append,hxs.1,hnl,←Nat.add_mul,←Nat.add_mul]
         congr 1; omega
        ·simp only[World.alloc]; rfl
       have val: ∀(ρ':Rho) (w':World) (blk cap:Nat),ρ' nx=some ⟨blk,.arr (n+m) ie.ty,some cap⟩→n+m≤cap→VP ρ' w' (.v ⟨.sl ie.ty,.ms nx [] 0 (n+m)⟩) (.slice (some ⟨blk,0,none⟩) (n+m) cap):=by
        intro ρ' w' blk cap h hc
        exact⟨[_],.inr ⟨_,n+m,cap,0,h,Ty.okP_nil _,Ty.at_nil _,by omega,rfl,fun _=>by rw[Ty.off_nil]; simp,hc,fun c hc _ _=>⟨by cases hc; rfl,rfl⟩⟩,rfl⟩
       rcases JF hr hx hro with⟨rfl,rfl,id,hu'⟩|⟨id,loc,cap,k,f0,cs,sp,rfl,hsid,hloc,hlcap,rfl,hnc,hcm,hcs,hblk0,hlen⟩
       ·
        have hr1:aP B ρ { s with hp:=u++s.hp } a w:=by
         rcases hu' with rfl|rfl
         ·exact hr
         ·exact hr.kill id
        rcases Nat.eq_zero_or_pos m with hm|hm
        ·subst hm
         have:news=[]:=List.eq_nil_of_length_eq_zero (by simpa using hnl)
         subst this
         refine⟨ρ,.slice none 0 0,w,?_,⟨hr1.idleRow hn _ _ _ _,Later.refl _ _,⟨[_],.inl ⟨rfl,rfl⟩,rfl⟩,fun _ _=>rfl,fun h=>by cases h⟩⟩
         have hf:(Builtin.firstCells inf.size 0 (.slice ad 0 ycap)).run P w= .ok #[] w:=by
          cases ad with
          |none=>exact run_firstCells_none ..
          |some b=>exact run_firstCells_some w _ 0 b _ _ [] (by simp) (fun j v h=>by simp at h)
         simp[Builtin.append_,run_underlying hu,sizeOf,typeInfo,hinf,Builtin.lenOf,hf]
        ·obtain⟨b,rfl⟩: ∃b,ad=some b:=by
          rcases had with h|h
          ·omega
          ·exact h
         have hrun:=run_append_nil (P:=P) w T ty e inf _ hu hinf hzero b m ycap news (by rw[hsz]; exact hnl) (hcell b rfl) hm (by omega) (by rw[hby]; simp only[Nat.zero_add]at hb1; omega)
         have:=fresh { s with hp:=u++s.hp } [] 0 hr1 ⟨by simp,fun i hi=>by omega⟩ (by omega)
         simp only[Nat.zero_add,Array.empty_append]at this val⊢
         obtain⟨ρ',h4,h5,h6,h7⟩:=this
         refine⟨ρ',_,_,hrun,⟨h4,h5,val ρ' _ _ _ h6 (by have:=grownCap_ge w m 0 e; omega),h7,fun h=>by cases h⟩⟩
       ·obtain⟨fr,hblk,hfr⟩:=hblk0
        by_cases hroom:n+m≤cap
        ·
         have hnl1:cs.length=n*ie.ty.size:=hcs.1
         have hmul:(n+m)*ie.ty.size≤cap*ie.ty.size:=Nat.mul_le_mul_right _ hroom
         rw[Nat.add_mul]at hmul
         have hsl:(cs++sp).length=cs.length+sp.length:=List.length_append
         have key: ∀w',w'.heap.size=w.heap.size→(∀b,b≠loc.blk→w'.heap[b]?=w.heap[b]?)→w'.os=w.os→w'.tape=w.tape→w'.output=w.output→
           w'.heap[loc.blk]?=some (.cells (cs++news++sp.drop news.length).toArray e fr)→
           ∃ρ',After B ρ s a w nx (.v ⟨.sl ie.ty,.ms nx [] 0 (n+m)⟩) [(nx,.row (sh&&sh') e ie.ty (n+m) (Den.glue n f g)),(id,.dead)] 1 (.slice (some ⟨loc.blk,0,none⟩) (n+m) cap) ρ' w':=by
          intro w' e1 e2 e3 e4 e5 e6
          have hrd:=(Rd.weakAt (sh':=sh') hcs).1.glue (Rd.weakAt (sh':=sh) hnews).2
          obtain⟨ρ',h4,h5,h6,h7⟩:=hr.renew hsid (by intro e; cases e) (by intro e; cases e) hloc hn (.arr (n+m) ie.ty) (o':=.row (sh&&sh') e ie.ty (n+m) (Den.glue n f g)) w' e1 e2 e3 e4 e5 (wu hblk e6) (fun ρ' L hW=>
           ⟨rfl,hW,cs++news,sp.drop news.length,hrd.keeps (L.keeps.at _),⟨fr,e6,hfr.imp_right fun h=>⟨by
            have:(cs++news++sp.drop news.length).length=(cs++sp).length:=by rw[List.length_append,List.length_append,List.length_drop,List.length_append]; omega
            have:=h.1; omega,h.2⟩⟩,cap,hlcap,by rw[List.length_append,List.length_append,List.length_drop]; omega,hroom,hcm⟩)
          rw[hlcap]at h6
          exact⟨ρ',h4,h5,val ρ' _ _ _ h6 hroom,h7,fun h=>by cases h⟩
         cases ad with
         |none=>
          have hm:m=0:=by
           rcases had with h|⟨b,h⟩
           ·exact h
           ·cases h
          subst hm
          have:news=[]:=List.eq_nil_of_length_eq_zero (by simpa using hnl)
          subst this
          obtain⟨ρ',h4⟩:=key w rfl (fun _ _=>rfl) rfl rfl rfl (by simpa using hblk)
          refine⟨ρ',_,w,?_,h4⟩
          have hf:(Builtin.firstCells inf.size 0 (.slice none 0 ycap)).run P w= .ok #[] w:=run_firstCells_none ..
          simp[Builtin.append_,run_underlying hu,sizeOf,typeInfo,hinf,Builtin.lenOf,hf,hnc,storeCells]
         |some b=>
          have hrun:=JG (P:=P) fr T ty e inf hu hinf loc.blk n cap _ hblk (by simpa using hfr.imp_right And.left) b m ycap news (by rw[hsz]; exact hnl) (hcell b rfl) hone hroom (by rw[hsz]; simp only[List.size_toArray]; omega)
          have hlist:(cs++sp).toArray.toList.take (n*inf.size)++news++(cs++sp).toArray.toList.drop (n*inf.size+news.length)=cs++news++sp.drop news.length:=by
           rw[hsz,List.take_append_of_le_length (by omega),List.take_of_length_le (by omega),List.drop_append,List.drop_eq_nil_of_le (by omega),List.nil_append]
           congr 2; omega
          rw[hlist]at hrun
          obtain⟨ρ',h4⟩:=key _ (by simp) (fun b hb=>setRow_other w _ _ _ hb) rfl rfl rfl (setRow_heap w _ _ _ e _ hblk)
          exact⟨ρ',_,_,hrun,h4⟩
        ·
         have hm:0<m:=by omega
         obtain⟨b,rfl⟩: ∃b,ad=some b:=by
          rcases had with h|h
          ·omega
          ·exact h
         have holds: ∀(j:Nat) u,cs[j]?=some u→w.cell? ((⟨loc.blk,0,none⟩:Addr).add j)=some u:=by
          intro j u hj
          rw[gQ,cell_of_row w _ _ _ _ _ hblk]
          simp only[List.getElem?_toArray,Nat.zero_add]
          rw[List.getElem?_append_left (List.getElem?_eq_some_iff.1 hj).1]; exact hj
         have hrun:=run_append_grow (P:=P) w T ty e inf _ hu hinf hzero ⟨loc.blk,0,none⟩ n cap cs (by rw[hsz]; exact hcs.1) holds b m ycap news (by rw[hsz]; exact hnl) (hcell b rfl) (by omega) (by omega) (by rw[hby]; exact growslice_fits (by omega) hb1)
         obtain⟨ρ',h4,h5,h6,h7⟩:=fresh { s with hp:=(id,.dead)::s.hp } cs cap (hr.kill id) hcs (by omega)
         exact⟨ρ',_,_,hrun,⟨h4,h5,val ρ' _ _ _ h6 (grownCap_ge w (n+m) cap e),h7,fun h=>by cases h⟩⟩
     ·cases h
    ·cases h
   ·cases h
  ·cases h
 ·cases h
include hti in
theorem UE(hr:aP B ρ s a w) {T:TypeId} {x y:PV} {vx vy:Value} {r:Ans}(hx:VP ρ w x vx)(hy:VP ρ w y vy)(nx:Nat)(hn:ρ nx=none)(h:Dg C.ti T x y nx pk=some r):
  ∃ρ' v w',(Instr.makeSlice T vx vy).run P w= .ok v w'∧After B ρ s a w nx r.1 r.2.1 r.2.2 v ρ' w':=by
 unfold Dg at h
 split at h
 ·rename_i i hi
  have hu:=hti.under T i hi
  split at h
  ·rename_i e t hd hty
   rw[hd]at hu
   obtain⟨ie',h1,h2,h3⟩:=oK hti hi hd
   split at h
   ·rename_i ie hie
    have hii:ie=ie':=by rw[h1]at hie; cases hie; rfl
    subst hii
    have het:t=ie.ty:=by rw[hty]at h2; cases h2; rfl
    subst het
    split at h
    ·split at h
     ·rename_i k l k' c
      cases hb:decide (0≤l)&&decide (l≤c)&&decide ((ie.bytes:Int)*c≤281474976710656)&&decide (c≤9223372036854775807)
      ·rw[hb]at h; cases h
      ·rw[hb]at h; simp only[cond_true]at h
       simp only[Bool.and_eq_true,decide_eq_true_eq]at hb
       obtain⟨⟨⟨h0,hlc⟩,hby'⟩,hc63⟩:=hb
       cases h
       have ex:=VR.int hx; have ey:=VR.int hy
       subst ex; subst ey
       obtain⟨inf,hinf,hsz,hby,hzero⟩:=hti.info e ie h1
       have hz:(mkV ie.ty ie.ty.zcells).cells.size=ie.ty.size:=by rw[jR (Rd.zero ρ w ie.ty)]; simp[dG]
       have hrun:=run_make (P:=P) w T e inf _ hu hinf hzero k k' l c h0 hlc (by rw[hby]; exact hby') hc63
       have hcells:madeCells (mkV ie.ty ie.ty.zcells).cells (c.toNat*inf.size)=(Ty.arr c.toNat ie.ty).zcells.toArray:=by
        rw[jR (Rd.zero ρ w ie.ty),hsz]
        have:=xA ie.ty.zcells c.toNat
        rw[dG]at this
        unfold madeCells
        rw[this]; rfl
       rw[hcells]at hrun
       have hzr:=Rd.zero ρ.shut w (.arr c.toNat ie.ty)
       have h4:Int.toNat l≤Int.toNat c:=Int.toNat_le_toNat hlc
       have hzr2:=Rd.sub hzr (lo:=0) (n:=l.toNat) (by omega)
       simp only[Nat.zero_mul,List.drop_zero]at hzr2
       obtain⟨ρ',h5,h6,h7,h8⟩:=hr.alloc nx hn (.row true e ie.ty l.toNat fun _=>ie.ty.zero) (Ty.arr c.toNat ie.ty).zcells.toArray e (.arr l.toNat ie.ty) (some c.toNat) (fun ρ' w' L hW hb=>⟨rfl,hW,_,(Ty.arr c.toNat ie.ty).zcells.drop (l.toNat*ie.ty.size),hzr2.keeps (L.keeps.at true),lq.of (by rw[hb]; congr 2; rw[List.take_append_drop]),_,rfl,by rw[List.take_append_drop,dG]; rfl,h4,Int.toNat_le_toNat hc63⟩) (w.alloc (.cells (Ty.arr c.toNat ie.ty).zcells.toArray e)) rfl rfl rfl rfl
       refine⟨ρ',_,_,hrun,⟨h5,h6,⟨[_],.inr ⟨_,l.toNat,c.toNat,0,h7,Ty.okP_nil _,Ty.at_nil _,by omega,rfl,fun _=>by rw[Ty.off_nil]; simp,h4,fun c hc _ _=>⟨by cases hc; rfl,rfl⟩⟩,rfl⟩,h8,fun h=>by cases h⟩⟩
     ·cases h
    ·cases h
   ·cases h
  ·cases h
 ·cases h
theorem acP(hr:aP B ρ s a w)(nx:Nat) {t:Ty} {x:t.den} {cs:List Value}(T:TypeId)(hc:Rd ρ w t x cs)(hb:fV t x=true):
  After B ρ s a w nx (.v ⟨.ptr t,.fz x⟩) [] 1 (.pointer (some ⟨w.heap.size,0,none⟩)) ρ (w.alloc (.cells cs.toArray T)):=by
 have hheap:(w.alloc (.cells cs.toArray T)).heap=w.heap.push (.cells cs.toArray T):=rfl
 have hsz:(w.alloc (.cells cs.toArray T)).heap.size=w.heap.size+1:=by rw[hheap]; simp
 have hold: ∀b,b<w.heap.size→(w.alloc (.cells cs.toArray T)).heap[b]?=w.heap[b]?:=fun b hb=>by rw[hheap,Array.getElem?_push,if_neg (by omega)]
 have hs:=hr.same (w':=w.alloc (.cells cs.toArray T)) (by omega) hold rfl rfl rfl (fun a ha=>by simp only[World.frozen?,hold _ ha])
 have hnA: ¬ρ.A w.heap.size:=fun h=>by have:=hr.ownA _ h; omega
 have hR:Rd ρ.shut (w.alloc (.cells cs.toArray T)) t x cs:=(hc.shutOf hb).keeps hs.2.keeps.shut
 refine⟨hs.1,hs.2,⟨_,⟨_,0,cs,rfl,hR,hnA,by omega,fun j v hj=>?_⟩,rfl⟩,fun _ _=>rfl,fun _=>rfl⟩
 simp only[World.cell?,hheap,Nat.zero_add]
 rw[Array.getElem?_push,if_pos rfl]
 simpa using hj
theorem a3z(hr:aP B ρ s a w)(nx:Nat) {t:Ty} {n:Nat} {f:Nat→t.den} {cs:List Value}(e:TypeId)(hc:Rd ρ w (.arr n t) f cs)(hb:t.flat=true):
  After B ρ s a w nx (.v ⟨.sl t,.fz n f⟩) [] 1 (.slice (some ⟨w.heap.size,0,none⟩) n n) ρ (w.alloc (.cells cs.toArray e)):=by
 have hheap:(w.alloc (.cells cs.toArray e)).heap=w.heap.push (.cells cs.toArray e):=rfl
 have hsz:(w.alloc (.cells cs.toArray e)).heap.size=w.heap.size+1:=by rw[hheap]; simp
 have hold: ∀b,b<w.heap.size→(w.alloc (.cells cs.toArray e)).heap[b]?=w.heap[b]?:=fun b hb=>by rw[hheap,Array.getElem?_push,if_neg (by omega)]
 have hs:=hr.same (w':=w.alloc (.cells cs.toArray e)) (by omega) hold rfl rfl rfl (fun a ha=>by simp only[World.frozen?,hold _ ha])
 have hnA: ¬ρ.A w.heap.size:=fun h=>by have:=hr.ownA _ h; omega
 refine⟨hs.1,hs.2,⟨_,⟨some ⟨w.heap.size,0,none⟩,n,rfl,Nat.le_refl _,fun i hi=>?_⟩,rfl⟩,fun _ _=>rfl,fun _=>rfl⟩
 have hi':=hc.2 i hi
 refine⟨w.heap.size,0,_,rfl,(show Rd ρ.shut w t (f i) _ from hi'.atOf (sh:=true) (by simp[hb])).keeps hs.2.keeps.shut,hnA,by omega,fun j v hj=>?_⟩
 simp only[World.cell?,hheap,Nat.zero_add]
 rw[Array.getElem?_push,if_pos rfl]
 have:((cs.drop (i*t.size)).take t.size)[j]?=some v:=hj
 rw[List.getElem?_take]at this
 split at this
 ·rw[List.getElem?_drop]at this
  simpa using this
 ·cases this
include hti in
theorem JH {e:TypeId}(h:MB C.ti e=true):P.underlying e=some (.int .u8):=by
 unfold MB at h
 split at h
 ·rename_i i hi
  split at h
  ·rename_i hd
   have:=hti.under e i hi
   rw[hd]at this; exact this
  ·cases h
 ·cases h
theorem ZB: ∀(l:List Int) (r:ByteArray),l.foldl (fun r n=>r.push (UInt8.ofNat n.toNat)) r=⟨r.data++(l.map fun n=>UInt8.ofNat n.toNat).toArray⟩:=by
 intro l
 induction l with
 |nil=>intro r; simp
 |cons n l ih=>intro r; simp only[List.foldl_cons,ih]; simp[ByteArray.push]
theorem Rd.bytes {ρ:Rho} {w:World} {n:Nat} {f:Nat→Int} {cs:List Value}(h:Rd ρ w (.arr n (.int .u8)) f cs):cs=((List.range n).map f).map (Value.int .u8):=by
 have hl:cs.length=n:=by have:=h.1; simpa [Ty.size]using this
 apply List.ext_getElem?
 intro j
 by_cases hj:j<n
 ·have h1:=h.2 j hj
  simp only[Ty.size,Nat.mul_one]at h1
  have h2:((cs.drop j).take 1)[0]?=some (Value.int .u8 (f j)):=by
   have:(cs.drop j).take 1=[.int .u8 (f j)]:=h1
   rw[this]; rfl
  rw[List.getElem?_take_of_lt (by omega),List.getElem?_drop]at h2
  simp only[Nat.add_zero]at h2
  rw[h2]
  simp[hj]
 ·rw[List.getElem?_eq_none (by omega),List.getElem?_eq_none (by simp; omega)]
theorem Wd(s:ByteArray):Lib.strCells s=((List.range s.size).map (strFn s)).map (Value.int .u8):=by
 apply List.ext_getElem
 ·rw[Lib.strCells_length]; simp
 ·intro i h1 h2
  simp only[Lib.strCells,List.getElem_map,List.getElem_range,strFn]
  have:i<s.data.toList.length:=by simpa [Lib.strCells]using h1
  rw[List.getD_eq_getElem?_getD,List.getElem?_eq_getElem this]
  rfl
theorem Qh(ρ:Rho)(w:World)(s:ByteArray):Rd ρ w (.arr s.size (.int .u8)) (strFn s) (Lib.strCells s):=by
 refine⟨by rw[Lib.strCells_length]; simp[Ty.size],fun i hi=>?_⟩
 show _=_
 rw[Wd]
 simp only[Ty.size,Nat.mul_one]
 rw[List.drop_eq_getElem_cons (by simpa using hi)]
 simp
include hti in
theorem OM(hr:aP B ρ s a w) {src dst:TypeId} {x:PV} {vx:Value} {r:Ans}(hx:VP ρ w x vx)(nx:Nat)(hn:ρ nx=none)(h:lM C.ti src dst x s.h nx pk=some r):
  ∃ρ' v w',(convert src dst vx).run P w= .ok v w'∧After B ρ s a w nx r.1 r.2.1 r.2.2 v ρ' w':=by
 unfold lM at h
 split at h
 ·rename_i s0 i hs hi
  have h2:=hti.under src s0 hs; have h3:=hti.under dst i hi
  split at h
  ·rename_i k0 k' h0 h1
   rw[h0]at h2; rw[h1]at h3
   split at h
   ·rename_i k n
    cases h
    have e:=VR.int hx; subst e
    exact⟨ρ,_,w,by simp only[convert,Sem.run_bind,run_underlying h2,run_underlying h3,Result.andThen_ok,Conv.intToInt]; rfl,After.pure hr VR.mkInt⟩
   ·cases h
  ·rename_i e h0 h1
   rw[h0]at h2; rw[h1]at h3
   cases hb:MB C.ti e
   ·rw[hb]at h; cases h
   ·rw[hb]at h; simp only[cond_true]at h
    have he:=JH hti hb
    split at h
    ·rename_i sh n f hel
     cases h
     obtain⟨ad,cap,news,rfl,hnews,had,hcell⟩:=Dk hr hx hel
     have hnews:=hnews.openAt.bytes
     refine⟨ρ,.string (bytesOf n f),w,?_,After.pure hr VR.mkStr⟩
     rw[run_convert_bytes_string w src dst e ad n cap h2 he h3]
     cases ad with
     |none=>
      rcases had with h0|⟨b,hb⟩
      ·subst h0; rfl
      ·cases hb
     |some b=>
      have hl:(loadCells b n).run P w= .ok (((List.range n).map f).map (Value.int .u8)).toArray w:=by
       have:=run_loadCells_list (P:=P) w b (((List.range n).map f).map (Value.int .u8)) (fun j v hj=>hcell b rfl j v (by rw[hnews]; exact hj))
       simpa using this
      rw[run_bytesToString w b n cap _ hl,ZB]
      have e0:(ByteArray.empty.data++(((List.range n).map f).map fun n=>UInt8.ofNat n.toNat).toArray)=((List.range n).map fun i=>UInt8.ofNat (f i).toNat).toArray:=by
       rw[List.map_map,show ByteArray.empty.data= #[]from rfl,Array.empty_append]; rfl
      rw[e0]; rfl
    ·cases h
  ·rename_i e h0 h1
   rw[h0]at h2; rw[h1]at h3
   cases hb:MB C.ti e
   ·rw[hb]at h; cases h
   ·rw[hb]at h; simp only[cond_true]at h
    have he:=JH hti hb
    split at h
    ·rename_i str
     cases hbl:Nat.ble str.size 9223372036854775807
     ·rw[hbl]at h; cases h
     rw[hbl]at h
     have hbl:=Nat.le_of_ble_eq_true hbl
     cases h
     have e0:=VR.str hx; subst e0
     have hcap:=grownCap_le_maxLen w str.size 0 e (by simp only[maxLen]; omega)
     have hheap:(Lib.bytesWorld w e str).heap=w.heap.push (.cells (Lib.bytesCells w e str) e ((Lib.bytesCells w e str).size,(Lib.bytesCells w e str).size+1)):=by
      apply Array.ext_getElem?
      intro k
      rw[Array.getElem?_push]
      split
      ·rename_i hk; rw[hk]; exact Lib.bytesWorld_at_new w e str
      ·rename_i hk
       rcases Nat.lt_or_ge k w.heap.size with h0|h0
       ·exact Lib.bytesWorld_at_old w e str k h0
       ·rw[Array.getElem?_eq_none (by rw[Lib.bytesWorld_size]; omega),Array.getElem?_eq_none h0]
     have hlen:=Qh ρ.shut w str
     obtain⟨ρ',h5,h6,h7,h8⟩:=hr.allocO nx hn (.row true e (.int .u8) str.size (strFn str)) (.cells (Lib.bytesCells w e str) e ((Lib.bytesCells w e str).size,(Lib.bytesCells w e str).size+1)) (.arr str.size (.int .u8)) (some (grownCap w str.size 0 e))
      (fun ρ' w' L hW hb=>⟨rfl,hW,Lib.strCells str,List.replicate (grownCap w str.size 0 e-str.size) (.int .u8 0),hlen.keeps L.keeps.shut,⟨_,by rw[hb]; congr 2; apply Array.ext'; simp[Lib.bytesCells,Lib.strCells],.inr ⟨by simp[Lib.bytesCells,Lib.strCells],rfl⟩⟩,_,rfl,by simp[Lib.strCells,Ty.size]; have:=grownCap_ge w str.size 0 e; omega,grownCap_ge w str.size 0 e,by simp only[maxLen]at hcap; omega⟩)
      (Lib.bytesWorld w e str) hheap rfl rfl rfl
     exact⟨ρ',_,_,Lib.run_convert_string_bytes w src dst e str h2 h3 he,h5,h6,⟨[_],.inr ⟨_,str.size,grownCap w str.size 0 e,0,h7,Ty.okP_nil _,Ty.at_nil _,by omega,rfl,fun _=>by rw[Ty.off_nil]; simp,grownCap_ge w str.size 0 e,fun c hc _ _=>⟨by cases hc; rfl,rfl⟩⟩,rfl⟩,h8,fun h=>by cases h⟩
    ·cases h
  ·cases h
 ·cases h
end
end Go.Den
namespace Go.Den
theorem acQ {str:ByteArray} {t:Ty} {h:Heap} {sh:Bool} {m:Nat} {g:Nat→t.den} {ρ:Rho} {w:World}(he:sO (.v ⟨.sl (.int .u8),.fz str.size (strFn str)⟩) t h=some (sh,m,g)):t= .int .u8∧m=str.size∧Rd (ρ.at sh) w (.arr m t) g (Lib.strCells str):=by
 simp only[sO]at he
 split at he
 ·rename_i e; subst e
  cases he
  exact⟨rfl,rfl,Qh _ _ _⟩
 ·cases he
theorem V.to_self {t:Ty} {x:t.den} :V.to ⟨t,x⟩ t=some x:=by unfold V.to; rw[dif_pos rfl]
theorem Ty.set_S: ∀ {p:Path} {t:Ty} {x:t.den} {m:Nat} {u:Ty} {f:Nat→u.den} {lo n:Nat} {g:Nat→u.den},t.get x p=some ⟨.arr m u,f⟩→t.set x (p++[.S lo n]) (.arr n u) g=t.set x p (.arr m u) (sM f lo n g)
 | [],t,x,m,u,f,lo,n,g,h=>by
  rw[Ty.get_nil]at h
  cases h
  simp[Ty.set]
 |s::p,t,x,m,u,f,lo,n,g,h=>by
  cases t with
  |pair a b=>
   cases s<;>simp only[Ty.get]at h<;>first|cases h|(simp only[List.cons_append,Ty.set]; rw[Ty.set_S h])
  |arr k t=>
   cases s<;>simp only[Ty.get]at h<;>first|cases h|(simp only[List.cons_append,Ty.set]; rw[Ty.set_S h])
  |_=>cases s<;>simp only[Ty.get]at h<;>cases h
theorem PO.blitB_set {o z:PO} {p:Path} {lo n:Nat} {u:Ty} {g:Nat→u.den}(h:o.blitB p lo n u g=some z):o.set (p++[.S lo n]) ⟨.arr n u,g⟩=some z:=by
 unfold PO.blitB at h
 split at h
 ·rename_i t x
  cases hs:t.spHead
  ·rw[hs]at h
   simp only[cond_false]at h
   split at h
   ·rename_i m t' f hg
    split at h
    ·rename_i e; subst e
     split at h
     ·rename_i y hy
      cases h
      have hat:t.at (p++[.S lo n])=some (.arr n u):=by rw[Ty.at_append (Ty.at_of_get hg)]; simp[Ty.at]
      simp only[PO.set,hs,Bool.false_and,cond_false,hat,V.to_self,Ty.set_S hg,hy]
     ·cases h
    ·cases h
   ·cases h
  ·rw[hs]at h; cases h
 ·rename_i sh e0 t k f
  split at h
  ·split at h
   ·rename_i e; subst e
    cases hb: !sh||u.flat
    ·rw[hb]at h; cases h
    ·rw[hb]at h; cases h
     have hat:(Ty.arr k u).at ([]++[.S lo n])=some (.arr n u):=by simp[Ty.at]
     have hfl:(!sh||(Ty.arr n u).flat||fV (.arr n u) g)=true:=by
      have:(Ty.arr n u).flat=u.flat:=rfl
      rw[this,hb]; rfl
     simp only[PO.set,hat,V.to_self,hfl,cond_true]
     rw[Ty.set_S (p:=[]) (t:=.arr k u) (x:=f) (Ty.get_nil _ _)]
     simp[Ty.set]
   ·cases h
  ·cases h
 ·cases h
section
variable {P:Program} {C:Cx} (hti:xw P C.ti) {B:Base} {ρ:Rho} {s:DS} {a:Act} {w:World}
include hti in
theorem SK(hr:aP B ρ s a w) {T:TypeId} {Ts:Array TypeId}(hT:Ts[0]?=some T) {ty:TypeId} {x:PV} {vx:Value} {str:ByteArray} {r:Ans}(hx:VP ρ w x vx)(nx:Nat)(hn:ρ nx=none)(h:Aj C.ti T x (.int .u8) str.size (strFn str) s.h pk=some r):
  ∃v w',(Builtin.copy_ Ts ty #[vx,.string str]).run P w= .ok v w'∧After B ρ s a w nx r.1 r.2.1 0 v ρ w'∧r.2.2=0:=by
 unfold Aj at h
 split at h
 ·rename_i i hi
  have hu:=hti.under T i hi
  split at h
  ·rename_i e hd
   rw[hd]at hu
   obtain⟨i',h1,h2,h3⟩:=oK hti hi hd
   split at h
   ·rename_i t id p lo len
    split at h
    ·rename_i ee
     obtain⟨e1,e2⟩:=ee
     subst e1
     have:i'.ty= .int .u8:=by rw[h2]at e2; exact Ty.sl.inj e2
     have hT':Ts[0]?=some T:=hT
     cases hz0:Nat.ble len 0||Nat.ble str.size 0
     ·rw[hz0]at h
      simp only[cond_false]at h
      simp only[Bool.or_eq_false_iff]at hz0
      have hp1:0<len:=by
       rcases Nat.eq_zero_or_pos len with e|e
       ·subst e; exact absurd hz0.1 (by decide)
       ·exact e
      split at h
      ·rename_i o ho
       split at h
       ·rename_i z hz0
        have hz:=PO.blitB_set hz0
        cases h
        obtain⟨h0,_⟩|⟨loc,m,cap,od,hloc,hok,hat,hle,rfl,hod,_⟩:=VR.slMs hx
        ·omega
        have hset:loc.ty.at (p++[.S lo (min str.size len)])=some (.arr (min str.size len) (.int .u8)):=by rw[Ty.at_append hat]; simp[Ty.at]
        have hc0:=Qh ρ w str
        have hc:Rd ρ w (.arr (min str.size len) (.int .u8)) (strFn str) ((Lib.strCells str).take (min str.size len)):=by
         have:=hc0.sub (lo:=0) (n:=min str.size len) (by omega)
         simpa [Ty.size]using this
        obtain⟨c2,w',h4,h5,h6,h7⟩:=Fa (P:=P) hr ho hloc (Ty.okP_append hok hat (show(Ty.arr m (.int .u8)).okP [.S lo (min str.size len)]from⟨by omega,Ty.okP_nil _⟩)) hset hz (v:=⟨.arr (min str.size len) (.int .u8),strFn str⟩) ⟨_,hc,rfl⟩ nx (fun e=>by subst e; rw[hloc]at hn; cases hn)
        rw[jR hc]at h4
        have hcc:(Lib.strCells str).take (min str.size len)=c2:=by simpa using h4
        subst hcc
        refine⟨_,w',?_,⟨h7.rel,h7.later,VR.mkInt,h7.same,h7.new⟩,rfl⟩
        unfold Builtin.copy_
        simp only[hT',List.getElem?_toArray,List.getElem?_cons_zero,List.getElem?_cons_succ,Sem.run_bind,run_underlying hu,Result.andThen_ok,Builtin.lenOf,Sem.run_pure,hti.size e i' w h1,Builtin.firstCells]
        rw[show Nat.min str.size len=min str.size len from rfl]
        have hstore:(storeCells ⟨loc.blk,od,none⟩ ((Lib.strCells str).take (min str.size len))).run P w= .ok () w':=by
         rw[hod (by omega)]
         rw[Ty.off_append hat]at h6
         simpa [Ty.off]using h6
        have hcells:(Array.map (fun b:UInt8=>Value.int .u8 (b.toNat:Int)) (str.extract 0 (min str.size len)).data).toList=(Lib.strCells str).take (min str.size len):=by
         simp[Lib.strCells,ByteArray.data_extract,List.map_take]
        rw[hcells,hstore]
        rfl
       ·cases h
      ·cases h
     ·rw[hz0]at h
      simp only[cond_true]at h
      cases h
      have form: ∃b cap,vx= .slice b len cap:=by
       rcases VR.slMs hx with⟨rfl,rfl⟩|⟨_,_,_,_,_,_,_,_,rfl,_⟩
       ·exact⟨_,_,rfl⟩
       ·exact⟨_,_,rfl⟩
      obtain⟨b1,c1,rfl⟩:=form
      refine⟨_,w,?_,After.pure hr VR.mkInt,rfl⟩
      have h0:Nat.min str.size len=0:=by
       simp only[Bool.or_eq_true]at hz0
       rcases hz0 with e|e
       ·have:=Nat.le_of_ble_eq_true e; show min str.size len=0; omega
       ·have:=Nat.le_of_ble_eq_true e; show min str.size len=0; omega
      unfold Builtin.copy_
      simp only[hT',List.getElem?_toArray,List.getElem?_cons_zero,List.getElem?_cons_succ,Sem.run_bind,run_underlying hu,Result.andThen_ok,Builtin.lenOf,Sem.run_pure,hti.size e i' w h1,h0,Builtin.firstCells]
      have hcells:(Array.map (fun b:UInt8=>Value.int .u8 (b.toNat:Int)) (str.extract 0 0).data).toList=[]:=by
       simp[ByteArray.data_extract]
      rw[hcells]
      cases b1<;>rfl
    ·cases h
   ·cases h
  ·cases h
 ·cases h
theorem Ip {P:Program} {w:World}(fr:Nat×Nat)(t u ty e:TypeId)(i:TypeInfo)(ht:P.underlying t=some (.slice e))(hu:P.underlying u=some .string)(hi:P.info? e=some i)(hs1:i.size=1)
  (g sLen sCap:Nat) (cur:Array Value) (hg:w.heap[g]?=some (.cells cur e fr)) (hfr:fr=(0,0)∨cur.size≤fr.1) (s:ByteArray)
  (hroom:sLen+s.size≤sCap) (hfit:sLen+s.size≤cur.size):
  (Builtin.append_ #[t,u] ty #[.slice (some ⟨g,0,none⟩) sLen sCap,.string s]).run P w=
   .ok (.slice (some ⟨g,0,none⟩) (sLen+s.size) sCap) (w.setRow g (cur.toList.take sLen++Lib.strCells s++cur.toList.drop (sLen+s.size)).toArray):=by
 have hf:=Lib.run_firstCells_string (P:=P) w 1 s
 have hst:=oz (P:=P) fr g sLen e (Lib.strCells s) 0 cur w hg hfr (by simpa [Lib.strCells_length]using hfit) (Lib.strCells_oneCell s)
 simp only[Nat.add_zero,Lib.strCells_length]at hst
 simp[Builtin.append_,run_underlying ht,run_underlying hu,sizeOf,typeInfo,hi,hs1,Builtin.lenOf,hroom,hf,Addr.add_lit,hst]
include hti in
theorem OO(hr:aP B ρ s a w) {T T' ty:TypeId} {x:PV} {vx:Value} {str:ByteArray} {r:Ans}(hx:VP ρ w x vx)(hst:GY C.ti T'=true)(nx:Nat)(hn:ρ nx=none)(h:iV C.ti T x (.v ⟨.sl (.int .u8),.fz str.size (strFn str)⟩) s.h nx pk=some r):
  ∃ρ' v w',(Builtin.append_ #[T,T'] ty #[vx,.string str]).run P w= .ok v w'∧After B ρ s a w nx r.1 r.2.1 r.2.2 v ρ' w':=by
 unfold iV at h
 split at h
 ·rename_i i hi
  have hu:=hti.under T i hi
  split at h
  ·rename_i e t hd hty
   rw[hd]at hu
   obtain⟨ie',h1,h2,h3⟩:=oK hti hi hd
   split at h
   ·rename_i ie hie
    have hii:ie=ie':=by rw[h1]at hie; cases hie; rfl
    subst hii
    have het:t=ie.ty:=by rw[hty]at h2; cases h2; rfl
    subst het
    split at h
    ·split at h
     ·rename_i sh n f u sh' m g hro hel
      obtain⟨e8,rfl,hnews⟩:=acQ (ρ:=ρ) (w:=w) hel
      cases hb:Nat.ble ((n+str.size)*ie.bytes) 140737488355328&&Nat.ble (n+str.size) 9223372036854775807
      ·rw[hb]at h; cases h
      ·rw[hb]at h; simp only[cond_true]at h
       simp only[Bool.and_eq_true]at hb
       have hb1:=Nat.le_of_ble_eq_true hb.1
       have hb2:=Nat.le_of_ble_eq_true hb.2
       cases h
       obtain⟨inf,hinf,hsz,hby,hzero⟩:=hti.info e ie h1
       have hz:(mkV ie.ty ie.ty.zcells).cells.size=ie.ty.size:=by rw[jR (Rd.zero ρ w ie.ty)]; simp[dG]
       have hs1:ie.ty.size=1:=by rw[e8]; rfl
       have hst':P.underlying T'=some .string:=by
        unfold GY at hst
        split at hst
        ·rename_i j hj
         have:=hti.under T' j hj
         split at hst
         ·rename_i e; rw[e]at this; exact this
         ·cases hst
        ·cases hst
       generalize hnw:Lib.strCells str=news at hnews
       have hnl:news.length=str.size*ie.ty.size:=hnews.1
       have hone:=Bw hnews.openAt
       have fresh: ∀(s1:DS) (xs:List Value) (old:Nat),aP B ρ s1 a w→Rd (ρ.at sh) w (.arr n ie.ty) f xs→old<n+str.size→
         ∃ρ',aP B ρ' { s1 with hp:=(nx,.row (sh&&sh') e ie.ty (n+str.size) (Den.glue n f g))::s1.hp } a (w.drew.alloc (.cells (xs.toArray++news.toArray++Builtin.zeroCells (mkV ie.ty ie.ty.zcells).cells (grownCap w (n+str.size) old e-(n+str.size))) e))∧
          Later ρ w ρ' (w.drew.alloc (.cells (xs.toArray++news.toArray++Builtin.zeroCells (mkV ie.ty ie.ty.zcells).cells (grownCap w (n+str.size) old e-(n+str.size))) e))∧
          ρ' nx=some ⟨w.heap.size,.arr (n+str.size) ie.ty,some (grownCap w (n+str.size) old e)⟩∧ ∀id,id≠nx→ρ' id=ρ id:=by
        intro s1 xs old hr1 hxs ho
        have hge:=grownCap_ge w (n+str.size) old e
        have hcm:grownCap w (n+str.size) old e≤maxLen:=grownCap_le_maxLen w (n+str.size) old e (by simp only[maxLen]; omega)
        have hrd:=(Rd.weakAt (sh':=sh') hxs).1.glue (Rd.weakAt (sh':=sh) hnews).2
        refine hr1.alloc nx hn (.row (sh&&sh') e ie.ty (n+str.size) (Den.glue n f g)) (xs.toArray++news.toArray++Builtin.zeroCells (mkV ie.ty ie.ty.zcells).cells (grownCap w (n+str.size) old e-(n+str.size))) e _ _ (fun ρ' w' L hW hb=>⟨rfl,hW,xs++news,(Builtin.zeroCells (mkV ie.ty ie.ty.zcells).cells (grownCap w (n+str.size) old e-(n+str.size))).toList,hrd.keeps (L.keeps.at _),lq.of ?_,_,rfl,?_,hge,by simp only[maxLen]at hcm; omega⟩) _ ?_ rfl rfl rfl
        ·rw[hb]; congr 2; apply Array.ext'; simp
        ·rw[List.length_append,rU,hz,List.length_append,hxs.1,hnl,←Nat.add_mul,←Nat.add_mul]
         congr 1; omega
        ·simp only[World.alloc]; rfl
       have val: ∀(ρ':Rho) (w':World) (blk cap:Nat),ρ' nx=some ⟨blk,.arr (n+str.size) ie.ty,some cap⟩→n+str.size≤cap→VP ρ' w' (.v ⟨.sl ie.ty,.ms nx [] 0 (n+str.size)⟩) (.slice (some ⟨blk,0,none⟩) (n+str.size) cap):=by
        intro ρ' w' blk cap h hc
        exact⟨[_],.inr ⟨_,n+str.size,cap,0,h,Ty.okP_nil _,Ty.at_nil _,by omega,rfl,fun _=>by rw[Ty.off_nil]; simp,hc,fun c hc _ _=>⟨by cases hc; rfl,rfl⟩⟩,rfl⟩
       rcases JF hr hx hro with⟨rfl,rfl,id,hu'⟩|⟨id,loc,cap,k,f0,cs,sp,rfl,hsid,hloc,hlcap,rfl,hnc,hcm,hcs,hblk0,hlen⟩
       ·
        have hr1:aP B ρ { s with hp:=u++s.hp } a w:=by
         rcases hu' with rfl|rfl
         ·exact hr
         ·exact hr.kill id
        rcases Nat.eq_zero_or_pos str.size with hm|hm
        ·have hn0:news=[]:=List.eq_nil_of_length_eq_zero (by rw[hnl,hm]; simp)
         have hsc:(0+str.size)=0:=by omega
         rw[hsc]
         refine⟨ρ,.slice none 0 0,w,?_,⟨hr1.idleRow hn _ _ _ _,Later.refl _ _,⟨[_],.inl ⟨rfl,rfl⟩,rfl⟩,fun _ _=>rfl,fun h=>by cases h⟩⟩
         have hf:=Lib.run_firstCells_string (P:=P) w inf.size str
         rw[hm,hnw,hn0]at hf
         simp[Builtin.append_,run_underlying hu,run_underlying hst',sizeOf,typeInfo,hinf,Builtin.lenOf,hm,hf]
        ·have hrun:=run_append_nil_string (P:=P) w T T' ty e inf _ hu hst' hinf hzero str hm (by omega) (by rw[hby]; simp only[Nat.zero_add]at hb1; omega)
         have hmap:str.data.map (fun b=>Value.int .u8 b.toNat)=news.toArray:=by rw[←hnw]; apply Array.ext'; simp[Lib.strCells]
         rw[hmap]at hrun
         have:=fresh { s with hp:=u++s.hp } [] 0 hr1 ⟨by simp,fun i hi=>by omega⟩ (by omega)
         simp only[Nat.zero_add,Array.empty_append]at this val⊢
         obtain⟨ρ',h4,h5,h6,h7⟩:=this
         refine⟨ρ',_,_,hrun,⟨h4,h5,val ρ' _ _ _ h6 (by have:=grownCap_ge w str.size 0 e; omega),h7,fun h=>by cases h⟩⟩
       ·obtain⟨fr,hblk,hfr⟩:=hblk0
        by_cases hroom:n+str.size≤cap
        ·
         have hnl1:cs.length=n*ie.ty.size:=hcs.1
         have hmul:(n+str.size)*ie.ty.size≤cap*ie.ty.size:=Nat.mul_le_mul_right _ hroom
         rw[Nat.add_mul]at hmul
         have hsl:(cs++sp).length=cs.length+sp.length:=List.length_append
         have key: ∀w',w'.heap.size=w.heap.size→(∀b,b≠loc.blk→w'.heap[b]?=w.heap[b]?)→w'.os=w.os→w'.tape=w.tape→w'.output=w.output→
           w'.heap[loc.blk]?=some (.cells (cs++news++sp.drop news.length).toArray e fr)→
           ∃ρ',After B ρ s a w nx (.v ⟨.sl ie.ty,.ms nx [] 0 (n+str.size)⟩) [(nx,.row (sh&&sh') e ie.ty (n+str.size) (Den.glue n f g)),(id,.dead)] 1 (.slice (some ⟨loc.blk,0,none⟩) (n+str.size) cap) ρ' w':=by
          intro w' e1 e2 e3 e4 e5 e6
          have hrd:=(Rd.weakAt (sh':=sh') hcs).1.glue (Rd.weakAt (sh':=sh) hnews).2
          obtain⟨ρ',h4,h5,h6,h7⟩:=hr.renew hsid (by intro e; cases e) (by intro e; cases e) hloc hn (.arr (n+str.size) ie.ty) (o':=.row (sh&&sh') e ie.ty (n+str.size) (Den.glue n f g)) w' e1 e2 e3 e4 e5 (wu hblk e6) (fun ρ' L hW=>
           ⟨rfl,hW,cs++news,sp.drop news.length,hrd.keeps (L.keeps.at _),⟨fr,e6,hfr.imp_right fun h=>⟨by
            have:(cs++news++sp.drop news.length).length=(cs++sp).length:=by rw[List.length_append,List.length_append,List.length_drop,List.length_append]; omega
            have:=h.1; omega,h.2⟩⟩,cap,hlcap,by rw[List.length_append,List.length_append,List.length_drop]; omega,hroom,hcm⟩)
          rw[hlcap]at h6
          exact⟨ρ',h4,h5,val ρ' _ _ _ h6 hroom,h7,fun h=>by cases h⟩
         have hrun:=Ip (P:=P) fr T T' ty e inf hu hst' hinf (by rw[hsz]; exact hs1) loc.blk n cap _ hblk (by simpa using hfr.imp_right And.left) str hroom (by simp only[List.size_toArray]; rw[hs1]at hlen; omega)
         rw[hnw]at hrun
         have hlist:(cs++sp).toArray.toList.take n++news++(cs++sp).toArray.toList.drop (n+str.size)=cs++news++sp.drop news.length:=by
          rw[hs1]at hnl1 hnl
          rw[List.take_append_of_le_length (by omega),List.take_of_length_le (by omega),List.drop_append,List.drop_eq_nil_of_le (by omega),List.nil_append]
          congr 2; omega
         rw[hlist]at hrun
         obtain⟨ρ',h4⟩:=key _ (by simp) (fun b hb=>setRow_other w _ _ _ hb) rfl rfl rfl (setRow_heap w _ _ _ e _ hblk)
         exact⟨ρ',_,_,hrun,h4⟩
        ·
         have holds: ∀(j:Nat) u,cs[j]?=some u→w.cell? ((⟨loc.blk,0,none⟩:Addr).add j)=some u:=by
          intro j u hj
          rw[gQ,cell_of_row w _ _ _ _ _ hblk]
          simp only[List.getElem?_toArray,Nat.zero_add]
          rw[List.getElem?_append_left (List.getElem?_eq_some_iff.1 hj).1]; exact hj
         have hrun:=Lib.run_append_grow_string (P:=P) w T T' ty e inf _ hu hst' hinf hzero ⟨loc.blk,0,none⟩ n cap cs (by rw[hsz]; exact hcs.1) holds str (by omega) (by omega) (by rw[hby]; exact growslice_fits (by omega) hb1)
         rw[hnw]at hrun
         obtain⟨ρ',h4,h5,h6,h7⟩:=fresh { s with hp:=(id,.dead)::s.hp } cs cap (hr.kill id) hcs (by omega)
         exact⟨ρ',_,_,hrun,⟨h4,h5,val ρ' _ _ _ h6 (grownCap_ge w (n+str.size) cap e),h7,fun h=>by cases h⟩⟩
     ·cases h
    ·cases h
   ·cases h
  ·cases h
 ·cases h
end
def lN:(k:Ty)→k.den→Value
 | .int kd,x=>.int kd x
 | .str,x=>.string x
 |_,_=>.nilFunc
def a9Z(d:TypeDesc)(k:Ty):Prop:=(∃kd,d= .int kd∧k= .int kd)∨(d= .string∧k= .str)
theorem Ki {k:Ty}(hk:k.key=true) {ρ:Rho} {w:World} {x:k.den} {c:List Value}(h:Rd ρ w k x c):c=[lN k x]∧mkV k c=lN k x:=by
 cases k<;>simp only[Ty.key,Bool.false_eq_true]at hk
 ·have:c=_:=h; subst this; exact⟨rfl,rfl⟩
 ·have:c=_:=h; subst this; exact⟨rfl,rfl⟩
theorem Rd.lN {k:Ty}(hk:k.key=true)(ρ:Rho)(w:World)(x:k.den):Rd ρ w k x [lN k x]:=by
 cases k<;>simp only[Ty.key,Bool.false_eq_true]at hk
 ·rfl
 ·rfl
theorem Dl {d:TypeDesc} {k:Ty}(h:a9Z d k)(x:k.den):MapKept.IsKey d (lN k x):=by
 rcases h with⟨kd,rfl,rfl⟩|⟨rfl,rfl⟩
 ·simp[MapKept.IsKey,Den.lN]
 ·simp[MapKept.IsKey,Den.lN]
theorem aa0(a b:ByteArray):(a==b)=sEq a b:=by
 have h1:=MapKept.bytes_beq a b
 have h2:sEq a b=true↔a=b:=by
  constructor
  ·intro h
   have e:a.toList=b.toList:=by simpa [sEq]using h
   rw[ByteArray.toList_eq,ByteArray.toList_eq]at e
   cases a; cases b; simp at e; rw[e]
  ·rintro rfl; simp[sEq]
 cases e1:(a==b)<;>cases e2:sEq a b<;>simp_all
theorem a1P {d:TypeDesc} {k:Ty}(h:a9Z d k)(x y:k.den):Instr.sameNow d (lN k x) (lN k y)=some (eqF k x y):=by
 rcases h with⟨kd,rfl,rfl⟩|⟨rfl,rfl⟩
 ·simp[Instr.sameNow,Den.lN,eqF]
 ·simp only[Instr.sameNow,Den.lN,eqF]; rw[aa0]
theorem find_spec {d:TypeDesc} {k v:Ty}(hk:a9Z d k)(x:k.den): ∀(l:List (k.den×v.den)) (es:List MapEntry) (i:Nat),l.length=es.length→(∀(j:Nat) q e,l[j]?=some q→es[j]?=some e→e.key=lN k q.1)→
  (lK k v l x=none∧midx k v l x=l.length∧Instr.findNow d (lN k x) es i=some none)∨
  ∃j q e,l[j]?=some q∧es[j]?=some e∧lK k v l x=some q.2∧midx k v l x=j∧e.key=lN k x∧Instr.findNow d (lN k x) es i=some (some (i+j,e.val))
 | [],[],i,_,_=>.inl ⟨rfl,rfl,rfl⟩
 |q::l,e::es,i,hl,h=>by
  have h0:=h 0 q e rfl rfl
  have hs:=a1P hk x q.1
  cases hb:eqF k x q.1
  ·rw[hb]at hs
   have ih:=find_spec hk x l es (i+1) (by simpa using hl) (fun j q e h1 h2=>h (j+1) q e (by simpa using h1) (by simpa using h2))
   simp only[Instr.findNow,h0,hs,lK,midx,hb,cond_false]
   rcases ih with⟨h1,h2,h3⟩|⟨j,q',e',h1,h2,h3,h4,h5,h6⟩
   ·exact .inl ⟨h1,by rw[h2]; rfl,h3⟩
   ·exact .inr ⟨j+1,q',e',by simpa using h1,by simpa using h2,h3,by rw[h4],h5,by rw[h6]; congr 3; omega⟩
  ·rw[hb]at hs
   refine .inr ⟨0,q,e,rfl,rfl,by simp[lK,hb],by simp[midx,hb],?_,by simp only[Instr.findNow,h0,hs]; rfl⟩
   rw[h0]
   have:Instr.sameNow d (lN k x) (lN k q.1)=some true:=hs
   obtain⟨r,h1,h2⟩:=MapKept.sameNow_of_keys (Dl hk x) (Dl hk q.1)
   rw[this]at h1; cases h1
   exact(h2.1 rfl).symm
section
variable {P:Program} {C:Cx} (hti:xw P C.ti) {B:Base} {ρ:Rho} {s:DS} {a:Act} {w:World}
structure aaO(P:Program)(ti:List (Nat×TI))(T:TypeId)(k v:Ty):Prop where
 ex: ∃kT vT d,P.underlying T=some (.map kT vT)∧P.underlying kT=some d∧a9Z d k∧k.key=true∧v.flat=true∧ ∀w,(zeroValue vT).run P w= .ok (mkV v v.zcells) w
include hti in
theorem Dm {T:TypeId} {kv:Ty×Ty}(h:TN C.ti T=some kv):aaO P C.ti T kv.1 kv.2:=by
 unfold TN at h
 split at h
 ·rename_i i hi
  split at h
  ·rename_i kT vT hd
   split at h
   ·rename_i x y hx hy
    cases hb:x.ty.key&&y.ty.flat
    ·rw[hb]at h; cases h
    ·rw[hb]at h; cases h
     simp only[Bool.and_eq_true]at hb
     have hu:=hti.under T i hi
     rw[hd]at hu
     have hs:=hti.shape kT x hx
     have hz: ∀w,(zeroValue vT).run P w= .ok (mkV y.ty y.ty.zcells) w:=fun w=>hti.zero vT y w hy
     refine⟨kT,vT,x.desc,hu,hti.under kT x hx,?_,hb.1,hb.2,hz⟩
     obtain⟨hb1,hb2⟩:=hb
     unfold ow at hs
     split at hs
     ·rename_i kd e; rw[e]; exact .inl ⟨kd,rfl,hs⟩
     ·rw[hs]at hb1; cases hb1
     ·rename_i e; rw[e]; exact .inr ⟨rfl,hs⟩
     ·obtain⟨ha,_⟩:=hs
      cases ht:x.ty<;>rw[ht]at ha hb1<;>simp[Ty.agg,Ty.key]at ha hb1
     ·obtain⟨_,_,e,_⟩:=hs; rw[e]at hb1; cases hb1
     ·obtain⟨_,_,e,_⟩:=hs; rw[e]at hb1; cases hb1
     ·rcases hs with⟨_,e⟩|⟨_,e⟩
      ·rw[e]at hb1; cases hb1
      ·rw[e]at hb1; cases hb1
     ·rw[hs]at hb1; cases hb1
     ·rw[hs]at hb1; cases hb1
     ·exact hs.elim
   ·cases h
  ·cases h
 ·cases h
theorem VR.mpSome {id:Nat} {v:Value}(h:VR ρ w ⟨.mp,some id⟩ v): ∃loc,ρ id=some loc∧loc.ty= .mp∧v= .map (some loc.blk):=by
 obtain⟨cs,⟨loc,h1,h2,h3⟩,h4⟩:=h
 simp only at h3 h4
 subst h3
 exact⟨loc,h1,h2,h4⟩
theorem VR.mpNone {v:Value}(h:VR ρ w ⟨.mp,none⟩ v):v= .map none:=by
 obtain⟨cs,h1,h2⟩:=h
 have:cs=[.map none]:=h1
 subst this
 exact h2
theorem VR.flat {t:Ty}(hf:t.flat=true) {x:t.den} {c:List Value} {ρ ρ':Rho} {w w':World}(h:Rd ρ w t x c):Rd ρ' w' t x c:=by
 induction t generalizing c with
 |int k=>exact h
 |bool=>exact h
 |str=>exact h
 |unit=>exact h
 |pair a b iha ihb=>
  simp only[Ty.flat,Bool.and_eq_true]at hf
  exact⟨iha hf.1 h.1,ihb hf.2 h.2⟩
 |arr n t ih=>exact⟨h.1,fun i hi=>ih hf (h.2 i hi)⟩
 |_=>simp[Ty.flat]at hf
theorem Dn {v:Value} {k:Ty}(hk:k.key=true) {x:k.den}(h:VR ρ w ⟨k,x⟩ v):v=lN k x:=by
 obtain⟨cs,h1,h2⟩:=h
 rw[h2]; exact(Ki hk h1).2
theorem Kj {T:TypeId} {k v:Ty}(hm:aaO P C.ti T k v) {l:List (k.den×v.den)} {es:List MapEntry} {ρ:Rho}(h:MpR ρ w k v l es)(x:k.den):
  ∃kT vT,P.underlying T=some (.map kT vT)∧(∀w b,(Instr.checkKey b 10000 kT (lN k x)).run P w= .ok () w)∧(∀w,(zeroValue vT).run P w= .ok (mkV v v.zcells) w)∧(∀w,(Instr.keyThatStays (lN k x) (lN k x)).run P w= .ok (lN k x) w)∧
  ((lK k v l x=none∧midx k v l x=l.length∧ ∀w,(Instr.findKey kT (lN k x) es).run P w= .ok none w)∨
  ∃j q e,l[j]?=some q∧es[j]?=some e∧lK k v l x=some q.2∧midx k v l x=j∧e.key=lN k x∧ ∀w,(Instr.findKey kT (lN k x) es).run P w= .ok (some (j,e.val)) w):=by
 obtain⟨kT,vT,d,h1,h2,h3,h4,h5,h6⟩:=hm.ex
 refine⟨kT,vT,h1,fun w b=>MapKept.run_checkKey h2 (Dl h3 x) b 9999,h6,fun w=>MapKept.run_keyThatStays (Dl h3 x),?_⟩
 rcases find_spec h3 x l es 0 h.1 (fun j q e hq he=>by
  obtain⟨⟨c,hc,hkey⟩,_⟩:=h.2 j q e hq he
  rw[hkey]; exact(Ki h4 hc).2)with⟨h7,h8,h9⟩|⟨j,q,e,h7,h8,h9,h10,h11,h12⟩
 ·exact .inl ⟨h7,h8,fun w=>MapKept.run_findKey h2 h9⟩
 ·exact .inr ⟨j,q,e,h7,h8,h9,h10,h11,fun w=>by rw[Nat.zero_add]at h12; exact MapKept.run_findKey h2 h12⟩
theorem VR.ofCells {t:Ty} {x:t.den} {c:List Value}(h:Rd ρ w t x c):VR ρ w ⟨t,x⟩ (mkV t c):=⟨c,h,rfl⟩
theorem Dp {v:Ty} {ok:Bool} {r:Option v.den} {vv:Value} {pv:PV}(h:JA ok r some=some pv)(hv:VR ρ w ⟨v,r.getD v.zero⟩ vv):VP ρ w pv (if ok then .tuple #[vv,.bool r.isSome]else vv):=by
 unfold JA at h
 cases ok
 ·cases h; exact hv
 ·cases h; exact⟨[vv,.bool r.isSome],rfl,hv,⟨_,rfl,rfl⟩,trivial⟩
include hti in
theorem Qi(hr:aP B ρ s a w) {T:TypeId} {x y:PV} {ok:Bool} {vx vy:Value} {pv:PV}(hx:VP ρ w x vx)(hy:VP ρ w y vy)(h:qz C.ti T x y ok s.h some=some pv):
  ∃v,(Instr.lookup T vx vy ok).run P w= .ok v w∧VP ρ w pv v:=by
 unfold qz at h
 split at h
 ·rename_i kv ix hm
  have hm:=Dm hti hm
  split at h
  ·rename_i key hkey
   have hkv:=Dn hm.ex.choose_spec.choose_spec.choose_spec.2.2.2.1 (VR.to hy hkey)
   subst hkv
   split at h
   ·have e:=VR.mpNone hx; subst e
    have h0:MpR ρ w kv.1 kv.2 [] []:=⟨rfl,fun j q e hq=>by simp at hq⟩
    obtain⟨kT,vT,h1,h2,h3,_,h4⟩:=Kj hm h0 key
    have hz:VR ρ w ⟨kv.2,kv.2.zero⟩ (mkV kv.2 kv.2.zcells):=VR.ofCells (Rd.zero ρ w _)
    refine⟨_,?_,Dp h hz⟩
    rcases h4 with⟨_,_,h5⟩|⟨j,q,e,h5,_⟩
    ·simp[Instr.lookup,run_underlying h1,h2,h5,h3,Result.andThen]
    ·simp at h5
   ·rename_i id
    obtain⟨loc,hloc,hty,rfl⟩:=VR.mpSome hx
    split at h
    ·rename_i k v l ho
     split at h
     ·rename_i ee
      obtain⟨e1,e2⟩:=ee
      subst e1; subst e2
      obtain⟨_,_,es,hes,hb⟩:=hr.live ho (by intro e; cases e) hloc
      obtain⟨kT,vT,h1,h2,h3,_,h4⟩:=Kj hm hes key
      have hg:=MapKept.run_getObj_map (P:=P) hb
      rcases h4 with⟨h5,_,h6⟩|⟨j,q,e,h5,h6,h7,_,_,h8⟩
      ·rw[h5]at h
       have hz:VR ρ w ⟨kv.2,kv.2.zero⟩ (mkV kv.2 kv.2.zcells):=VR.ofCells (Rd.zero ρ w _)
       refine⟨_,?_,Dp h hz⟩
       simp[Instr.lookup,run_underlying h1,hg,h2,h6,h3,Result.andThen]
      ·rw[h7]at h
       obtain⟨_,⟨c,hc,hval⟩,_⟩:=hes.2 j q e h5 h6
       refine⟨_,?_,Dp h (vv:=e.val) (by rw[hval]; exact VR.ofCells hc.openIn)⟩
       simp[Instr.lookup,run_underlying h1,hg,h2,h8,Result.andThen]
     ·cases h
    ·cases h
   ·cases h
  ·cases h
 ·cases h
theorem Cc(hr:aP B ρ s a w) {id:Nat} {k v:Ty} {l l':List (k.den×v.den)} {loc:Loc} {es es':List MapEntry}(ho:look s.hp id=some (.mp k v l))(hloc:ρ id=some loc)(hb:w.heap[loc.blk]?=some (.map es.toArray es.length))(hes:MpR ρ.shut w k v l' es')(nx:Nat):
  ∃w',(setObj loc.blk (.map es'.toArray es'.length)).run P w= .ok () w'∧After B ρ s a w nx .un [(id,.mp k v l')] 0 undef ρ w':=by
 obtain⟨hty,hW,_⟩:=hr.live ho (by intro e; cases e) hloc
 obtain⟨h1,h2⟩:=MapKept.heap_set (o':=.map es'.toArray es'.length) hb
 refine⟨_,MapKept.run_setObj_map _ hb,?_⟩
 obtain⟨h3,h4⟩:=hr.store ho (by intro e; cases e) (by intro e; cases e) hloc { w with heap:=w.heap.setIfInBounds loc.blk (.map es'.toArray es'.length) } (by simp) h2 rfl rfl rfl (Zu hb h1) (o':=.mp k v l') (fun L=>⟨hty,hW,es',hes.keeps L.keeps.shut,h1⟩)
 exact⟨h3,h4,trivial,fun _ _=>rfl,fun _=>rfl⟩
theorem modify_toArray(es:List MapEntry)(i:Nat)(f:MapEntry→MapEntry):es.toArray.modify i f=(es.modify i f).toArray:=by
 apply Array.ext'
 simp
theorem Rd.ofVR {t:Ty}(hf:t.flat=true) {x:t.den} {v:Value}(h:VR ρ w ⟨t,x⟩ v): ∃c,Rd ρ.shut w t x c∧v=mkV t c:=by
 obtain⟨c,h1,h2⟩:=h
 exact⟨c,VR.flat hf h1,h2⟩
theorem MpR.push {k v:Ty} {l:List (k.den×v.den)} {es:List MapEntry}(h:MpR ρ w k v l es) {x:k.den} {y:v.den} {e:MapEntry}(hk: ∃c,Rd ρ w k x c∧e.key=mkV k c)(hv: ∃c,Rd ρ w v y c∧e.val=mkV v c)(hb:e.born=es.length):MpR ρ w k v (l++[(x,y)]) (es++[e]):=by
 refine⟨by simp[h.1],fun j q e' hq he=>?_⟩
 by_cases hj:j<l.length
 ·rw[List.getElem?_append_left hj]at hq
  rw[List.getElem?_append_left (by rw[←h.1]; exact hj)]at he
  exact h.2 j q e' hq he
 ·rw[List.getElem?_append_right (by omega)]at hq
  rw[List.getElem?_append_right (by rw[←h.1]; omega)]at he
  have hj0:j-l.length=0:=by
   rcases Nat.eq_zero_or_pos (j-l.length)with h0|h0
   ·exact h0
   ·rw[List.getElem?_eq_none (by simp; omega)]at hq; cases hq
  rw[hj0]at hq
  rw[show j-es.length=0 by rw[←h.1]; exact hj0]at he
  simp at hq he; subst hq; subst he
  exact⟨hk,hv,by rw[hb,←h.1]; omega⟩
theorem MpR.put {k v:Ty} {l:List (k.den×v.den)} {es:List MapEntry}(h:MpR ρ w k v l es) {j:Nat} {q:k.den×v.den} {e:MapEntry}(hq:l[j]?=some q)(he:es[j]?=some e) {x:k.den} {y:v.den} {f:MapEntry→MapEntry}(hk: ∃c,Rd ρ w k x c∧(f e).key=mkV k c)(hv: ∃c,Rd ρ w v y c∧(f e).val=mkV v c)(hb:(f e).born=e.born):MpR ρ w k v (l.set j (x,y)) (es.modify j f):=by
 refine⟨by simp[h.1],fun i q' e' hq' he'=>?_⟩
 rw[List.getElem?_modify]at he'
 by_cases hij:i=j
 ·subst hij
  rw[he]at he'; simp at he'; subst he'
  rw[List.getElem?_set_self (List.getElem?_eq_some_iff.1 hq).1]at hq'; cases hq'
  obtain⟨_,_,h3⟩:=h.2 i q e hq he
  exact⟨hk,hv,by rw[hb,h3]⟩
 ·rw[List.getElem?_set_ne (Ne.symm hij)]at hq'
  simp[Ne.symm hij]at he'
  exact h.2 i q' e' hq' he'
theorem TS {k v:Ty} {x:k.den} {y:v.den} : ∀ {l:List (k.den×v.den)},lK k v l x=none→gN k v l x y=l++[(x,y)]
 | [],_=>rfl
 |e::l,h=>by
  cases hb:eqF k x e.1
  ·simp only[lK,hb,cond_false]at h
   simp only[gN,hb,cond_false,TS h]; rfl
  ·simp[lK,hb]at h
theorem TU {k v:Ty} {x:k.den} {y:v.den} : ∀ {l:List (k.den×v.den)} {z:v.den},lK k v l x=some z→gN k v l x y=l.set (midx k v l x) (x,y)
 | [],_,h=>by cases h
 |e::l,z,h=>by
  cases hb:eqF k x e.1
  ·simp only[lK,hb,cond_false]at h
   simp only[gN,midx,hb,cond_false,TU h]; rfl
  ·simp[gN,midx,hb]
include hti in
theorem Kk(hr:aP B ρ s a w) {T:TypeId} {x y z:PV} {vx vy vz:Value} {pv:PV} {u:Upd}(hx:VP ρ w x vx)(hy:VP ρ w y vy)(hz:VP ρ w z vz)(nx:Nat)(h:jh C.ti T x y z s.h (fun p u=>some (p,u))=some (pv,u)):
  ∃w',(Instr.mapUpdate T vx vy vz).run P w= .ok () w'∧After B ρ s a w nx pv u 0 undef ρ w':=by
 unfold jh at h
 split at h
 ·rename_i kv ix yv hm
  have hm:=Dm hti hm
  split at h
  ·rename_i key val hkey hval
   have hvflat:=hm.ex.choose_spec.choose_spec.choose_spec.2.2.2.2.1
   have hkkey:=hm.ex.choose_spec.choose_spec.choose_spec.2.2.2.1
   have hkv:=Dn hkkey (VR.to hy hkey)
   subst hkv
   obtain⟨c,hc,hcv⟩:=Rd.ofVR hvflat (VR.to hz hval)
   split at h
   ·rename_i id
    obtain⟨loc,hloc,hty,rfl⟩:=VR.mpSome hx
    split at h
    ·rename_i k v l ho
     split at h
     ·rename_i ee
      obtain⟨e1,e2⟩:=ee
      subst e1; subst e2
      cases h
      obtain⟨_,_,es,hes,hb⟩:=hr.live ho (by intro e; cases e) hloc
      obtain⟨kT,vT,h1,h2,h3,h3',h4⟩:=Kj hm hes key
      have hg:=MapKept.run_getObj_map (P:=P) hb
      rcases h4 with⟨h5,_,h6⟩|⟨j,q,e,h5,h6,h7,h8,h9,h10⟩
      ·have hp:=hes.push (x:=key) (y:=val) (e:= { key:=lN kv.1 key,val:=vz,born:=es.length }) ⟨_,Rd.lN hkkey _ _ _,(Ki hkkey (Rd.lN hkkey ρ w key)).2.symm⟩ ⟨c,hc,hcv⟩ rfl
       rw[←TS h5]at hp
       obtain⟨w',h11,h12⟩:=Cc (P:=P) hr ho hloc hb hp nx
       refine⟨w',?_,h12⟩
       simp only[Instr.mapUpdate,Sem.run_bind,run_underlying h1,hg,h2,h6,Result.andThen_ok]
       simpa using h11
      ·have hp:=hes.put h5 h6 (x:=key) (y:=val) (f:=fun e=> { e with key:=lN kv.1 key,val:=vz }) ⟨_,Rd.lN hkkey _ _ _,(Ki hkkey (Rd.lN hkkey ρ w key)).2.symm⟩ ⟨c,hc,hcv⟩ rfl
       rw[←h8,←TU h7]at hp
       obtain⟨w',h11,h12⟩:=Cc (P:=P) hr ho hloc hb hp nx
       refine⟨w',?_,h12⟩
       have hk0:((es.toArray[j]?).map (·.key)).getD (lN kv.1 key)=lN kv.1 key:=by simp[h6,h9]
       simp only[Instr.mapUpdate,Sem.run_bind,run_underlying h1,hg,h2,h10,Result.andThen_ok,hk0,h3',modify_toArray]
       rw[h8]at h11
       simpa using h11
     ·cases h
    ·cases h
   ·cases h
  ·cases h
 ·cases h
include hti in
theorem MI(hr:aP B ρ s a w) {T:TypeId} {x y:PV} {vx vy:Value} {pv:PV} {u:Upd}(hx:VP ρ w x vx)(hy:VP ρ w y vy)(nx:Nat)(h:kS C.ti T x y s.h (fun p u=>some (p,u))=some (pv,u)):
  ∃v w',(Instr.mapEntry T vx vy).run P w= .ok v w'∧After B ρ s a w nx pv u 0 v ρ w':=by
 unfold kS at h
 split at h
 ·rename_i kv ix hm
  have hm:=Dm hti hm
  split at h
  ·rename_i key hkey
   have hvflat:=hm.ex.choose_spec.choose_spec.choose_spec.2.2.2.2.1
   have hkkey:=hm.ex.choose_spec.choose_spec.choose_spec.2.2.2.1
   have hkv:=Dn hkkey (VR.to hy hkey)
   subst hkv
   split at h
   ·rename_i id
    obtain⟨loc,hloc,hty,rfl⟩:=VR.mpSome hx
    split at h
    ·rename_i k v l ho
     split at h
     ·rename_i ee
      obtain⟨e1,e2⟩:=ee
      subst e1; subst e2
      cases h
      obtain⟨_,_,es,hes,hb⟩:=hr.live ho (by intro e; cases e) hloc
      obtain⟨kT,vT,h1,h2,h3,h3',h4⟩:=Kj hm hes key
      have hg:=MapKept.run_getObj_map (P:=P) hb
      rcases h4 with⟨h5,h5',h6⟩|⟨j,q,e,h5,h6,h7,h8,h9,h10⟩
      ·have hp:=hes.push (x:=key) (y:=kv.2.zero) (e:= { key:=lN kv.1 key,val:=mkV kv.2 kv.2.zcells,born:=es.length }) ⟨_,Rd.lN hkkey _ _ _,(Ki hkkey (Rd.lN hkkey ρ w key)).2.symm⟩ ⟨_,Rd.zero _ _ _,rfl⟩ rfl
       have hput:a3x kv.1 kv.2 l key=l++[(key,kv.2.zero)]:=by simp[a3x,acM,h5]
       rw[←hput]at hp
       obtain⟨w',h11,h12⟩:=Cc (P:=P) hr ho hloc hb hp nx
       refine⟨.tuple #[mkV kv.2 kv.2.zcells,goInt es.length],w',?_,⟨h12.rel,h12.later,⟨[mkV kv.2 kv.2.zcells,goInt es.length],rfl,?_,?_,trivial⟩,h12.same,h12.new⟩⟩
       ·simp only[Instr.mapEntry,Sem.run_bind,run_underlying h1,hg,h2,h6,h3,Result.andThen_ok]
        have:(setObj loc.blk (.map (es.toArray.push { key:=lN kv.1 key,val:=mkV kv.2 kv.2.zcells,born:=es.length }) (es.length+1))).run P w= .ok () w':=by simpa using h11
        rw[this]; rfl
       ·show VR ρ w' ⟨_,(lK kv.1 kv.2 l key).getD _⟩ _
        rw[h5]; exact VR.ofCells (Rd.zero _ _ _)
       ·show VR ρ w' ⟨.int .i64,((midx kv.1 kv.2 l key:Nat):Int)⟩ _
        rw[h5',hes.1]; exact VR.mkInt
      ·have hp:=hes.put h5 h6 (x:=q.1) (y:=q.2) (f:=fun e=> { e with key:=lN kv.1 key }) (by
        obtain⟨⟨c,hc,hkc⟩,_⟩:=hes.2 j q e h5 h6
        exact⟨c,hc,by rw[←hkc,h9]⟩) (by
        obtain⟨_,⟨c,hc,hvc⟩,_⟩:=hes.2 j q e h5 h6
        exact⟨c,hc,hvc⟩) rfl
       have hput:a3x kv.1 kv.2 l key=l:=by simp[a3x,acM,h7]
       have hset:l.set j (q.1,q.2)=l:=by
        apply List.ext_getElem?
        intro i
        by_cases hij:i=j
        ·subst hij
         rw[List.getElem?_set_self (List.getElem?_eq_some_iff.1 h5).1,h5]
        ·rw[List.getElem?_set_ne (Ne.symm hij)]
       rw[hset,←hput]at hp
       obtain⟨w',h11,h12⟩:=Cc (P:=P) hr ho hloc hb hp nx
       obtain⟨_,⟨c,hc,hvc⟩,hborn⟩:=hes.2 j q e h5 h6
       have hk0:((es.toArray[j]?).map (·.key)).getD (lN kv.1 key)=lN kv.1 key:=by simp[h6,h9]
       have hb0:((es.toArray[j]?).map (fun x=>(x.born:Int))).getD 0=(j:Int):=by simp[h6,hborn]
       refine⟨.tuple #[e.val,goInt j],w',?_,⟨h12.rel,h12.later,⟨[e.val,goInt j],rfl,?_,?_,trivial⟩,h12.same,h12.new⟩⟩
       ·simp only[Instr.mapEntry,Sem.run_bind,run_underlying h1,hg,h2,h10,Result.andThen_ok,hk0,h3',modify_toArray,hb0]
        have:(setObj loc.blk (.map (es.modify j fun e=> { e with key:=lN kv.1 key }).toArray es.length)).run P w= .ok () w':=by simpa using h11
        rw[this]; simp only[Result.andThen_ok,hb0]; rfl
       ·show VR ρ w' ⟨_,(lK kv.1 kv.2 l key).getD _⟩ _
        rw[h7,hvc]; exact VR.ofCells (VR.flat hvflat hc)
       ·show VR ρ w' ⟨.int .i64,((midx kv.1 kv.2 l key:Nat):Int)⟩ _
        rw[h8]; exact VR.mkInt
     ·cases h
    ·cases h
   ·cases h
  ·cases h
 ·cases h
theorem findIdx_born {ρ:Rho} {k v:Ty} {l:List (k.den×v.den)} {es:List MapEntry}(h:MpR ρ w k v l es) {n:Nat}(hn:n<es.length):es.toArray.findIdx? (fun e=>(e.born:Int)==(n:Int))=some n:=by
 rw[List.findIdx?_toArray,List.findIdx?_eq_some_iff_getElem]
 have hb: ∀i (hi:i<es.length),es[i].born=i:=fun i hi=>by
  have hl:i<l.length:=by rw[h.1]; exact hi
  exact(h.2 i l[i] es[i] (List.getElem?_eq_getElem hl) (List.getElem?_eq_getElem hi)).2.2
 refine⟨hn,by simp[hb n hn],fun j hj=>?_⟩
 simp only[hb j (by omega),Bool.not_eq_true,beq_eq_false_iff_ne]
 omega
include hti in
theorem JI(hr:aP B ρ s a w) {T:TypeId} {x y z:PV} {vx vy vz:Value} {pv:PV} {u:Upd}(hx:VP ρ w x vx)(hy:VP ρ w y vy)(hz:VP ρ w z vz)(nx:Nat)(h:iA C.ti T x y z s.h (fun p u=>some (p,u))=some (pv,u)):
  ∃w',(Instr.entryStore T vx vy vz).run P w= .ok () w'∧After B ρ s a w nx pv u 0 undef ρ w':=by
 unfold iA at h
 split at h
 ·rename_i kv kd n yv hm
  have hm:=Dm hti hm
  split at h
  ·rename_i val hval
   have hvflat:=hm.ex.choose_spec.choose_spec.choose_spec.2.2.2.2.1
   have hn:=VR.int hy
   subst hn
   obtain⟨c,hc,hcv⟩:=Rd.ofVR hvflat (VR.to hz hval)
   split at h
   ·rename_i id
    obtain⟨loc,hloc,hty,rfl⟩:=VR.mpSome hx
    split at h
    ·rename_i k v l ho
     split at h
     ·rename_i ee
      subst ee
      cases hib:inb n l.length
      ·rw[hib]at h; cases h
      ·rw[hib]at h; cases h
       obtain⟨n1,n2,n3⟩:=zl hib
       obtain⟨_,_,es,hes,hb⟩:=hr.live ho (by intro e; cases e) hloc
       have hg:=MapKept.run_getObj_map (P:=P) hb
       have hlt:n.toNat<es.length:=by rw[←hes.1]; exact n3
       have hq:l[n.toNat]?=some l[n.toNat]:=List.getElem?_eq_getElem n3
       have he:es[n.toNat]?=some es[n.toNat]:=List.getElem?_eq_getElem hlt
       have hp:=hes.put hq he (x:=l[n.toNat].1) (y:=val) (f:=fun e=> { e with val:=vz }) (hes.2 _ _ _ hq he).1 ⟨c,hc,hcv⟩ rfl
       have hset:l.set n.toNat (l[n.toNat].1,val)=Zt k kv.2 l n.toNat val:=by
        apply List.ext_getElem?
        intro i
        simp only[Zt,List.getElem?_modify]
        by_cases hij:n.toNat=i
        ·subst hij
         rw[List.getElem?_set_self n3,hq]; simp
        ·rw[List.getElem?_set_ne hij]; simp[hij]
       rw[hset]at hp
       obtain⟨w',h11,h12⟩:=Cc (P:=P) hr ho hloc hb hp nx
       refine⟨w',?_,h12⟩
       have hfi:=findIdx_born hes hlt
       rw[Int.toNat_of_nonneg n1]at hfi
       simp only[Instr.entryStore,Sem.run_bind,hg,Result.andThen_ok,asInt,asIntOf,Sem.run_pure,hfi,modify_toArray]
       simpa using h11
     ·cases h
    ·cases h
   ·cases h
  ·cases h
 ·cases h
theorem OP(hr:aP B ρ s a w) {T:TypeId} {r:Ans}(nx:Nat)(hn:ρ nx=none)(h:rQ C.ti T nx pk=some r):
  ∃ρ' v w',(Instr.makeMap T none).run P w= .ok v w'∧After B ρ s a w nx r.1 r.2.1 r.2.2 v ρ' w':=by
 unfold rQ at h
 split at h
 ·rename_i kv hm
  cases h
  obtain⟨ρ',h1,h2,h3,h4⟩:=hr.allocO nx hn (.mp kv.1 kv.2 []) (.map #[] 0) .mp none
   (fun ρ' w' L hW hb=>⟨rfl,hW,[],⟨rfl,fun j q e hq=>by simp at hq⟩,hb⟩) (w.alloc (.map #[] 0)) rfl rfl rfl rfl
  refine⟨ρ',.map (some w.heap.size),w.alloc (.map #[] 0),?_,⟨h1,h2,⟨[_],⟨_,h3,rfl,rfl⟩,rfl⟩,h4,fun e=>absurd e Nat.one_ne_zero⟩⟩
  rfl
 ·cases h
theorem UF(hti:xw P C.ti)(hr:aP B ρ s a w) {Ts:Array TypeId} {ty:TypeId} {x:PV} {vx:Value} {pv:PV}(hx:VP ρ w x vx)(h:Bt C.ti ty x s.h some=some pv):
  ∃v w',(Builtin.unsafeSliceData_ Ts ty #[vx]).run P w= .ok v w'∧(aP B ρ s a w'∧Later ρ w ρ w')∧VP ρ w' pv v:=by
 unfold Bt at h
 split at h
 ·rename_i i hi
  have hu:=hti.under ty i hi
  split at h
  ·rename_i e t hd
   cases h
   have e:=VR.slNil hx; subst e
   exact⟨_,w,rfl,⟨hr,Later.refl _ _⟩,none,rfl,fun h=>by cases h⟩
  ·rename_i e t id n hd
   split at h
   ·rename_i sh e0 t0 k f ho
    cases h
    rw[hd]at hu
    rcases VR.slMs hx with⟨h0,rfl⟩|⟨loc,m,cap,o,hloc,hok,hat,hle,rfl,ho',hlc,hcap⟩
    ·subst h0
     exact⟨_,w,rfl,⟨hr,Later.refl _ _⟩,none,rfl,fun h=>by cases h⟩
    ·rw[Ty.at_nil]at hat
     have hty:loc.ty= .arr m t:=Option.some.inj hat
     obtain⟨_,_,cs,sp,_,⟨fr,hb,_⟩,_⟩:=hr.live ho (by intro e; cases e) hloc
     have fact:0<n→(some ⟨loc.blk,o,none⟩:Option Addr)=some ⟨loc.blk,0,none⟩:=fun h=>by
      have:=ho' h
      rw[Ty.off_nil]at this
      simp at this; rw[this]
     by_cases hc:cap=0
     ·subst hc
      have hn0:n=0:=by omega
      subst hn0
      have hs:=hr.same (w':=w.alloc (.view ⟨loc.blk,o,none⟩ e)) (by simp only[World.alloc,Array.size_push]; omega) (fun b hb=>by simp only[World.alloc,Array.getElem?_push]; rw[if_neg (by omega)]) rfl rfl rfl (fun a ha=>by simp only[World.frozen?,World.alloc,Array.getElem?_push]; rw[if_neg (by omega)])
      exact⟨_,_,Lib.run_unsafeSliceData_zero w Ts ty e hu _ 0 (e0,(cs++sp).toArray.size) (by simp only[World.shape?,hb]),hs,_,rfl,fun h=>by cases h⟩
     ·refine⟨.pointer (some ⟨loc.blk,o,none⟩),w,?_,⟨hr,Later.refl _ _⟩,_,rfl,fun h=>⟨loc,m,t,hloc,hty,by omega,fact h⟩⟩
      exact Lib.run_unsafeSliceData_row w Ts ty _ n cap hc
   ·cases h
  ·cases h
 ·cases h
theorem Kl {P:Program} {w:World} : ∀(l:List Int) (a:Addr) (acc:ByteArray),(∀(j:Nat) x,l[j]?=some x→w.cell? (a.add j)=some (.int .u8 x))→
  (loadBytes a acc l.length).run P w= .ok ⟨acc.data++(l.map fun x=>UInt8.ofNat x.toNat).toArray⟩ w
 | [],a,acc,_=>by simp[loadBytes]
 |x::l,a,acc,h=>by
  have h0:w.cell? a=some (.int .u8 x):=by
   have:=h 0 x rfl
   simpa [Addr.add]using this
  have ih:=Kl (P:=P) (w:=w) l (a.add 1) (acc.push (UInt8.ofNat x.toNat)) (fun j y hy=>by
   have:=h (j+1) y (by simpa using hy)
   have e:(a.add 1).add j=a.add (j+1):=by
    unfold Addr.add
    by_cases hj:j=0
    ·subst hj; simp
    ·simp[hj]; omega
   rw[e]; exact this)
  simp only[List.length_cons,loadBytes,Sem.run_bind,run_load,h0,Result.andThen]
  rw[show x.toNat.toUInt8=UInt8.ofNat x.toNat from rfl,ih]
  congr 1
  apply ByteArray.ext
  simp[ByteArray.push]
theorem SN(w:World)(a:Addr)(n:Nat):(w.freeze a n).os=w.os∧(w.freeze a n).tape=w.tape∧(w.freeze a n).output=w.output∧(w.freeze a n).heap.size=w.heap.size∧ ∀b,b≠a.block→(w.freeze a n).heap[b]?=w.heap[b]?:=by
 unfold World.freeze
 split
 ·exact⟨rfl,rfl,rfl,rfl,fun _ _=>rfl⟩
 ·refine⟨rfl,rfl,rfl,by simp,fun b hb=>?_⟩
  simp only[Array.getElem?_modify]
  rw[if_neg (Ne.symm hb)]
theorem UG(hti:xw P C.ti)(hr:aP B ρ s a w) {T:TypeId} {Ts:Array TypeId}(hT:Ts[0]?=some T) {ty:TypeId} {x y:PV} {vx vy:Value} {pv:PV} {u:Upd}(hx:VP ρ w x vx)(hy:VP ρ w y vy)(nx:Nat)(h:Bu C.ti T x y s.h (fun p u=>some (p,u))=some (pv,u)):
  ∃v w',(Builtin.unsafeString_ Ts ty #[vx,vy]).run P w= .ok v w'∧After B ρ s a w nx pv u 0 v ρ w':=by
 have hmax:IntKind.i64.max=9223372036854775807:=rfl
 unfold Bu at h
 split at h
 ·rename_i i hi
  have hu:=hti.under T i hi
  split at h
  ·rename_i e id n m hd
   rw[hd]at hu
   have e1:=VR.int hy; subst e1
   cases hb:decide (m=(n:Int))&&Nat.ble n 9223372036854775807
   ·rw[hb]at h; cases h
   ·rw[hb]at h; simp only[cond_true]at h
    simp only[Bool.and_eq_true,decide_eq_true_eq]at hb
    obtain⟨rfl,hb2⟩:=hb
    have hb2:=Nat.le_of_ble_eq_true hb2
    obtain⟨p,rfl,hp⟩:=hx
    have none0:n=0→(Builtin.unsafeString_ Ts ty #[.pointer p,.int .i64 (n:Int)]).run P w= .ok (.string .empty) w:=by
     intro h0; subst h0
     cases p with
     |none=>
      show(asInt (.int .i64 ((0:Nat):Int))>>= _:Sem Value).run P w=_
      simp[asInt,asIntOf,hmax,hT]
     |some a=>
      show(asInt (.int .i64 ((0:Nat):Int))>>= _:Sem Value).run P w=_
      simp[asInt,asIntOf,hmax,hT]
    split at h
    ·rename_i sh e' k f ho
     cases hb3:Nat.beq e' e&&MB C.ti e
     ·rw[hb3]at h; cases h
     ·rw[hb3]at h; cases h
      simp only[Bool.and_eq_true]at hb3
      have:=Nat.eq_of_beq_eq_true hb3.1; subst this
      rcases Nat.eq_zero_or_pos n with h0|h0
      ·subst h0
       refine⟨_,w,none0 rfl,⟨hr.kill id,Later.refl _ _,?_,fun _ _=>rfl,fun _=>rfl⟩⟩
       exact VR.mkStr
      ·obtain⟨loc,m,t,hloc,hty,hnm,rfl⟩:=hp h0
       obtain⟨e1,hW,cs,sp,hcs,⟨fr,hblk,_⟩,cap,_,hlen,hkc,hcm⟩:=hr.live ho (by intro e; cases e) hloc
       rw[hty]at e1
       have ekm:m=k:=by cases e1; rfl
       subst ekm
       have hby:=Rd.bytes hcs.openAt
       have hcl:cs.length=m:=by rw[hcs.1]; simp[Ty.size]
       have hu8:=JH hti hb3.2
       obtain⟨j,hj⟩: ∃j,look C.ti e'=some j:=by
        have:=hb3.2
        unfold MB at this
        split at this
        ·rename_i j hj; exact⟨j,hj⟩
        ·cases this
       have hjd:j.desc= .int .u8:=by
        have h1:=hti.under e' j hj
        rw[hu8]at h1; exact(Option.some.inj h1).symm
       have hjs:j.ty.size=1:=by
        have:=hti.shape e' j hj
        unfold ow at this
        rw[hjd]at this
        simp only at this
        rw[this]; rfl
       have hcell1:P.cellsOf e'=1:=by
        obtain⟨inf,h1,h2,_⟩:=hti.info e' j hj
        simp[Program.cellsOf,h1,h2,hjs]
       have hload:=Kl (P:=P) (w:=w) ((List.range n).map f) ⟨loc.blk,0,none⟩ .empty (fun q x hq=>by
        rw[gQ,cell_of_row w _ _ _ _ _ hblk]
        simp only[List.getElem?_map,Option.map_eq_some_iff]at hq
        obtain⟨q',h1,rfl⟩:=hq
        have hlt:q<n:=by have:=(List.getElem?_eq_some_iff.1 h1).1; simpa using this
        have e2:q'=q:=by
         have:=(List.getElem?_eq_some_iff.1 h1).2
         simpa using this.symm
        subst e2
        simp only[List.getElem?_toArray,Nat.zero_add]
        rw[List.getElem?_append_left (by omega),hby]
        simp[show q'<m by omega])
       simp only[List.length_map,List.length_range]at hload
       obtain⟨f1,f2,f3,f4,f5⟩:=SN w ⟨loc.blk,0,none⟩ n
       obtain⟨h5,h6⟩:=hr.spoil ho (by intro e; cases e) hloc (w.freeze ⟨loc.blk,0,none⟩ n) f4 f5 f1 f2 f3
       refine⟨.string (bytesOf n f),_,?_,⟨h5,h6,VR.mkStr,fun _ _=>rfl,fun _=>rfl⟩⟩
       show(asInt (.int .i64 ((n:Nat):Int))>>= _:Sem Value).run P w=_
       have hlies:=Lib.liesAt_bytes (P:=P) hcell1 ((cs++sp).toArray.size/P.cellsOf e') n (by rw[hcell1]; simp; omega)
       have hsh:w.shape? loc.blk=some (e',(cs++sp).toArray.size):=by simp only[World.shape?,hblk]
       have hneg: ¬(n:Int)<0:=by omega
       have hgt: ¬(9223372036854775807:Int)<(n:Int):=by omega
       have hne: ¬n=0:=by omega
       have hbo:(⟨ByteArray.empty.data++((List.range n).map f|>.map fun x=>UInt8.ofNat x.toNat).toArray⟩:ByteArray)=bytesOf n f:=by
        unfold bytesOf; simp[List.map_map]
       rw[hbo]at hload
       simp only[asInt,asIntOf,hmax,hT,Sem.run_bind,Sem.run_pure,Result.andThen_ok,Sem.run_ite,hneg,hgt,if_false,Int.ofNat_eq_zero,Int.natCast_eq_zero,hne,Int.toNat_natCast,elemOf,run_underlying hu,variablesAt,run_shape,hsh,hlies,run_freeze,hload,if_true,run_program]
    ·cases hb3:Nat.beq n 0
     ·rw[hb3]at h; cases h
     ·rw[hb3]at h; cases h
      exact⟨_,w,none0 (Nat.eq_of_beq_eq_true hb3),After.pure hr VR.mkStr⟩
  ·cases h
 ·cases h
end
end Go.Den
namespace Go.Den
section
variable {P:Program} {C:Cx} (hti:xw P C.ti) {B:Base} {ρ:Rho} {s:DS} {a:Act} {w:World}
theorem zm {o:Oper} {S:Sem Value} {v:Value} {w':World}(ho:execOp a.eval o=(do pure (Next.value (←S))))(h:S.run P w= .ok v w'):Goes P o a w v w':=by
 left; rw[ho]; simp[h]
theorem MJ {o:Oper} {S:Sem Unit} {w':World}(ho:execOp a.eval o=(do S; pure Next.skip))(h:S.run P w= .ok () w'):Goes P o a w undef w':=by
 right; rw[ho]; simp[h]
theorem oL(e:TypeId)(c:Array Value):(newRow e c).run P w= .ok ⟨w.heap.size,0,none⟩ (w.alloc (.cells c e)):=by
 simp only[newRow,Sem.run_bind,run_newObj,Result.andThen_ok,Sem.run_pure]; rfl
theorem a1Q(hr:aP B ρ s a w)(nx:Nat)(hn:ρ nx=none) {t:Ty} {n:Nat} {f:Nat→t.den} {cs:List Value} {sh:Bool}(T:TypeId)(hc:Rd (ρ.at sh) w (.arr n t) f cs)(hm:n≤9223372036854775807):
  ∃ρ',After B ρ s a w nx (.v ⟨.sl t,.ms nx [] 0 n⟩) [(nx,.row sh T t n f)] 1 (.slice (some ⟨w.heap.size,0,none⟩) n n) ρ' (w.alloc (.cells cs.toArray T)):=by
 obtain⟨ρ',h1,h2,h3,h4⟩:=hr.alloc nx hn (.row sh T t n f) cs.toArray T (.arr n t) (some n) (fun ρ' w' L hW hb=>⟨rfl,hW,cs,[],hc.keeps (L.keeps.at sh),lq.of (by simpa using hb),n,rfl,by have:=hc.length; simpa [Ty.size]using this,Nat.le_refl _,hm⟩) (w.alloc (.cells cs.toArray T)) rfl rfl rfl rfl
 refine⟨ρ',h1,h2,⟨[_],.inr ⟨_,n,n,0,h3,Ty.okP_nil _,Ty.at_nil _,by omega,rfl,fun _=>by rw[Ty.off_nil]; simp,Nat.le_refl _,fun c hc _ _=>⟨by cases hc; rfl,rfl⟩⟩,rfl⟩,h4,fun e=>absurd e (by decide)⟩
theorem Wi {x y:PV} {vx vy:Value} {pv:PV}(hx:VP ρ w x vx)(hy:VP ρ w y vy)(h:K7 x y some=some pv): ∃v,(Builtin.max_ #[] 0 #[vx,vy]).run P w= .ok v w∧VP ρ w pv v:=by
 unfold K7 at h
 split at h
 ·split at h
  ·rename_i k a k' b e; subst e
   cases h
   have e1:=VR.int hx; have e2:=VR.int hy; subst e1; subst e2
   exact⟨_,by simp only[Builtin.max_,List.foldlM_cons,List.foldlM_nil,Builtin.max2]; rfl,VR.mkInt⟩
  ·cases h
 ·cases h
theorem Wj {x y:PV} {vx vy:Value} {pv:PV}(hx:VP ρ w x vx)(hy:VP ρ w y vy)(h:K8 x y some=some pv): ∃v,(Builtin.min_ #[] 0 #[vx,vy]).run P w= .ok v w∧VP ρ w pv v:=by
 unfold K8 at h
 split at h
 ·split at h
  ·rename_i k a k' b e; subst e
   cases h
   have e1:=VR.int hx; have e2:=VR.int hy; subst e1; subst e2
   exact⟨_,by simp only[Builtin.min_,List.foldlM_cons,List.foldlM_nil,Builtin.min2]; rfl,VR.mkInt⟩
  ·cases h
 ·cases h
include hti in
theorem Wl {T:TypeId} {Ts:Array TypeId}(hT:Ts[0]?=some T) {ty:TypeId} {x:PV} {vx:Value} {pv:PV}(hx:VP ρ w x vx)(h:K9 C.ti T x some=some pv): ∃v,(Builtin.len_ Ts ty #[vx]).run P w= .ok v w∧VP ρ w pv v:=by
 unfold K9 at h
 split at h
 ·rename_i i hi
  have hu:=hti.under T i hi
  split at h
  ·rename_i hd; rw[hd]at hu
   split at h
   ·cases h
    have e:=VR.str hx; subst e
    exact⟨_,by simp[Builtin.len_,hT,run_underlying hu]; rfl,VR.mkInt⟩
   ·cases h
  ·rename_i e hd; rw[hd]at hu
   split at h
   ·rename_i t y
    split at h
    ·rename_i n hn
     cases h
     have hs: ∃ad l cap,vx= .slice ad l cap∧n=(l:Int):=by
      cases y<;>simp only[lenOf,Option.some.injEq]at hn<;>subst hn
      ·have e:=VR.slNil hx; subst e; exact⟨_,_,_,rfl,rfl⟩
      ·obtain⟨ad,cap,rfl,_⟩:=VR.slFz hx; exact⟨_,_,_,rfl,rfl⟩
      ·rcases VR.slMs hx with⟨rfl,rfl⟩|⟨_,_,_,_,_,_,_,_,rfl,_⟩
       ·exact⟨_,_,_,rfl,rfl⟩
       ·exact⟨_,_,_,rfl,rfl⟩
     obtain⟨ad,l,cap,rfl,rfl⟩:=hs
     exact⟨_,by simp[Builtin.len_,hT,run_underlying hu]; rfl,VR.mkInt⟩
    ·cases h
   ·cases h
  ·rename_i n e hd; rw[hd]at hu
   cases h
   exact⟨_,by simp[Builtin.len_,hT,run_underlying hu]; rfl,VR.mkInt⟩
  ·cases h
 ·cases h
theorem NH {t:Ty} {T0:TypeId} {v:Value}(h:t.head=some T0)(hv:t.zcells[0]?=some v):v= .pointer none:=by
 unfold Ty.head at h
 split at h
 ·simp[Ty.zcells]at hv; exact hv.symm
 ·simp[Ty.zcells]at hv; exact hv.symm
 ·cases h
include hti in
theorem Qj {o:Oper}(hr:aP B ρ s a w)(nx:Nat)(hn:ρ nx=none) {pv:PV} {u:Upd} {n:Nat}(h:EX C o s.val s.h nx pk=some (pv,u,n)):
  ∃ρ' w' v,Goes P o a w v w'∧After B ρ s a w nx pv u n v ρ' w':=by
 have pure0: ∀ {S:Sem Value} {pv':PV},pk pv' [] 0=some (pv,u,n)→execOp a.eval o=(do pure (Next.value (←S)))→(∃v,S.run P w= .ok v w∧VP ρ w pv' v)→ ∃ρ' w' v,Goes P o a w v w'∧After B ρ s a w nx pv u n v ρ' w':=by
  intro S pv' hk ho ⟨v,h1,h2⟩
  cases hk
  exact⟨ρ,w,v,zm ho h1,After.pure hr h2⟩
 have nat0: ∀(f:(R:Type)→(PV→Option R)→Option R),(∀(R:Type) (K:PV→Option R),f R K=(f PV some).bind K)→f Ans (fun v=>pk v [] 0)=some (pv,u,n)→ ∃pv',f PV some=some pv'∧pk pv' [] 0=some (pv,u,n):=by
  intro f hf h
  rw[hf]at h
  cases hp:f PV some with
  |none=>rw[hp]at h; cases h
  |some pv'=>rw[hp]at h; exact⟨pv',rfl,h⟩
 unfold EX k0 at h
 split at h
 ·rename_i x hop
  cases h
  exact⟨ρ,w,_,.inl (by simp only[execOp,hop]; rfl),After.pure hr (hr.eval x)⟩
 ·rename_i x hop
  cases h
  exact⟨ρ,w,_,.inl (by simp only[execOp,hop]; rfl),After.pure hr (hr.eval x)⟩
 ·rename_i c x y hop
  split at h
  ·rename_i b hc
   have hcv:=hr.eval c; rw[hc]at hcv
   have hcv:=VR.bool hcv
   cases b
   ·simp only[cond_false]at h; cases h
    exact⟨ρ,w,_,.inl (by simp only[execOp,hop,hcv,asBool,Sem.run_bind,Sem.run_pure,Result.andThen_ok]; rfl),After.pure hr (hr.eval y)⟩
   ·simp only[cond_true]at h; cases h
    exact⟨ρ,w,_,.inl (by simp only[execOp,hop,hcv,asBool,Sem.run_bind,Sem.run_pure,Result.andThen_ok]; rfl),After.pure hr (hr.eval x)⟩
  ·cases h
 ·rename_i T hop
  split at h
  ·rename_i i hi
   cases h
   have hz:=Rd.zero ρ w i.ty
   obtain⟨ρ',h1⟩:=F9 hr nx hn T hz (fun b T0 h0=>⟨(hti.head T i T0 hi h0).symm,fun v hv=>.inl (NH h0 hv)⟩)
   refine⟨ρ',_,_,.inl ?_,h1⟩
   simp only[execOp,hop,Instr.alloc,Sem.run_bind,hti.zero T i w hi,Result.andThen_ok,newVar,oL,jR hz,Sem.run_pure]
  ·cases h
 ·rename_i T x hop
  split at h
  ·rename_i i v hi hx
   split at h
   ·rename_i y hy
    have hv:=hr.eval x; rw[hx]at hv
    obtain⟨c,hc,hcells,_⟩:=(VR.to hv hy).cells
    generalize List.any _ _=fz at h
    cases fz
    ·simp only[cond_false]at h
     cases hsp:i.ty.spHead
     rotate_left
     ·rw[hsp]at h; cases h
     rw[hsp]at h
     cases h
     obtain⟨ρ',h1⟩:=F9 hr nx hn T hc (fun b T0 h0=>by simp[Ty.spHead,h0]at hsp)
     refine⟨ρ',_,_,.inl ?_,h1⟩
     simp only[execOp,hop,Instr.box,Sem.run_bind,newVar,oL,hcells,Result.andThen_ok,Sem.run_pure]
    ·simp only[cond_true]at h
     cases hb:fV i.ty y
     ·rw[hb]at h; cases h
     ·rw[hb]at h; cases h
      have h1:=acP hr nx T hc hb
      refine⟨ρ,_,_,.inl ?_,h1⟩
      simp only[execOp,hop,Instr.box,Sem.run_bind,newVar,oL,hcells,Result.andThen_ok,Sem.run_pure]
   ·cases h
  ·rename_i i t hi hx
   split at h
   ·rename_i e; subst e
    generalize List.any _ _=fz at h
    cases fz
    ·simp only[cond_false]at h
     cases h
     have hv:=hr.eval x; rw[hx]at hv
     have hv:a.eval x=mkV i.ty i.ty.zcells:=hv
     have hz:=Rd.zero ρ w i.ty
     obtain⟨ρ',h1⟩:=F9 hr nx hn T hz (fun b T0 h0=>⟨(hti.head T i T0 hi h0).symm,fun v hv=>.inl (NH h0 hv)⟩)
     refine⟨ρ',_,_,.inl ?_,h1⟩
     simp only[execOp,hop,Instr.box,Sem.run_bind,newVar,oL,hv,jR hz,Result.andThen_ok,Sem.run_pure]
    ·cases h
   ·cases h
  ·cases h
 ·rename_i T parts hop
  obtain⟨pv',h1,h2⟩:=nat0 (fun R K=>yj C.ti T _ K) (fun R K=>F3 ..) h
  refine pure0 h2 (S:=Instr.build T (parts.map fun(i,x)=>(i,a.eval x))) (by simp only[execOp,hop]) ?_
  obtain⟨h3,h4⟩:=NG hr parts.toList
  exact SH hti (by simp) (fun j p v hp hv=>h4 j p v hp (by simpa using hv)) h1
 ·rename_i T len parts hop
  split at h
  ·rename_i i hi
   have hu:=hti.under T i hi
   split at h
   ·rename_i e t hd hty
    rw[hd]at hu
    obtain⟨i',hi',h2,h3⟩:=oK hti hi hd
    split at h
    ·rename_i ie hie
     rw[hi']at hie; cases hie
     split at h
     ·rename_i ht
      subst ht
      split at h
      ·rename_i f hf
       cases hb:Nat.ble (len*i'.ty.size) 16777216&&(parts.toList.map fun p=>(p.1,s.val p.2)).all (fun p=>Nat.blt p.1 len)
       ·rw[hb]at h; cases h
       ·rw[hb]at h; simp only[cond_true]at h
        simp only[Bool.and_eq_true]at hb
        obtain⟨hb1,hb2⟩:=hb
        have hb1:=Nat.le_of_ble_eq_true hb1
        obtain⟨h4,h5⟩:=NG hr parts.toList
        have hz0:=Rd.zero ρ w (.arr len i'.ty)
        obtain⟨cs',h6,h7⟩:=Qd (pl:=fun j=>some (j*i'.ty.size,i'.ty.size)) (vparts:=parts.toList.map fun(i,x)=>(i,a.eval x)) (by simp) h5 (fun j p u hj hu'=>by
         have hp:=Qe hb2 j p hj
         simp only[Ty.at]at hu'
         cases hu'
         exact⟨⟨hp,Ty.okP_nil _⟩,by simp[Ty.off]⟩) hf hz0
        generalize List.any _ _=fz at h
        cases fz
        rotate_left
        ·simp only[cond_true]at h
         cases hfl:i'.ty.flat
         ·rw[hfl]at h; cases h
         ·rw[hfl]at h; cases h
          have h8:=a3z hr nx e h7 hfl
          refine⟨ρ,_,_,.inl ?_,h8⟩
          simp only[execOp,hop,Instr.buildSlice,Sem.run_bind,run_underlying hu,hti.size e i' w hi',Result.andThen_ok,Sem.run_ite]
          rw[if_neg (by omega)]
          have hzc:(Array.range (len*i'.ty.size)).map (fun x=>i'.ty.zcells.toArray[x%i'.ty.zcells.toArray.size]!)=(Ty.arr len i'.ty).zcells.toArray:=by
           have:=xA i'.ty.zcells len
           rw[dG]at this
           rw[this]; rfl
          have hp:(parts.map fun(x:Nat×Operand)=>(x.1,a.eval x.2)).toList=parts.toList.map fun(i,x)=>(i,a.eval x):=by simp
          split
          ·rename_i h0
           have h1:(Array.range (len*i'.ty.size)).map (fun x=>(#[]:Array Value)[x%(#[]:Array Value).size]!)=(Ty.arr len i'.ty).zcells.toArray:=by
            have:(Ty.arr len i'.ty).zcells=[]:=List.length_eq_zero_iff.1 (by rw[dG]; exact h0)
            rw[this,h0]; simp
           simp only[Sem.run_pure,Result.andThen_ok,h1,hp,h6,Sem.run_bind,oL]
          ·simp only[Sem.run_bind,hti.zero e i' w hi',Result.andThen_ok,jR (Rd.zero ρ w i'.ty),Sem.run_pure,hzc,hp,h6,oL]
        simp only[cond_false]at h
        cases h
        have h9:Rd (ρ.at (fV (.arr len i'.ty) f)) w (.arr len i'.ty) f cs':=h7.atOf (by cases fV (.arr len i'.ty) f<;>simp)
        have h10:len≤9223372036854775807:=by
         have:len*1≤len*i'.ty.size:=Nat.mul_le_mul_left _ h3
         omega
        obtain⟨ρ',h8⟩:=a1Q hr nx hn e h9 h10
        refine⟨ρ',_,_,.inl ?_,h8⟩
        simp only[execOp,hop,Instr.buildSlice,Sem.run_bind,run_underlying hu,hti.size e i' w hi',Result.andThen_ok,Sem.run_ite]
        rw[if_neg (by omega)]
        have hzc:(Array.range (len*i'.ty.size)).map (fun x=>i'.ty.zcells.toArray[x%i'.ty.zcells.toArray.size]!)=(Ty.arr len i'.ty).zcells.toArray:=by
         have:=xA i'.ty.zcells len
         rw[dG]at this
         rw[this]; rfl
        have hp:(parts.map fun(x:Nat×Operand)=>(x.1,a.eval x.2)).toList=parts.toList.map fun(i,x)=>(i,a.eval x):=by simp
        split
        ·rename_i h0
         have h1:(Array.range (len*i'.ty.size)).map (fun x=>(#[]:Array Value)[x%(#[]:Array Value).size]!)=(Ty.arr len i'.ty).zcells.toArray:=by
          have:(Ty.arr len i'.ty).zcells=[]:=List.length_eq_zero_iff.1 (by rw[dG]; exact h0)
          rw[this,h0]; simp
         simp only[Sem.run_pure,Result.andThen_ok,h1,hp,h6,Sem.run_bind,oL]
        ·simp only[Sem.run_bind,hti.zero e i' w hi',Result.andThen_ok,jR (Rd.zero ρ w i'.ty),Sem.run_pure,hzc,hp,h6,oL]
      ·cases h
     ·cases h
    ·cases h
   ·cases h
  ·cases h
 ·rename_i T x hop
  obtain⟨pv',h1,h2⟩:=nat0 (fun R K=>qY C.ti T _ s.h K) (fun R K=>Dh ..) h
  exact pure0 h2 (S:=Instr.loadAt T (a.eval x)) (by simp only[execOp,hop]) (Ke hti hr (hr.eval x) h1)
 ·rename_i T x y hop
  rw[EZ]at h
  cases hp:qO C.ti T (s.val x) (s.val y) s.h (fun p u=>some (p,u))with
  |none=>rw[hp]at h; cases h
  |some r=>
   rw[hp]at h; cases h
   obtain⟨w',h1,h2⟩:=SI hti hr (hr.eval x) (hr.eval y) nx hn hp
   exact⟨ρ,w',undef,MJ (by simp only[execOp,hop]) h1,h2⟩
 ·rename_i x hop
  split at h
  ·rename_i t y hx
   cases h
   have hv:=hr.eval x; rw[hx]at hv
   obtain⟨b,o,c,e,_⟩:=VR.ptrFz hv
   exact⟨ρ,w,_,.inl (by simp only[execOp,hop,e]; rfl),After.pure hr (by rw[←e]; exact hv)⟩
  ·rename_i t id p hx
   cases h
   have hv:=hr.eval x; rw[hx]at hv
   obtain⟨loc,_,_,_,_,e⟩:=VR.ptrRf hv
   exact⟨ρ,w,_,.inl (by simp only[execOp,hop,e]; rfl),After.pure hr (by rw[←e]; exact hv)⟩
  ·cases h
 ·rename_i op T x y _ hop
  obtain⟨pv',h1,h2⟩:=nat0 (fun R K=>K6 C.ti op T _ _ K) (fun R K=>MC ..) h
  exact pure0 h2 (S:=do eqGuard op T x y (a.eval x) (a.eval y); binOp op T (a.eval x) (a.eval y)) (by simp only[execOp,hop]) (VX hti (hr.eval x) (hr.eval y) h1)
 ·rename_i op T x hop
  obtain⟨pv',h1,h2⟩:=nat0 (fun R K=>Uw op _ K) (fun R K=>Q9 ..) h
  exact pure0 h2 (S:=Op.unary op (a.eval x)) (by simp only[execOp,hop]) (ZA (hr.eval x) h1)
 ·rename_i T T' x hop
  obtain⟨ρ',v,w',h1,h2⟩:=OM hti hr (hr.eval x) nx hn h
  exact⟨ρ',w',v,zm (S:=convert T T' (a.eval x)) (by simp only[execOp,hop]) h1,h2⟩
 ·rename_i T x hop
  obtain⟨pv',h1,h2⟩:=nat0 (fun R K=>sN C.ti T _ K) (fun R K=>Di ..) h
  exact pure0 h2 (S:=Instr.arrayAt T (a.eval x)) (by simp only[execOp,hop]) (Qc hti (hr.eval x) h1)
 ·rename_i fn first caps hop
  obtain⟨pv',h1,h2⟩:=nat0 (fun R K=>oI fn _ _ K) (fun R K=>zi ..) h
  refine pure0 h2 (S:=Instr.makeFunc fn (first.map a.eval) (caps.map a.eval)) (by simp only[execOp,hop]) ?_
  unfold oI at h1
  split at h1
  ·rename_i f l hf hl
   cases h1
   obtain⟨h3,h4⟩:=W9 hr caps.toList
   obtain⟨h5,h6⟩:=VZ h3 h4 hl
   have hf':first= #[]:=by simpa using hf
   subst hf'
   exact⟨_,rfl,[_],⟨caps.toList.map a.eval,rfl,h5,h6⟩,by have e:caps.map a.eval=(caps.toList.map a.eval).toArray:=Array.ext' (by simp); rw[e,show(#[]:Array Operand).map a.eval= #[]by simp]; rfl⟩
  ·cases h1
 ·rename_i T x lo hi mx hop
  split at h
  ·obtain⟨pv',h1,h2⟩:=nat0 (fun R K=>yw C.ti T _ _ _ K) (fun R K=>F6 ..) h
   obtain⟨h3,h4⟩:=Qf hr lo
   obtain⟨h5,h6⟩:=Qf hr hi
   exact pure0 h2 (S:=Instr.sliceAt T (a.eval x) (lo.map a.eval) (hi.map a.eval) none) (by simp only[execOp,hop,Option.map_none]) (SG hti (hr.eval x) h3 h5 h4 h6 h1)
  ·cases h
 ·rename_i T x j hop
  obtain⟨pv',h1,h2⟩:=nat0 (fun R K=>jS C.ti T _ j K) (fun R K=>xk ..) h
  exact pure0 h2 (S:=Instr.fieldAt T (a.eval x) j) (by simp only[execOp,hop]) (Kg hti (hr.eval x) h1)
 ·rename_i T x j hop
  obtain⟨pv',h1,h2⟩:=nat0 (fun R K=>yt C.ti T _ j K) (fun R K=>F4 ..) h
  exact pure0 h2 (S:=Instr.field T (a.eval x) j) (by simp only[execOp,hop]) (SE hti (hr.eval x) h1)
 ·rename_i T x y hop
  obtain⟨pv',h1,h2⟩:=nat0 (fun R K=>jT C.ti T _ _ K) (fun R K=>xq ..) h
  exact pure0 h2 (S:=Instr.indexAt T (a.eval x) (a.eval y)) (by simp only[execOp,hop]) (Kh hti (hr.eval x) (hr.eval y) h1)
 ·rename_i T x y hop
  obtain⟨pv',h1,h2⟩:=nat0 (fun R K=>yu C.ti T _ _ K) (fun R K=>F5 ..) h
  exact pure0 h2 (S:=Instr.index T (a.eval x) (a.eval y)) (by simp only[execOp,hop]) (SF hti (hr.eval x) (hr.eval y) h1)
 ·rename_i x j hop
  obtain⟨pv',h1,h2⟩:=nat0 (fun R K=>pV _ j K) (fun R K=>Bv ..) h
  exact pure0 h2 (S:=Instr.extract (a.eval x) j) (by simp only[execOp,hop]) (OL (hr.eval x) h1)
 ·rename_i T l c hop
  obtain⟨ρ',v,w',h1,h2⟩:=UE hti hr (hr.eval l) (hr.eval c) nx hn h
  exact⟨ρ',w',v,zm (S:=Instr.makeSlice T (a.eval l) (a.eval c)) (by simp only[execOp,hop]) h1,h2⟩
 ·rename_i T r hop
  split at h
  ·obtain⟨ρ',v,w',h1,h2⟩:=OP hr nx hn h
   exact⟨ρ',w',v,zm (S:=Instr.makeMap T none) (by simp only[execOp,hop,Option.map_none]) h1,h2⟩
  ·cases h
 ·rename_i T x y ok hop
  obtain⟨pv',h1,h2⟩:=nat0 (fun R K=>qz C.ti T _ _ ok s.h K) (fun R K=>Dj ..) h
  exact pure0 h2 (S:=Instr.lookup T (a.eval x) (a.eval y) ok) (by simp only[execOp,hop]) (Qi hti hr (hr.eval x) (hr.eval y) h1)
 ·rename_i T x y z hop
  rw[xu]at h
  cases hp:jh C.ti T (s.val x) (s.val y) (s.val z) s.h (fun p u=>some (p,u))with
  |none=>rw[hp]at h; cases h
  |some r=>
   rw[hp]at h; cases h
   obtain⟨w',h1,h2⟩:=Kk hti hr (hr.eval x) (hr.eval y) (hr.eval z) nx hp
   exact⟨ρ,w',undef,MJ (by simp only[execOp,hop]) h1,h2⟩
 ·rename_i T x y hop
  rw[zk]at h
  cases hp:kS C.ti T (s.val x) (s.val y) s.h (fun p u=>some (p,u))with
  |none=>rw[hp]at h; cases h
  |some r=>
   rw[hp]at h; cases h
   obtain⟨v,w',h1,h2⟩:=MI hti hr (hr.eval x) (hr.eval y) nx hp
   exact⟨ρ,w',v,zm (S:=Instr.mapEntry T (a.eval x) (a.eval y)) (by simp only[execOp,hop]) h1,h2⟩
 ·rename_i T x y z hop
  rw[vg]at h
  cases hp:iA C.ti T (s.val x) (s.val y) (s.val z) s.h (fun p u=>some (p,u))with
  |none=>rw[hp]at h; cases h
  |some r=>
   rw[hp]at h; cases h
   obtain⟨w',h1,h2⟩:=JI hti hr (hr.eval x) (hr.eval y) (hr.eval z) nx hp
   exact⟨ρ,w',undef,MJ (by simp only[execOp,hop]) h1,h2⟩
 ·rename_i c hop
  unfold rR at h
  split at h
  ·rename_i b hb
   have one: ∀x,c.args.toList.map s.val=[x]→ ∃ox,c.args= #[ox]∧s.val ox=x:=by
    intro x e
    obtain⟨ox,e1,e2⟩:=List.map_eq_singleton_iff.1 e
    exact⟨ox,Array.ext' e1,e2⟩
   have two: ∀x y,c.args.toList.map s.val=[x,y]→ ∃ox oy,c.args= #[ox,oy]∧s.val ox=x∧s.val oy=y:=by
    intro x y e
    obtain⟨ox,l,e1,e2,e3⟩:=List.map_eq_cons_iff.1 e
    obtain⟨oy,e4,e5⟩:=List.map_eq_singleton_iff.1 e3
    subst e4
    exact⟨ox,oy,Array.ext' e1,e2,e5⟩
   have first: ∀T l,c.argTypes.toList=T::l→c.argTypes[0]?=some T:=by
    intro T l e
    rw[←Array.getElem?_toList,e]; rfl
   split at h
   ·rename_i x T l hx hT
    obtain⟨ox,e1,rfl⟩:=one x hx
    obtain⟨pv',h1,h2⟩:=nat0 (fun R K=>K9 C.ti T _ K) (fun R K=>MG ..) h
    obtain⟨v,h3,h4⟩:=Wl hti (first T l hT) (ty:=o.type) (hr.eval ox) h1
    cases h2
    exact⟨ρ,w,v,.inl (by simp only[execOp,hop,resolve,hb,e1,Sem.run_bind,Sem.run_pure,Result.andThen_ok,invoke,builtin,List.map_toArray,List.map_cons,List.map_nil,h3]),After.pure hr h4⟩
   ·rename_i x hx
    obtain⟨ox,e1,rfl⟩:=one x hx
    obtain⟨pv',h1,h2⟩:=nat0 (fun R K=>Bt C.ti _ _ s.h K) (fun R K=>JD ..) h
    obtain⟨v,w',h3,h4,h5⟩:=UF (P:=P) hti hr (Ts:=c.argTypes) (hr.eval ox) h1
    cases h2
    exact⟨ρ,w',v,.inl (by simp only[execOp,hop,resolve,hb,e1,Sem.run_bind,Sem.run_pure,Result.andThen_ok,invoke,builtin,List.map_toArray,List.map_cons,List.map_nil,h3]),⟨h4.1,h4.2,h5,fun _ _=>rfl,fun _=>rfl⟩⟩
   ·rename_i x y T l hx hT
    obtain⟨ox,oy,e1,rfl,rfl⟩:=two x y hx
    rw[JE]at h
    cases hp:Bu C.ti T (s.val ox) (s.val oy) s.h (fun p u=>some (p,u))with
    |none=>rw[hp]at h; cases h
    |some r=>
     rw[hp]at h; cases h
     obtain⟨v,w',h3,h4⟩:=UG hti hr (first T l hT) (ty:=o.type) (hr.eval ox) (hr.eval oy) nx hp
     exact⟨ρ,w',v,.inl (by simp only[execOp,hop,resolve,hb,e1,Sem.run_bind,Sem.run_pure,Result.andThen_ok,invoke,builtin,List.map_toArray,List.map_cons,List.map_nil,h3]),h4⟩
   ·rename_i x y hx
    obtain⟨ox,oy,e1,rfl,rfl⟩:=two x y hx
    obtain⟨pv',h1,h2⟩:=nat0 (fun R K=>K7 _ _ K) (fun R K=>ME ..) h
    obtain⟨v,h3,h4⟩:=Wi (P:=P) (hr.eval ox) (hr.eval oy) h1
    cases h2
    exact⟨ρ,w,v,.inl (by simp only[execOp,hop,resolve,hb,e1,Sem.run_bind,Sem.run_pure,Result.andThen_ok,invoke,builtin,List.map_toArray,List.map_cons,List.map_nil]; rw[show Builtin.max_ c.argTypes o.type=Builtin.max_ #[] 0 from rfl,h3]; rfl),After.pure hr h4⟩
   ·rename_i x y hx
    obtain⟨ox,oy,e1,rfl,rfl⟩:=two x y hx
    obtain⟨pv',h1,h2⟩:=nat0 (fun R K=>K8 _ _ K) (fun R K=>MF ..) h
    obtain⟨v,h3,h4⟩:=Wj (P:=P) (hr.eval ox) (hr.eval oy) h1
    cases h2
    exact⟨ρ,w,v,.inl (by simp only[execOp,hop,resolve,hb,e1,Sem.run_bind,Sem.run_pure,Result.andThen_ok,invoke,builtin,List.map_toArray,List.map_cons,List.map_nil]; rw[show Builtin.min_ c.argTypes o.type=Builtin.min_ #[] 0 from rfl,h3]; rfl),After.pure hr h4⟩
   ·rename_i x y T l hx hT
    obtain⟨ox,oy,e1,rfl,hy⟩:=two x y hx
    split at h
    ·rename_i str
     have hv:=hr.eval oy; rw[hy]at hv
     have hv:=VR.str hv
     obtain⟨v,w',h3,h4,h5⟩:=SK hti hr (first T l hT) (ty:=o.type) (hr.eval ox) nx hn h
     exact⟨ρ,w',v,.inl (by simp only[execOp,hop,resolve,hb,e1,Sem.run_bind,Sem.run_pure,Result.andThen_ok,invoke,builtin,List.map_toArray,List.map_cons,List.map_nil,hv,h3]),by simp only at h5; subst h5; exact h4⟩
    subst hy
    obtain⟨v,w',h3,h4,h5⟩:=UD hti hr (first T l hT) (ty:=o.type) (hr.eval ox) (hr.eval oy) nx hn h
    exact⟨ρ,w',v,.inl (by simp only[execOp,hop,resolve,hb,e1,Sem.run_bind,Sem.run_pure,Result.andThen_ok,invoke,builtin,List.map_toArray,List.map_cons,List.map_nil,h3]),by simp only at h5; subst h5; exact h4⟩
   ·rename_i x y T T' hx hT
    obtain⟨ox,oy,e1,rfl,rfl⟩:=two x y hx
    split at h
    ·rename_i e2; subst e2
     obtain⟨ρ',v,w',h3,h4⟩:=Qg hti hr (ty:=o.type) (hr.eval ox) (hr.eval oy) nx hn h
     have e3:c.argTypes= #[T,T]:=Array.ext' hT
     exact⟨ρ',w',v,.inl (by simp only[execOp,hop,resolve,hb,e1,e3,Sem.run_bind,Sem.run_pure,Result.andThen_ok,invoke,builtin,List.map_toArray,List.map_cons,List.map_nil,h3]),h4⟩
    ·split at h
     ·rename_i str hy
      cases hst:GY C.ti T'
      ·rw[hst]at h; cases h
      ·rw[hst]at h; simp only[cond_true]at h
       have hv:=hr.eval oy; rw[hy]at hv
       have hv:=VR.str hv
       obtain⟨ρ',v,w',h3,h4⟩:=OO hti hr (ty:=o.type) (hr.eval ox) hst nx hn h
       have e3:c.argTypes= #[T,T']:=Array.ext' hT
       exact⟨ρ',w',v,.inl (by simp only[execOp,hop,resolve,hb,e1,e3,Sem.run_bind,Sem.run_pure,Result.andThen_ok,invoke,builtin,List.map_toArray,List.map_cons,List.map_nil,hv,h3]),h4⟩
     ·cases h
   ·cases h
  ·cases h
 ·cases h
end
end Go.Den
