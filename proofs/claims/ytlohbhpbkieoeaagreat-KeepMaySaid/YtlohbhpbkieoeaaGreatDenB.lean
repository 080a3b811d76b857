/-
 The plain reading of code: the operations hold.
-/
import Derived.Test.YtlohbhpbkieoeaaGreatDenA
import Derived.Laws.MakeOwn
import Derived.Laws.AppendOwn
import Derived.Lib.AppendStr
import Derived.Laws.BytesString
import Derived.Lib.ConvBytes
import Derived.Lib.UnsafeStr
import Derived.MapKept
set_option linter.unusedVariables false
set_option linter.unusedSimpArgs false
namespace Go.Den
section
variable {P:Program} {ti:List (Nat×TI)} (hti:wL P ti) {ρ:Rho} {w:World}
include hti
omit hti in
theorem a4Q(op:BinOp)(T:TypeId)(ox oy:Operand)(k k':IntKind)(a b:Int):(eqGuard op T ox oy (.int k a) (.int k' b)).run P w= .ok () w:=by cases op<;>simp[eqGuard]
omit hti in
theorem a4R(op:BinOp)(T:TypeId)(ox oy:Operand)(a b:ByteArray):(eqGuard op T ox oy (.string a) (.string b)).run P w= .ok () w:=by cases op<;>simp[eqGuard]
omit hti in
theorem a2g(op:BinOp)(T:TypeId)(ox oy:Operand)(a b:Bool):(eqGuard op T ox oy (.bool a) (.bool b)).run P w= .ok () w:=by cases op<;>simp[eqGuard]
omit hti in
theorem Xn(op:BinOp)(T:TypeId)(ox oy:Operand)(a b:Option Addr):(eqGuard op T ox oy (.pointer a) (.pointer b)).run P w= .ok () w:=by cases op<;>simp[eqGuard]
omit hti in
theorem VR.cast {X:V}{t:Ty}{v:Value}(e:X.1=t)(h:VR ρ w X v):VR ρ w ⟨t,e▸X.2⟩ v:=by subst e;exact h
omit hti in
theorem Xo(op:BinOp)(T:TypeId)(ox oy:Operand)(a b:Option Nat):(eqGuard op T ox oy (.map a) (.map b)).run P w= .ok () w:=by cases op<;>simp[eqGuard]
omit hti in
theorem Q7 {t:Ty}{x y:t.den}{r:Bool}(h:Xk t x y=some r){vx vy:Value}(hx:VR ρ w ⟨t,x⟩ vx)(hy:VR ρ w ⟨t,y⟩ vy):
  ∃p q,vx= .map p/\vy= .map q/\((p=none/\r=q.isNone)\/(q=none/\r=p.isNone)):=by
 cases t with
 |mp=>
  have form: ∀(z:Option Nat) (v:Value),VR ρ w ⟨.mp,z⟩ v-> ∃p,v= .map p/\p.isNone=z.isNone:=by
   intro z v ⟨cs,h1,h2⟩;cases z with
   |none=>have:cs=[.map none]:=h1;subst this;exact⟨none,h2,rfl⟩
   |some id=>obtain⟨loc,_,_,rfl⟩:=h1;exact⟨some loc.blk,h2,rfl⟩
  obtain⟨p,rfl,hp⟩:=form x vx hx;obtain⟨q,rfl,hq⟩:=form y vy hy;refine⟨p,q,rfl,rfl,?_⟩;cases x with
  |none=>
   cases p with
   |none=>exact .inl ⟨rfl,by cases y<;>simp_all [Xk]⟩
   |some p=>cases hp
  |some id=>
   cases y with
   |none=>
    cases q with
    |none=>exact .inr ⟨rfl,by cases p<;>simp_all [Xk]⟩
    |some q=>cases hq
   |some id'=>simp[Xk]at h
 |_=>simp[Xk]at h
theorem ZM {op:BinOp}{T:TypeId}{ox oy:Operand}{x y:PV}{vx vy:Value}{pv:PV}(hx:VP ρ w x vx)(hy:VP ρ w y vy)
  (h:M7 ti op T x y some=some pv): ∃v,(do eqGuard op T ox oy vx vy;binOp op T vx vy:Sem Value).run P w= .ok v w/\VP ρ w pv v:=by
 unfold M7 at h;split at h
 ·rename_i k a k' b;have e1:=VR.int hx;have e2:=VR.int hy;subst e1;subst e2;simp only[awx,a4Q,aws];split at h
  ·by_cases hb:b<0
   ·rw[awv hb]at h;cases h
   ·rw[aww hb]at h;simp only[awW,awr]at h;subst h;exact⟨_,by simp only[binOp,Op.shift,awG hb];rfl,VR.mkInt⟩
  ·by_cases hb:b<0
   ·rw[awv hb]at h;cases h
   ·rw[aww hb]at h;simp only[awW,awr]at h;subst h;exact⟨_,by simp only[binOp,Op.shift,awG hb];rfl,VR.mkInt⟩
  ·rename_i h1 h2;split at h
   ·rename_i e;subst e;obtain⟨v,h3,h4⟩:=Yj T h h1 h2;exact⟨v,h3 w,h4 ρ w⟩
   ·cases h
 ·have e1:=VR.str hx;have e2:=VR.str hy;subst e1;subst e2;simp only[awx,a4R,aws];obtain⟨v,h3,h4⟩:=Yk T h;exact⟨v,h3 w,h4 ρ w⟩
 ·have e1:=VR.bool hx;have e2:=VR.bool hy;subst e1;subst e2;simp only[awx,a2g,aws];cases hb:Sg ti T
  ·rw[hb]at h;cases h
  ·rw[hb]at h;simp only[awL]at h;have hu:P.underlying T=some .bool:=by
    unfold Sg at hb;split at hb
    ·rename_i i hi;split at hb
     ·rename_i hd;rw[hti.under T i hi,hd]
     ·cases hb
    ·cases hb
   split at h
   ·simp only[awr]at h;subst h;exact⟨_,by simp only[binOp,Op.equal,Op.maxDepth,awx,run_equalIn_bool' w 9999 T _ _ hu,aws];rfl,VR.mkBool⟩
   ·simp only[awr]at h;subst h;exact⟨_,by simp only[binOp,Op.equal,Op.maxDepth,awx,run_equalIn_bool' w 9999 T _ _ hu,aws];rfl,VR.mkBool⟩
   ·cases h
 ·rename_i t a u b;cases hb:Yd ti T
  ·rw[hb]at h;cases h
  ·rw[hb]at h;simp only[awL]at h;obtain⟨e,hu⟩: ∃e,P.underlying T=some (.pointer e):=by
    unfold Yd at hb;split at hb
    ·rename_i i hi;split at hb
     ·rename_i e hd;exact⟨e,by rw[hti.under T i hi,hd]⟩
     ·cases hb
    ·cases hb
   have key: ∀r,a6g ⟨.ptr t,a⟩ ⟨.ptr u,b⟩=some r-> ∃p q,vx= .pointer p/\vy= .pointer q/\(Op.equalIn 10000 T vx vy).run P w= .ok r w:=by
    intro r hr;have hfz: ∀ {t:Ty} {x:t.den} {v:Value},VP ρ w (.v ⟨.ptr t,.fz x⟩) v-> ∃p,v= .pointer (some p):=λh=>let⟨b,o,c,h,_⟩:=VR.ptrFz h;⟨_,h⟩
    have hrf: ∀ {t:Ty} {i:Nat} {p:Path} {v:Value},VP ρ w (.v ⟨.ptr t,.rf i p⟩) v-> ∃p,v= .pointer (some p):=λh=>let⟨loc,_,_,_,_,h⟩:=VR.ptrRf h;⟨_,h⟩
    cases a<;>cases b<;>simp only[a6g,awr,reduceCtorEq]at hr
    ·subst hr;have e1:=VR.ptrNil hx;have e2:=VR.ptrNil hy;subst e1;subst e2;exact⟨_,_,rfl,rfl,uT hu 9999 _ w⟩
    ·subst hr;have e1:=VR.ptrNil hx;obtain⟨p,e2⟩:=hfz hy;subst e1;subst e2;exact⟨_,_,rfl,rfl,uT hu 9999 _ w⟩
    ·subst hr;have e1:=VR.ptrNil hx;obtain⟨p,e2⟩:=hrf hy;subst e1;subst e2;exact⟨_,_,rfl,rfl,uT hu 9999 _ w⟩
    ·subst hr;have e1:=VR.ptrNil hy;obtain⟨p,e2⟩:=hfz hx;subst e1;subst e2;exact⟨_,_,rfl,rfl,Cq hu 9999 _ w⟩
    ·subst hr;have e1:=VR.ptrNil hy;obtain⟨p,e2⟩:=hrf hx;subst e1;subst e2;exact⟨_,_,rfl,rfl,Cq hu 9999 _ w⟩
   split at h
   ·rename_i r hr;simp only[awr]at h;subst h;obtain⟨p,q,e1,e2,e3⟩:=key r hr;subst e1;subst e2;simp only[awx,Xn,aws];exact⟨_,by simp only[binOp,Op.equal,Op.maxDepth,awx,e3,aws];rfl,VR.mkBool⟩
   ·rename_i r hr;simp only[awr]at h;subst h;obtain⟨p,q,e1,e2,e3⟩:=key r hr;subst e1;subst e2;simp only[awx,Xn,aws];exact⟨_,by simp only[binOp,Op.equal,Op.maxDepth,awx,e3,aws];rfl,VR.mkBool⟩
   ·cases h
 ·rename_i X Y _ _ _ _;split at h
  ·rename_i i hi;split at h
   ·rename_i e1;split at h
    ·rename_i e2;cases hc:i.ty.agg&&i.ty.flat
     ·rw[hc]at h;simp only[awW]at h;cases hm:Yc ti T
      ·rw[hm]at h;cases h
      ·rw[hm]at h;simp only[awL]at h;have hu: ∃k e,P.underlying T=some (.map k e):=by
        unfold Yc at hm;rw[hi]at hm;simp only at hm;split at hm
        ·rename_i k e hd;exact⟨k,e,by rw[hti.under T i hi,hd]⟩
        ·cases hm
       obtain⟨k,e,hu⟩:=hu;have hx':=VR.cast e1 hx;have hy':=VR.cast e2 hy;generalize (e1▸X.2:i.ty.den)=x at*;generalize (e2▸Y.2:i.ty.den)=y at*;split at h
       ·rename_i r hr;simp only[awr]at h;subst h;obtain⟨p,q,rfl,rfl,h3⟩:=Q7 hr hx' hy';have e3:=Cr hu 9999 p q r h3 w;simp only[awx,Xo,aws];exact⟨_,by simp only[binOp,Op.equal,Op.maxDepth,awx,e3,aws];rfl,VR.mkBool⟩
       ·rename_i r hr;simp only[awr]at h;subst h;obtain⟨p,q,rfl,rfl,h3⟩:=Q7 hr hx' hy';have e3:=Cr hu 9999 p q r h3 w;simp only[awx,Xo,aws];exact⟨_,by simp only[binOp,Op.equal,Op.maxDepth,awx,e3,aws];rfl,VR.mkBool⟩
       ·cases h
     ·rw[hc]at h;simp only[awu]at hc;obtain⟨ha,hf⟩:=hc;simp only[awL]at h;have hx':=VR.cast e1 hx;have hy':=VR.cast e2 hy;generalize (e1▸X.2:i.ty.den)=x at*;generalize (e2▸Y.2:i.ty.den)=y at*;obtain⟨xs,hx1,rfl⟩:=hx';obtain⟨ys,hy1,rfl⟩:=hy';obtain⟨hg,_,_,hdep⟩:=hti.eq T i hi ha hf;have heq:=a4P hti i.ty.dep i.ty T i 10000 (ax2 _) hi rfl hf hdep ρ w x y xs ys w hx1 hy1;unfold mkV at heq⊢;rw[ha]at heq⊢;simp only[axV]at heq⊢;simp only[awx,run_eqGuard_agg w op T ox oy _ _ hg,aws];split at h
      ·simp only[awr]at h;subst h;exact⟨_,by rw[run_eql_struct,heq];rfl,VR.mkBool⟩
      ·simp only[awr]at h;subst h;exact⟨_,by rw[run_neq_struct,heq];rfl,VR.mkBool⟩
      ·cases h
    ·cases h
   ·cases h
  ·cases h
 ·cases h
omit hti in
theorem a2h {op:UnOp}{x:PV}{vx:Value}{pv:PV}(hx:VP ρ w x vx)(h:Ye op x some=some pv): ∃v,(Op.unary op vx).run P w= .ok v w/\VP ρ w pv v:=by
 unfold Ye at h;split at h
 ·have e:=VR.int hx;subst e;simp only[awr]at h;subst h;exact⟨_,rfl,VR.mkInt⟩
 ·have e:=VR.int hx;subst e;simp only[awr]at h;subst h;exact⟨_,rfl,VR.mkInt⟩
 ·have e:=VR.bool hx;subst e;simp only[awr]at h;subst h;exact⟨_,rfl,VR.mkBool⟩
 ·cases h
omit hti in
theorem ZN {T:TypeId}{y:V}{pv:PV}(h:chk ti T y some=some pv):pv= .v (KN y)/\ ∃i,look ti T=some i/\i.ty.agg=y.1.agg/\i.ty.size=y.1.size:=by
 unfold chk at h;split at h
 ·rename_i i hi;cases hc:(i.ty.agg==y.1.agg)&&Nat.beq i.ty.size y.1.size
  ·rw[hc]at h;cases h
  ·rw[hc]at h;simp only[awL,awr]at h;simp only[awu,ayD]at hc;exact⟨h.symm,i,hi,hc.1,ax0 hc.2⟩
 ·cases h
omit hti in
theorem fU(b o j:Nat):(⟨b,o,none⟩:Addr).add j=⟨b,o+j,none⟩:=by
 unfold Addr.add;split
 ·rename_i h;subst h;rfl
 ·rfl
theorem Q8 {T:TypeId}{i:TI}(hi:look ti T=some i){t:Ty}{x:t.den}{c:List Value}(b o:Nat)(hr:Rd ρ w t x c)(ha:i.ty.agg=t.agg)(hs:i.ty.size=t.size)
  (hc: ∀(j:Nat) v,c[j]?=some v->w.cell? ⟨b,o+j,none⟩=some v):(loadVar T ⟨b,o,none⟩).run P w= .ok (mkV t c) w:=by
 unfold loadVar mkV;simp only[awx,hti.agg T i w hi,aws,ha];cases hag:t.agg
 ·obtain⟨v,rfl⟩:=hr.single hag;have:=hc 0 v rfl;rw[axE]at this;simp[this]
 ·simp only[axV,awx,hti.size T i w hi,aws,hs];rw[<-hr.length,run_loadCells_list w _ c (λj v hj=>by rw[fU];exact hc j v hj)];rfl
omit hti in
theorem Xp {ρ:Rho}{t:Ty}{x y:t.den}{cs:List Value}(h:Rd ρ w t x cs)(hs:spl t x some=some y):Rd ρ w t y cs:=by
 induction t generalizing cs with
 |pair a b iha ihb=>
  simp only[spl]at hs;cases hf:a.flat&&b.flat
  ·rw[hf]at hs;simp only[awW]at hs;rw[Am]at hs;cases h1:spl a x.1 some with
   |none=>rw[h1]at hs;cases hs
   |some y1=>
    rw[h1]at hs;simp only[axh]at hs;rw[Am]at hs;cases h2:spl b x.2 some with
    |none=>rw[h2]at hs;cases hs
    |some y2=>rw[h2]at hs;cases hs;exact⟨iha h.1 h1,ihb h.2 h2⟩
  ·rw[hf]at hs;cases hs;exact h
 |sl t=>
  cases x with
  |nil=>
   cases hs;simp only[Rd]at h;exact⟨none,0,h,ax2 _,λi hi=>by cases hi⟩
  |fz n f=>cases hs;exact h
  |ms id p lo len=>cases hs
 |ptr t=>
  cases x with
  |nil=>cases hs;exact h
  |fz z=>cases hs;exact h
  |rf id p=>cases hs
 |mp=>
  cases x with
  |none=>cases hs;exact h
  |some id=>cases hs
 |_=>cases hs;exact h
omit hti in
theorem PO.ne_dead {o:PO}{p:Path}{y:V}(h:o.get p=some y):o≠ .dead:=by intro e;subst e;cases h
theorem Mg {T:TypeId}{a:PV}{va:Value}{s:DS}{B:Base}{A:Act}{pv:PV}(hr:aJ B ρ s A w)(hx:VP ρ w a va)(h:rC ti T a s.h some=some pv):
  ∃v,(Instr.loadAt T va).run P w= .ok v w/\VP ρ w pv v:=by
 unfold rC at h;split at h
 ·rename_i id p;split at h
  ·rename_i o ho;split at h
   ·rename_i y0 hy;obtain⟨y,ety,hchk,hsub⟩: ∃y:V,y.1=y0.1/\chk ti T y some=some pv/\ ∀cs,Rd (ρ.at o.shutRow) w y0.1 y0.2 cs->Rd ρ w y.1 y.2 cs:=by
     cases hsr:o.shutRow
     ·rw[hsr]at h;exact⟨y0,rfl,h,λcs hc=>hc⟩
     ·rw[hsr]at h;simp only[awL]at h;rw[Am]at h;cases hsp:spl y0.1 y0.2 some with
      |none=>rw[hsp]at h;cases h
      |some z=>
       rw[hsp]at h;exact⟨⟨y0.1,z⟩,rfl,h,λcs hc=>Rd.openAt (sh:=true) (Xp hc hsp)⟩
    obtain⟨rfl,i,hi,ha,hs⟩:=ZN hchk;obtain⟨loc,hloc,hok,_,_,rfl⟩:=VR.ptrRf hx;have hor:=hr.live ho (PO.ne_dead hy) hloc;have: ∃(cs sp:List Value) (T':TypeId),Rd ρ w y.1 y.2 ((cs.drop (loc.ty.off p)).take y.1.size)/\kK w loc.blk (cs++sp) T'/\loc.ty.off p+y.1.size<=cs.length:=by
     cases o with
     |obj t x=>
      obtain⟨e,_,cs,T',h1,h2,_⟩:=hor;rw[e]at hok⊢;exact⟨cs,[],T',by rw[show y.1.size=y0.1.size by rw[ety]];exact hsub _ (h1.get hok hy),kK.of (by simpa using h2),by rw[h1.length,ety];exact Ty.off_le hok (Ty.at_of_get hy)⟩
     |row sh T' t n f=>
      obtain⟨e,_,cs,sp,h1,h2,_⟩:=hor;rw[e]at hok⊢;exact⟨cs,sp,T',by rw[show y.1.size=y0.1.size by rw[ety]];exact hsub _ (h1.get hok hy),h2.weak,by rw[h1.length,ety];exact Ty.off_le hok (Ty.at_of_get hy)⟩
     |mp k v l=>cases hy
     |bag k t l out=>cases hy
     |dead=>cases hy
    obtain⟨cs,sp,T',h1,h2,h3⟩:=this;refine⟨_,?_,VR.KN ⟨_,h1,rfl⟩⟩;simp only[Instr.loadAt,Instr.sureAddr,awx,awM,aws];refine Q8 hti hi _ _ h1 ha hs (λj v hj=>?_);rw[h2.cell];have hj':j<y.1.size:=by have:=(awH.1 hj).1;rw[h1.length]at this;exact this
    rw[awX hj',axa]at hj;rw[awY (by omega)];exact hj
   ·cases h
  ·cases h
 ·rename_i t x;rw[Am]at h;cases hsp:spl t x some with
  |none=>rw[hsp]at h;cases h
  |some y=>
  rw[hsp]at h;simp only[axh]at h;obtain⟨rfl,i,hi,ha,hs⟩:=ZN h;obtain⟨b,o,c,rfl,h1,h2⟩:=VR.ptrFz hx;have h1:=Xp h1 hsp;refine⟨_,?_,VR.KN ⟨_,h1.openIn,rfl⟩⟩;simp only[Instr.loadAt,Instr.sureAddr,awx,awM,aws];exact Q8 hti hi _ _ h1 ha hs h2.2.2
 ·cases h
omit hti in
theorem Rb {x:PV}{vx:Value}{j:Nat}{pv:PV}(hx:VP ρ w x vx)(h:pI x j some=some pv): ∃v,(Instr.extract vx j).run P w= .ok v w/\VP ρ w pv v:=by
 unfold pI at h;split at h
 ·rename_i l;split at h
  ·rename_i y hy;simp only[awr]at h;subst h;obtain⟨vs,rfl,hvs⟩:=hx;have: ∀(l:List V) (vs:List Value) (j:Nat),VRs ρ w l vs->l[j]?=some y-> ∃v,vs[j]?=some v/\VR ρ w y v:=by
    intro l
    induction l with
    |nil=>intro vs j _ h;simp at h
    |cons x l ih=>
     intro vs j hv hj;cases vs with
     |nil=>exact hv.elim
     |cons v vs=>
      cases j with
      |zero=>simp only[ax5,awr]at hj;subst hj;exact⟨v,rfl,hv.1⟩
      |succ j=>exact ih vs j hv.2 (by simpa using hj)
   obtain⟨v,h1,h2⟩:=this l vs j hvs hy;exact⟨v,by simp[Instr.extract,h1],h2⟩
  ·cases h
 ·cases h
end
section
variable {P:Program} {ti:List (Nat×TI)} (hti:wL P ti) {ρ:Rho} {w:World}
theorem Co.at: ∀ {fs:List Field} {t:Ty} {o:Nat},Co ti t o fs-> ∀(j:Nat) (f:Field),fs[j]?=some f->
  ∃i u,look ti f.type=some i/\t.at (qg fs.length j)=some u/\f.offset=o+t.off (qg fs.length j)/\0<u.size/\t.okP (qg fs.length j)/\i.ty=u.un:=by
 intro fs
 induction fs with
 |nil=>intro t o _ j f h;simp at h
 |cons g l ih=>
  intro t o h j f hf;cases l with
  |nil=>
   have h':g.offset=o/\g.name≠ "_" /\ ∃i,look ti g.type=some i/\i.ty=t.un/\0<t.size:=by cases t<;>exact h
   obtain⟨h1,h2,i,h3,h4,h5⟩:=h';cases j with
   |zero=>
    simp only[ax5,awr]at hf;subst hf;exact⟨i,t,h3,by simp[qg,Ty.at],by simp[qg,Ty.off,h1],h5,by simp[qg,Ty.okP],h4⟩
   |succ j=>simp at hf
  |cons g2 l=>
   cases t with
   |pair a b=>
    simp only[Co]at h;obtain⟨h1,h2,⟨i,h3,h4,h5⟩,h6⟩:=h;cases j with
    |zero=>
     simp only[ax5,awr]at hf;subst hf;exact⟨i,a,h3,by simp[qg,Ty.at],by simp[qg,Ty.off,h1],h5,by simp[qg,Ty.okP],h4⟩
    |succ j=>
     obtain⟨i',u,h7,h8,h9,h10,h11,h12⟩:=ih h6 j f (by simpa using hf);exact⟨i',u,h7,by simpa [qg,Ty.at]using h8,by simp only[axH,qg,Ty.off]at h9⊢;omega,h10,by simpa [qg,Ty.okP]using h11,h12⟩
   |_=>simp only[Co]at h
include hti in
theorem sS {T:TypeId}{i:TI}{fs:Array Field}(hi:look ti T=some i)(hd:i.desc= .struct fs){j:Nat}{f:Field}(hf:fs[j]?=some f):
  ∃i' u,look ti f.type=some i'/\i.ty.at (qg fs.size j)=some u/\f.offset=i.ty.off (qg fs.size j)/\0<u.size/\i.ty.okP (qg fs.size j)/\i.ty.agg=true/\i'.ty=u.un:=by
 have hs:=hti.shape T i hi;unfold kM at hs;rw[hd]at hs;obtain⟨hag,hc⟩:=hs;obtain⟨i',u,h1,h2,h3,h4,h5,h6⟩:=hc.at j f (by simpa using hf);exact⟨i',u,h1,by simpa using h2,by simpa using h3,h4,by simpa using h5,hag,h6⟩
theorem FJ {a b:Nat}(h:Nat.blt a b=true):a<b:=awN h
theorem Ty.at_append: ∀ {p:Path} {t:Ty} {q:Path} {u:Ty},t.at p=some u->t.at (p++q)=u.at q:=by
 intro p
 induction p with
 |nil=>intro t q u h;rw[Ty.at_nil]at h;cases h;rfl
 |cons s p ih=>intro t q u h;cases t<;>cases s<;>first|exact ih h|(simp[Ty.at]at h;done)
theorem Ty.off_append: ∀ {p:Path} {t:Ty} {q:Path} {u:Ty},t.at p=some u->t.off (p++q)=t.off p+u.off q:=by
 intro p
 induction p with
 |nil=>intro t q u h;rw[Ty.at_nil]at h;cases h;rw[Ty.off_nil];simp
 |cons s p ih=>
  intro t q u h;cases t<;>cases s<;>first
   |(simp[Ty.at]at h;done)
   |exact ih h
   |(have:=ih (q:=q) (u:=u) h;simp only[ayv,Ty.off];omega)
theorem Ty.okP_append: ∀ {p:Path} {t:Ty} {q:Path} {u:Ty},t.okP p->t.at p=some u->u.okP q->t.okP (p++q):=by
 intro p
 induction p with
 |nil=>intro t q u h hu hq;rw[Ty.at_nil]at hu;cases hu;exact hq
 |cons s p ih=>
  intro t q u h hu hq;cases t<;>cases s<;>first
   |exact h.elim
   |exact ih h hu hq
   |exact⟨h.1,ih h.2 hu hq⟩
include hti in
theorem Wo {T:TypeId}{x:PV}{vx:Value}{j:Nat}{pv:PV}(hx:VP ρ w x vx)(h:yA ti T x j some=some pv): ∃v,(Instr.field T vx j).run P w= .ok v w/\VP ρ w pv v:=by
 unfold yA at h;split at h
 ·rename_i i X hi;split at h
  ·rename_i fs hd;cases hb:Nat.blt j fs.size
   ·rw[hb]at h;cases h
   ·rw[hb]at h;simp only[awL]at h;split at h
    ·rename_i e;split at h
     ·rename_i y hy;simp only[awr]at h;subst h;obtain⟨f,hf⟩: ∃f,fs[j]?=some f:=⟨fs[j]'(FJ hb),axW (FJ hb)⟩;obtain⟨i',u,h1,h2,h3,h4,h5,h6,h7⟩:=sS hti hi hd hf;obtain⟨dd,ty⟩:=i;obtain⟨tx,x⟩:=X;change tx=ty at e;subst e;have hu:=hti.under T _ hi;simp only at hd h2 h3 h5 h6 hy hu;obtain⟨cs,hc,rfl⟩:=hx;have e2:y.1=u:=by have:=Ty.at_of_get hy;rw[h2]at this;exact(axm this).symm
      have hg:=hc.get h5 hy;have hsz:y.1.size=i'.ty.size:=by rw[h7,Yh,e2]
      have hg2:=Rd.KN hg;have e3:(KN y).1=i'.ty:=by rw[a3W,e2,h7]
      generalize KN y=z at hg2 e3;obtain⟨ty',z⟩:=z;change ty'=i'.ty at e3;subst e3;refine⟨_,?_,⟨_,hg2,rfl⟩⟩;unfold Instr.field mkV;simp only[h6,axV,awx,awJ (hu.trans (by rw[hd])),aws,hf,asAgg,awM];rw[h3];rw[hsz]at hg2⊢;exact wM hti h1 _ _ w rfl hg2
     ·cases h
    ·cases h
  ·cases h
 ·cases h
include hti in
theorem FK {f:Field}{i':TI}(hi:look ti f.type=some i')(hs:0<i'.ty.size)(b o:Nat):(fieldPlace ⟨b,o,none⟩ f).run P w= .ok ⟨b,o+f.offset,none⟩ w:=by unfold fieldPlace;simp only[awx,hti.size _ _ w hi,aws,awG (show¬i'.ty.size=0 by omega),awM,fU]
theorem Fz.sub {b o k n:Nat}{c:List Value}(h:Fz ρ w b o c):Fz ρ w b (o+k) ((c.drop k).take n):=by
 refine⟨h.1,h.2.1,λj v hj=>?_⟩;have hj':j<n:=by have:=(awH.1 hj).1;simp only[az5]at this;omega
 rw[awX hj',axa]at hj;have:=h.2.2 (k+j) v hj;rw[ayG];exact this
include hti in
theorem Mh {T:TypeId}{x:PV}{vx:Value}{j:Nat}{pv:PV}(hx:VP ρ w x vx)(h:jI ti T x j some=some pv): ∃v,(Instr.fieldAt T vx j).run P w= .ok v w/\VP ρ w pv v:=by
 unfold jI at h;split at h
 ·rename_i i hi;split at h
  ·rename_i fs hd;cases hb:Nat.blt j fs.size
   ·rw[hb]at h;cases h
   ·rw[hb]at h;simp only[awL]at h;obtain⟨f,hf⟩: ∃f,fs[j]?=some f:=⟨fs[j]'(FJ hb),axW (FJ hb)⟩;obtain⟨i',u,h1,h2,h3,h4,h5,h6,h7⟩:=sS hti hi hd hf;have h4:0<i'.ty.size:=by rw[h7,Yh];exact h4
    have hu:=hti.under T i hi;rw[hd]at hu;split at h
    ·rename_i t id p;split at h
     ·rename_i e;subst e;rw[h2]at h;simp only[awr]at h;subst h;obtain⟨loc,hloc,hok,hat,hcap,rfl⟩:=VR.ptrRf hx;refine⟨_,?_,VR.mkRf ⟨loc,hloc,Ty.okP_append hok hat h5,(Ty.at_append hat).trans h2,hcap.imp (λh=>h) (λh e=>h (List.append_eq_nil_iff.1 e).1),rfl⟩⟩;simp only[Instr.fieldAt,awx,awJ hu,aws,hf,Instr.sureAddr,awM,FK hti h1 h4];rw[Ty.off_append hat,h3]
     ·cases h
    ·rename_i t y;split at h
     ·rename_i e;subst e;split at h
      ·rename_i z hz;simp only[awr]at h;subst h;obtain⟨b,o,c,rfl,h7,h8⟩:=VR.ptrFz hx;have hg:=h7.get h5 hz;refine⟨_,?_,VR.mkFz hg (h8.sub (k:=i.ty.off (qg fs.size j)))⟩;simp only[Instr.fieldAt,awx,awJ hu,aws,hf,Instr.sureAddr,awM,FK hti h1 h4,h3]
      ·cases h
     ·cases h
    ·cases h
  ·cases h
 ·cases h
theorem zm {i:Int}{n:Nat}(h:inb i n=true):0<=i/\i<(n:Int)/\i.toNat<n:=by simp only[inb,awu,awI]at h;omega
include hti in
theorem array_elem {T:TypeId}{i:TI}{n:Nat}{e:TypeId}(hi:look ti T=some i)(hd:i.desc= .array n e): ∃i',look ti e=some i'/\i.ty= .arr n i'.ty/\0<i'.ty.size:=by have hs:=hti.shape T i hi;unfold kM at hs;rw[hd]at hs;obtain⟨i',h1,h2,h3,_⟩:=hs;exact⟨i',h1,h2,h3⟩
include hti in
theorem nY {T:TypeId}{i:TI}{e:TypeId}(hi:look ti T=some i)(hd:i.desc= .slice e): ∃i',look ti e=some i'/\i.ty= .sl i'.ty/\0<i'.ty.size:=by have hs:=hti.shape T i hi;unfold kM at hs;rw[hd]at hs;exact hs
theorem VR.slMs {t:Ty}{id:Nat}{p:Path}{lo len:Nat}{v:Value}(h:VR ρ w ⟨.sl t,.ms id p lo len⟩ v):(len=0/\v= .slice none 0 0)\/ ∃loc m cap o,ρ id=some loc/\loc.ty.okP p/\loc.ty.at p=some (.arr m t)/\lo+len<=m/\
  v= .slice (some ⟨loc.blk,o,none⟩) len cap/\(0<len->o=loc.ty.off p+lo*t.size)/\len<=cap/\(∀c,loc.cap=some c->p=[]->lo=0->cap=c/\o=0):=by
 obtain⟨cs,h1,rfl⟩:=h;rcases h1 with⟨h1,rfl⟩|⟨loc,m,cap,o,h1,h2,h3,h4,rfl,h5⟩
 ·exact .inl ⟨h1,rfl⟩
 ·exact .inr ⟨loc,m,cap,o,h1,h2,h3,h4,rfl,h5⟩
theorem VR.slFz {t:Ty}{n:Nat}{f:Nat->t.den}{v:Value}(h:VR ρ w ⟨.sl t,.fz n f⟩ v): ∃a cap,v= .slice a n cap/\n<=cap/\ ∀i,i<n-> ∃b o c,a=some ⟨b,o,none⟩/\Rd ρ.shut w t (f i) c/\Fz ρ w b (o+i*t.size) c:=by obtain⟨cs,h1,rfl⟩:=h;obtain⟨a,cap,rfl,h2⟩:=h1;exact⟨a,cap,rfl,h2⟩
theorem VR.slNil {t:Ty}{v:Value}(h:VR ρ w ⟨.sl t,.nil⟩ v):v= .slice none 0 0:=by obtain⟨cs,h1,rfl⟩:=h;simp only[Rd]at h1;subst h1;rfl
include hti in
theorem Mi {T:TypeId}{x ix:PV}{vx vi:Value}{pv:PV}(hx:VP ρ w x vx)(hix:VP ρ w ix vi)(h:jJ ti T x ix some=some pv):
  ∃v,(Instr.indexAt T vx vi).run P w= .ok v w/\VP ρ w pv v:=by
 unfold jJ at h;split at h
 ·rename_i i k n hi;have e:=VR.int hix;subst e;have hu:=hti.under T i hi;split at h
  ·rename_i len e m t hd hty;rw[hd]at hu;obtain⟨i',h1,h2,h3⟩:=array_elem hti hi hd;have:m=len/\t=i'.ty:=by rw[hty]at h2;cases h2;exact⟨rfl,rfl⟩
   obtain⟨rfl,rfl⟩:=this;split at h
   ·rename_i u id p;split at h
    ·rename_i e;subst e;cases hb:inb n m
     ·rw[hb]at h;cases h
     ·rw[hb]at h;simp only[awL,awr]at h;subst h;obtain⟨hn0,hn1,hn2⟩:=zm hb;obtain⟨loc,hloc,hok,hat,hcap,rfl⟩:=VR.ptrRf hx;rw[hty]at hat;refine⟨_,?_,VR.mkRf ⟨loc,hloc,Ty.okP_append hok hat ⟨hn2,by simp[Ty.okP]⟩,by rw[Ty.at_append hat];simp[Ty.at],.inr (by simp),rfl⟩⟩;simp only[Instr.indexAt,asIntOf,awx,awM,awJ hu,aws,Instr.sureAddr,awQ (show 0<=n/\n<(m:Int)from⟨hn0,hn1⟩),hti.size e i' w h1,fU];rw[Ty.off_append hat];simp[Ty.off,ayG]
    ·cases h
   ·rename_i m' u f;split at h
    ·rename_i e2;obtain⟨rfl,rfl⟩:=e2;cases hb:inb n m'
     ·rw[hb]at h;cases h
     ·rw[hb]at h;simp only[awL,awr]at h;subst h;obtain⟨hn0,hn1,hn2⟩:=zm hb;obtain⟨b,o,c,rfl,h7,h8⟩:=VR.ptrFz hx;refine⟨_,?_,VR.mkFz (h7.2 n.toNat hn2) (h8.sub (k:=n.toNat*i'.ty.size))⟩;simp only[Instr.indexAt,asIntOf,awx,awM,awJ hu,aws,Instr.sureAddr,awQ (show 0<=n/\n<(m':Int)from⟨hn0,hn1⟩),hti.size e i' w h1,fU]
    ·cases h
   ·cases h
  ·rename_i e t hd hty;rw[hd]at hu;obtain⟨i',h1,h2,h3⟩:=nY hti hi hd;have:t=i'.ty:=by rw[hty]at h2;cases h2;rfl
   subst this;split at h
   ·rename_i u id p lo len;split at h
    ·rename_i e2;subst e2;cases hb:inb n len
     ·rw[hb]at h;cases h
     ·rw[hb]at h;simp only[awL,awr]at h;subst h;obtain⟨hn0,hn1,hn2⟩:=zm hb;obtain⟨h0,_⟩|⟨loc,m,cap,o,hloc,hok,hat,hle,rfl,ho,_⟩:=VR.slMs hx
      ·omega
      have ho:=ho (by omega);subst ho;refine⟨_,?_,VR.mkRf ⟨loc,hloc,Ty.okP_append hok hat ⟨by omega,by simp[Ty.okP]⟩,by rw[Ty.at_append hat];simp[Ty.at],.inr (by simp),rfl⟩⟩;simp only[Instr.indexAt,asIntOf,awx,awM,awJ hu,aws,Instr.sureAddr,awQ (show 0<=n/\n<(len:Int)from⟨hn0,hn1⟩),hti.size e i' w h1,fU];rw[Ty.off_append hat];simp[Ty.off,ayG,ax3]
    ·cases h
   ·rename_i u len f;split at h
    ·rename_i e2;subst e2;cases hb:inb n len
     ·rw[hb]at h;cases h
     ·rw[hb]at h;simp only[awL,awr]at h;subst h;obtain⟨hn0,hn1,hn2⟩:=zm hb;obtain⟨a,cap,rfl,_,hall⟩:=VR.slFz hx;obtain⟨b,o,c,rfl,h7,h8⟩:=hall n.toNat hn2;refine⟨_,?_,VR.mkFz h7 h8⟩;simp only[Instr.indexAt,asIntOf,awx,awM,awJ hu,aws,Instr.sureAddr,awQ (show 0<=n/\n<(len:Int)from⟨hn0,hn1⟩),hti.size e i' w h1,fU]
    ·cases h
   ·cases h
  ·cases h
 ·cases h
include hti in
theorem Wp {T:TypeId}{x ix:PV}{vx vi:Value}{pv:PV}(hx:VP ρ w x vx)(hix:VP ρ w ix vi)(h:yB ti T x ix some=some pv):
  ∃v,(Instr.index T vx vi).run P w= .ok v w/\VP ρ w pv v:=by
 unfold yB at h;split at h
 ·rename_i i k n hi;have e:=VR.int hix;subst e;have hu:=hti.under T i hi;split at h
  ·rename_i len e m t f hd;rw[hd]at hu;obtain⟨i',h1,h2,h3⟩:=array_elem hti hi hd;split at h
   ·rename_i e2;obtain⟨e3,rfl⟩:=e2;have:t=i'.ty:=by rw[h2]at e3;cases e3;rfl
    subst this;cases hb:inb n m
    ·rw[hb]at h;cases h
    ·rw[hb]at h;simp only[awL,awr]at h;subst h;obtain⟨hn0,hn1,hn2⟩:=zm hb;obtain⟨cs,hc,rfl⟩:=hx;have hg:=hc.2 n.toNat hn2;refine⟨_,?_,⟨_,hg,rfl⟩⟩;simp only[Instr.index,mkV,Ty.agg,axV,asIntOf,awx,awM,awJ hu,aws,awQ (show 0<=n/\n<(m:Int)from⟨hn0,hn1⟩),hti.size e i' w h1];exact wM hti h1 _ _ w rfl hg
   ·cases h
  ·rename_i s hd;rw[hd]at hu;cases hb:inb n s.size
   ·rw[hb]at h;cases h
   ·rw[hb]at h;simp only[awL,awr]at h;subst h;obtain⟨hn0,hn1,hn2⟩:=zm hb;have e:=VR.str hx;subst e;refine⟨_,?_,VR.mkInt⟩;simp only[Instr.index,asIntOf,awx,awM,awJ hu,aws,awQ hn0];have:s[n.toNat]?=some (s.data.toList.getD n.toNat 0):=by
     rw[getElem?_pos s n.toNat hn2];have hn3:n.toNat<s.data.toList.length:=by simpa using hn2
     rw[awC,awy hn3];rfl
    simp only[this];rfl
  ·cases h
 ·cases h
include hti in
theorem Sr {T:TypeId}{x:PV}{vx:Value}{pv:PV}(hx:VP ρ w x vx)(h:sP ti T x some=some pv):
  ∃v,(Instr.arrayAt T vx).run P w= .ok v w/\VP ρ w pv v:=by
 unfold sP at h;split at h
 ·rename_i i hi;have hu:=hti.under T i hi;split at h
  ·rename_i n e m t hd hty;rw[hd]at hu;have hs:=hti.shape T i hi;unfold kM at hs;rw[hd]at hs;obtain⟨i',h1,h2,h3,h4⟩:=hs;split at h
   ·rename_i u id p lo len;split at h
    ·rename_i e2;subst e2;cases hb:Nat.ble n len
     ·rw[hb]at h;cases h
     ·rw[hb]at h;simp only[awL,awr]at h;subst h;have hn:=awN hb;obtain⟨h0,_⟩|⟨loc,m',cap,o,hloc,hok,hat,hle,rfl,ho,_⟩:=VR.slMs hx
      ·omega
      have ho:=ho (by omega);subst ho;refine⟨_,?_,VR.mkRf ⟨loc,hloc,Ty.okP_append hok hat ⟨by omega,Ty.okP_nil _⟩,by rw[Ty.at_append hat];simp[Ty.at],.inr (by simp),rfl⟩⟩;simp only[Instr.arrayAt,awx,awM,awJ hu,aws,awG (show¬len<n by omega)];rw[Ty.off_append hat];simp[Ty.off]
    ·cases h
   ·cases h
  ·cases h
 ·cases h
theorem Yl {x:Int}{n:Nat}(h:(decide (0<=x)&&decide (x<=(n:Int)))=true):0<=x/\x<=(n:Int)/\x.toNat<=n:=by simp only[awu,awI]at h;omega
theorem Ao {n:Nat}{lo hi:Option PV}{l h:Nat}(hb:bounds n lo hi (λa b=>some (a,b))=some (l,h)):l<=h/\h<=n/\
  (∀v,lo=some v-> ∃k x,v= .v ⟨.int k,x⟩/\0<=x/\x.toNat=l)/\(lo=none->l=0)/\(∀v,hi=some v-> ∃k x,v= .v ⟨.int k,x⟩/\0<=x/\x.toNat=h)/\(hi=none->h=n):=by
 unfold bounds at hb;split at hb
 ·split at hb
  ·cases hb;exact⟨by omega,by omega,(λv h=>by cases h),λ_=>rfl,(λv h=>by cases h),λ_=>rfl⟩
  ·rename_i k x;cases hc:decide (0<=x)&&decide (x<=(n:Int))
   ·rw[hc]at hb;cases hb
   ·rw[hc]at hb;simp only[awL,awr,ayR]at hb;obtain⟨rfl,rfl⟩:=hb;have hc:=Yl hc;exact⟨hc.2.2,ax2 _,λv h=>⟨k,x,(axm h).symm,hc.1,rfl⟩,(λh=>by cases h),(λv h=>by cases h),λ_=>rfl⟩
  ·cases hb
 ·rename_i k x;cases hc:decide (0<=x)&&decide (x<=(n:Int))
  ·rw[hc]at hb;cases hb
  ·rw[hc]at hb;simp only[awL]at hb;have hc:=Yl hc;split at hb
   ·cases hb;exact⟨az9 _,hc.2.2,(λv h=>by cases h),λ_=>rfl,λv h=>⟨k,x,(axm h).symm,hc.1,rfl⟩,(λh=>by cases h)⟩
   ·rename_i k' y;cases hd:decide (0<=y)&&decide (y<=((x.toNat:Nat):Int))
    ·rw[hd]at hb;cases hb
    ·rw[hd]at hb;simp only[awL,awr,ayR]at hb;obtain⟨rfl,rfl⟩:=hb;have hd:=Yl hd;exact⟨hd.2.2,hc.2.2,λv h=>⟨k',y,(axm h).symm,hd.1,rfl⟩,(λh=>by cases h),λv h=>⟨k,x,(axm h).symm,hc.1,rfl⟩,(λh=>by cases h)⟩
   ·cases hb
 ·cases hb
theorem mE {n cap l h:Nat}(isSlice:Bool){lo hi:Option PV}{vlo vhi:Option Value}(hlo: ∀v x,lo=some x->vlo=some v->VP ρ w x v)(hhi: ∀v x,hi=some x->vhi=some v->VP ρ w x v)
  (elo:lo.isSome=vlo.isSome) (ehi:hi.isSome=vhi.isSome) (hb:bounds n lo hi (λa b=>some (a,b))=some (l,h)) (hc:n<=cap):
  (Instr.sliceBounds isSlice n cap vlo vhi none).run P w= .ok (l,h,cap) w:=by
 obtain⟨h1,h2,h3,h4,h5,h6⟩:=Ao hb;have hlo':vlo=none/\l=0\/ ∃k x,vlo=some (.int k x)/\0<=x/\x.toNat=l:=by
  cases lo with
  |none=>cases vlo with
   |none=>exact .inl ⟨rfl,h4 rfl⟩
   |some v=>cases elo
  |some x=>cases vlo with
   |none=>cases elo
   |some v=>
    obtain⟨k,y,rfl,hy,e⟩:=h3 x rfl;have:=VR.int (hlo v _ rfl rfl);exact .inr ⟨k,y,by rw[this],hy,e⟩
 have hhi':vhi=none/\h=n\/ ∃k x,vhi=some (.int k x)/\0<=x/\x.toNat=h:=by
  cases hi with
  |none=>cases vhi with
   |none=>exact .inl ⟨rfl,h6 rfl⟩
   |some v=>cases ehi
  |some x=>cases vhi with
   |none=>cases ehi
   |some v=>
    obtain⟨k,y,rfl,hy,e⟩:=h5 x rfl;have:=VR.int (hhi v _ rfl rfl);exact .inr ⟨k,y,by rw[this],hy,e⟩
 unfold Instr.sliceBounds;rcases hhi' with⟨rfl,e1⟩|⟨k,x,rfl,hx0,e1⟩<;>rcases hlo' with⟨rfl,e2⟩|⟨k',y,rfl,hy0,e2⟩
 ·simp[e1,e2]
 ·simp only[awx,awM,aws,Instr.sliceBound,asIntOf,ayQ];rw[awQ ⟨hy0,by omega⟩];simp[e1,e2]
 ·simp only[awx,awM,aws,Instr.sliceBound,asIntOf,ayQ];rw[awQ ⟨hx0,by omega⟩];simp[e1,e2]
 ·simp only[awx,awM,aws,Instr.sliceBound,asIntOf,ayQ];rw[awQ ⟨hx0,by omega⟩];simp only[aws];rw[awQ ⟨hy0,by omega⟩];simp[e1,e2]
include hti in
theorem Wq {T:TypeId}{x:PV}{vx:Value}{lo hi:Option PV}{vlo vhi:Option Value}{pv:PV}(hx:VP ρ w x vx)(hlo: ∀v x,lo=some x->vlo=some v->VP ρ w x v)(hhi: ∀v x,hi=some x->vhi=some v->VP ρ w x v)
  (elo:lo.isSome=vlo.isSome) (ehi:hi.isSome=vhi.isSome) (h:yC ti T x lo hi some=some pv): ∃v,(Instr.sliceAt T vx vlo vhi none).run P w= .ok v w/\VP ρ w pv v:=by
 unfold yC at h;split at h
 ·rename_i i hi';have hu:=hti.under T i hi';split at h
  ·rename_i n e m t hd hty;rw[hd]at hu;obtain⟨i',h1,h2,h3⟩:=array_elem hti hi' hd;have:m=n/\t=i'.ty:=by rw[hty]at h2;cases h2;exact⟨rfl,rfl⟩
   obtain⟨rfl,rfl⟩:=this;split at h
   ·rename_i u id p;split at h
    ·rename_i e2;subst e2;rw[iK]at h;cases hb:bounds m lo hi (λa b=>some (a,b))with
     |none=>rw[hb]at h;cases h
     |some lh=>
      obtain⟨l,k⟩:=lh;rw[hb]at h;simp only[axh,awr]at h;subst h;obtain⟨hlk,hkm,_⟩:=Ao hb;obtain⟨loc,hloc,hok,hat,hcap,rfl⟩:=VR.ptrRf hx;rw[hty]at hat;refine⟨.slice (some (if m=l then⟨loc.blk,loc.ty.off p,none⟩else⟨loc.blk,loc.ty.off p+l*i'.ty.size,none⟩)) (k-l) (m-l),?_,?_⟩
      ·simp only[Instr.sliceAt,awx,awJ hu,aws,Instr.sureAddr,awM,mE false hlo hhi elo ehi hb (ax2 _),hti.size e i' w h1,fU]
      ·refine⟨[_],.inr ⟨loc,m,m-l,if m=l then loc.ty.off p else loc.ty.off p+l*i'.ty.size,hloc,hok,hat,by omega,?_,λh=>by rw[awG (by omega)],by omega,λc hc hp hl=>?_⟩,rfl⟩
       ·split<;>rfl
       ·rcases hcap with h|h
        ·rw[h]at hc;cases hc
        ·exact absurd hp h
    ·cases h
   ·cases h
  ·rename_i e t hd hty;rw[hd]at hu;obtain⟨i',h1,h2,h3⟩:=nY hti hi' hd;have:t=i'.ty:=by rw[hty]at h2;cases h2;rfl
   subst this;split at h
   ·rename_i u id p o0 len;split at h
    ·rename_i e2;subst e2;rw[iK]at h;cases hb:bounds len lo hi (λa b=>some (a,b))with
     |none=>rw[hb]at h;cases h
     |some lh=>
      obtain⟨l,k⟩:=lh;rw[hb]at h;simp only[axh,awr]at h;subst h;obtain⟨hlk,hkm,_⟩:=Ao hb;obtain⟨h0,rfl⟩|⟨loc,m,cap,o,hloc,hok,hat,hle,rfl,ho,hlc,hcap⟩:=VR.slMs hx
      ·refine⟨.slice none 0 0,?_,⟨[_],.inl ⟨by omega,rfl⟩,rfl⟩⟩;have e1:l=0:=by omega
       have e2:k=0:=by omega
       subst e1;subst e2;subst h0;simp only[Instr.sliceAt,awx,awJ hu,aws,Instr.slice,awM,mE true hlo hhi elo ehi hb (ax2 0),hti.size e i' w h1,Option.map_none];simp
      refine⟨.slice (some ⟨loc.blk,if cap=l then o else o+l*i'.ty.size,none⟩) (k-l) (cap-l),?_,?_⟩
      ·simp only[Instr.sliceAt,awx,awJ hu,aws,Instr.slice,awM,mE true hlo hhi elo ehi hb hlc,hti.size e i' w h1,ay6,fU];split<;>rfl
      ·refine⟨[_],.inr ⟨loc,m,cap-l,if cap=l then o else o+l*i'.ty.size,hloc,hok,hat,by omega,rfl,λh=>?_,by omega,λc hc hp hl=>?_⟩,rfl⟩
       ·rw[awG (by omega),ho (by omega),ax3];omega
       ·obtain⟨e1,e2⟩:=hcap c hc hp (by omega);have:l=0:=by omega
        subst this;refine⟨by omega,?_⟩;split<;>omega
    ·cases h
   ·rename_i u len f;split at h
    ·rename_i e2;subst e2;rw[iK]at h;cases hb:bounds len lo hi (λa b=>some (a,b))with
     |none=>rw[hb]at h;cases h
     |some lh=>
      obtain⟨l,k⟩:=lh;rw[hb]at h;simp only[axh,awr]at h;subst h;obtain⟨hlk,hkm,_⟩:=Ao hb;obtain⟨a,cap,rfl,hlc,hall⟩:=VR.slFz hx;refine⟨.slice (if cap=l then a else a.map (·.add (l*i'.ty.size))) (k-l) (cap-l),?_,?_⟩
      ·simp only[Instr.sliceAt,awx,awJ hu,aws,Instr.slice,awM,mE true hlo hhi elo ehi hb hlc,hti.size e i' w h1]
      ·refine⟨[_],⟨_,cap-l,rfl,by omega,λj hj=>?_⟩,rfl⟩;obtain⟨b,o,c,rfl,h7,h8⟩:=hall (l+j) (by omega);rw[awG (by omega)];exact⟨b,o+l*i'.ty.size,c,by rw[ay6,fU],h7,by rw[ayG,<-ax3];exact h8⟩
    ·cases h
   ·cases h
  ·rename_i hd;rw[hd]at hu;split at h
   ·rename_i s;rw[iK]at h;cases hb:bounds s.size lo hi (λa b=>some (a,b))with
    |none=>rw[hb]at h;cases h
    |some lh=>
     obtain⟨l,k⟩:=lh;rw[hb]at h;simp only[axh,awr]at h;subst h;have e:=VR.str hx;subst e;refine⟨_,?_,VR.mkStr⟩;simp only[Instr.sliceAt,awx,awJ hu,aws,Instr.slice,Option.isSome_none,axi,ay4,awM,mE false hlo hhi elo ehi hb (ax2 _)]
   ·cases h
  ·cases h
 ·cases h
theorem ZO: ∀ {l:List PV} {vs:List Value} {r:List (Ty×Nat×Path)},l.length=vs.length->(∀(j:Nat) x v,l[j]?=some x->vs[j]?=some v->VP ρ w x v)->Si l=some r->
  vs.length=r.length/\ ∀(j:Nat) c v,r[j]?=some c->vs[j]?=some v->uK ρ c.1 c.2.1 c.2.2 v:=by
 intro l
 induction l with
 |nil=>
  intro vs r hl _ h;simp only[Si,awr]at h;subst h;exact⟨hl.symm,λj c v hc=>by simp at hc⟩
 |cons x l ih=>
  intro vs r hl hv h;cases vs with
  |nil=>cases hl
  |cons v vs=>
   unfold Si at h;split at h
   ·rename_i e;cases e
   ·rename_i t id p l' e;cases e;split at h
    ·rename_i r' hr;simp only[awr]at h;subst h;obtain⟨h1,h2⟩:=ih (by simpa using hl) (λj x v hx hv'=>hv (j+1) x v (by simpa using hx) (by simpa using hv')) hr;refine⟨by simp[h1],λj c u hc hu=>?_⟩;cases j with
     |zero=>
      simp only[ax5,awr]at hc hu;subst hc;subst hu;exact VR.ptrRf (hv 0 _ _ rfl rfl)
     |succ j=>exact h2 j c u (by simpa using hc) (by simpa using hu)
    ·cases h
   ·cases h
end
section
variable {P:Program} {ti:List (Nat×TI)} (hti:wL P ti) {ρ:Rho} {w:World}
theorem OD: ∀(c:List Value) (k o:Nat) (cs:List Value),o+k+c.length<=cs.length->
  ((c.zipIdx k).foldl (λ(cs:Array Value) (x:Value×Nat)=>cs.setIfInBounds (o+x.2) x.1) cs.toArray)=(splice cs (o+k) c).toArray:=by
 intro c
 induction c with
 |nil=>intro k o cs h;simp[splice]
 |cons v c ih=>
  intro k o cs h;simp only[axH]at h;simp only[List.zipIdx_cons,List.foldl_cons,List.setIfInBounds_toArray];rw[ih (k+1) o _ (by simp;omega)]
  congr 1
  apply axO;intro j;rw[iJ (by simp;omega),iJ (by simp;omega),List.getElem?_set];simp only[axH];by_cases h1:o+k=j
  ·subst h1;rw[awG (by omega),awQ rfl,awQ (by omega),awQ (by omega)];simp
  ·by_cases h2:o+(k+1)<=j/\j<o+(k+1)+c.length
   ·rw[awQ h2,awQ (by omega)];rw[show j-(o+k)=(j-(o+(k+1)))+1 by omega,axF]
   ·rw[awG h2,awG (by omega),awG (by omega)]
theorem VR.cells {x:V}{v:Value}(h:VR ρ w x v): ∃cs,Rd ρ w x.1 x.2 cs/\v.cells=cs.toArray/\v=mkV x.1 cs:=by obtain⟨cs,h1,rfl⟩:=h;exact⟨cs,h1,jG h1,rfl⟩
theorem Sv {t:Ty}{place:Nat->Path}{pl:Nat->Option (Nat×Nat)} : ∀ {parts:List (Nat×PV)} {vparts:List (Nat×Value)} {x z:t.den} {cs:List Value},
  parts.length=vparts.length->(∀(j:Nat) p v,parts[j]?=some p->vparts[j]?=some v->p.1=v.1/\VP ρ w p.2 v.2)->
  (∀(j:Nat) p u,parts[j]?=some p->t.at (place p.1)=some u->t.okP (place p.1)/\pl p.1=some (t.off (place p.1),u.size))->
  zh t place parts x=some z->Rd ρ w t x cs-> ∃cs',Instr.fill pl cs.toArray vparts=some cs'.toArray/\Rd ρ w t z cs':=by
 intro parts
 induction parts with
 |nil=>
  intro vparts x z cs hl _ _ h hr;cases vparts with
  |nil=>simp only[zh,awr]at h;subst h;exact⟨cs,rfl,hr⟩
  |cons=>cases hl
 |cons p parts ih=>
  intro vparts x z cs hl hv hp h hr;cases vparts with
  |nil=>cases hl
  |cons v vparts=>
   obtain⟨i,pv⟩:=p;obtain⟨i',v⟩:=v;obtain⟨e,hvr⟩:=hv 0 _ _ rfl rfl;simp only at e hvr;subst e;unfold zh at h;split at h
   ·rename_i e;cases e
   ·rename_i i2 y l e;cases e;split at h
    ·rename_i u hu;split at h
     ·rename_i y' hy;split at h
      ·rename_i z' hz;obtain⟨hok,hpl⟩:=hp 0 _ u rfl hu;obtain⟨c,hc,hcells,_⟩:=(VR.to hvr hy).cells;have hle:=Ty.off_le (p:=place i) hok hu;have hcl:=hc.length;have hrl:=hr.length;have hr':=hr.set hok hz hc;obtain⟨cs',h1,h2⟩:=ih (by simpa using hl) (λj p v hj hj'=>hv (j+1) p v (by simpa using hj) (by simpa using hj')) (λj p u hj hu=>hp (j+1) p u (by simpa using hj) hu) h hr';refine⟨cs',?_,h2⟩;unfold Instr.fill;simp only at hcl⊢;rw[hpl];simp only[hcells,ayO,hcl];rw[awG (by simp;omega)];have:=OD c 0 (t.off (place i)) cs (by omega);simp only[axE]at this;rw[<-h1,<-this];simp
      ·cases h
     ·cases h
    ·cases h
   ·cases h
include hti in
theorem Q9: ∀(fs:List Field),(∀f∈fs,∃i,look ti f.type=some i)->(fs.mapM (λf=>do pure (f.offset,<-sizeOf f.type):Field->Sem (Nat×Nat))).run P w= .ok (fs.map λf=>(f.offset,match look ti f.type with|some i=>i.ty.size|none=>0)) w:=by
 intro fs
 induction fs with
 |nil=>intro _;rfl
 |cons f fs ih=>
  intro h;obtain⟨i,hi⟩:=h f (by simp);simp only[List.mapM_cons,awx,hti.size _ _ w hi,aws,awM,ih (λg hg=>h g (by simp[hg])),axQ,hi]
theorem Sw {parts:List (Nat×PV)}{n:Nat}(h:(parts.all λp=>Nat.blt p.1 n)=true): ∀(j:Nat) p,parts[j]?=some p->p.1<n:=by intro j p hp;exact FJ (axB.1 h p (axy hp))
include hti in
theorem Wt {T:TypeId}{parts:List (Nat×PV)}{vparts:Array (Nat×Value)}{pv:PV}(hl:parts.length=vparts.size)(hv: ∀(j:Nat) p v,parts[j]?=some p->vparts[j]?=some v->p.1=v.1/\VP ρ w p.2 v.2)
  (h:yx ti T parts some=some pv): ∃v,(Instr.build T vparts).run P w= .ok v w/\VP ρ w pv v:=by
 unfold yx at h;split at h
 ·rename_i i hi;have hu:=hti.under T i hi;have hz0:=Rd.zero ρ w i.ty;have hcells:(mkV i.ty i.ty.zcells).cells=i.ty.zcells.toArray:=jG hz0;split at h
  ·rename_i fs hd;rw[hd]at hu;cases hbz:parts.isEmpty&&i.ty.spHead
   rotate_left
   ·rw[hbz]at h;simp only[awL,awr]at h;subst h;simp only[awu,List.isEmpty_iff]at hbz;have e0:vparts= #[]:=by rw[hbz.1]at hl;exact Array.size_eq_zero_iff.1 hl.symm
    subst e0;have hag:i.ty.agg=true:=by have hs:=hti.shape T i hi;unfold kM at hs;rw[hd]at hs;exact hs.1
    have hall: ∀f∈fs.toList,∃i,look ti f.type=some i:=by intro f hf;obtain⟨j,hj⟩:=List.mem_iff_getElem?.1 hf;obtain⟨i',_,h1,_⟩:=sS hti hi hd (j:=j) (f:=f) (by simpa using hj);exact⟨i',h1⟩
    refine⟨_,?_,rfl⟩;unfold Instr.build mkV;simp only[awx,hti.zero T i w hi,aws,hcells,awJ hu,hag,axV];rw[Array.mapM_eq_mapM_toList];simp only[Sem.run_map,Q9 hti fs.toList hall,aws];simp[Instr.fill]
   rw[hbz]at h;simp only[awW]at h;cases hb:parts.all λp=>Nat.blt p.1 fs.size
   ·rw[hb]at h;cases h
   ·rw[hb]at h;simp only[awL]at h;have hlt:=Sw hb;split at h
    ·rename_i z hz;simp only[awr]at h;subst h;have hag:i.ty.agg=true:=by have hs:=hti.shape T i hi;unfold kM at hs;rw[hd]at hs;exact hs.1
     have hall: ∀f∈fs.toList,∃i,look ti f.type=some i:=by intro f hf;obtain⟨j,hj⟩:=List.mem_iff_getElem?.1 hf;obtain⟨i',_,h1,_⟩:=sS hti hi hd (j:=j) (f:=f) (by simpa using hj);exact⟨i',h1⟩
     obtain⟨cs',h1,h2⟩:=Sv (pl:=((fs.toList.map λf=>(f.offset,match look ti f.type with|some i=>i.ty.size|none=>0)).toArray[·]?)) (vparts:=vparts.toList) (by simpa using hl)
      (λj p v hj hj'=>hv j p v hj (by simpa using hj')) (λj p u hj hu'=>by have hp:=hlt j p hj;obtain⟨i',u',h3,h4,h5,h6,h7,_,h8⟩:=sS hti hi hd (axW hp);rw[h4]at hu';cases hu';refine⟨h7,?_⟩;simp only[axR,axk,ayg,axW hp,ay6,h3,h5,h8,Yh]) hz hz0
     refine⟨_,?_,⟨cs',h2,rfl⟩⟩;unfold Instr.build mkV;simp only[awx,hti.zero T i w hi,aws,hcells,awJ hu,hag,axV];rw[Array.mapM_eq_mapM_toList];simp only[Sem.run_map,Q9 hti fs.toList hall,aws,h1,awM]
    ·cases h
  ·rename_i n e hd;rw[hd]at hu;obtain⟨i',h1,h2,h3⟩:=array_elem hti hi hd;cases hb:parts.all λp=>Nat.blt p.1 n
   ·rw[hb]at h;cases h
   ·rw[hb]at h;simp only[awL]at h;have hlt:=Sw hb;split at h
    ·rename_i z hz;simp only[awr]at h;subst h;obtain⟨dd,ty⟩:=i;simp only at h2;subst h2;obtain⟨cs',h4,h5⟩:=Sv (pl:=λj=>some (j*i'.ty.size,i'.ty.size)) (vparts:=vparts.toList) (by simpa using hl)
      (λj p v hj hj'=>hv j p v hj (by simpa using hj')) (λj p u hj hu'=>by have hp:=hlt j p hj;simp only[Ty.at]at hu';cases hu';exact⟨⟨hp,Ty.okP_nil _⟩,by simp[Ty.off]⟩) hz hz0
     refine⟨_,?_,⟨cs',h5,rfl⟩⟩;unfold Instr.build mkV;simp only[awx,hti.zero T _ w hi,aws,hcells,awJ hu,hti.size e i' w h1,Ty.agg,axV,h4,awM]
    ·cases h
  ·cases h
 ·cases h
theorem xG(z:List Value): ∀(n:Nat),((Array.range (n*z.length)).map (λi=>z.toArray[i%z.toArray.size]!))=((List.replicate n z).flatten).toArray:=by
 intro n;apply ayt;simp only[Array.toList_map,Array.toList_range,ayO];apply axO;intro j;by_cases hj:j<n*z.length
 ·have hz:0<z.length:=by
   rcases axd z.length with h|h
   ·rw[h]at hj;simp at hj
   ·exact h
  have hq:j/z.length<n:=by rw[axS hz];exact hj
  have hm:=awZ j hz;have h1:=rZ z n (j/z.length) hq;have h2:((List.replicate n z).flatten)[j]?=z[j%z.length]?:=by
   have h3:((((List.replicate n z).flatten).drop (j/z.length*z.length)).take z.length)[j%z.length]?=z[j%z.length]?:=by rw[h1]
   rw[awX hm,axa]at h3;rw[<-h3];congr 1;have:=axn j z.length;rw[awT]at this;omega
  rw[h2];simp[hj,hm,awy hm]
 ·rw[axv (by simp;omega),axv (by simp;omega)]
end
def Goes(P:Program)(o:Oper)(a:Act)(w:World)(v:Value)(w':World):Prop:=
 (execOp a.eval o).run P w= .ok (.value v) w'\/((execOp a.eval o).run P w= .ok .skip w'/\v=undef)
theorem Goes.wp {P:Program}{o:Oper}{a:Act}{w w':World}{v:Value}{K:Act->World->Prop}{Q:Exit->Act->World->Prop}(h:Goes P o a w v w')(hk:K (a.put o.dst v) w'):o.wp P a w K Q:=by
 unfold Oper.wp;rcases h with h|⟨h,rfl⟩
 ·rw[h];exact hk
 ·rw[h];exact hk
structure After(B:Base)(ρ:Rho)(s:DS)(a:Act)(w:World)(nx:Nat)(pv:PV)(u:Upd)(n:Nat)(v:Value)(ρ':Rho)(w':World):Prop where
 rel:aJ B ρ' { s with hp:=u++s.hp } a w'
 later:Later ρ w ρ' w'
 val:VP ρ' w' pv v
 same: ∀id,id<nx\/nx+n<=id->ρ' id=ρ id
 new:n=0->ρ'=ρ
theorem EF {ρ ρ':Rho}{nx:Nat}(h: ∀id,id≠nx->ρ' id=ρ id): ∀id,id<nx\/nx+1<=id->ρ' id=ρ id:=λid hid=>h id (by omega)
theorem After.pure {B:Base}{ρ:Rho}{s:DS}{a:Act}{w:World}{nx:Nat}{pv:PV}{v:Value}(h:aJ B ρ s a w)(hv:VP ρ w pv v):After B ρ s a w nx pv [] 0 v ρ w:=
 ⟨h,Later.refl _ _,hv,λ_ _=>rfl,λ_=>rfl⟩
section
variable {P:Program} {C:Cx} (hti:wL P C.ti) {B:Base} {ρ:Rho} {s:DS} {a:Act} {w:World}
theorem FL(hr:aJ B ρ s a w)(nx:Nat)(hn:ρ nx=none){t:Ty}{x:t.den}{cs:List Value}(T:TypeId)(hc:Rd ρ w t x cs)(hh: ∀b,a2a t b T cs):
  ∃ρ',After B ρ s a w nx (.v ⟨.ptr t,.rf nx []⟩) [(nx,.obj t x)] 1 (.pointer (some ⟨w.heap.size,0,none⟩)) ρ' (w.alloc (.cells cs.toArray T)):=by
 obtain⟨ρ',h1,h2,h3,h4⟩:=hr.alloc nx hn (.obj t x) cs.toArray T t none (λρ' w' L hW hb=>⟨rfl,hW,cs,T,hc.later L,hb,hh _⟩) (w.alloc (.cells cs.toArray T)) rfl rfl rfl rfl;refine⟨ρ',h1,h2,VR.mkRf ⟨_,h3,Ty.okP_nil _,Ty.at_nil _,.inl rfl,by rw[Ty.off_nil]⟩,EF h4,λe=>absurd e (by decide)⟩
theorem Qa(hr:aJ B ρ s a w): ∀(l:List (Nat×Operand)),(l.map λp=>(p.1,s.val p.2)).length=(l.map λ(i,x)=>(i,a.eval x)).length/\
  ∀(j:Nat) p v,(l.map λp=>(p.1,s.val p.2))[j]?=some p->(l.map λ(i,x)=>(i,a.eval x))[j]?=some v->p.1=v.1/\VP ρ w p.2 v.2:=by
 intro l;refine⟨by simp,λj p v hp hv=>?_⟩;simp only[axk,axr]at hp hv;obtain⟨q,h1,rfl⟩:=hp;obtain⟨q',h2,rfl⟩:=hv;rw[h1]at h2;cases h2;exact⟨rfl,hr.eval _⟩
theorem Sy(hr:aJ B ρ s a w)(o:Option Operand):(∀v x,o.map s.val=some x->o.map a.eval=some v->VP ρ w x v)/\(o.map s.val).isSome=(o.map a.eval).isSome:=by
 cases o with
 |none=>exact⟨(λv x h=>by cases h),rfl⟩
 |some o=>exact⟨(λv x h h'=>by cases h;cases h';exact hr.eval o),rfl⟩
theorem ZP(hr:aJ B ρ s a w)(l:List Operand):(l.map s.val).length=(l.map a.eval).length/\ ∀(j:Nat) x v,(l.map s.val)[j]?=some x->(l.map a.eval)[j]?=some v->VP ρ w x v:=by refine⟨by simp,λj x v hx hv=>?_⟩;simp only[axk,axr]at hx hv;obtain⟨q,h1,rfl⟩:=hx;obtain⟨q',h2,rfl⟩:=hv;rw[h1]at h2;cases h2;exact hr.eval _
theorem Bz: ∀ {t:Ty} {x:t.den} {cs:List Value},Rd ρ w t x cs-> ∀v∈cs,v.oneCell'=true:=by
 intro t
 induction t with
 |int k=>intro x cs h v hv;simp only[Rd]at h;subst h;simp at hv;subst hv;rfl
 |bool=>intro x cs h v hv;simp only[Rd]at h;subst h;simp at hv;subst hv;rfl
 |str=>intro x cs h v hv;simp only[Rd]at h;subst h;simp at hv;subst hv;rfl
 |unit=>intro x cs h v hv;simp only[Rd]at h;subst h;simp at hv
 |pair a b iha ihb=>
  intro x cs h v hv;rw[<-axT a.size cs]at hv;rcases axo.1 hv with h'|h'
  ·exact iha h.1 v h'
  ·exact ihb h.2 v h'
 |arr n t ih=>
  intro x cs h v hv;obtain⟨j,hj⟩:=List.mem_iff_getElem?.1 hv;have hlt:=(awH.1 hj).1;rw[h.1]at hlt;have hs:0<t.size:=by
   rcases axd t.size with e|e
   ·rw[e]at hlt;simp at hlt
   ·exact e
  have hq:j/t.size<n:=by rw[axS hs];exact hlt
  refine ih (h.2 (j/t.size) hq) v (List.mem_iff_getElem?.2 ⟨j%t.size,?_⟩);rw[awX (awZ _ hs),axa,<-hj]
  congr 1
  have:=axn j t.size;rw[awT]at this;exact this
 |sl t ih=>
  intro x cs h v hv;cases x with
  |nil=>simp only[Rd]at h;subst h;simp at hv;subst hv;rfl
  |fz n f=>obtain⟨_,_,rfl,_⟩:=h;simp at hv;subst hv;rfl
  |ms id p lo len=>
   rcases h with⟨_,rfl⟩|⟨_,_,_,_,_,_,_,_,rfl,_⟩
   ·simp at hv;subst hv;rfl
   ·simp at hv;subst hv;rfl
 |ptr t ih=>
  intro x cs h v hv;cases x with
  |nil=>simp only[Rd]at h;subst h;simp at hv;subst hv;rfl
  |fz y=>obtain⟨_,_,_,rfl,_⟩:=h;simp at hv;subst hv;rfl
  |rf id p=>obtain⟨u,rfl,_,_,_,_,_,rfl⟩:=h;simp at hv;subst hv;rfl
 |fn=>
  intro x cs h v hv;cases x with
  |nil=>simp only[Rd]at h;subst h;simp at hv;subst hv;rfl
  |mk f caps=>obtain⟨_,rfl,_⟩:=h;simp at hv;subst hv;rfl
 |sp _=>intro x cs h v hv;obtain⟨u,rfl,hu⟩:=h;simp at hv;subst hv;cases v<;>first|rfl|cases hu
 |mp=>
  intro x cs h v hv;cases x with
  |none=>simp only[Rd]at h;subst h;simp at hv;subst hv;rfl
  |some id=>obtain⟨_,_,_,rfl⟩:=h;simp at hv;subst hv;rfl
 |st t ih=>intro x cs h v hv;obtain⟨_,_,rfl,_⟩:=h;simp at hv;subst hv;rfl
theorem a4S {n:Nat}{p:Nat->Bool}(h:a6f n p=true): ∀i,i<n->p i=true:=by intro i hi;exact axB.1 h i (ayo.2 hi)
theorem Rd.shutFlat {t:Ty}{ρ:Rho}{w:World}{x:t.den}{cs:List Value}(h:Rd ρ w t x cs)(hf:t.flat=true):Rd ρ.shut w t x cs:=by
 induction t generalizing cs with
 |int k=>exact h
 |bool=>exact h
 |str=>exact h
 |unit=>exact h
 |pair a b iha ihb=>
  simp only[Ty.flat,awu]at hf;exact⟨iha h.1 hf.1,ihb h.2 hf.2⟩
 |arr n t ih=>exact⟨h.1,λi hi=>ih (h.2 i hi) hf⟩
 |sl t ih=>cases hf
 |ptr t ih=>cases hf
 |fn=>cases hf
 |sp _=>cases hf
 |mp=>cases hf
 |st t ih=>cases hf
theorem Rd.shutNr {t:Ty}{ρ:Rho}{w:World}{x:t.den}{cs:List Value}(h:Rd ρ w t x cs)(hf:t.nr=true):Rd ρ.shut w t x cs:=by
 induction t generalizing cs with
 |pair a b iha ihb=>
  simp only[Ty.nr,awu]at hf;exact⟨iha h.1 hf.1,ihb h.2 hf.2⟩
 |arr n t ih=>exact⟨h.1,λi hi=>ih (h.2 i hi) hf⟩
 |int k=>exact h
 |bool=>exact h
 |str=>exact h
 |unit=>exact h
 |st t ih=>exact h
 |_=>cases hf
theorem Rd.shutOf {t:Ty}{ρ:Rho}{w:World}{x:t.den}{cs:List Value}(h:Rd ρ w t x cs)(hf:dG t x=true):Rd ρ.shut w t x cs:=by
 induction t generalizing cs with
 |int k=>exact h
 |bool=>exact h
 |str=>exact h
 |unit=>exact h
 |pair a b iha ihb=>
  simp only[dG,awu]at hf;exact⟨iha h.1 hf.1,ihb h.2 hf.2⟩
 |arr n t ih=>
  simp only[dG,axU]at hf;rcases hf with hf|hf
  ·exact⟨h.1,λi hi=>(h.2 i hi).shutNr hf⟩
  ·exact⟨h.1,λi hi=>ih (h.2 i hi) (a4S hf i hi)⟩
 |sl t ih=>
  cases x with
  |nil=>exact h
  |fz n f=>exact h
  |ms id p lo len=>cases hf
 |ptr t ih=>
  cases x with
  |nil=>exact h
  |fz y=>exact h
  |rf id p=>cases hf
 |fn=>
  cases x with
  |nil=>exact h
  |mk f caps=>
   cases caps with
   |nil=>
    obtain⟨vs,h1,h2,h3⟩:=h;exact⟨vs,h1,h2,λj c v hc hv=>by simp at hc⟩
   |cons _ _=>cases hf
 |sp _=>exact h
 |mp=>
  cases x with
  |none=>exact h
  |some id=>cases hf
 |st t ih=>exact h
theorem Rd.atOf {t:Ty}{ρ:Rho}{w:World}{x:t.den}{cs:List Value}{sh:Bool}(h:Rd ρ w t x cs)(hf:(!sh||t.flat||dG t x)=true):Rd (ρ.at sh) w t x cs:=by
 cases sh
 ·exact h
 ·simp only[axc,az2,axU]at hf;rcases hf with hf|hf
  ·exact h.shutFlat hf
  ·exact h.shutOf hf
theorem nI {P:Program}(fr:Nat×Nat)(g o:Nat)(t:TypeId): ∀(vs:List Value) (i:Nat) (cur:Array Value) (w:World),w.heap[g]?=some (.cells cur t fr)->(fr=(0,0)\/cur.size<=fr.1)->o+i+vs.length<=cur.size->(∀v∈vs,v.oneCell'=true)->
  (storeCells ⟨g,o,none⟩ vs i).run P w= .ok () (w.setRow g (cur.toList.take (o+i)++vs++cur.toList.drop (o+i+vs.length)).toArray)
 | [],i,cur,w,hg,_,_,_=>by simp only[storeCells,ayr,List.length_nil,axE,axT,Array.toArray_toList];rw[setRow_self w g cur t fr hg];rfl
 |v::rest,i,cur,w,hg,hfr,hl,h1=>by
  have hi:o+i<cur.size:=by simp at hl;omega
  have hadd:(⟨g,o,none⟩:Addr).add i=⟨g,o+i,none⟩:=by unfold Addr.add;split<;>simp_all
  have hcell:w.cell? ⟨g,o+i,none⟩=some cur[o+i]:=by simp[World.cell?,hg,hi]
  have hfro:w.frozen? ⟨g,o+i,none⟩=false:=by
   obtain⟨lo,hi'⟩:=fr;simp only[World.frozen?,hg];rcases hfr with h|h
   ·cases h;simp
   ·simp only[Bool.and_eq_false_iff,decide_eq_false_iff_not];left;simp only at h;omega
  have hst:(store ((⟨g,o,none⟩:Addr).add i) v).run P w= .ok () (w.setRow g (cur.setIfInBounds (o+i) v)):=by rw[hadd,run_store P w _ v _ (h1 v (by simp)),hcell];simp[hfro,setCell_eq_setRow w g (o+i) cur t fr v hg]
  have ih:=nI (P:=P) fr g o t rest (i+1) (cur.setIfInBounds (o+i) v) (w.setRow g (cur.setIfInBounds (o+i) v)) (setRow_heap w g cur _ t _ hg) (by simpa using hfr) (by simp at hl⊢;omega) (λx hx=>h1 x (by simp[hx]));simp only[storeCells,awx,hst,aws,ih,setRow_setRow]
  congr 3
  have e:=list_seg_step cur.toList (o+i) v rest (by simp at hl⊢;omega);simpa [Array.toList_setIfInBounds,ayG]using e
theorem FM(hr:aJ B ρ s a w){id:Nat}{o o':PO}{p:Path}{u:Ty}{v:V}{vv:Value}{loc:Loc}(ho:look s.hp id=some o)(hloc:ρ id=some loc)(hok:loc.ty.okP p)(hat:loc.ty.at p=some u)
  (hset:o.set p v=some o') (hv:VR ρ w v vv) (nx:Nat) (hne:id≠nx):
  ∃c w',vv.cells=c.toArray/\c.length=u.size/\(storeCells ⟨loc.blk,loc.ty.off p,none⟩ c).run P w= .ok () w'/\After B ρ s a w nx .un [(id,o')] 0 undef ρ w':=by
 have key: ∀(sh:Bool) (t:Ty) (x:t.den) (cs sp:List Value) (T:TypeId),loc.ty=t->Rd (ρ.at sh) w t x cs-> ∀fr,w.heap[loc.blk]?=some (.cells (cs++sp).toArray T fr)->(fr=(0,0)\/(cs++sp).length<=fr.1)->
   ∀(y:u.den) (z:t.den),v.to u=some y->(!sh||u.flat||dG u y)=true->t.set x p u y=some z-> ∃c w',vv.cells=c.toArray/\c.length=u.size/\(storeCells ⟨loc.blk,loc.ty.off p,none⟩ c).run P w= .ok () w'/\
    w'.heap.size=w.heap.size/\(∀b,b≠loc.blk->w'.heap[b]?=w.heap[b]?)/\w'.os=w.os/\w'.tape=w.tape/\w'.output=w.output/\
    ∃cs',cs'.length=cs.length/\(Later ρ w ρ w'->Rd (ρ.at sh) w' t z cs')/\w'.heap[loc.blk]?=some (.cells (cs'++sp).toArray T fr)/\ ∀j,j<loc.ty.off p->cs'[j]?=cs[j]?:=by
  intro sh t x cs sp T e hc fr hb hfr y z hy hsh hz;subst e;obtain⟨c,h1,h2,_⟩:=(VR.to hv hy).cells;have hcl:=h1.length;have hle:=Ty.off_le hok hat;have hcs:=hc.length;simp only at hcl h1;have hrun:=nI (P:=P) fr loc.blk (loc.ty.off p) T c 0 (cs++sp).toArray w hb (by simpa using hfr) (by simp;omega) (Bz h1);refine⟨c,_,h2,hcl,hrun,by simp,λb hne=>?_,rfl,rfl,rfl,splice cs (loc.ty.off p) c,qD (by omega),λL=>(hc.set hok hz (h1.atOf hsh)).keeps (L.keeps.at sh),?_,λj hj=>by rw[iJ (by omega),awG (by omega)]⟩
  ·simp only[World.setRow,ayH];rw[awG (Ne.symm hne)]
  ·simp only[World.setRow,ayH,awQ,hb,ay6]
   congr 2
   simp only[splice,axE];rw[ayw (by omega),List.drop_append_of_le_length (by omega)];simp
 have hd:o≠ .dead:=by intro e;subst e;cases hset
 have hor:=hr.live ho hd hloc;have hW:=hor.writes hd;cases o with
 |dead=>cases hset
 |mp k v l=>cases hset
 |bag k t l out=>cases hset
 |obj t x=>
  obtain⟨e,_,cs,T,hc,hb,hhd⟩:=hor;rw[e]at hat hok;simp only[PO.set,hat]at hset;cases hsp:t.spHead&&Nat.beq (t.off p) 0
  rotate_left
  ·rw[hsp]at hset;cases hset
  rw[hsp]at hset;simp only[awW]at hset;split at hset
  ·rename_i y hy;split at hset
   ·rename_i z hz;cases hset;obtain⟨c,w',h1,h2,h3,h4,h5,h6,h7,h8,cs',h9,h10,h11,h14⟩:=key false t x cs [] T e hc (0,0) (by simpa using hb) (.inl rfl) y z hy rfl hz;obtain⟨h12,h13⟩:=hr.store ho hd (by intro e;cases e) hloc w' h4 h5 h6 h7 h8 (wK hb (by simpa using h11)) (o':=.obj t z) (λL=>⟨e,hW,cs',T,h10 L,by simpa using h11,λT0 hs=>⟨(hhd T0 hs).1,λv hv=>(hhd T0 hs).2 v (by
     have hs':t.spHead=true:=by simp[Ty.spHead,hs]
     rw[hs']at hsp;have hne:t.off p≠0:=by intro h0;rw[h0]at hsp;simp at hsp
     rw[<-h14 0 (by rw[e];omega)];exact hv)⟩⟩)
    exact⟨c,w',h1,h2,h3,h12,h13,trivial,λ_ _=>rfl,λ_=>rfl⟩
   ·cases hset
  ·cases hset
 |row sh e0 t n f=>
  obtain⟨e,_,cs,sp,hc,⟨fr,hb,hfr⟩,cap,hcap,hlen,hn,hm⟩:=hor;rw[e]at hat hok;simp only[PO.set,hat]at hset;split at hset
  ·rename_i y hy;split at hset
   ·rename_i z hz;cases hset;have hc':Rd (ρ.at (sh&&(u.flat||dG u y))) w (.arr n t) f cs:=by
     cases sh
     ·exact hc
     ·cases u.flat||dG u y
      ·exact Rd.openIn hc
      ·exact hc
    obtain⟨c,w',h1,h2,h3,h4,h5,h6,h7,h8,cs',h9,h10,h11,_⟩:=key (sh&&(u.flat||dG u y)) (.arr n t) f cs sp e0 e hc' fr hb (hfr.imp_right And.left) y z hy (by cases sh<;>cases u.flat<;>cases dG u y<;>rfl) hz;obtain⟨h12,h13⟩:=hr.store ho hd (by intro e;cases e) hloc w' h4 h5 h6 h7 h8 (wK hb h11) (o':=.row (sh&&(u.flat||dG u y)) e0 t n z) (λL=>⟨e,hW,cs',sp,h10 L,⟨fr,h11,by rw[awS,h9,<-awS];exact hfr⟩,cap,hcap,by simp[h9]at hlen⊢;omega,hn,hm⟩);exact⟨c,w',h1,h2,h3,h12,h13,trivial,λ_ _=>rfl,λ_=>rfl⟩
   ·cases hset
  ·cases hset
theorem Ym(hti:wL P C.ti){T:TypeId}{i:TI}(hi:look C.ti T=some i){vv:Value}{c:List Value}(hc:vv.cells=c.toArray)(hs:i.ty.size=c.length)(ad:Addr){w':World}
  (h:(storeCells ad c).run P w= .ok () w'):(storeVar T ad vv).run P w= .ok () w':=by
 unfold storeVar;simp only[awx,hti.size T i w hi,aws,hc,ayO];rw[awG (by omega)];simpa using h
theorem PO.at_of_get {o:PO}{p:Path}{y:V}{ρ:Rho}{w:World}{loc:Loc}(h:o.get p=some y)(hor:OR ρ w loc o):loc.ty.at p=some y.1:=by
 cases o with
 |obj t x=>rw[hor.1];exact Ty.at_of_get h
 |row sh e t n f=>rw[hor.1];exact Ty.at_of_get h
 |mp k v l=>cases h
 |bag k t l out=>cases h
 |dead=>cases h
include hti in
theorem Wu(hr:aJ B ρ s a w){T:TypeId}{x y:PV}{vx vy:Value}{pv:PV}{u:Upd}(hx:VP ρ w x vx)(hy:VP ρ w y vy)(nx:Nat)(hn:ρ nx=none)(h:qY C.ti T x y s.h (λp u=>some (p,u))=some (pv,u)):
  ∃w',(Instr.storeAt T vx vy).run P w= .ok () w'/\After B ρ s a w nx pv u 0 undef ρ w':=by
 unfold qY at h;split at h
 ·rename_i t id p v;split at h
  ·rename_i o ho;split at h
   ·rename_i y0 i hy0 hi;cases hb:Nat.beq i.ty.size y0.1.size
    ·rw[hb]at h;cases h
    ·rw[hb]at h;simp only[awL]at h;split at h
     ·rename_i o' hset;cases h;obtain⟨loc,hloc,hok,hat,hcap,rfl⟩:=VR.ptrRf hx;have hor:=hr.live ho (PO.ne_dead hy0) hloc;have hat':=PO.at_of_get hy0 hor;obtain⟨c,w',h1,h2,h3,h4⟩:=FM (P:=P) hr ho hloc hok hat' hset hy nx (λe=>by subst e;rw[hloc]at hn;cases hn);refine⟨w',?_,h4⟩;simp only[Instr.storeAt,Instr.sureAddr,awx,awM,aws];exact Ym hti hi h1 (by rw[h2];exact ax0 hb) _ h3
     ·cases h
   ·cases h
  ·cases h
 ·cases h
theorem EG {id:Nat}{o:PO}{loc:Loc}{p:Path}{m:Nat}{t:Ty}{g:Nat->t.den}(hor:OR ρ w loc o)(hok:loc.ty.okP p)(hg:o.get p=some ⟨.arr m t,g⟩){lo n:Nat}(hle:lo+n<=m):
  ∃c,Rd ρ w (.arr n t) (λj=>g (lo+j)) c/\ ∀(j:Nat) v,c[j]?=some v->w.cell? ⟨loc.blk,loc.ty.off p+lo*t.size+j,none⟩=some v:=by
 have key: ∀(t0:Ty) (x:t0.den) (cs sp:List Value) (T:TypeId),loc.ty=t0->t0.get x p=some ⟨.arr m t,g⟩->Rd ρ w t0 x cs->kK w loc.blk (cs++sp) T->
   ∃c,Rd ρ w (.arr n t) (λj=>g (lo+j)) c/\ ∀(j:Nat) v,c[j]?=some v->w.cell? ⟨loc.blk,loc.ty.off p+lo*t.size+j,none⟩=some v:=by
  intro t0 x cs sp T e hgx hc hb;subst e;have h1:Rd ρ w (.arr m t) g ((cs.drop (loc.ty.off p)).take (m*t.size)):=hc.get hok hgx;have h2:=h1.sub hle;have hle2:loc.ty.off p+m*t.size<=loc.ty.size:=Ty.off_le hok (Ty.at_of_get hgx);have hcs:=hc.length;refine⟨_,h2,λj v hj=>?_⟩;have hl2:=h2.length;simp only[Ty.size]at hl2;have hj':j<n*t.size:=by rw[<-hl2];exact(awH.1 hj).1
  have hmul:(lo+n)*t.size<=m*t.size:=awP _ hle;rw[ax3]at hmul;rw[awX hj',axa,awX (by omega),axa]at hj;rw[hb.cell];rw[awY (by omega),<-hj]
  congr 1;omega
 cases o with
 |dead=>cases hg
 |mp k v l=>cases hg
 |bag k t l out=>cases hg
 |obj t0 x=>
  obtain⟨e,_,cs,T,hc,hb,_⟩:=hor;exact key t0 x cs [] T e hg hc (kK.of (by simpa using hb))
 |row sh T t0 k f=>
  obtain⟨e,_,cs,sp,hc,hb,_⟩:=hor;exact key (.arr k t0) f cs sp T e hg hc.openAt hb.weak
include hti in
theorem Yn(hr:aJ B ρ s a w){T:TypeId}{Ts:Array TypeId}(hT:Ts[0]?=some T){ty:TypeId}{x y:PV}{vx vy:Value}{r:Ans}(hx:VP ρ w x vx)(hy:VP ρ w y vy)(nx:Nat)(hn:ρ nx=none)(h:Bt C.ti T x y s.h pk=some r):
  ∃v w',(Builtin.copy_ Ts ty #[vx,vy]).run P w= .ok v w'/\After B ρ s a w nx r.1 r.2.1 0 v ρ w'/\r.2.2=0:=by
 unfold Bt at h;split at h
 ·rename_i i hi;have hu:=hti.under T i hi;split at h
  ·rename_i e hd;rw[hd]at hu;obtain⟨i',h1,h2,h3⟩:=nY hti hi hd;split at h
   ·rename_i t id p lo len u id' p' lo' len';split at h
    ·rename_i ee;obtain⟨rfl,e2⟩:=ee;have:u=i'.ty:=by rw[h2]at e2;cases e2;rfl
     subst this;cases hz0:Nat.ble len 0||Nat.ble len' 0
     ·rw[hz0]at h;simp only[awW]at h;simp only[Bool.or_eq_false_iff]at hz0;have hp1:0<len:=by
       rcases axd len with e|e
       ·subst e;exact absurd hz0.1 (by decide)
       ·exact e
      have hp2:0<len':=by
       rcases axd len' with e|e
       ·subst e;exact absurd hz0.2 (by decide)
       ·exact e
      split at h
      ·rename_i o o' ho ho';split at h
       ·rename_i m' e' g hg;split at h
        ·rename_i z hz;cases h;obtain⟨h0,_⟩|⟨loc,m,cap,od,hloc,hok,hat,hle,rfl,hod,_⟩:=VR.slMs hx
         ·omega
         obtain⟨h0,_⟩|⟨loc',m2,cap',os,hloc',hok',hat',hle',rfl,hos,_⟩:=VR.slMs hy
         ·omega
         have hor':=hr.live ho' (PO.ne_dead hg) hloc';have hga:=PO.at_of_get hg hor';rw[hat']at hga;cases hga;obtain⟨c,hc,hcell⟩:=EG (id:=id') hor' hok' hg (lo:=lo') (n:=min len' len) (by omega);have hset:loc.ty.at (p++[.S lo (min len' len)])=some (.arr (min len' len) i'.ty):=by rw[Ty.at_append hat];simp[Ty.at]
         obtain⟨c2,w',h4,h5,h6,h7⟩:=FM (P:=P) hr ho hloc (Ty.okP_append hok hat (show(Ty.arr m i'.ty).okP [.S lo (min len' len)]from⟨by omega,Ty.okP_nil _⟩)) hset hz (v:=⟨.arr (min len' len) i'.ty,λj=>g (lo'+j)⟩) ⟨c,hc,rfl⟩ nx (λe=>by subst e;rw[hloc]at hn;cases hn);rw[jG hc]at h4;have:c=c2:=by simpa using h4
         subst this;have hcl:=hc.length;simp only[Ty.size]at hcl;refine⟨_,w',?_,⟨h7.rel,h7.later,VR.mkInt,h7.same,h7.new⟩,rfl⟩;unfold Builtin.copy_;have hT':Ts[0]?=some T:=hT;simp only[hT',axR,ax5,axF,awx,awJ hu,aws,Builtin.lenOf,awM,hti.size e i' w h1,Builtin.firstCells];rw[show Nat.min len' len=min len' len from rfl];have hload:(loadCells ⟨loc'.blk,os,none⟩ (min len' len*i'.ty.size)).run P w= .ok c.toArray w:=by rw[<-hcl,hos (by omega)];exact run_loadCells_list w _ c (λj v hj=>by rw[fU];exact hcell j v hj)
         have hstore:(storeCells ⟨loc.blk,od,none⟩ c).run P w= .ok () w':=by rw[hod (by omega)];rw[Ty.off_append hat]at h6;simpa [Ty.off]using h6
         rw[hload];simp only[aws,hstore];rfl
        ·cases h
       ·cases h
      ·cases h
     ·rw[hz0]at h;simp only[awL]at h;cases h;have form: ∀ {id p lo l v},VP ρ w (.v ⟨.sl i'.ty,.ms id p lo l⟩) v-> ∃b cap,v= .slice b l cap:=by
       intro id p lo l v hv;rcases VR.slMs hv with⟨rfl,rfl⟩|⟨_,_,_,_,_,_,_,_,rfl,_⟩
       ·exact⟨_,_,rfl⟩
       ·exact⟨_,_,rfl⟩
      obtain⟨b1,c1,rfl⟩:=form hx;obtain⟨b2,c2,rfl⟩:=form hy;refine⟨_,w,?_,After.pure hr VR.mkInt,rfl⟩;have h0:Nat.min len' len=0:=by
       simp only[axU]at hz0;rcases hz0 with e|e
       ·have:=awN e;show min len' len=0;omega
       ·have:=awN e;show min len' len=0;omega
      unfold Builtin.copy_;have hT':Ts[0]?=some T:=hT;simp only[hT',axR,ax5,axF,awx,awJ hu,aws,Builtin.lenOf,awM,hti.size e i' w h1,h0];have hf:(Builtin.firstCells i'.ty.size 0 (.slice b2 len' c2)).run P w= .ok #[] w:=by
       cases b2 with
       |none=>exact run_firstCells_none ..
       |some a=>exact run_firstCells_some w _ 0 a _ _ [] (by simp) (λj v h=>by simp at h)
      rw[hf];simp only[aws];cases b1<;>rfl
    ·cases h
   ·cases h
  ·cases h
 ·cases h
end
section
variable {P:Program} {C:Cx} (hti:wL P C.ti) {B:Base} {ρ:Rho} {s:DS} {a:Act} {w:World}
theorem Rd.congr {t:Ty}{n:Nat}{ρ:Rho}{w:World}{f g:Nat->t.den}{cs:List Value}(h:Rd ρ w (.arr n t) f cs)(e: ∀i,i<n->f i=g i):Rd ρ w (.arr n t) g cs:=
 ⟨h.1,λi hi=>by rw[<-e i hi];exact h.2 i hi⟩
theorem Rd.glue {t:Ty}{n m:Nat}{ρ:Rho}{w:World}{f g:Nat->t.den}{xs ys:List Value}(h:Rd ρ w (.arr n t) f xs)(h':Rd ρ w (.arr m t) g ys):Rd ρ w (.arr (n+m) t) (Den.glue n f g) (xs++ys):=by
 have h1:xs.length=n*t.size:=h.1;have h2:ys.length=m*t.size:=h'.1;refine⟨by rw[awS,h1,h2,ax3],λi hi=>?_⟩;unfold Den.glue;by_cases hin:i<n
 ·have hb:Nat.blt i n=true:=by simpa [Nat.blt_eq]using hin
  rw[hb,awL];have hm:=eT (s:=t.size) hin;rw[List.drop_append_of_le_length (by omega),ayw (by rw[axZ];omega)];exact h.2 i hin
 ·have hb:Nat.blt i n=false:=by
   cases hbb:Nat.blt i n
   ·rfl
   ·exact absurd (by simpa [Nat.blt_eq]using hbb) hin
  rw[hb,awW];have hge:n*t.size<=i*t.size:=awP _ (by omega);rw[List.drop_append,List.drop_eq_nil_of_le (by omega),ayZ,h1,<-Nat.sub_mul];exact h'.2 (i-n) (by omega)
theorem Rd.weakAt {sh sh':Bool}{t:Ty}{ρ:Rho}{w:World}{x:t.den}{cs:List Value}(h:Rd (ρ.at sh) w t x cs):Rd (ρ.at (sh&&sh')) w t x cs/\Rd (ρ.at (sh'&&sh)) w t x cs:=by
 cases sh'<;>cases sh
 ·exact⟨h,h⟩
 ·exact⟨h.openIn,h.openIn⟩
 ·exact⟨h,h⟩
 ·exact⟨h,h⟩
theorem aaC {t:Ty}{ρ:Rho}{w:World}{f:Nat->t.den}{a:Option Addr} : ∀(n:Nat),(∀i,i<n-> ∃b o c,a=some ⟨b,o,none⟩/\Rd ρ.shut w t (f i) c/\Fz ρ w b (o+i*t.size) c)->
  ∃cs,Rd ρ.shut w (.arr n t) f cs/\ ∀b o,a=some ⟨b,o,none⟩-> ∀(j:Nat) v,cs[j]?=some v->w.cell? ⟨b,o+j,none⟩=some v:=by
 intro n
 induction n with
 |zero=>intro _;exact⟨[],⟨by simp,λi hi=>by omega⟩,λb o _ j v hj=>by simp at hj⟩
 |succ n ih=>
  intro h;obtain⟨cs,h1,h2⟩:=ih (λi hi=>h i (by omega));obtain⟨b,o,c,h3,h4,h5⟩:=h n (by omega);have h6:Rd ρ.shut w (.arr 1 t) (λ_=>f n) c:=⟨by rw[h4.length];simp,λi hi=>by
   have:i=0:=by omega
   subst this;exact h4.take_all|> λh=>by simpa using h⟩
  refine⟨cs++c,(h1.glue h6).congr (λi hi=>?_),λb' o' e j v hj=>?_⟩
  ·unfold Den.glue;by_cases hin:i<n
   ·have hb:Nat.blt i n=true:=by simpa [Nat.blt_eq]using hin
    rw[hb];rfl
   ·have:i=n:=by omega
    subst this;have hb:Nat.blt i i=false:=by
     cases hbb:Nat.blt i i
     ·rfl
     ·simp at hbb
    rw[hb];rfl
  ·have hl:cs.length=n*t.size:=h1.1;by_cases hjl:j<cs.length
   ·rw[awY hjl]at hj;exact h2 b' o' e j v hj
   ·rw[axw (by omega)]at hj;rw[h3]at e;cases e;have:=h5.2.2 (j-cs.length) v hj;rw[<-this];congr 2;omega
theorem aaD {t:Ty}(hf:t.flat=true){n:Nat}{ρ:Rho}{w:World}{x:Nat->t.den}{cs:List Value}(h:Rd ρ w (.arr n t) x cs)(sh:Bool):Rd (ρ.at sh) w (.arr n t) x cs:=by
 cases sh
 ·exact h
 ·exact Rd.shutFlat h hf
theorem Dv(hr:aJ B ρ s a w){x:PV}{vx:Value}{t:Ty}{sh:Bool}{m:Nat}{g:Nat->t.den}(hx:VP ρ w x vx)(h:sQ x t s.h=some (sh,m,g)):
  ∃ad cap news,vx= .slice ad m cap/\Rd (ρ.at sh) w (.arr m t) g news/\(m=0\/ ∃b,ad=some b)/\ ∀b,ad=some b-> ∀(j:Nat) v,news[j]?=some v->w.cell? (b.add j)=some v:=by
 have z0: ∀(ρ:Rho) (g:Nat->t.den),Rd ρ w (.arr 0 t) g []:=λρ g=>⟨by simp,λi hi=>by omega⟩
 unfold sQ at h;split at h
 ·cases h;have e:=VR.slNil hx;subst e;exact⟨_,_,[],rfl,z0 _ _,.inl rfl,λb e=>by cases e⟩
 ·rename_i u n f;split at h
  ·rename_i e;subst e;cases h;obtain⟨ad,cap,rfl,_,hall⟩:=VR.slFz hx;obtain⟨cs,h1,h2⟩:=aaC _ hall;refine⟨ad,cap,cs,rfl,h1,?_,λb e j v hj=>?_⟩
   ·rcases axd m with h0|h0
    ·exact .inl h0
    ·obtain⟨b,o,c,e,_⟩:=hall 0 h0;exact .inr ⟨_,e⟩
   ·rcases axd m with h0|h0
    ·subst h0;have:=h1.1;simp at this;subst this;simp at hj
    ·obtain⟨b',o,c,e',_⟩:=hall 0 h0;rw[e']at e;cases e;rw[fU];exact h2 b' o e' j v hj
  ·cases h
 ·rename_i u id p lo len;split at h
  ·rename_i o ho;split at h
   ·rename_i k t' g' hg;split at h
    ·rename_i e;obtain⟨e1,e2⟩:=e;subst e1;subst e2;cases h;rcases VR.slMs hx with⟨h0,rfl⟩|⟨loc,m',cap,od,hloc,hok,hat,hle,rfl,hod,hlc,_⟩
     ·subst h0;exact⟨_,_,[],rfl,z0 _ _,.inl rfl,λb e=>by cases e⟩
     ·have hor:=hr.live ho (PO.ne_dead hg) hloc;have hga:=PO.at_of_get hg hor;rw[hat]at hga;cases hga;obtain⟨c,hc,hcell⟩:=EG (id:=id) hor hok hg (lo:=lo) (n:=m) hle;refine⟨_,_,c,rfl,?_,.inr ⟨_,rfl⟩,λb e j v hj=>?_⟩
      ·cases hfl:u.flat
       ·rw[az2];cases o with
        |obj t0 x0=>exact hc
        |mp k0 v0 l0=>cases hg
        |bag k0 t0 l0 o0=>cases hg
        |dead=>cases hg
        |row sh e0 t0 n0 f0=>
         cases p with
         |cons s p=>exact hc
         |nil=>
          obtain⟨e1,_,cs,sp,hcs,hb,_⟩:=hor;cases sh
          ·exact hc
          ·
           rw[show(PO.row true e0 t0 n0 f0).get []=some ⟨.arr n0 t0,f0⟩from rfl]at hg;cases hg;have h3:=Rd.sub hcs hle;have hl1:=hc.length;have hl2:=h3.length;have:c=((cs.drop (lo*u.size)).take (m*u.size)):=by
            apply axO;intro j;by_cases hj:j<c.length
            ·obtain⟨v,hv⟩: ∃v,c[j]?=some v:=⟨_,awy hj⟩;have h4:=hcell j v hv;rw[hb.cell]at h4;simp only[Ty.size]at hl1 hl2;have hmul:(lo+m)*u.size<=k*u.size:=awP _ hle;rw[ax3]at hmul;have hcl:cs.length=k*u.size:=hcs.1;rw[Ty.off_nil]at h4;rw[awY (by omega)]at h4;rw[hv,awX (by omega),axa,<-h4]
             congr 1;omega
            ·rw[axv (by omega),axv (by omega)]
           rw[this];exact h3
       ·exact aaD hfl hc _
      ·cases e;rcases axd m with h0|h0
       ·subst h0;have:=hc.1;simp at this;subst this;simp at hj
       ·rw[fU,hod h0];exact hcell j v hj
    ·cases h
   ·cases h
  ·cases h
 ·cases h
theorem aJ.idleRow(h:aJ B ρ s a w){nx:Nat}(hn:ρ nx=none)(sh:Bool)(e:TypeId)(t:Ty)(f:Nat->t.den):aJ B ρ { s with hp:=(nx,.row sh e t 0 f)::s.hp } a w:=by
 have hlk: ∀id' o1,look ((nx,PO.row sh e t 0 f)::s.hp) id'=some o1->(id'=nx/\o1= .row sh e t 0 f)\/look s.hp id'=some o1:=by
  intro id' o1 h1;rw[aH]at h1;split at h1
  ·rename_i e;simp only[awr]at h1;exact .inl ⟨e.symm,h1.symm⟩
  ·exact .inr h1
 refine⟨h.defers,h.tmps,h.env,λid' o1 hl'=>?_,λi j o1 o2 l1 l2 h1 h2 d1 d2 h3 h4 h5=>?_,h.own,h.ownA,h.base,h.may,?_⟩
 ·rcases hlk id' o1 hl' with⟨rfl,rfl⟩|h1
  ·exact .inl (.inr ⟨hn,sh,e,t,f,rfl⟩)
  ·exact h.obj id' o1 h1
 ·rcases hlk i o1 h1 with⟨rfl,_⟩|h1
  ·rw[hn]at h3;cases h3
  ·rcases hlk j o2 h2 with⟨rfl,_⟩|h2
   ·rw[hn]at h4;cases h4
   ·exact h.inj i j o1 o2 l1 l2 h1 h2 d1 d2 h3 h4 h5
 ·exact h.hid.imp λF hF=>hF.step (Later.refl ρ w).keeps
   (λi o1 l1 h1 h2 h3=>by
    rcases hlk i o1 h1 with⟨_,rfl⟩|h4
    ·cases h2
    ·exact⟨h4,l1,h3,rfl⟩)
   (λ_ _ _ _ _ _ _=>rfl)
   (λi o1 l1 b h1 h2 h3 h4=>⟨rfl,(hF.own i o1 l1 b h1 h2 h3 h4).1⟩)
   (λi o1 l1 h1 h2 h3=>by
    rcases hlk i o1 h1 with⟨rfl,_⟩|h4
    ·rw[hn]at h3;cases h3
    ·exact .inr ⟨i,o1,l1,h4,h2,h3,rfl⟩)
theorem KV(hr:aJ B ρ s a w){d:PV}{vd:Value}{t:Ty}{e:TypeId}{sh:Bool}{n:Nat}{f:Nat->t.den}{u:Upd}(hx:VP ρ w d vd)(h:rowOf d t e s.h=some (sh,n,f,u)):
  (vd= .slice none 0 0/\n=0/\ ∃id,u=[]\/u=[(id,.dead)])\/
  ∃(id:Nat) (loc:Loc) (cap k:Nat) (f0:Nat->t.den) (cs sp:List Value),u=[(id,.dead)]/\s.h id=some (.row sh e t k f0)/\ρ id=some loc/\loc.cap=some cap/\vd= .slice (some ⟨loc.blk,0,none⟩) n cap/\n<=cap/\cap<=9223372036854775807/\
   Rd (ρ.at sh) w (.arr n t) f cs/\kK w loc.blk (cs++sp) e t/\(cs++sp).length=cap*t.size:=by
 unfold rowOf at h;split at h
 ·cases h;exact .inl ⟨VR.slNil hx,rfl,0,.inl rfl⟩
 ·rename_i u' id len;split at h
  ·rename_i sh' e' t' k f' ho;split at h
   ·rename_i ht;obtain⟨h1,h2⟩:=ht;subst h1;subst h2;cases hb:Nat.beq e' e
    ·rw[hb]at h;cases h
    ·rw[hb]at h;simp only[awL]at h;have:=ax0 hb;subst this;cases h;rcases VR.slMs hx with⟨h0,rfl⟩|⟨loc,m',cap,od,hloc,hok,hat,hle,rfl,hod,hlc,hcap⟩
     ·exact .inl ⟨rfl,h0,id,.inr rfl⟩
     ·have hor:=hr.live ho (by intro e;cases e) hloc;obtain⟨e1,_,cs,sp,hcs,hb,cap',hc1,hc2,hc3,hc4⟩:=hor;obtain⟨e2,e3⟩:=hcap cap' hc1 rfl rfl;subst e2;subst e3;rw[e1,Ty.at_nil]at hat;cases hat;have hcl:cs.length=k*u'.size:=hcs.1;have hmul:n*u'.size<=k*u'.size:=awP _ (by omega);have h3:=Rd.sub hcs (lo:=0) (n:=n) (by omega);simp only[ay2,ayV,awR]at h3;refine .inr ⟨id,loc,cap,k,f',cs.take (n*u'.size),cs.drop (n*u'.size)++sp,rfl,ho,hloc,hc1,rfl,hlc,hc4,h3,?_,?_⟩
      ·rw[<-axx,axT];exact hb
      ·rw[<-axx,axT];exact hc2
   ·cases h
  ·cases h
 ·cases h
theorem sj {z:Array Value}{n:Nat} :(Builtin.zeroCells z n).toList.length=n*z.size:=by rw[Array.length_toList,size_zeroCells]
theorem KW {P:Program}{w:World}(fr:Nat×Nat)(t ty e:TypeId)(i:TypeInfo)(ht:P.underlying t=some (.slice e))(hi:P.info? e=some i)
  (g sLen sCap:Nat) (cur:Array Value) (hg:w.heap[g]?=some (.cells cur e fr)) (hfr:fr=(0,0)\/cur.size<=fr.1)
  (a:Addr) (m c:Nat) (news:List Value) (hl:news.length=m*i.size) (hnews: ∀j u,news[j]?=some u->w.cell? (a.add j)=some u) (h1: ∀u∈news,u.oneCell'=true)
  (hroom:sLen+m<=sCap) (hfit:sLen*i.size+news.length<=cur.size):
  (Builtin.append_ #[t,t] ty #[.slice (some ⟨g,0,none⟩) sLen sCap,.slice (some a) m c]).run P w=
   .ok (.slice (some ⟨g,0,none⟩) (sLen+m) sCap) (w.setRow g (cur.toList.take (sLen*i.size)++news++cur.toList.drop (sLen*i.size+news.length)).toArray):=by
 have hf:=run_firstCells_some (P:=P) w i.size m a m c news hl hnews;have hst:=nI (P:=P) fr g (sLen*i.size) e news 0 cur w hg hfr (by simpa using hfit) h1;simp only[axE]at hst;simp[Builtin.append_,awJ ht,sizeOf,typeInfo,hi,Builtin.lenOf,hroom,hf,Addr.add_lit,hst]
include hti in
theorem Sz(hr:aJ B ρ s a w){T ty:TypeId}{x y:PV}{vx vy:Value}{r:Ans}(hx:VP ρ w x vx)(hy:VP ρ w y vy)(nx:Nat)(hn:ρ nx=none)(h:iN C.ti T x y s.h nx pk=some r):
  ∃ρ' v w',(Builtin.append_ #[T,T] ty #[vx,vy]).run P w= .ok v w'/\After B ρ s a w nx r.1 r.2.1 r.2.2 v ρ' w':=by
 unfold iN at h;split at h
 ·rename_i i hi;have hu:=hti.under T i hi;split at h
  ·rename_i e t hd hty;rw[hd]at hu;obtain⟨ie',h1,h2,h3⟩:=nY hti hi hd;split at h
   ·rename_i ie hie;have hii:ie=ie':=by rw[h1]at hie;cases hie;rfl
    subst hii;have het:t=ie.ty:=by rw[hty]at h2;cases h2;rfl
    subst het;split at h
    ·split at h
     ·rename_i sh n f u sh' m g hro hel;cases hb:Nat.ble ((n+m)*ie.bytes) 140737488355328&&Nat.ble (n+m) 9223372036854775807
      ·rw[hb]at h;cases h
      ·rw[hb]at h;simp only[awL]at h;simp only[awu]at hb;have hb1:=awN hb.1;have hb2:=awN hb.2;cases h;obtain⟨inf,hinf,hsz,hby,hzero⟩:=hti.info e ie h1;have hz:(mkV ie.ty ie.ty.zcells).cells.size=ie.ty.size:=by rw[jG (Rd.zero ρ w ie.ty)];simp[cB]
       obtain⟨ad,ycap,news,rfl,hnews,had,hcell⟩:=Dv hr hy hel;have hnl:news.length=m*ie.ty.size:=hnews.1;have hone:=Bz hnews.openAt;have fresh: ∀(s1:DS) (xs:List Value) (old:Nat),aJ B ρ s1 a w->Rd (ρ.at sh) w (.arr n ie.ty) f xs->old<n+m->
         ∃ρ',aJ B ρ' { s1 with hp:=(nx,.row (sh&&sh') e ie.ty (n+m) (Den.glue n f g))::s1.hp } a (w.drew.alloc (.cells (xs.toArray++news.toArray++Builtin.zeroCells (mkV ie.ty ie.ty.zcells).cells (grownCap w (n+m) old e-(n+m))) e))/\
          Later ρ w ρ' (w.drew.alloc (.cells (xs.toArray++news.toArray++Builtin.zeroCells (mkV ie.ty ie.ty.zcells).cells (grownCap w (n+m) old e-(n+m))) e))/\
          ρ' nx=some ⟨w.heap.size,.arr (n+m) ie.ty,some (grownCap w (n+m) old e)⟩/\ ∀id,id≠nx->ρ' id=ρ id:=by
        intro s1 xs old hr1 hxs ho;have hge:=grownCap_ge w (n+m) old e;have hcm:grownCap w (n+m) old e<=maxLen:=grownCap_le_maxLen w (n+m) old e (by simp only[maxLen];omega);have hrd:=(Rd.weakAt (sh':=sh') hxs).1.glue (Rd.weakAt (sh':=sh) hnews).2;refine hr1.alloc nx hn (.row (sh&&sh') e ie.ty (n+m) (Den.glue n f g)) (xs.toArray++news.toArray++Builtin.zeroCells (mkV ie.ty ie.ty.zcells).cells (grownCap w (n+m) old e-(n+m))) e _ _ (λρ' w' L hW hb=>⟨rfl,hW,xs++news,(Builtin.zeroCells (mkV ie.ty ie.ty.zcells).cells (grownCap w (n+m) old e-(n+m))).toList,hrd.keeps (L.keeps.at _),kK.of ?_,_,rfl,?_,hge,by simp only[maxLen]at hcm;omega⟩) _ ?_ rfl rfl rfl
        ·rw[hb];congr 2;apply ayt;simp
        ·rw[awS,sj,hz,awS,hxs.1,hnl,<-ax3,<-ax3]
         congr 1;omega
        ·simp only[World.alloc];rfl
       have val: ∀(ρ':Rho) (w':World) (blk cap:Nat),ρ' nx=some ⟨blk,.arr (n+m) ie.ty,some cap⟩->n+m<=cap->VP ρ' w' (.v ⟨.sl ie.ty,.ms nx [] 0 (n+m)⟩) (.slice (some ⟨blk,0,none⟩) (n+m) cap):=by intro ρ' w' blk cap h hc;exact⟨[_],.inr ⟨_,n+m,cap,0,h,Ty.okP_nil _,Ty.at_nil _,by omega,rfl,λ_=>by rw[Ty.off_nil];simp,hc,λc hc _ _=>⟨by cases hc;rfl,rfl⟩⟩,rfl⟩
       rcases KV hr hx hro with⟨rfl,rfl,id,hu'⟩|⟨id,loc,cap,k,f0,cs,sp,rfl,hsid,hloc,hlcap,rfl,hnc,hcm,hcs,hblk0,hlen⟩
       ·
        have hr1:aJ B ρ { s with hp:=u++s.hp } a w:=by
         rcases hu' with rfl|rfl
         ·exact hr
         ·exact hr.kill id
        rcases axd m with hm|hm
        ·subst hm;have:news=[]:=List.eq_nil_of_length_eq_zero (by simpa using hnl);subst this;refine⟨ρ,.slice none 0 0,w,?_,⟨hr1.idleRow hn _ _ _ _,Later.refl _ _,⟨[_],.inl ⟨rfl,rfl⟩,rfl⟩,λ_ _=>rfl,λh=>by cases h⟩⟩;have hf:(Builtin.firstCells inf.size 0 (.slice ad 0 ycap)).run P w= .ok #[] w:=by
          cases ad with
          |none=>exact run_firstCells_none ..
          |some b=>exact run_firstCells_some w _ 0 b _ _ [] (by simp) (λj v h=>by simp at h)
         simp[Builtin.append_,awJ hu,sizeOf,typeInfo,hinf,Builtin.lenOf,hf]
        ·obtain⟨b,rfl⟩: ∃b,ad=some b:=by
          rcases had with h|h
          ·omega
          ·exact h
         have hrun:=run_append_nil (P:=P) w T ty e inf _ hu hinf hzero b m ycap news (by rw[hsz];exact hnl) (hcell b rfl) hm (by omega) (by rw[hby];simp only[awR]at hb1;omega);have:=fresh { s with hp:=u++s.hp } [] 0 hr1 ⟨by simp,λi hi=>by omega⟩ (by omega);simp only[awR,Array.empty_append]at this val⊢;obtain⟨ρ',h4,h5,h6,h7⟩:=this;refine⟨ρ',_,_,hrun,⟨h4,h5,val ρ' _ _ _ h6 (by have:=grownCap_ge w m 0 e;omega),EF h7,λh=>by cases h⟩⟩
       ·obtain⟨fr,hblk,hfr⟩:=hblk0;by_cases hroom:n+m<=cap
        ·
         have hnl1:cs.length=n*ie.ty.size:=hcs.1;have hmul:(n+m)*ie.ty.size<=cap*ie.ty.size:=awP _ hroom;rw[ax3]at hmul;have hsl:(cs++sp).length=cs.length+sp.length:=awS;have key: ∀w',w'.heap.size=w.heap.size->(∀b,b≠loc.blk->w'.heap[b]?=w.heap[b]?)->w'.os=w.os->w'.tape=w.tape->w'.output=w.output->
           w'.heap[loc.blk]?=some (.cells (cs++news++sp.drop news.length).toArray e fr)->
           ∃ρ',After B ρ s a w nx (.v ⟨.sl ie.ty,.ms nx [] 0 (n+m)⟩) [(nx,.row (sh&&sh') e ie.ty (n+m) (Den.glue n f g)),(id,.dead)] 1 (.slice (some ⟨loc.blk,0,none⟩) (n+m) cap) ρ' w':=by
          intro w' e1 e2 e3 e4 e5 e6;have hrd:=(Rd.weakAt (sh':=sh') hcs).1.glue (Rd.weakAt (sh':=sh) hnews).2;obtain⟨ρ',h4,h5,h6,h7⟩:=hr.renew hsid (by intro e;cases e) (by intro e;cases e) hloc hn (.arr (n+m) ie.ty) (o':=.row (sh&&sh') e ie.ty (n+m) (Den.glue n f g)) w' e1 e2 e3 e4 e5 (wK hblk e6) (λρ' L hW=>
           ⟨rfl,hW,cs++news,sp.drop news.length,hrd.keeps (L.keeps.at _),⟨fr,e6,hfr.imp_right λh=>⟨by
            have:(cs++news++sp.drop news.length).length=(cs++sp).length:=by rw[awS,awS,axZ,awS];omega
            have:=h.1;omega,h.2⟩⟩,cap,hlcap,by rw[awS,awS,axZ];omega,hroom,hcm⟩)
          rw[hlcap]at h6;exact⟨ρ',h4,h5,val ρ' _ _ _ h6 hroom,EF h7,λh=>by cases h⟩
         cases ad with
         |none=>
          have hm:m=0:=by
           rcases had with h|⟨b,h⟩
           ·exact h
           ·cases h
          subst hm;have:news=[]:=List.eq_nil_of_length_eq_zero (by simpa using hnl);subst this;obtain⟨ρ',h4⟩:=key w rfl (λ_ _=>rfl) rfl rfl rfl (by simpa using hblk);refine⟨ρ',_,w,?_,h4⟩;have hf:(Builtin.firstCells inf.size 0 (.slice none 0 ycap)).run P w= .ok #[] w:=run_firstCells_none ..;simp[Builtin.append_,awJ hu,sizeOf,typeInfo,hinf,Builtin.lenOf,hf,hnc,storeCells]
         |some b=>
          have hrun:=KW (P:=P) fr T ty e inf hu hinf loc.blk n cap _ hblk (by simpa using hfr.imp_right And.left) b m ycap news (by rw[hsz];exact hnl) (hcell b rfl) hone hroom (by rw[hsz];simp only[ayO];omega);have hlist:(cs++sp).toArray.toList.take (n*inf.size)++news++(cs++sp).toArray.toList.drop (n*inf.size+news.length)=cs++news++sp.drop news.length:=by
           rw[hsz,ayw (by omega),axq (by omega),List.drop_append,List.drop_eq_nil_of_le (by omega),ayZ]
           congr 2;omega
          rw[hlist]at hrun;obtain⟨ρ',h4⟩:=key _ (by simp) (λb hb=>setRow_other w _ _ _ hb) rfl rfl rfl (setRow_heap w _ _ _ e _ hblk);exact⟨ρ',_,_,hrun,h4⟩
        ·
         have hm:0<m:=by omega
         obtain⟨b,rfl⟩: ∃b,ad=some b:=by
          rcases had with h|h
          ·omega
          ·exact h
         have holds: ∀(j:Nat) u,cs[j]?=some u->w.cell? ((⟨loc.blk,0,none⟩:Addr).add j)=some u:=by intro j u hj;rw[fU,cell_of_row w _ _ _ _ _ hblk];simp only[axR,awR];rw[awY (awH.1 hj).1];exact hj
         have hrun:=run_append_grow (P:=P) w T ty e inf _ hu hinf hzero ⟨loc.blk,0,none⟩ n cap cs (by rw[hsz];exact hcs.1) holds b m ycap news (by rw[hsz];exact hnl) (hcell b rfl) (by omega) (by omega) (by rw[hby];exact growslice_fits (by omega) hb1);obtain⟨ρ',h4,h5,h6,h7⟩:=fresh { s with hp:=(id,.dead)::s.hp } cs cap (hr.kill id) hcs (by omega);exact⟨ρ',_,_,hrun,⟨h4,h5,val ρ' _ _ _ h6 (grownCap_ge w (n+m) cap e),EF h7,λh=>by cases h⟩⟩
     ·cases h
    ·cases h
   ·cases h
  ·cases h
 ·cases h
include hti in
theorem Yo(hr:aJ B ρ s a w){T:TypeId}{x y:PV}{vx vy:Value}{r:Ans}(hx:VP ρ w x vx)(hy:VP ρ w y vy)(nx:Nat)(hn:ρ nx=none)(h:Dp C.ti T x y nx pk=some r):
  ∃ρ' v w',(Instr.makeSlice T vx vy).run P w= .ok v w'/\After B ρ s a w nx r.1 r.2.1 r.2.2 v ρ' w':=by
 unfold Dp at h;split at h
 ·rename_i i hi;have hu:=hti.under T i hi;split at h
  ·rename_i e t hd hty;rw[hd]at hu;obtain⟨ie',h1,h2,h3⟩:=nY hti hi hd;split at h
   ·rename_i ie hie;have hii:ie=ie':=by rw[h1]at hie;cases hie;rfl
    subst hii;have het:t=ie.ty:=by rw[hty]at h2;cases h2;rfl
    subst het;split at h
    ·split at h
     ·rename_i k l k' c;cases hb:decide (0<=l)&&decide (l<=c)&&decide ((ie.bytes:Int)*c<=281474976710656)&&decide (c<=9223372036854775807)
      ·rw[hb]at h;cases h
      ·rw[hb]at h;simp only[awL]at h;simp only[awu,awI]at hb;obtain⟨⟨⟨h0,hlc⟩,hby'⟩,hc63⟩:=hb;cases h;have ex:=VR.int hx;have ey:=VR.int hy;subst ex;subst ey;obtain⟨inf,hinf,hsz,hby,hzero⟩:=hti.info e ie h1;have hz:(mkV ie.ty ie.ty.zcells).cells.size=ie.ty.size:=by rw[jG (Rd.zero ρ w ie.ty)];simp[cB]
       have hrun:=run_make (P:=P) w T e inf _ hu hinf hzero k k' l c h0 hlc (by rw[hby];exact hby') hc63;have hcells:madeCells (mkV ie.ty ie.ty.zcells).cells (c.toNat*inf.size)=(Ty.arr c.toNat ie.ty).zcells.toArray:=by rw[jG (Rd.zero ρ w ie.ty),hsz];have:=xG ie.ty.zcells c.toNat;rw[cB]at this;unfold madeCells;rw[this];rfl
       rw[hcells]at hrun;have hzr:=Rd.zero ρ.shut w (.arr c.toNat ie.ty);have h4:Int.toNat l<=Int.toNat c:=Int.toNat_le_toNat hlc;have hzr2:=Rd.sub hzr (lo:=0) (n:=l.toNat) (by omega);simp only[ay2,ayV]at hzr2;obtain⟨ρ',h5,h6,h7,h8⟩:=hr.alloc nx hn (.row (!a6h ie.ty) e ie.ty l.toNat λ_=>ie.ty.zero) (Ty.arr c.toNat ie.ty).zcells.toArray e (.arr l.toNat ie.ty) (some c.toNat) (λρ' w' L hW hb=>⟨rfl,hW,_,(Ty.arr c.toNat ie.ty).zcells.drop (l.toNat*ie.ty.size),(by cases !a6h ie.ty;exact Rd.openIn (hzr2.keeps (L.keeps.at true));exact hzr2.keeps (L.keeps.at true)),kK.of (by rw[hb];congr 2;rw[axT]),_,rfl,by rw[axT,cB];rfl,h4,Int.toNat_le_toNat hc63⟩) (w.alloc (.cells (Ty.arr c.toNat ie.ty).zcells.toArray e)) rfl rfl rfl rfl;refine⟨ρ',_,_,hrun,⟨h5,h6,⟨[_],.inr ⟨_,l.toNat,c.toNat,0,h7,Ty.okP_nil _,Ty.at_nil _,by omega,rfl,λ_=>by rw[Ty.off_nil];simp,h4,λc hc _ _=>⟨by cases hc;rfl,rfl⟩⟩,rfl⟩,EF h8,λh=>by cases h⟩⟩
     ·cases h
    ·cases h
   ·cases h
  ·cases h
 ·cases h
theorem adF(hr:aJ B ρ s a w)(nx:Nat){t:Ty}{x:t.den}{cs:List Value}(T:TypeId)(hc:Rd ρ w t x cs)(hb:dG t x=true):
  After B ρ s a w nx (.v ⟨.ptr t,.fz x⟩) [] 1 (.pointer (some ⟨w.heap.size,0,none⟩)) ρ (w.alloc (.cells cs.toArray T)):=by
 have hheap:(w.alloc (.cells cs.toArray T)).heap=w.heap.push (.cells cs.toArray T):=rfl;have hsz:(w.alloc (.cells cs.toArray T)).heap.size=w.heap.size+1:=by rw[hheap];simp
 have hold: ∀b,b<w.heap.size->(w.alloc (.cells cs.toArray T)).heap[b]?=w.heap[b]?:=λb hb=>by rw[hheap,ay9,awG (by omega)]
 have hs:=hr.same (w':=w.alloc (.cells cs.toArray T)) (by omega) hold rfl rfl rfl (λa ha=>by simp only[World.frozen?,hold _ ha]);have hnA: ¬ρ.A w.heap.size:=λh=>by have:=hr.ownA _ h;omega
 have hR:Rd ρ.shut (w.alloc (.cells cs.toArray T)) t x cs:=(hc.shutOf hb).keeps hs.2.keeps.shut;refine⟨hs.1,hs.2,⟨_,⟨_,0,cs,rfl,hR,hnA,by omega,λj v hj=>?_⟩,rfl⟩,λ_ _=>rfl,λ_=>rfl⟩;simp only[World.cell?,hheap,awR];rw[ay9,awQ rfl];simpa using hj
theorem a6j(hr:aJ B ρ s a w)(nx:Nat){t:Ty}{n:Nat}{f:Nat->t.den}{cs:List Value}(e:TypeId)(hc:Rd ρ w (.arr n t) f cs)(hb:t.flat=true):
  After B ρ s a w nx (.v ⟨.sl t,.fz n f⟩) [] 1 (.slice (some ⟨w.heap.size,0,none⟩) n n) ρ (w.alloc (.cells cs.toArray e)):=by
 have hheap:(w.alloc (.cells cs.toArray e)).heap=w.heap.push (.cells cs.toArray e):=rfl;have hsz:(w.alloc (.cells cs.toArray e)).heap.size=w.heap.size+1:=by rw[hheap];simp
 have hold: ∀b,b<w.heap.size->(w.alloc (.cells cs.toArray e)).heap[b]?=w.heap[b]?:=λb hb=>by rw[hheap,ay9,awG (by omega)]
 have hs:=hr.same (w':=w.alloc (.cells cs.toArray e)) (by omega) hold rfl rfl rfl (λa ha=>by simp only[World.frozen?,hold _ ha]);have hnA: ¬ρ.A w.heap.size:=λh=>by have:=hr.ownA _ h;omega
 refine⟨hs.1,hs.2,⟨_,⟨some ⟨w.heap.size,0,none⟩,n,rfl,ax2 _,λi hi=>?_⟩,rfl⟩,λ_ _=>rfl,λ_=>rfl⟩;have hi':=hc.2 i hi;refine⟨w.heap.size,0,_,rfl,(show Rd ρ.shut w t (f i) _ from hi'.atOf (sh:=true) (by simp[hb])).keeps hs.2.keeps.shut,hnA,by omega,λj v hj=>?_⟩;simp only[World.cell?,hheap,awR];rw[ay9,awQ rfl];have:((cs.drop (i*t.size)).take t.size)[j]?=some v:=hj;rw[List.getElem?_take]at this;split at this
 ·rw[axa]at this;simpa using this
 ·cases this
include hti in
theorem KX {e:TypeId}(h:Oy C.ti e=true):P.underlying e=some (.int .u8):=by
 unfold Oy at h;split at h
 ·rename_i i hi;split at h
  ·rename_i hd;have:=hti.under e i hi;rw[hd]at this;exact this
  ·cases h
 ·cases h
theorem a2i: ∀(l:List Int) (r:ByteArray),l.foldl (λr n=>r.push (UInt8.ofNat n.toNat)) r=⟨r.data++(l.map λn=>UInt8.ofNat n.toNat).toArray⟩:=by
 intro l
 induction l with
 |nil=>intro r;simp
 |cons n l ih=>intro r;simp only[List.foldl_cons,ih];simp[ByteArray.push]
theorem Rd.bytes {ρ:Rho}{w:World}{n:Nat}{f:Nat->Int}{cs:List Value}(h:Rd ρ w (.arr n (.int .u8)) f cs):cs=((List.range n).map f).map (Value.int .u8):=by
 have hl:cs.length=n:=by have:=h.1;simpa [Ty.size]using this
 apply axO;intro j;by_cases hj:j<n
 ·have h1:=h.2 j hj;simp only[Ty.size,aye]at h1;have h2:((cs.drop j).take 1)[0]?=some (Value.int .u8 (f j)):=by have:(cs.drop j).take 1=[.int .u8 (f j)]:=h1;rw[this];rfl
  rw[awX (by omega),axa]at h2;simp only[axE]at h2;rw[h2];simp[hj]
 ·rw[axv (by omega),axv (by simp;omega)]
theorem ZQ(s:ByteArray):Lib.strCells s=((List.range s.size).map (strFn s)).map (Value.int .u8):=by
 apply List.ext_getElem
 ·rw[Lib.strCells_length];simp
 ·intro i h1 h2;simp only[Lib.strCells,List.getElem_map,List.getElem_range,strFn];have:i<s.data.toList.length:=by simpa [Lib.strCells]using h1
  rw[awC,awy this];rfl
theorem SA(ρ:Rho)(w:World)(s:ByteArray):Rd ρ w (.arr s.size (.int .u8)) (strFn s) (Lib.strCells s):=by refine⟨by rw[Lib.strCells_length];simp[Ty.size],λi hi=>?_⟩;show _=_;rw[ZQ];simp only[Ty.size,aye];rw[List.drop_eq_getElem_cons (by simpa using hi)];simp
include hti in
theorem Rf(hr:aJ B ρ s a w){src dst:TypeId}{x:PV}{vx:Value}{r:Ans}(hx:VP ρ w x vx)(nx:Nat)(hn:ρ nx=none)(h:kR C.ti src dst x s.h nx pk=some r):
  ∃ρ' v w',(convert src dst vx).run P w= .ok v w'/\After B ρ s a w nx r.1 r.2.1 r.2.2 v ρ' w':=by
 unfold kR at h;split at h
 ·rename_i s0 i hs hi;have h2:=hti.under src s0 hs;have h3:=hti.under dst i hi;split at h
  ·rename_i k0 k' h0 h1;rw[h0]at h2;rw[h1]at h3;split at h
   ·rename_i k n;cases h;have e:=VR.int hx;subst e;exact⟨ρ,_,w,by simp only[convert,awx,awJ h2,awJ h3,aws,Conv.intToInt];rfl,After.pure hr VR.mkInt⟩
   ·cases h
  ·rename_i e h0 h1;rw[h0]at h2;rw[h1]at h3;cases hb:Oy C.ti e
   ·rw[hb]at h;cases h
   ·rw[hb]at h;simp only[awL]at h;have he:=KX hti hb;split at h
    ·rename_i sh n f hel;cases h;obtain⟨ad,cap,news,rfl,hnews,had,hcell⟩:=Dv hr hx hel;have hnews:=hnews.openAt.bytes;refine⟨ρ,.string (bytesOf n f),w,?_,After.pure hr VR.mkStr⟩;rw[run_convert_bytes_string w src dst e ad n cap h2 he h3];cases ad with
     |none=>
      rcases had with h0|⟨b,hb⟩
      ·subst h0;rfl
      ·cases hb
     |some b=>
      have hl:(loadCells b n).run P w= .ok (((List.range n).map f).map (Value.int .u8)).toArray w:=by have:=run_loadCells_list (P:=P) w b (((List.range n).map f).map (Value.int .u8)) (λj v hj=>hcell b rfl j v (by rw[hnews];exact hj));simpa using this
      rw[run_bytesToString w b n cap _ hl,a2i];have e0:(ByteArray.empty.data++(((List.range n).map f).map λn=>UInt8.ofNat n.toNat).toArray)=((List.range n).map λi=>UInt8.ofNat (f i).toNat).toArray:=by rw[List.map_map,show ByteArray.empty.data= #[]from rfl,Array.empty_append];rfl
      rw[e0];rfl
    ·cases h
  ·rename_i e h0 h1;rw[h0]at h2;rw[h1]at h3;cases hb:Oy C.ti e
   ·rw[hb]at h;cases h
   ·rw[hb]at h;simp only[awL]at h;have he:=KX hti hb;split at h
    ·rename_i str;cases hbl:Nat.ble str.size 9223372036854775807
     ·rw[hbl]at h;cases h
     rw[hbl]at h;have hbl:=awN hbl;cases h;have e0:=VR.str hx;subst e0;have hcap:=grownCap_le_maxLen w str.size 0 e (by simp only[maxLen];omega);have hheap:(Lib.bytesWorld w e str).heap=w.heap.push (.cells (Lib.bytesCells w e str) e ((Lib.bytesCells w e str).size,(Lib.bytesCells w e str).size+1)):=by
      apply Array.ext_getElem?;intro k;rw[ay9];split
      ·rename_i hk;rw[hk];exact Lib.bytesWorld_at_new w e str
      ·rename_i hk;rcases ayC k w.heap.size with h0|h0
       ·exact Lib.bytesWorld_at_old w e str k h0
       ·rw[Array.getElem?_eq_none (by rw[Lib.bytesWorld_size];omega),Array.getElem?_eq_none h0]
     have hlen:=SA ρ.shut w str;obtain⟨ρ',h5,h6,h7,h8⟩:=hr.allocO nx hn (.row true e (.int .u8) str.size (strFn str)) (.cells (Lib.bytesCells w e str) e ((Lib.bytesCells w e str).size,(Lib.bytesCells w e str).size+1)) (.arr str.size (.int .u8)) (some (grownCap w str.size 0 e))
      (λρ' w' L hW hb=>⟨rfl,hW,Lib.strCells str,List.replicate (grownCap w str.size 0 e-str.size) (.int .u8 0),hlen.keeps L.keeps.shut,⟨_,by rw[hb];congr 2;apply ayt;simp[Lib.bytesCells,Lib.strCells],.inr ⟨by simp[Lib.bytesCells,Lib.strCells],rfl⟩⟩,_,rfl,by simp[Lib.strCells,Ty.size];have:=grownCap_ge w str.size 0 e;omega,grownCap_ge w str.size 0 e,by simp only[maxLen]at hcap;omega⟩)
      (Lib.bytesWorld w e str) hheap rfl rfl rfl
     exact⟨ρ',_,_,Lib.run_convert_string_bytes w src dst e str h2 h3 he,h5,h6,⟨[_],.inr ⟨_,str.size,grownCap w str.size 0 e,0,h7,Ty.okP_nil _,Ty.at_nil _,by omega,rfl,λ_=>by rw[Ty.off_nil];simp,grownCap_ge w str.size 0 e,λc hc _ _=>⟨by cases hc;rfl,rfl⟩⟩,rfl⟩,EF h8,λh=>by cases h⟩
    ·cases h
  ·cases h
 ·cases h
end
theorem adG {str:ByteArray}{t:Ty}{h:Heap}{sh:Bool}{m:Nat}{g:Nat->t.den}{ρ:Rho}{w:World}(he:sQ (.v ⟨.sl (.int .u8),.fz str.size (strFn str)⟩) t h=some (sh,m,g)):t= .int .u8/\m=str.size/\Rd (ρ.at sh) w (.arr m t) g (Lib.strCells str):=by
 simp only[sQ]at he;split at he
 ·rename_i e;subst e;cases he;exact⟨rfl,rfl,SA _ _ _⟩
 ·cases he
theorem V.to_self {t:Ty}{x:t.den} :V.to ⟨t,x⟩ t=some x:=by unfold V.to;rw[dif_pos rfl]
theorem Ty.set_S: ∀ {p:Path} {t:Ty} {x:t.den} {m:Nat} {u:Ty} {f:Nat->u.den} {lo n:Nat} {g:Nat->u.den},t.get x p=some ⟨.arr m u,f⟩->t.set x (p++[.S lo n]) (.arr n u) g=t.set x p (.arr m u) (sO f lo n g)
 | [],t,x,m,u,f,lo,n,g,h=>by rw[Ty.get_nil]at h;cases h;simp[Ty.set]
 |s::p,t,x,m,u,f,lo,n,g,h=>by
  cases t with
  |pair a b=>
   cases s<;>simp only[Ty.get]at h<;>first|cases h|(simp only[ayv,Ty.set];rw[Ty.set_S h])
  |arr k t=>
   cases s<;>simp only[Ty.get]at h<;>first|cases h|(simp only[ayv,Ty.set];rw[Ty.set_S h])
  |_=>cases s<;>simp only[Ty.get]at h<;>cases h
theorem PO.blitB_set {o z:PO}{p:Path}{lo n:Nat}{u:Ty}{g:Nat->u.den}(h:o.blitB p lo n u g=some z):o.set (p++[.S lo n]) ⟨.arr n u,g⟩=some z:=by
 unfold PO.blitB at h;split at h
 ·rename_i t x;cases hs:t.spHead
  ·rw[hs]at h;simp only[awW]at h;split at h
   ·rename_i m t' f hg;split at h
    ·rename_i e;subst e;split at h
     ·rename_i y hy;cases h;have hat:t.at (p++[.S lo n])=some (.arr n u):=by rw[Ty.at_append (Ty.at_of_get hg)];simp[Ty.at]
      simp only[PO.set,hs,ax6,awW,hat,V.to_self,Ty.set_S hg,hy]
     ·cases h
    ·cases h
   ·cases h
  ·rw[hs]at h;cases h
 ·rename_i sh e0 t k f;split at h
  ·split at h
   ·rename_i e;subst e;cases hb: !sh||u.flat
    ·rw[hb]at h;cases h
    ·rw[hb]at h;cases h;have hat:(Ty.arr k u).at ([]++[.S lo n])=some (.arr n u):=by simp[Ty.at]
     have hfl:(!sh||(Ty.arr n u).flat||dG (.arr n u) g)=true:=by have:(Ty.arr n u).flat=u.flat:=rfl;rw[this,hb];rfl
     have hs':(sh&&((Ty.arr n u).flat||dG (.arr n u) g))=sh:=by
      cases sh
      ·rfl
      ·simpa using hfl
     simp only[PO.set,hat,V.to_self,hs'];rw[Ty.set_S (p:=[]) (t:=.arr k u) (x:=f) (Ty.get_nil _ _)];simp[Ty.set]
   ·cases h
  ·cases h
 ·cases h
section
variable {P:Program} {C:Cx} (hti:wL P C.ti) {B:Base} {ρ:Rho} {s:DS} {a:Act} {w:World}
include hti in
theorem Wv(hr:aJ B ρ s a w){T:TypeId}{Ts:Array TypeId}(hT:Ts[0]?=some T){ty:TypeId}{x:PV}{vx:Value}{str:ByteArray}{r:Ans}(hx:VP ρ w x vx)(nx:Nat)(hn:ρ nx=none)(h:Ai C.ti T x (.int .u8) str.size (strFn str) s.h pk=some r):
  ∃v w',(Builtin.copy_ Ts ty #[vx,.string str]).run P w= .ok v w'/\After B ρ s a w nx r.1 r.2.1 0 v ρ w'/\r.2.2=0:=by
 unfold Ai at h;split at h
 ·rename_i i hi;have hu:=hti.under T i hi;split at h
  ·rename_i e hd;rw[hd]at hu;obtain⟨i',h1,h2,h3⟩:=nY hti hi hd;split at h
   ·rename_i t id p lo len;split at h
    ·rename_i ee;obtain⟨e1,e2⟩:=ee;subst e1;have:i'.ty= .int .u8:=by rw[h2]at e2;exact Ty.sl.inj e2
     have hT':Ts[0]?=some T:=hT;cases hz0:Nat.ble len 0||Nat.ble str.size 0
     ·rw[hz0]at h;simp only[awW]at h;simp only[Bool.or_eq_false_iff]at hz0;have hp1:0<len:=by
       rcases axd len with e|e
       ·subst e;exact absurd hz0.1 (by decide)
       ·exact e
      split at h
      ·rename_i o ho;split at h
       ·rename_i z hz0;have hz:=PO.blitB_set hz0;cases h;obtain⟨h0,_⟩|⟨loc,m,cap,od,hloc,hok,hat,hle,rfl,hod,_⟩:=VR.slMs hx
        ·omega
        have hset:loc.ty.at (p++[.S lo (min str.size len)])=some (.arr (min str.size len) (.int .u8)):=by rw[Ty.at_append hat];simp[Ty.at]
        have hc0:=SA ρ w str;have hc:Rd ρ w (.arr (min str.size len) (.int .u8)) (strFn str) ((Lib.strCells str).take (min str.size len)):=by have:=hc0.sub (lo:=0) (n:=min str.size len) (by omega);simpa [Ty.size]using this
        obtain⟨c2,w',h4,h5,h6,h7⟩:=FM (P:=P) hr ho hloc (Ty.okP_append hok hat (show(Ty.arr m (.int .u8)).okP [.S lo (min str.size len)]from⟨by omega,Ty.okP_nil _⟩)) hset hz (v:=⟨.arr (min str.size len) (.int .u8),strFn str⟩) ⟨_,hc,rfl⟩ nx (λe=>by subst e;rw[hloc]at hn;cases hn);rw[jG hc]at h4;have hcc:(Lib.strCells str).take (min str.size len)=c2:=by simpa using h4
        subst hcc;refine⟨_,w',?_,⟨h7.rel,h7.later,VR.mkInt,h7.same,h7.new⟩,rfl⟩;unfold Builtin.copy_;simp only[hT',axR,ax5,axF,awx,awJ hu,aws,Builtin.lenOf,awM,hti.size e i' w h1,Builtin.firstCells];rw[show Nat.min str.size len=min str.size len from rfl];have hstore:(storeCells ⟨loc.blk,od,none⟩ ((Lib.strCells str).take (min str.size len))).run P w= .ok () w':=by rw[hod (by omega)];rw[Ty.off_append hat]at h6;simpa [Ty.off]using h6
        have hcells:(Array.map (λb:UInt8=>Value.int .u8 (b.toNat:Int)) (str.extract 0 (min str.size len)).data).toList=(Lib.strCells str).take (min str.size len):=by simp[Lib.strCells,ByteArray.data_extract,List.map_take]
        rw[hcells,hstore];rfl
       ·cases h
      ·cases h
     ·rw[hz0]at h;simp only[awL]at h;cases h;have form: ∃b cap,vx= .slice b len cap:=by
       rcases VR.slMs hx with⟨rfl,rfl⟩|⟨_,_,_,_,_,_,_,_,rfl,_⟩
       ·exact⟨_,_,rfl⟩
       ·exact⟨_,_,rfl⟩
      obtain⟨b1,c1,rfl⟩:=form;refine⟨_,w,?_,After.pure hr VR.mkInt,rfl⟩;have h0:Nat.min str.size len=0:=by
       simp only[axU]at hz0;rcases hz0 with e|e
       ·have:=awN e;show min str.size len=0;omega
       ·have:=awN e;show min str.size len=0;omega
      unfold Builtin.copy_;simp only[hT',axR,ax5,axF,awx,awJ hu,aws,Builtin.lenOf,awM,hti.size e i' w h1,h0,Builtin.firstCells];have hcells:(Array.map (λb:UInt8=>Value.int .u8 (b.toNat:Int)) (str.extract 0 0).data).toList=[]:=by simp[ByteArray.data_extract]
      rw[hcells];cases b1<;>rfl
    ·cases h
   ·cases h
  ·cases h
 ·cases h
theorem Jj {P:Program}{w:World}(fr:Nat×Nat)(t u ty e:TypeId)(i:TypeInfo)(ht:P.underlying t=some (.slice e))(hu:P.underlying u=some .string)(hi:P.info? e=some i)(hs1:i.size=1)
  (g sLen sCap:Nat) (cur:Array Value) (hg:w.heap[g]?=some (.cells cur e fr)) (hfr:fr=(0,0)\/cur.size<=fr.1) (s:ByteArray)
  (hroom:sLen+s.size<=sCap) (hfit:sLen+s.size<=cur.size):
  (Builtin.append_ #[t,u] ty #[.slice (some ⟨g,0,none⟩) sLen sCap,.string s]).run P w=
   .ok (.slice (some ⟨g,0,none⟩) (sLen+s.size) sCap) (w.setRow g (cur.toList.take sLen++Lib.strCells s++cur.toList.drop (sLen+s.size)).toArray):=by
 have hf:=Lib.run_firstCells_string (P:=P) w 1 s;have hst:=nI (P:=P) fr g sLen e (Lib.strCells s) 0 cur w hg hfr (by simpa [Lib.strCells_length]using hfit) (Lib.strCells_oneCell s);simp only[axE,Lib.strCells_length]at hst;simp[Builtin.append_,awJ ht,awJ hu,sizeOf,typeInfo,hi,hs1,Builtin.lenOf,hroom,hf,Addr.add_lit,hst]
include hti in
theorem Rh(hr:aJ B ρ s a w){T T' ty:TypeId}{x:PV}{vx:Value}{str:ByteArray}{r:Ans}(hx:VP ρ w x vx)(hst:Im C.ti T'=true)(nx:Nat)(hn:ρ nx=none)(h:iN C.ti T x (.v ⟨.sl (.int .u8),.fz str.size (strFn str)⟩) s.h nx pk=some r):
  ∃ρ' v w',(Builtin.append_ #[T,T'] ty #[vx,.string str]).run P w= .ok v w'/\After B ρ s a w nx r.1 r.2.1 r.2.2 v ρ' w':=by
 unfold iN at h;split at h
 ·rename_i i hi;have hu:=hti.under T i hi;split at h
  ·rename_i e t hd hty;rw[hd]at hu;obtain⟨ie',h1,h2,h3⟩:=nY hti hi hd;split at h
   ·rename_i ie hie;have hii:ie=ie':=by rw[h1]at hie;cases hie;rfl
    subst hii;have het:t=ie.ty:=by rw[hty]at h2;cases h2;rfl
    subst het;split at h
    ·split at h
     ·rename_i sh n f u sh' m g hro hel;obtain⟨e8,rfl,hnews⟩:=adG (ρ:=ρ) (w:=w) hel;cases hb:Nat.ble ((n+str.size)*ie.bytes) 140737488355328&&Nat.ble (n+str.size) 9223372036854775807
      ·rw[hb]at h;cases h
      ·rw[hb]at h;simp only[awL]at h;simp only[awu]at hb;have hb1:=awN hb.1;have hb2:=awN hb.2;cases h;obtain⟨inf,hinf,hsz,hby,hzero⟩:=hti.info e ie h1;have hz:(mkV ie.ty ie.ty.zcells).cells.size=ie.ty.size:=by rw[jG (Rd.zero ρ w ie.ty)];simp[cB]
       have hs1:ie.ty.size=1:=by rw[e8];rfl
       have hst':P.underlying T'=some .string:=by
        unfold Im at hst;split at hst
        ·rename_i j hj;have:=hti.under T' j hj;split at hst
         ·rename_i e;rw[e]at this;exact this
         ·cases hst
        ·cases hst
       generalize hnw:Lib.strCells str=news at hnews;have hnl:news.length=str.size*ie.ty.size:=hnews.1;have hone:=Bz hnews.openAt;have fresh: ∀(s1:DS) (xs:List Value) (old:Nat),aJ B ρ s1 a w->Rd (ρ.at sh) w (.arr n ie.ty) f xs->old<n+str.size->
         ∃ρ',aJ B ρ' { s1 with hp:=(nx,.row (sh&&sh') e ie.ty (n+str.size) (Den.glue n f g))::s1.hp } a (w.drew.alloc (.cells (xs.toArray++news.toArray++Builtin.zeroCells (mkV ie.ty ie.ty.zcells).cells (grownCap w (n+str.size) old e-(n+str.size))) e))/\
          Later ρ w ρ' (w.drew.alloc (.cells (xs.toArray++news.toArray++Builtin.zeroCells (mkV ie.ty ie.ty.zcells).cells (grownCap w (n+str.size) old e-(n+str.size))) e))/\
          ρ' nx=some ⟨w.heap.size,.arr (n+str.size) ie.ty,some (grownCap w (n+str.size) old e)⟩/\ ∀id,id≠nx->ρ' id=ρ id:=by
        intro s1 xs old hr1 hxs ho;have hge:=grownCap_ge w (n+str.size) old e;have hcm:grownCap w (n+str.size) old e<=maxLen:=grownCap_le_maxLen w (n+str.size) old e (by simp only[maxLen];omega);have hrd:=(Rd.weakAt (sh':=sh') hxs).1.glue (Rd.weakAt (sh':=sh) hnews).2;refine hr1.alloc nx hn (.row (sh&&sh') e ie.ty (n+str.size) (Den.glue n f g)) (xs.toArray++news.toArray++Builtin.zeroCells (mkV ie.ty ie.ty.zcells).cells (grownCap w (n+str.size) old e-(n+str.size))) e _ _ (λρ' w' L hW hb=>⟨rfl,hW,xs++news,(Builtin.zeroCells (mkV ie.ty ie.ty.zcells).cells (grownCap w (n+str.size) old e-(n+str.size))).toList,hrd.keeps (L.keeps.at _),kK.of ?_,_,rfl,?_,hge,by simp only[maxLen]at hcm;omega⟩) _ ?_ rfl rfl rfl
        ·rw[hb];congr 2;apply ayt;simp
        ·rw[awS,sj,hz,awS,hxs.1,hnl,<-ax3,<-ax3]
         congr 1;omega
        ·simp only[World.alloc];rfl
       have val: ∀(ρ':Rho) (w':World) (blk cap:Nat),ρ' nx=some ⟨blk,.arr (n+str.size) ie.ty,some cap⟩->n+str.size<=cap->VP ρ' w' (.v ⟨.sl ie.ty,.ms nx [] 0 (n+str.size)⟩) (.slice (some ⟨blk,0,none⟩) (n+str.size) cap):=by intro ρ' w' blk cap h hc;exact⟨[_],.inr ⟨_,n+str.size,cap,0,h,Ty.okP_nil _,Ty.at_nil _,by omega,rfl,λ_=>by rw[Ty.off_nil];simp,hc,λc hc _ _=>⟨by cases hc;rfl,rfl⟩⟩,rfl⟩
       rcases KV hr hx hro with⟨rfl,rfl,id,hu'⟩|⟨id,loc,cap,k,f0,cs,sp,rfl,hsid,hloc,hlcap,rfl,hnc,hcm,hcs,hblk0,hlen⟩
       ·
        have hr1:aJ B ρ { s with hp:=u++s.hp } a w:=by
         rcases hu' with rfl|rfl
         ·exact hr
         ·exact hr.kill id
        rcases axd str.size with hm|hm
        ·have hn0:news=[]:=List.eq_nil_of_length_eq_zero (by rw[hnl,hm];simp);have hsc:(0+str.size)=0:=by omega
         rw[hsc];refine⟨ρ,.slice none 0 0,w,?_,⟨hr1.idleRow hn _ _ _ _,Later.refl _ _,⟨[_],.inl ⟨rfl,rfl⟩,rfl⟩,λ_ _=>rfl,λh=>by cases h⟩⟩;have hf:=Lib.run_firstCells_string (P:=P) w inf.size str;rw[hm,hnw,hn0]at hf;simp[Builtin.append_,awJ hu,awJ hst',sizeOf,typeInfo,hinf,Builtin.lenOf,hm,hf]
        ·have hrun:=run_append_nil_string (P:=P) w T T' ty e inf _ hu hst' hinf hzero str hm (by omega) (by rw[hby];simp only[awR]at hb1;omega);have hmap:str.data.map (λb=>Value.int .u8 b.toNat)=news.toArray:=by rw[<-hnw];apply ayt;simp[Lib.strCells]
         rw[hmap]at hrun;have:=fresh { s with hp:=u++s.hp } [] 0 hr1 ⟨by simp,λi hi=>by omega⟩ (by omega);simp only[awR,Array.empty_append]at this val⊢;obtain⟨ρ',h4,h5,h6,h7⟩:=this;refine⟨ρ',_,_,hrun,⟨h4,h5,val ρ' _ _ _ h6 (by have:=grownCap_ge w str.size 0 e;omega),EF h7,λh=>by cases h⟩⟩
       ·obtain⟨fr,hblk,hfr⟩:=hblk0;by_cases hroom:n+str.size<=cap
        ·
         have hnl1:cs.length=n*ie.ty.size:=hcs.1;have hmul:(n+str.size)*ie.ty.size<=cap*ie.ty.size:=awP _ hroom;rw[ax3]at hmul;have hsl:(cs++sp).length=cs.length+sp.length:=awS;have key: ∀w',w'.heap.size=w.heap.size->(∀b,b≠loc.blk->w'.heap[b]?=w.heap[b]?)->w'.os=w.os->w'.tape=w.tape->w'.output=w.output->
           w'.heap[loc.blk]?=some (.cells (cs++news++sp.drop news.length).toArray e fr)->
           ∃ρ',After B ρ s a w nx (.v ⟨.sl ie.ty,.ms nx [] 0 (n+str.size)⟩) [(nx,.row (sh&&sh') e ie.ty (n+str.size) (Den.glue n f g)),(id,.dead)] 1 (.slice (some ⟨loc.blk,0,none⟩) (n+str.size) cap) ρ' w':=by
          intro w' e1 e2 e3 e4 e5 e6;have hrd:=(Rd.weakAt (sh':=sh') hcs).1.glue (Rd.weakAt (sh':=sh) hnews).2;obtain⟨ρ',h4,h5,h6,h7⟩:=hr.renew hsid (by intro e;cases e) (by intro e;cases e) hloc hn (.arr (n+str.size) ie.ty) (o':=.row (sh&&sh') e ie.ty (n+str.size) (Den.glue n f g)) w' e1 e2 e3 e4 e5 (wK hblk e6) (λρ' L hW=>
           ⟨rfl,hW,cs++news,sp.drop news.length,hrd.keeps (L.keeps.at _),⟨fr,e6,hfr.imp_right λh=>⟨by
            have:(cs++news++sp.drop news.length).length=(cs++sp).length:=by rw[awS,awS,axZ,awS];omega
            have:=h.1;omega,h.2⟩⟩,cap,hlcap,by rw[awS,awS,axZ];omega,hroom,hcm⟩)
          rw[hlcap]at h6;exact⟨ρ',h4,h5,val ρ' _ _ _ h6 hroom,EF h7,λh=>by cases h⟩
         have hrun:=Jj (P:=P) fr T T' ty e inf hu hst' hinf (by rw[hsz];exact hs1) loc.blk n cap _ hblk (by simpa using hfr.imp_right And.left) str hroom (by simp only[ayO];rw[hs1]at hlen;omega);rw[hnw]at hrun;have hlist:(cs++sp).toArray.toList.take n++news++(cs++sp).toArray.toList.drop (n+str.size)=cs++news++sp.drop news.length:=by
          rw[hs1]at hnl1 hnl;rw[ayw (by omega),axq (by omega),List.drop_append,List.drop_eq_nil_of_le (by omega),ayZ]
          congr 2;omega
         rw[hlist]at hrun;obtain⟨ρ',h4⟩:=key _ (by simp) (λb hb=>setRow_other w _ _ _ hb) rfl rfl rfl (setRow_heap w _ _ _ e _ hblk);exact⟨ρ',_,_,hrun,h4⟩
        ·
         have holds: ∀(j:Nat) u,cs[j]?=some u->w.cell? ((⟨loc.blk,0,none⟩:Addr).add j)=some u:=by intro j u hj;rw[fU,cell_of_row w _ _ _ _ _ hblk];simp only[axR,awR];rw[awY (awH.1 hj).1];exact hj
         have hrun:=Lib.run_append_grow_string (P:=P) w T T' ty e inf _ hu hst' hinf hzero ⟨loc.blk,0,none⟩ n cap cs (by rw[hsz];exact hcs.1) holds str (by omega) (by omega) (by rw[hby];exact growslice_fits (by omega) hb1);rw[hnw]at hrun;obtain⟨ρ',h4,h5,h6,h7⟩:=fresh { s with hp:=(id,.dead)::s.hp } cs cap (hr.kill id) hcs (by omega);exact⟨ρ',_,_,hrun,⟨h4,h5,val ρ' _ _ _ h6 (grownCap_ge w (n+str.size) cap e),EF h7,λh=>by cases h⟩⟩
     ·cases h
    ·cases h
   ·cases h
  ·cases h
 ·cases h
end
def fK:(k:Ty)->k.den->Value| .int kd,x=>.int kd x| .str,x=>.string x|_,_=>.nilFunc
def a6k(d:TypeDesc)(k:Ty):Prop:=(∃kd,d= .int kd/\k= .int kd)\/(d= .string/\k= .str)
theorem Ap {k:Ty}(hk:k.key=true){ρ:Rho}{w:World}{x:k.den}{c:List Value}(h:Rd ρ w k x c):c=[fK k x]/\mkV k c=fK k x:=by
 cases k<;>simp only[Ty.key,axi]at hk
 ·have:c=_:=h;subst this;exact⟨rfl,rfl⟩
 ·have:c=_:=h;subst this;exact⟨rfl,rfl⟩
theorem Rd.fK {k:Ty}(hk:k.key=true)(ρ:Rho)(w:World)(x:k.den):Rd ρ w k x [fK k x]:=by
 cases k<;>simp only[Ty.key,axi]at hk
 ·rfl
 ·rfl
theorem uU {d:TypeDesc}{k:Ty}(h:a6k d k)(x:k.den):MapKept.IsKey d (fK k x):=by
 rcases h with⟨kd,rfl,rfl⟩|⟨rfl,rfl⟩
 ·simp[MapKept.IsKey,Den.fK]
 ·simp[MapKept.IsKey,Den.fK]
theorem aaE(a b:ByteArray):(a==b)=sEq a b:=by
 have h1:=MapKept.bytes_beq a b;have h2:sEq a b=true↔a=b:=by
  constructor
  ·intro h;have e:a.toList=b.toList:=by simpa [sEq]using h
   rw[aym,aym]at e;cases a;cases b;simp at e;rw[e]
  ·rintro rfl;simp[sEq]
 cases e1:(a==b)<;>cases e2:sEq a b<;>simp_all
theorem a4T {d:TypeDesc}{k:Ty}(h:a6k d k)(x y:k.den):Instr.sameNow d (fK k x) (fK k y)=some (eqF k x y):=by
 rcases h with⟨kd,rfl,rfl⟩|⟨rfl,rfl⟩
 ·simp[Instr.sameNow,Den.fK,eqF]
 ·simp only[Instr.sameNow,Den.fK,eqF];rw[aaE]
theorem find_spec {d:TypeDesc}{k v:Ty}(hk:a6k d k)(x:k.den): ∀(l:List (k.den×v.den)) (es:List MapEntry) (i:Nat),l.length=es.length->(∀(j:Nat) q e,l[j]?=some q->es[j]?=some e->e.key=fK k q.1)->
  (nH k v l x=none/\midx k v l x=l.length/\Instr.findNow d (fK k x) es i=some none)\/
  ∃j q e,l[j]?=some q/\es[j]?=some e/\nH k v l x=some q.2/\midx k v l x=j/\e.key=fK k x/\Instr.findNow d (fK k x) es i=some (some (i+j,e.val))
 | [],[],i,_,_=>.inl ⟨rfl,rfl,rfl⟩
 |q::l,e::es,i,hl,h=>by
  have h0:=h 0 q e rfl rfl;have hs:=a4T hk x q.1;cases hb:eqF k x q.1
  ·rw[hb]at hs;have ih:=find_spec hk x l es (i+1) (by simpa using hl) (λj q e h1 h2=>h (j+1) q e (by simpa using h1) (by simpa using h2));simp only[Instr.findNow,h0,hs,nH,midx,hb,awW];rcases ih with⟨h1,h2,h3⟩|⟨j,q',e',h1,h2,h3,h4,h5,h6⟩
   ·exact .inl ⟨h1,by rw[h2];rfl,h3⟩
   ·exact .inr ⟨j+1,q',e',by simpa using h1,by simpa using h2,h3,by rw[h4],h5,by rw[h6];congr 3;omega⟩
  ·rw[hb]at hs;refine .inr ⟨0,q,e,rfl,rfl,by simp[nH,hb],by simp[midx,hb],?_,by simp only[Instr.findNow,h0,hs];rfl⟩;rw[h0];have:Instr.sameNow d (fK k x) (fK k q.1)=some true:=hs;obtain⟨r,h1,h2⟩:=MapKept.sameNow_of_keys (uU hk x) (uU hk q.1);rw[this]at h1;cases h1;exact(h2.1 rfl).symm
section
variable {P:Program} {C:Cx} (hti:wL P C.ti) {B:Base} {ρ:Rho} {s:DS} {a:Act} {w:World}
structure abF(P:Program)(ti:List (Nat×TI))(T:TypeId)(k v:Ty):Prop where
 ex: ∃kT vT d,P.underlying T=some (.map kT vT)/\P.underlying kT=some d/\a6k d k/\k.key=true/\v.flat=true/\ ∀w,(zeroValue vT).run P w= .ok (mkV v v.zcells) w
include hti in
theorem Dw {T:TypeId}{kv:Ty×Ty}(h:Xl C.ti T=some kv):abF P C.ti T kv.1 kv.2:=by
 unfold Xl at h;split at h
 ·rename_i i hi;split at h
  ·rename_i kT vT hd;split at h
   ·rename_i x y hx hy;cases hb:x.ty.key&&y.ty.flat
    ·rw[hb]at h;cases h
    ·rw[hb]at h;cases h;simp only[awu]at hb;have hu:=hti.under T i hi;rw[hd]at hu;have hs:=hti.shape kT x hx;have hz: ∀w,(zeroValue vT).run P w= .ok (mkV y.ty y.ty.zcells) w:=λw=>hti.zero vT y w hy
     refine⟨kT,vT,x.desc,hu,hti.under kT x hx,?_,hb.1,hb.2,hz⟩;obtain⟨hb1,hb2⟩:=hb;unfold kM at hs;split at hs
     ·rename_i kd e;rw[e];exact .inl ⟨kd,rfl,hs⟩
     ·rw[hs]at hb1;cases hb1
     ·rename_i e;rw[e];exact .inr ⟨rfl,hs⟩
     ·obtain⟨ha,_⟩:=hs;cases ht:x.ty<;>rw[ht]at ha hb1<;>simp[Ty.agg,Ty.key]at ha hb1
     ·obtain⟨_,_,e,_⟩:=hs;rw[e]at hb1;cases hb1
     ·obtain⟨_,_,e,_⟩:=hs;rw[e]at hb1;cases hb1
     ·rcases hs with⟨_,e⟩|⟨_,e⟩
      ·rw[e]at hb1;cases hb1
      ·rw[e]at hb1;cases hb1
     ·rw[hs]at hb1;cases hb1
     ·rw[hs]at hb1;cases hb1
     ·exact hs.elim
   ·cases h
  ·cases h
 ·cases h
theorem VR.mpSome {id:Nat}{v:Value}(h:VR ρ w ⟨.mp,some id⟩ v): ∃loc,ρ id=some loc/\loc.ty= .mp/\v= .map (some loc.blk):=by obtain⟨cs,⟨loc,h1,h2,h3⟩,h4⟩:=h;simp only at h3 h4;subst h3;exact⟨loc,h1,h2,h4⟩
theorem VR.mpNone {v:Value}(h:VR ρ w ⟨.mp,none⟩ v):v= .map none:=by obtain⟨cs,h1,h2⟩:=h;have:cs=[.map none]:=h1;subst this;exact h2
theorem VR.flat {t:Ty}(hf:t.flat=true){x:t.den}{c:List Value}{ρ ρ':Rho}{w w':World}(h:Rd ρ w t x c):Rd ρ' w' t x c:=by
 induction t generalizing c with
 |int k=>exact h
 |bool=>exact h
 |str=>exact h
 |unit=>exact h
 |pair a b iha ihb=>
  simp only[Ty.flat,awu]at hf;exact⟨iha hf.1 h.1,ihb hf.2 h.2⟩
 |arr n t ih=>exact⟨h.1,λi hi=>ih hf (h.2 i hi)⟩
 |_=>simp[Ty.flat]at hf
theorem yE {v:Value}{k:Ty}(hk:k.key=true){x:k.den}(h:VR ρ w ⟨k,x⟩ v):v=fK k x:=by obtain⟨cs,h1,h2⟩:=h;rw[h2];exact(Ap hk h1).2
theorem Mj {T:TypeId}{k v:Ty}(hm:abF P C.ti T k v){l:List (k.den×v.den)}{es:List MapEntry}{ρ:Rho}(h:MpR ρ w k v l es)(x:k.den):
  ∃kT vT,P.underlying T=some (.map kT vT)/\(∀w b,(Instr.checkKey b 10000 kT (fK k x)).run P w= .ok () w)/\(∀w,(zeroValue vT).run P w= .ok (mkV v v.zcells) w)/\(∀w,(Instr.keyThatStays (fK k x) (fK k x)).run P w= .ok (fK k x) w)/\
  ((nH k v l x=none/\midx k v l x=l.length/\ ∀w,(Instr.findKey kT (fK k x) es).run P w= .ok none w)\/
  ∃j q e,l[j]?=some q/\es[j]?=some e/\nH k v l x=some q.2/\midx k v l x=j/\e.key=fK k x/\ ∀w,(Instr.findKey kT (fK k x) es).run P w= .ok (some (j,e.val)) w):=by
 obtain⟨kT,vT,d,h1,h2,h3,h4,h5,h6⟩:=hm.ex;refine⟨kT,vT,h1,λw b=>MapKept.run_checkKey h2 (uU h3 x) b 9999,h6,λw=>MapKept.run_keyThatStays (uU h3 x),?_⟩;rcases find_spec h3 x l es 0 h.1 (λj q e hq he=>by obtain⟨⟨c,hc,hkey⟩,_⟩:=h.2 j q e hq he;rw[hkey];exact(Ap h4 hc).2)with⟨h7,h8,h9⟩|⟨j,q,e,h7,h8,h9,h10,h11,h12⟩
 ·exact .inl ⟨h7,h8,λw=>MapKept.run_findKey h2 h9⟩
 ·exact .inr ⟨j,q,e,h7,h8,h9,h10,h11,λw=>by rw[awR]at h12;exact MapKept.run_findKey h2 h12⟩
theorem VR.ofCells {t:Ty}{x:t.den}{c:List Value}(h:Rd ρ w t x c):VR ρ w ⟨t,x⟩ (mkV t c):=⟨c,h,rfl⟩
theorem Dx {v:Ty}{ok:Bool}{r:Option v.den}{vv:Value}{pv:PV}(h:KO ok r some=some pv)(hv:VR ρ w ⟨v,r.getD v.zero⟩ vv):VP ρ w pv (if ok then .tuple #[vv,.bool r.isSome]else vv):=by
 unfold KO at h;cases ok
 ·cases h;exact hv
 ·cases h;exact⟨[vv,.bool r.isSome],rfl,hv,⟨_,rfl,rfl⟩,trivial⟩
include hti in
theorem SB(hr:aJ B ρ s a w){T:TypeId}{x y:PV}{ok:Bool}{vx vy:Value}{pv:PV}(hx:VP ρ w x vx)(hy:VP ρ w y vy)(h:qE C.ti T x y ok s.h some=some pv):
  ∃v,(Instr.lookup T vx vy ok).run P w= .ok v w/\VP ρ w pv v:=by
 unfold qE at h;split at h
 ·rename_i kv ix hm;have hm:=Dw hti hm;split at h
  ·rename_i key hkey;have hkv:=yE hm.ex.choose_spec.choose_spec.choose_spec.2.2.2.1 (VR.to hy hkey);subst hkv;split at h
   ·have e:=VR.mpNone hx;subst e;have h0:MpR ρ w kv.1 kv.2 [] []:=⟨rfl,λj q e hq=>by simp at hq⟩;obtain⟨kT,vT,h1,h2,h3,_,h4⟩:=Mj hm h0 key;have hz:VR ρ w ⟨kv.2,kv.2.zero⟩ (mkV kv.2 kv.2.zcells):=VR.ofCells (Rd.zero ρ w _);refine⟨_,?_,Dx h hz⟩;rcases h4 with⟨_,_,h5⟩|⟨j,q,e,h5,_⟩
    ·simp[Instr.lookup,awJ h1,h2,h5,h3,Result.andThen]
    ·simp at h5
   ·rename_i id;obtain⟨loc,hloc,hty,rfl⟩:=VR.mpSome hx;split at h
    ·rename_i k v l ho;split at h
     ·rename_i ee;obtain⟨e1,e2⟩:=ee;subst e1;subst e2;obtain⟨_,_,es,hes,hb⟩:=hr.live ho (by intro e;cases e) hloc;obtain⟨kT,vT,h1,h2,h3,_,h4⟩:=Mj hm hes key;have hg:=MapKept.run_getObj_map (P:=P) hb;rcases h4 with⟨h5,_,h6⟩|⟨j,q,e,h5,h6,h7,_,_,h8⟩
      ·rw[h5]at h;have hz:VR ρ w ⟨kv.2,kv.2.zero⟩ (mkV kv.2 kv.2.zcells):=VR.ofCells (Rd.zero ρ w _);refine⟨_,?_,Dx h hz⟩;simp[Instr.lookup,awJ h1,hg,h2,h6,h3,Result.andThen]
      ·rw[h7]at h;obtain⟨_,⟨c,hc,hval⟩,_⟩:=hes.2 j q e h5 h6;refine⟨_,?_,Dx h (vv:=e.val) (by rw[hval];exact VR.ofCells hc.openIn)⟩;simp[Instr.lookup,awJ h1,hg,h2,h8,Result.andThen]
     ·cases h
    ·cases h
   ·cases h
  ·cases h
 ·cases h
theorem Ct(hr:aJ B ρ s a w){id:Nat}{k v:Ty}{l l':List (k.den×v.den)}{loc:Loc}{es es':List MapEntry}(ho:look s.hp id=some (.mp k v l))(hloc:ρ id=some loc)(hb:w.heap[loc.blk]?=some (.map es.toArray es.length))(hes:MpR ρ.shut w k v l' es')(nx:Nat):
  ∃w',(setObj loc.blk (.map es'.toArray es'.length)).run P w= .ok () w'/\After B ρ s a w nx .un [(id,.mp k v l')] 0 undef ρ w':=by
 obtain⟨hty,hW,_⟩:=hr.live ho (by intro e;cases e) hloc;obtain⟨h1,h2⟩:=MapKept.heap_set (o':=.map es'.toArray es'.length) hb;refine⟨_,MapKept.run_setObj_map _ hb,?_⟩;obtain⟨h3,h4⟩:=hr.store ho (by intro e;cases e) (by intro e;cases e) hloc { w with heap:=w.heap.setIfInBounds loc.blk (.map es'.toArray es'.length) } (by simp) h2 rfl rfl rfl (Sl hb h1) (o':=.mp k v l') (λL=>⟨hty,hW,es',hes.keeps L.keeps.shut,h1⟩);exact⟨h3,h4,trivial,λ_ _=>rfl,λ_=>rfl⟩
theorem modify_toArray(es:List MapEntry)(i:Nat)(f:MapEntry->MapEntry):es.toArray.modify i f=(es.modify i f).toArray:=by apply ayt;simp
theorem Rd.ofVR {t:Ty}(hf:t.flat=true){x:t.den}{v:Value}(h:VR ρ w ⟨t,x⟩ v): ∃c,Rd ρ.shut w t x c/\v=mkV t c:=by obtain⟨c,h1,h2⟩:=h;exact⟨c,VR.flat hf h1,h2⟩
theorem MpR.push {k v:Ty}{l:List (k.den×v.den)}{es:List MapEntry}(h:MpR ρ w k v l es){x:k.den}{y:v.den}{e:MapEntry}(hk: ∃c,Rd ρ w k x c/\e.key=mkV k c)(hv: ∃c,Rd ρ w v y c/\e.val=mkV v c)(hb:e.born=es.length):MpR ρ w k v (l++[(x,y)]) (es++[e]):=by
 refine⟨by simp[h.1],λj q e' hq he=>?_⟩;by_cases hj:j<l.length
 ·rw[awY hj]at hq;rw[awY (by rw[<-h.1];exact hj)]at he;exact h.2 j q e' hq he
 ·rw[axw (by omega)]at hq;rw[axw (by rw[<-h.1];omega)]at he;have hj0:j-l.length=0:=by
   rcases axd (j-l.length)with h0|h0
   ·exact h0
   ·rw[axv (by simp;omega)]at hq;cases hq
  rw[hj0]at hq;rw[show j-es.length=0 by rw[<-h.1];exact hj0]at he;simp at hq he;subst hq;subst he;exact⟨hk,hv,by rw[hb,<-h.1];omega⟩
theorem MpR.put {k v:Ty}{l:List (k.den×v.den)}{es:List MapEntry}(h:MpR ρ w k v l es){j:Nat}{q:k.den×v.den}{e:MapEntry}(hq:l[j]?=some q)(he:es[j]?=some e){x:k.den}{y:v.den}{f:MapEntry->MapEntry}(hk: ∃c,Rd ρ w k x c/\(f e).key=mkV k c)(hv: ∃c,Rd ρ w v y c/\(f e).val=mkV v c)(hb:(f e).born=e.born):MpR ρ w k v (l.set j (x,y)) (es.modify j f):=by
 refine⟨by simp[h.1],λi q' e' hq' he'=>?_⟩;rw[ayN]at he';by_cases hij:i=j
 ·subst hij;rw[he]at he';simp at he';subst he';rw[List.getElem?_set_self (awH.1 hq).1]at hq';cases hq';obtain⟨_,_,h3⟩:=h.2 i q e hq he;exact⟨hk,hv,by rw[hb,h3]⟩
 ·rw[List.getElem?_set_ne (Ne.symm hij)]at hq';simp[Ne.symm hij]at he';exact h.2 i q' e' hq' he'
theorem Xq {k v:Ty}{x:k.den}{y:v.den} : ∀ {l:List (k.den×v.den)},nH k v l x=none->M8 k v l x y=l++[(x,y)]
 | [],_=>rfl
 |e::l,h=>by
  cases hb:eqF k x e.1
  ·simp only[nH,hb,awW]at h;simp only[M8,hb,awW,Xq h];rfl
  ·simp[nH,hb]at h
theorem Xr {k v:Ty}{x:k.den}{y:v.den} : ∀ {l:List (k.den×v.den)} {z:v.den},nH k v l x=some z->M8 k v l x y=l.set (midx k v l x) (x,y)
 | [],_,h=>by cases h
 |e::l,z,h=>by
  cases hb:eqF k x e.1
  ·simp only[nH,hb,awW]at h;simp only[M8,midx,hb,awW,Xr h];rfl
  ·simp[M8,midx,hb]
include hti in
theorem Mk(hr:aJ B ρ s a w){T:TypeId}{x y z:PV}{vx vy vz:Value}{pv:PV}{u:Upd}(hx:VP ρ w x vx)(hy:VP ρ w y vy)(hz:VP ρ w z vz)(nx:Nat)(h:jd C.ti T x y z s.h (λp u=>some (p,u))=some (pv,u)):
  ∃w',(Instr.mapUpdate T vx vy vz).run P w= .ok () w'/\After B ρ s a w nx pv u 0 undef ρ w':=by
 unfold jd at h;split at h
 ·rename_i kv ix yv hm;have hm:=Dw hti hm;split at h
  ·rename_i key val hkey hval;have hvflat:=hm.ex.choose_spec.choose_spec.choose_spec.2.2.2.2.1;have hkkey:=hm.ex.choose_spec.choose_spec.choose_spec.2.2.2.1;have hkv:=yE hkkey (VR.to hy hkey);subst hkv;obtain⟨c,hc,hcv⟩:=Rd.ofVR hvflat (VR.to hz hval);split at h
   ·rename_i id;obtain⟨loc,hloc,hty,rfl⟩:=VR.mpSome hx;split at h
    ·rename_i k v l ho;split at h
     ·rename_i ee;obtain⟨e1,e2⟩:=ee;subst e1;subst e2;cases h;obtain⟨_,_,es,hes,hb⟩:=hr.live ho (by intro e;cases e) hloc;obtain⟨kT,vT,h1,h2,h3,h3',h4⟩:=Mj hm hes key;have hg:=MapKept.run_getObj_map (P:=P) hb;rcases h4 with⟨h5,_,h6⟩|⟨j,q,e,h5,h6,h7,h8,h9,h10⟩
      ·have hp:=hes.push (x:=key) (y:=val) (e:= { key:=fK kv.1 key,val:=vz,born:=es.length }) ⟨_,Rd.fK hkkey _ _ _,(Ap hkkey (Rd.fK hkkey ρ w key)).2.symm⟩ ⟨c,hc,hcv⟩ rfl;rw[<-Xq h5]at hp;obtain⟨w',h11,h12⟩:=Ct (P:=P) hr ho hloc hb hp nx;refine⟨w',?_,h12⟩;simp only[Instr.mapUpdate,awx,awJ h1,hg,h2,h6,aws];simpa using h11
      ·have hp:=hes.put h5 h6 (x:=key) (y:=val) (f:=λe=> { e with key:=fK kv.1 key,val:=vz }) ⟨_,Rd.fK hkkey _ _ _,(Ap hkkey (Rd.fK hkkey ρ w key)).2.symm⟩ ⟨c,hc,hcv⟩ rfl;rw[<-h8,<-Xr h7]at hp;obtain⟨w',h11,h12⟩:=Ct (P:=P) hr ho hloc hb hp nx;refine⟨w',?_,h12⟩;have hk0:((es.toArray[j]?).map (·.key)).getD (fK kv.1 key)=fK kv.1 key:=by simp[h6,h9]
       simp only[Instr.mapUpdate,awx,awJ h1,hg,h2,h10,aws,hk0,h3',modify_toArray];rw[h8]at h11;simpa using h11
     ·cases h
    ·cases h
   ·cases h
  ·cases h
 ·cases h
include hti in
theorem OE(hr:aJ B ρ s a w){T:TypeId}{x y:PV}{vx vy:Value}{pv:PV}{u:Upd}(hx:VP ρ w x vx)(hy:VP ρ w y vy)(nx:Nat)(h:jW C.ti T x y s.h (λp u=>some (p,u))=some (pv,u)):
  ∃v w',(Instr.mapEntry T vx vy).run P w= .ok v w'/\After B ρ s a w nx pv u 0 v ρ w':=by
 unfold jW at h;split at h
 ·rename_i kv ix hm;have hm:=Dw hti hm;split at h
  ·rename_i key hkey;have hvflat:=hm.ex.choose_spec.choose_spec.choose_spec.2.2.2.2.1;have hkkey:=hm.ex.choose_spec.choose_spec.choose_spec.2.2.2.1;have hkv:=yE hkkey (VR.to hy hkey);subst hkv;split at h
   ·rename_i id;obtain⟨loc,hloc,hty,rfl⟩:=VR.mpSome hx;split at h
    ·rename_i k v l ho;split at h
     ·rename_i ee;obtain⟨e1,e2⟩:=ee;subst e1;subst e2;cases h;obtain⟨_,_,es,hes,hb⟩:=hr.live ho (by intro e;cases e) hloc;obtain⟨kT,vT,h1,h2,h3,h3',h4⟩:=Mj hm hes key;have hg:=MapKept.run_getObj_map (P:=P) hb;rcases h4 with⟨h5,h5',h6⟩|⟨j,q,e,h5,h6,h7,h8,h9,h10⟩
      ·have hp:=hes.push (x:=key) (y:=kv.2.zero) (e:= { key:=fK kv.1 key,val:=mkV kv.2 kv.2.zcells,born:=es.length }) ⟨_,Rd.fK hkkey _ _ _,(Ap hkkey (Rd.fK hkkey ρ w key)).2.symm⟩ ⟨_,Rd.zero _ _ _,rfl⟩ rfl;have hput:a6i kv.1 kv.2 l key=l++[(key,kv.2.zero)]:=by simp[a6i,adz,h5]
       rw[<-hput]at hp;obtain⟨w',h11,h12⟩:=Ct (P:=P) hr ho hloc hb hp nx;refine⟨.tuple #[mkV kv.2 kv.2.zcells,goInt es.length],w',?_,⟨h12.rel,h12.later,⟨[mkV kv.2 kv.2.zcells,goInt es.length],rfl,?_,?_,trivial⟩,h12.same,h12.new⟩⟩
       ·simp only[Instr.mapEntry,awx,awJ h1,hg,h2,h6,h3,aws];have:(setObj loc.blk (.map (es.toArray.push { key:=fK kv.1 key,val:=mkV kv.2 kv.2.zcells,born:=es.length }) (es.length+1))).run P w= .ok () w':=by simpa using h11
        rw[this];rfl
       ·show VR ρ w' ⟨_,(nH kv.1 kv.2 l key).getD _⟩ _;rw[h5];exact VR.ofCells (Rd.zero _ _ _)
       ·show VR ρ w' ⟨.int .i64,((midx kv.1 kv.2 l key:Nat):Int)⟩ _;rw[h5',hes.1];exact VR.mkInt
      ·have hp:=hes.put h5 h6 (x:=q.1) (y:=q.2) (f:=λe=> { e with key:=fK kv.1 key }) (by
        obtain⟨⟨c,hc,hkc⟩,_⟩:=hes.2 j q e h5 h6;exact⟨c,hc,by rw[<-hkc,h9]⟩) (by
        obtain⟨_,⟨c,hc,hvc⟩,_⟩:=hes.2 j q e h5 h6;exact⟨c,hc,hvc⟩) rfl
       have hput:a6i kv.1 kv.2 l key=l:=by simp[a6i,adz,h7]
       have hset:l.set j (q.1,q.2)=l:=by
        apply axO;intro i;by_cases hij:i=j
        ·subst hij;rw[List.getElem?_set_self (awH.1 h5).1,h5]
        ·rw[List.getElem?_set_ne (Ne.symm hij)]
       rw[hset,<-hput]at hp;obtain⟨w',h11,h12⟩:=Ct (P:=P) hr ho hloc hb hp nx;obtain⟨_,⟨c,hc,hvc⟩,hborn⟩:=hes.2 j q e h5 h6;have hk0:((es.toArray[j]?).map (·.key)).getD (fK kv.1 key)=fK kv.1 key:=by simp[h6,h9]
       have hb0:((es.toArray[j]?).map (λx=>(x.born:Int))).getD 0=(j:Int):=by simp[h6,hborn]
       refine⟨.tuple #[e.val,goInt j],w',?_,⟨h12.rel,h12.later,⟨[e.val,goInt j],rfl,?_,?_,trivial⟩,h12.same,h12.new⟩⟩
       ·simp only[Instr.mapEntry,awx,awJ h1,hg,h2,h10,aws,hk0,h3',modify_toArray,hb0];have:(setObj loc.blk (.map (es.modify j λe=> { e with key:=fK kv.1 key }).toArray es.length)).run P w= .ok () w':=by simpa using h11
        rw[this];simp only[aws,hb0];rfl
       ·show VR ρ w' ⟨_,(nH kv.1 kv.2 l key).getD _⟩ _;rw[h7,hvc];exact VR.ofCells (VR.flat hvflat hc)
       ·show VR ρ w' ⟨.int .i64,((midx kv.1 kv.2 l key:Nat):Int)⟩ _;rw[h8];exact VR.mkInt
     ·cases h
    ·cases h
   ·cases h
  ·cases h
 ·cases h
theorem findIdx_born {ρ:Rho}{k v:Ty}{l:List (k.den×v.den)}{es:List MapEntry}(h:MpR ρ w k v l es){n:Nat}(hn:n<es.length):es.toArray.findIdx? (λe=>(e.born:Int)==(n:Int))=some n:=by
 rw[List.findIdx?_toArray,List.findIdx?_eq_some_iff_getElem];have hb: ∀i (hi:i<es.length),es[i].born=i:=λi hi=>by
  have hl:i<l.length:=by rw[h.1];exact hi
  exact(h.2 i l[i] es[i] (awy hl) (awy hi)).2.2
 refine⟨hn,by simp[hb n hn],λj hj=>?_⟩;simp only[hb j (by omega),Bool.not_eq_true,beq_eq_false_iff_ne];omega
include hti in
theorem KY(hr:aJ B ρ s a w){T:TypeId}{x y z:PV}{vx vy vz:Value}{pv:PV}{u:Upd}(hx:VP ρ w x vx)(hy:VP ρ w y vy)(hz:VP ρ w z vz)(nx:Nat)(h:gZ C.ti T x y z s.h (λp u=>some (p,u))=some (pv,u)):
  ∃w',(Instr.entryStore T vx vy vz).run P w= .ok () w'/\After B ρ s a w nx pv u 0 undef ρ w':=by
 unfold gZ at h;split at h
 ·rename_i kv kd n yv hm;have hm:=Dw hti hm;split at h
  ·rename_i val hval;have hvflat:=hm.ex.choose_spec.choose_spec.choose_spec.2.2.2.2.1;have hn:=VR.int hy;subst hn;obtain⟨c,hc,hcv⟩:=Rd.ofVR hvflat (VR.to hz hval);split at h
   ·rename_i id;obtain⟨loc,hloc,hty,rfl⟩:=VR.mpSome hx;split at h
    ·rename_i k v l ho;split at h
     ·rename_i ee;subst ee;cases hib:inb n l.length
      ·rw[hib]at h;cases h
      ·rw[hib]at h;cases h;obtain⟨n1,n2,n3⟩:=zm hib;obtain⟨_,_,es,hes,hb⟩:=hr.live ho (by intro e;cases e) hloc;have hg:=MapKept.run_getObj_map (P:=P) hb;have hlt:n.toNat<es.length:=by rw[<-hes.1];exact n3
       have hq:l[n.toNat]?=some l[n.toNat]:=awy n3;have he:es[n.toNat]?=some es[n.toNat]:=awy hlt;have hp:=hes.put hq he (x:=l[n.toNat].1) (y:=val) (f:=λe=> { e with val:=vz }) (hes.2 _ _ _ hq he).1 ⟨c,hc,hcv⟩ rfl;have hset:l.set n.toNat (l[n.toNat].1,val)=a1Z k kv.2 l n.toNat val:=by
        apply axO;intro i;simp only[a1Z,ayN];by_cases hij:n.toNat=i
        ·subst hij;rw[List.getElem?_set_self n3,hq];simp
        ·rw[List.getElem?_set_ne hij];simp[hij]
       rw[hset]at hp;obtain⟨w',h11,h12⟩:=Ct (P:=P) hr ho hloc hb hp nx;refine⟨w',?_,h12⟩;have hfi:=findIdx_born hes hlt;rw[Int.toNat_of_nonneg n1]at hfi;simp only[Instr.entryStore,awx,hg,aws,asInt,asIntOf,awM,hfi,modify_toArray];simpa using h11
     ·cases h
    ·cases h
   ·cases h
  ·cases h
 ·cases h
theorem Ml: ∀ {t:Ty} {x:t.den} {l:List Nat},(fO t x l).2=l.drop (aQ t).length:=by
 intro t
 induction t with
 |ptr t=>intro x l;cases l<;>rfl
 |pair a b iha ihb=>intro x l;simp only[fO,aQ,iha,ihb,ayB,awS]
 |_=>intro x l;rfl
theorem SC {ρ1 ρ2:Rho}{w:World}(hA:ρ2.A=ρ1.A): ∀ {t:Ty} (_:ED t=true) {x:t.den} {l:List (Nat×Nat)} {cs:List Value},(aQ t).length<=l.length->(∀q∈l,∀loc,ρ1 q.1=some loc->ρ2 q.2=some loc)->
  Rd ρ1 w t (fO t x (l.map Prod.fst)).1 cs->Rd ρ2 w t (fO t x (l.map Prod.snd)).1 cs:=by
 intro t;have any: ∀ {t:Ty} (_:t.nr=true) {x:t.den} {cs:List Value},Rd ρ1 w t x cs->Rd ρ2 w t x cs:=by
  intro t ht x cs h;have h:=h.shutNr ht;have e:ρ2.shut=ρ1.shut:=by unfold Rho.shut;congr 1
  rw[<-e]at h;exact h.openIn
 induction t with
 |ptr t=>
  intro _ x l cs hl h hr;cases l with
  |nil=>simp[aQ]at hl
  |cons q l=>
   obtain⟨v,h1,loc,h2,h3⟩:=hr;exact⟨v,h1,loc,h q (ax9 ..) loc h2,h3⟩
 |pair a b iha ihb=>
  intro hb x l cs hl h hr;simp only[ED,awu]at hb;simp only[aQ,awS]at hl;refine⟨iha hb.1 (by omega) h hr.1,?_⟩;have h2:=hr.2;simp only[fO,Ml,<-List.map_drop]at h2⊢;exact ihb hb.2 (by simp;omega) (λq hq=>h q (List.mem_of_mem_drop hq)) h2
 |sl t=>intro hb;cases hb
 |fn=>intro hb;cases hb
 |sp _=>intro hb;cases hb
 |mp=>intro hb;cases hb
 |int k=>intro hb x l cs _ _ hr;exact any rfl hr
 |bool=>intro hb x l cs _ _ hr;exact any rfl hr
 |str=>intro hb x l cs _ _ hr;exact any rfl hr
 |unit=>intro hb x l cs _ _ hr;exact any rfl hr
 |st t=>intro hb x l cs _ _ hr;exact any (t:=.st t) rfl hr
 |arr n t=>intro hb x l cs _ _ hr;exact any (t:=.arr n t) hb hr
theorem a2j {t:Ty}(h:ED t=true):t.head=none:=by
 unfold Ty.head;split
 ·simp[ED,Ty.nr]at h
 ·simp[ED,Ty.nr]at h
 ·rfl
theorem aaF {t:Ty}(h:t.nr=true):t.head=none:=by
 unfold Ty.head;split
 ·simp[Ty.nr]at h
 ·simp[Ty.nr]at h
 ·rfl
theorem a3X {t:Ty}(h:t.head=none)(b:Nat)(T:TypeId)(cs:List Value):a2a t b T cs:=λT0 e=>by rw[h]at e;cases e
theorem Xt: ∀ {t:Ty},ED t=true-> ∀u∈aQ t,u.nr=true:=by
 intro t
 induction t with
 |ptr t=>intro hb u hu;simp only[aQ,axI]at hu;subst hu;exact hb
 |pair a b iha ihb=>
  intro hb u hu;simp only[ED,awu]at hb;simp only[aQ,axo]at hu;exact hu.elim (iha hb.1 u) (ihb hb.2 u)
 |_=>intro hb u hu;cases hu
theorem zi.length {ρ:Rho}{w:World} : ∀ {l:List Ty} {y:lC l} {bs:List Nat},zi ρ w l y bs->bs.length=l.length
 | [],_,[],_=>rfl
 |_::_,_,_::_,h=>by simp only[axH];rw[zi.length h.2]
 | [],_,_::_,h=>h.elim
 |_::_,_,[],h=>h.elim
theorem Yp {ρ:Rho}{w:World} : ∀ {l:List Ty} {y:lC l} {bs:List Nat} {i:Nat},zi ρ w l y bs-> ∀id o,look (vX l y i) id=some o->
  ∃(j:Nat) (u:Ty) (x:u.den) (b:Nat),id=i+j/\o= .obj u x/\l[j]?=some u/\bs[j]?=some b/\Xm ρ.shut w u x b:=by
 intro l
 induction l with
 |nil=>intro y bs i _ id o h;cases h
 |cons t l ih=>
  intro y bs i h id o ho;cases bs with
  |nil=>exact h.elim
  |cons b bs=>
   simp only[vX]at ho;rw[aH]at ho;split at ho
   ·rename_i e;subst e;cases ho;exact⟨0,t,y.1,b,rfl,rfl,rfl,rfl,h.1⟩
   ·obtain⟨j,u,x,b',h1,h2,h3,h4,h5⟩:=ih h.2 id o ho;exact⟨j+1,u,x,b',by omega,h2,by simpa using h3,by simpa using h4,h5⟩
theorem aJ.swap {id:Nat}{o o':PO}{hp:List (Nat×PO)}(h:aJ B ρ { s with hp:=(id,o)::hp } a w){loc:Loc}(hl:ρ id=some loc)(hd:o≠ .dead)(hor:OR ρ w loc o')
  (hbag: ∀k t l out,o'= .bag k t l out->KS ρ w loc.blk k t l out λ_=>False):aJ B ρ { s with hp:=(id,o')::hp } a w:=by
 have lk: ∀i x,look ((id,o')::hp) i=some x->(i=id/\x=o')\/(i≠id/\look ((id,o)::hp) i=some x):=by
  intro i x hx;rw[aH]at hx;split at hx
  ·rename_i e;cases hx;exact .inl ⟨e.symm,rfl⟩
  ·rename_i e;exact .inr ⟨Ne.symm e,by rw[aH,awG e];exact hx⟩
 have l0:look ((id,o)::hp) id=some o:=by rw[aH,awQ rfl]
 have ex: ∀i x,look ((id,o')::hp) i=some x->x≠ .dead-> ∃x',look ((id,o)::hp) i=some x'/\x'≠ .dead:=by
  intro i x hx hx0;rcases lk i x hx with⟨rfl,_⟩|⟨_,h2⟩
  ·exact⟨_,l0,hd⟩
  ·exact⟨_,h2,hx0⟩
 obtain⟨F,hF⟩:=h.hid;refine⟨h.defers,h.tmps,h.env,λi x hx=>?_,λi i' x x' c c' h1 h2 d1 d2 h3 h4 h5=>?_,h.own,h.ownA,h.base,h.may,λi b=>i≠id/\F i b,?_⟩
 ·rcases lk i x hx with⟨rfl,rfl⟩|⟨_,h2⟩
  ·exact .inr ⟨loc,hl,hor⟩
  ·exact h.obj i x h2
 ·obtain⟨y,g1,g2⟩:=ex i x h1 d1;obtain⟨y',g3,g4⟩:=ex i' x' h2 d2;exact h.inj i i' y y' c c' g1 g3 g2 g4 h3 h4 h5
 ·refine⟨λi k t l out c h1 h2=>?_,λi x c b h1 h2 h3 h4=>?_,λi x c b i' x' c' h1 h2 h3 h4 h5 h6 h7=>?_,λi i' x x' c c' b h1 h2 h3 h4 h5 h6 h7 h8=>?_⟩
  ·rcases lk i _ h1 with⟨rfl,h3⟩|⟨hne,h3⟩
   ·rw[hl]at h2;cases h2;exact(hbag k t l out h3.symm).mono λb hb=>hb.elim
   ·exact(hF.val i k t l out c h3 h2).mono λb hb=>⟨hne,hb⟩
  ·rcases lk i _ h1 with⟨rfl,_⟩|⟨_,h5⟩
   ·exact absurd rfl h4.1
   ·exact hF.own i x c b h5 h2 h3 h4.2
  ·rcases lk i _ h1 with⟨rfl,_⟩|⟨_,h8⟩
   ·exact absurd rfl h4.1
   ·obtain⟨y,g1,g2⟩:=ex i' x' h5 h6;exact hF.dis i x c b i' y c' h8 h2 h3 h4.2 g1 g2 h7
  ·rcases lk i _ h1 with⟨rfl,_⟩|⟨_,g1⟩
   ·exact absurd rfl h7.1
   ·rcases lk i' _ h4 with⟨rfl,_⟩|⟨_,g2⟩
    ·exact absurd rfl h8.1
    ·exact hF.sep i i' x x' c c' b g1 h2 h3 g2 h5 h6 h7.2 h8.2
theorem ZR {ti:List (Nat×TI)}{T:TypeId}{kt:Ty×Ty}(h:M9 ti T=some kt):ED kt.2=true/\kt.1.key=true/\(aQ kt.2).length<=7:=by
 unfold M9 at h;split at h
 ·split at h
  ·split at h
   ·split at h
    ·rename_i t _;generalize hb:(_&&_)=b at h;cases b
     ·cases h
     ·cases h;simp only[awu]at hb;exact⟨hb.1.2,hb.1.1,awN hb.2⟩
    ·cases h
   ·cases h
  ·cases h
 ·cases h
theorem Ri(hr:aJ B ρ s a w){T:TypeId}{r:Ans}(nx:Nat)(hn:ρ nx=none)(h:rX C.ti T nx pk=some r):
  ∃ρ' v w',(Instr.makeMap T none).run P w= .ok v w'/\After B ρ s a w nx r.1 r.2.1 r.2.2 v ρ' w':=by
 unfold rX at h;split at h
 ·rename_i kt hm;cases h;obtain⟨ρ',h1,h2,h3,h4⟩:=hr.allocO nx hn (.mp kt.1 .unit []) (.map #[] 0) .mp none
   (λρ' w' L hW hb=>⟨rfl,hW,[],⟨rfl,λj q e hq=>by simp at hq⟩,hb⟩) (w.alloc (.map #[] 0)) rfl rfl rfl rfl
  have hW:ρ'.W w.heap.size:=(h1.live (id:=nx) (o:=.mp kt.1 .unit []) (by rw[aH,awQ rfl]) (by intro e;cases e) h3).2.1;have h5:=h1.swap (o':=.bag kt.1 kt.2 [] none) h3 (by intro e;cases e) ⟨rfl,hW⟩ (λk t l out e=>by cases e;exact⟨(ZR hm).1,[],λ_=>[],(by show(w.heap.push _)[w.heap.size]?=_;simp),rfl,λj q e hq=>by simp at hq,λj b hb=>by simp at hb,λj j' b hb=>by simp at hb⟩);refine⟨ρ',.map (some w.heap.size),w.alloc (.map #[] 0),?_,⟨h5,h2,⟨[_],⟨_,h3,rfl,rfl⟩,rfl⟩,EF h4,λe=>absurd e Nat.one_ne_zero⟩⟩;rfl
 ·split at h
  ·rename_i kv hm;cases h;obtain⟨ρ',h1,h2,h3,h4⟩:=hr.allocO nx hn (.mp kv.1 kv.2 []) (.map #[] 0) .mp none
    (λρ' w' L hW hb=>⟨rfl,hW,[],⟨rfl,λj q e hq=>by simp at hq⟩,hb⟩) (w.alloc (.map #[] 0)) rfl rfl rfl rfl
   refine⟨ρ',.map (some w.heap.size),w.alloc (.map #[] 0),?_,⟨h1,h2,⟨[_],⟨_,h3,rfl,rfl⟩,rfl⟩,EF h4,λe=>absurd e Nat.one_ne_zero⟩⟩;rfl
  ·cases h
theorem Yq(hti:wL P C.ti)(hr:aJ B ρ s a w){Ts:Array TypeId}{ty:TypeId}{x:PV}{vx:Value}{pv:PV}(hx:VP ρ w x vx)(h:Bu C.ti ty x s.h some=some pv):
  ∃v w',(Builtin.unsafeSliceData_ Ts ty #[vx]).run P w= .ok v w'/\(aJ B ρ s a w'/\Later ρ w ρ w')/\VP ρ w' pv v:=by
 unfold Bu at h;split at h
 ·rename_i i hi;have hu:=hti.under ty i hi;split at h
  ·rename_i e t hd;cases h;have e:=VR.slNil hx;subst e;exact⟨_,w,rfl,⟨hr,Later.refl _ _⟩,none,rfl,λh=>by cases h⟩
  ·rename_i e t id n hd;split at h
   ·rename_i sh e0 t0 k f ho;cases h;rw[hd]at hu;rcases VR.slMs hx with⟨h0,rfl⟩|⟨loc,m,cap,o,hloc,hok,hat,hle,rfl,ho',hlc,hcap⟩
    ·subst h0;exact⟨_,w,rfl,⟨hr,Later.refl _ _⟩,none,rfl,λh=>by cases h⟩
    ·rw[Ty.at_nil]at hat;have hty:loc.ty= .arr m t:=axm hat;obtain⟨_,_,cs,sp,_,⟨fr,hb,_⟩,_⟩:=hr.live ho (by intro e;cases e) hloc;have fact:0<n->(some ⟨loc.blk,o,none⟩:Option Addr)=some ⟨loc.blk,0,none⟩:=λh=>by have:=ho' h;rw[Ty.off_nil]at this;simp at this;rw[this]
     by_cases hc:cap=0
     ·subst hc;have hn0:n=0:=by omega
      subst hn0;have hs:=hr.same (w':=w.alloc (.view ⟨loc.blk,o,none⟩ e)) (by simp only[World.alloc,Array.size_push];omega) (λb hb=>by simp only[World.alloc,ay9];rw[awG (by omega)]) rfl rfl rfl (λa ha=>by simp only[World.frozen?,World.alloc,ay9];rw[awG (by omega)]);exact⟨_,_,Lib.run_unsafeSliceData_zero w Ts ty e hu _ 0 (e0,(cs++sp).toArray.size) (by simp only[World.shape?,hb]),hs,_,rfl,λh=>by cases h⟩
     ·refine⟨.pointer (some ⟨loc.blk,o,none⟩),w,?_,⟨hr,Later.refl _ _⟩,_,rfl,λh=>⟨loc,m,t,hloc,hty,by omega,fact h⟩⟩;exact Lib.run_unsafeSliceData_row w Ts ty _ n cap hc
   ·cases h
  ·cases h
 ·cases h
theorem Mq {P:Program}{w:World} : ∀(l:List Int) (a:Addr) (acc:ByteArray),(∀(j:Nat) x,l[j]?=some x->w.cell? (a.add j)=some (.int .u8 x))->
  (loadBytes a acc l.length).run P w= .ok ⟨acc.data++(l.map λx=>UInt8.ofNat x.toNat).toArray⟩ w
 | [],a,acc,_=>by simp[loadBytes]
 |x::l,a,acc,h=>by
  have h0:w.cell? a=some (.int .u8 x):=by have:=h 0 x rfl;simpa [Addr.add]using this
  have ih:=Mq (P:=P) (w:=w) l (a.add 1) (acc.push (UInt8.ofNat x.toNat)) (λj y hy=>by
   have:=h (j+1) y (by simpa using hy);have e:(a.add 1).add j=a.add (j+1):=by
    unfold Addr.add;by_cases hj:j=0
    ·subst hj;simp
    ·simp[hj];omega
   rw[e];exact this)
  simp only[axH,loadBytes,awx,run_load,h0,Result.andThen];rw[show x.toNat.toUInt8=UInt8.ofNat x.toNat from rfl,ih]
  congr 1
  apply ByteArray.ext;simp[ByteArray.push]
theorem Ww(w:World)(a:Addr)(n:Nat):(w.freeze a n).os=w.os/\(w.freeze a n).tape=w.tape/\(w.freeze a n).output=w.output/\(w.freeze a n).heap.size=w.heap.size/\ ∀b,b≠a.block->(w.freeze a n).heap[b]?=w.heap[b]?:=by
 unfold World.freeze;split
 ·exact⟨rfl,rfl,rfl,rfl,λ_ _=>rfl⟩
 ·refine⟨rfl,rfl,rfl,by simp,λb hb=>?_⟩;simp only[ayH];rw[awG (Ne.symm hb)]
theorem Yr(hti:wL P C.ti)(hr:aJ B ρ s a w){T:TypeId}{Ts:Array TypeId}(hT:Ts[0]?=some T){ty:TypeId}{x y:PV}{vx vy:Value}{pv:PV}{u:Upd}(hx:VP ρ w x vx)(hy:VP ρ w y vy)(nx:Nat)(h:Bv C.ti T x y s.h (λp u=>some (p,u))=some (pv,u)):
  ∃v w',(Builtin.unsafeString_ Ts ty #[vx,vy]).run P w= .ok v w'/\After B ρ s a w nx pv u 0 v ρ w':=by
 have hmax:IntKind.i64.max=9223372036854775807:=rfl;unfold Bv at h;split at h
 ·rename_i i hi;have hu:=hti.under T i hi;split at h
  ·rename_i e id n m hd;rw[hd]at hu;have e1:=VR.int hy;subst e1;cases hb:decide (m=(n:Int))&&Nat.ble n 9223372036854775807
   ·rw[hb]at h;cases h
   ·rw[hb]at h;simp only[awL]at h;simp only[awu,awI]at hb;obtain⟨rfl,hb2⟩:=hb;have hb2:=awN hb2;obtain⟨p,rfl,hp⟩:=hx;have none0:n=0->(Builtin.unsafeString_ Ts ty #[.pointer p,.int .i64 (n:Int)]).run P w= .ok (.string .empty) w:=by
     intro h0;subst h0;cases p with
     |none=>
      show(asInt (.int .i64 ((0:Nat):Int))>>= _:Sem Value).run P w=_;simp[asInt,asIntOf,hmax,hT]
     |some a=>
      show(asInt (.int .i64 ((0:Nat):Int))>>= _:Sem Value).run P w=_;simp[asInt,asIntOf,hmax,hT]
    split at h
    ·rename_i sh e' k f ho;cases hb3:Nat.beq e' e&&Oy C.ti e
     ·rw[hb3]at h;cases h
     ·rw[hb3]at h;cases h;simp only[awu]at hb3;have:=ax0 hb3.1;subst this;rcases axd n with h0|h0
      ·subst h0;refine⟨_,w,none0 rfl,⟨hr.kill id,Later.refl _ _,?_,λ_ _=>rfl,λ_=>rfl⟩⟩;exact VR.mkStr
      ·obtain⟨loc,m,t,hloc,hty,hnm,rfl⟩:=hp h0;obtain⟨e1,hW,cs,sp,hcs,⟨fr,hblk,_⟩,cap,_,hlen,hkc,hcm⟩:=hr.live ho (by intro e;cases e) hloc;rw[hty]at e1;have ekm:m=k:=by cases e1;rfl
       subst ekm;have hby:=Rd.bytes hcs.openAt;have hcl:cs.length=m:=by rw[hcs.1];simp[Ty.size]
       have hu8:=KX hti hb3.2;obtain⟨j,hj⟩: ∃j,look C.ti e'=some j:=by
        have:=hb3.2;unfold Oy at this;split at this
        ·rename_i j hj;exact⟨j,hj⟩
        ·cases this
       have hjd:j.desc= .int .u8:=by have h1:=hti.under e' j hj;rw[hu8]at h1;exact(axm h1).symm
       have hjs:j.ty.size=1:=by have:=hti.shape e' j hj;unfold kM at this;rw[hjd]at this;simp only at this;rw[this];rfl
       have hcell1:P.cellsOf e'=1:=by obtain⟨inf,h1,h2,_⟩:=hti.info e' j hj;simp[Program.cellsOf,h1,h2,hjs]
       have hload:=Mq (P:=P) (w:=w) ((List.range n).map f) ⟨loc.blk,0,none⟩ .empty (λq x hq=>by
        rw[fU,cell_of_row w _ _ _ _ _ hblk];simp only[axk,axr]at hq;obtain⟨q',h1,rfl⟩:=hq;have hlt:q<n:=by have:=(awH.1 h1).1;simpa using this
        have e2:q'=q:=by have:=(awH.1 h1).2;simpa using this.symm
        subst e2;simp only[axR,awR];rw[awY (by omega),hby];simp[show q'<m by omega])
       simp only[List.length_map,List.length_range]at hload;obtain⟨f1,f2,f3,f4,f5⟩:=Ww w ⟨loc.blk,0,none⟩ n;obtain⟨h5,h6⟩:=hr.spoil ho (by intro e;cases e) hloc (w.freeze ⟨loc.blk,0,none⟩ n) f4 f5 f1 f2 f3;refine⟨.string (bytesOf n f),_,?_,⟨h5,h6,VR.mkStr,λ_ _=>rfl,λ_=>rfl⟩⟩;show(asInt (.int .i64 ((n:Nat):Int))>>= _:Sem Value).run P w=_;have hlies:=Lib.liesAt_bytes (P:=P) hcell1 ((cs++sp).toArray.size/P.cellsOf e') n (by rw[hcell1];simp;omega);have hsh:w.shape? loc.blk=some (e',(cs++sp).toArray.size):=by simp only[World.shape?,hblk]
       have hneg: ¬(n:Int)<0:=by omega
       have hgt: ¬(9223372036854775807:Int)<(n:Int):=by omega
       have hne: ¬n=0:=by omega
       have hbo:(⟨ByteArray.empty.data++((List.range n).map f|>.map λx=>UInt8.ofNat x.toNat).toArray⟩:ByteArray)=bytesOf n f:=by unfold bytesOf;simp[List.map_map]
       rw[hbo]at hload;simp only[asInt,asIntOf,hmax,hT,awx,awM,aws,ayQ,hneg,hgt,ay4,Int.ofNat_eq_zero,Int.natCast_eq_zero,hne,awz,elemOf,awJ hu,variablesAt,run_shape,hsh,hlies,run_freeze,hload,axV,run_program]
    ·cases hb3:Nat.beq n 0
     ·rw[hb3]at h;cases h
     ·rw[hb3]at h;cases h;exact⟨_,w,none0 (ax0 hb3),After.pure hr VR.mkStr⟩
  ·cases h
 ·cases h
end
section
variable {P:Program} {C:Cx} (hti:wL P C.ti) {B:Base} {ρ:Rho} {s:DS} {a:Act} {w:World}
theorem OG {α:Type} : ∀ {l l':List (Nat×α)} {i:Nat},look l i=none->look (l++l') i=look l' i:=by
 intro l
 induction l with
 |nil=>intro l' i _;rfl
 |cons q l ih=>
  intro l' i h;obtain⟨k,v⟩:=q;rw[aH]at h;rw[ayv,aH];split at h
  ·cases h
  ·rename_i e;rw[awG e];exact ih h
theorem OH {α:Type} : ∀ {l l':List (Nat×α)} {i:Nat} {x:α},look l i=some x->look (l++l') i=some x:=by
 intro l
 induction l with
 |nil=>intro l' i x h;cases h
 |cons q l ih=>
  intro l' i x h;obtain⟨k,v⟩:=q;rw[aH]at h;rw[ayv,aH];split at h
  ·rename_i e;rw[awQ e];exact h
  ·rename_i e;rw[awG e];exact ih h
theorem Yt: ∀ {l:List Ty} {y:lC l} {i id:Nat},look (vX l y i) id=none->id<i\/i+l.length<=id:=by
 intro l
 induction l with
 |nil=>intro y i id _;simp;omega
 |cons t l ih=>
  intro y i id h;simp only[vX]at h;rw[aH]at h;split at h
  ·cases h
  ·rename_i e;rcases ih h with h1|h1
   ·exact .inl (by omega)
   ·exact .inr (by simp only[axH];omega)
theorem aJ.bagOut(h:aJ B ρ s a w){id:Nat}{k t:Ty}{l:List (k.den×(t.den×lC (aQ t)))}(ho:look s.hp id=some (.bag k t l none)){loc:Loc}(hl:ρ id=some loc)
  {j:Nat} {key:k.den} {y:t.den×lC (aQ t)} (hj:l[j]?=some (key,y)) (nx:Nat) (hn: ∀i,nx<=i->i<nx+(1+(aQ t).length)->ρ i=none):
  ∃(ρ':Rho) (es:List MapEntry) (e:MapEntry),w.heap[loc.blk]?=some (.map es.toArray es.length)/\l.length=es.length/\(∀(i:Nat) q e,l[i]?=some q->es[i]?=some e->(∃c,Rd ρ.shut w k q.1 c/\e.key=mkV k c)/\e.born=i)/\es[j]?=some e/\
   aJ B ρ' { s with hp:=(Aj t y nx++[(id,.bag k t l (some (j,nx)))])++s.hp } a w/\Later ρ w ρ' w/\VR ρ' w ⟨.ptr t,.rf nx []⟩ e.val/\ ∀i,i<nx\/nx+(1+(aQ t).length)<=i->ρ' i=ρ i:=by
 obtain⟨F,hF⟩:=h.hid;obtain⟨hok,es,G,hb,hlen,hent,hGF,hGd⟩:=hF.val id k t l none loc ho hl;have hjl:=(awH.1 hj).1;obtain⟨e,he⟩: ∃e,es[j]?=some e:=⟨es[j]'(by omega),awy (by omega)⟩;obtain⟨hkey,hborn,hsm⟩:=hent j (key,y) e hj he;obtain⟨b0,bs,hG,hnd,hv,ho0,hos⟩:Small ρ w t y (G j) e.val:=hsm;have hlb:=hos.length;have hnd':=ay0.1 (hG▸hnd);let N:Nat->Option Loc:=λi=>if i=nx then some ⟨b0,t,none⟩else if nx<i then(Yf ρ (aQ t) bs) (i-(nx+1))else none
 have hN0:N nx=some ⟨b0,t,none⟩:=awQ rfl;have hN1: ∀(i:Nat) u b,(aQ t)[i]?=some u->bs[i]?=some b->N (nx+1+i)=some ⟨b,u,none⟩:=by intro i u b h1 h2;show(if _ then _ else if _ then _ else _)=_;rw[awG (by omega),awQ (by omega),show nx+1+i-(nx+1)=i by omega];show(match(aQ t)[i]?,bs[i]? with|some t,some b=>some (Loc.mk b t none)|_,_=>none)=_;rw[h1,h2]
 have hNr: ∀i c,N i=some c->nx<=i/\i<nx+(1+(aQ t).length)/\c.blk∈G j:=by
  intro i c hi;change (if _ then _ else if _ then _ else _)=_ at hi;split at hi
  ·rename_i e1;subst e1;cases hi;exact⟨ax2 _,by omega,by rw[hG];exact ax9 ..⟩
  ·split at hi
   ·change (match(aQ t)[i-(nx+1)]?,bs[i-(nx+1)]? with|some t,some b=>some (Loc.mk b t none)|_,_=>none)=_ at hi;split at hi
    ·rename_i u b h1 h2;cases hi;have:=(awH.1 h1).1;exact⟨by omega,by omega,by rw[hG];exact ax8 _ (axy h2)⟩
    ·cases hi
   ·cases hi
 have hNd: ∀i i' c c',N i=some c->N i'=some c'->c.blk=c'.blk->i=i':=by
  intro i i' c c' hi hi' hc;have key: ∀i c,N i=some c->(i=nx/\c.blk=b0)\/ ∃n:Nat,i=nx+1+n/\bs[n]?=some c.blk:=by
   intro i c hi;change (if _ then _ else if _ then _ else _)=_ at hi;split at hi
   ·rename_i e1;cases hi;exact .inl ⟨e1,rfl⟩
   ·split at hi
    ·change (match(aQ t)[i-(nx+1)]?,bs[i-(nx+1)]? with|some t,some b=>some (Loc.mk b t none)|_,_=>none)=_ at hi;split at hi
     ·rename_i h2;cases hi;exact .inr ⟨i-(nx+1),by omega,h2⟩
     ·cases hi
    ·cases hi
  rcases key i c hi with⟨rfl,h1⟩|⟨n,rfl,h1⟩<;>rcases key i' c' hi' with⟨rfl,h2⟩|⟨n',rfl,h2⟩
  ·rfl
  ·rw[<-hc,h1]at h2;exact absurd (axy h2) hnd'.1
  ·rw[hc,h2]at h1;exact absurd (axy h1) hnd'.1
  ·rw[<-hc]at h2;obtain⟨q1,q2⟩:=awH.1 h1;obtain⟨q3,q4⟩:=awH.1 h2;have pw:=ayp.1 hnd'.2;rcases Nat.lt_trichotomy n n' with hlt|rfl|hgt
   ·exact absurd (q2.trans q4.symm) (pw n n' q1 q3 hlt)
   ·rfl
   ·exact absurd (q4.trans q2.symm) (pw n' n q3 q1 hgt)
 let ρ':Rho:=⟨λi=>match N i with|some c=>some c|none=>ρ i,ρ.W,ρ.A,ρ.sub⟩;have hρN: ∀i c,N i=some c->ρ' i=some c:=λi c hi=>by show(match N i with|some c=>some c|none=>ρ i)=_;rw[hi]
 have hρo: ∀i,N i=none->ρ' i=ρ i:=λi hi=>by show(match N i with|some c=>some c|none=>ρ i)=_;rw[hi]
 have hρ: ∀i c,ρ i=some c->ρ' i=some c:=λi c hi=>by
  cases hNi:N i with
  |none=>rw[hρo i hNi];exact hi
  |some c'=>
   obtain⟨h1,h2,_⟩:=hNr i c' hNi;rw[hn i h1 h2]at hi;cases hi
 have L:Later ρ w ρ' w:=⟨ax2 _,hρ,λ_ h=>.inl h,λ_ h=>.inl h,λ_ _ h _=>h,λ_ _ _=>rfl⟩;have hFj: ∀b∈G j,F id b:=λb hm=>hGF j b hm
 have own:=λb hm=>hF.own id _ loc b ho rfl hl (hFj b hm)
 have hobj0:OR ρ' w ⟨b0,t,none⟩ (.obj t (fO t y.1 (List.range' (nx+1) (aQ t).length)).1):=by
  obtain⟨cs,T,h1,h2⟩:=ho0;refine⟨rfl,(own b0 (by rw[hG];exact ax9 ..)).1,cs,T,?_,h2,a3X (a2j hok) _ _ _⟩;have:=SC (ρ1:=Yf ρ (aQ t) bs) (ρ2:=ρ') rfl hok (x:=y.1) (l:=(List.range (aQ t).length).map λi=>(i,nx+1+i)) (cs:=cs) (by simp) (λq hq c hc=>by
   simp only[ayP,ayo]at hq;obtain⟨i,hi,rfl⟩:=hq;change (match(aQ t)[i]?,bs[i]? with|some t,some b=>some (Loc.mk b t none)|_,_=>none)=_ at hc;split at hc
   ·rename_i u b h3 h4;cases hc;exact hρN _ _ (hN1 i u b h3 h4)
   ·cases hc) (by simpa [List.map_map,Function.comp_def]using h1)
  have e2:((List.range (aQ t).length).map λi=>(i,nx+1+i)).map Prod.snd=List.range' (nx+1) (aQ t).length:=by
   rw[List.map_map];have:(Prod.snd∘λi=>(i,nx+1+i))=λi=>nx+1+i:=rfl
   rw[this,<-List.range'_eq_map_range]
  rw[e2]at this;exact this
 have hlk: ∀i o,look ((Aj t y nx++[(id,PO.bag k t l (some (j,nx)))])++s.hp) i=some o->
   (∃c,N i=some c/\OR ρ' w c o/\o.isBag=false/\o≠ .dead)\/(N i=none/\i=id/\o= .bag k t l (some (j,nx)))\/(N i=none/\i≠id/\look s.hp i=some o):=by
  intro i o hi;have hidN:N id=none:=by
   cases hNi:N id with
   |none=>rfl
   |some c=>obtain⟨h1,h2,_⟩:=hNr id c hNi;rw[hn id h1 h2]at hl;cases hl
  have e0:(Aj t y nx++[(id,PO.bag k t l (some (j,nx)))])++s.hp=(nx,.obj t (fO t y.1 (List.range' (nx+1) (aQ t).length)).1)::(vX (aQ t) y.2 (nx+1)++((id,PO.bag k t l (some (j,nx)))::s.hp)):=by simp[Aj]
  rw[e0,aH]at hi;split at hi
  ·rename_i e1;subst e1;cases hi;exact .inl ⟨_,hN0,hobj0,rfl,by intro e;cases e⟩
  ·rename_i e1;cases hs:look (vX (aQ t) y.2 (nx+1)) i with
   |some o'=>
    rw[OH hs]at hi;cases hi;obtain⟨n,u,x,b,rfl,rfl,h3,h4,cs,T,h5,h6⟩:=Yp hos i o hs;have hm:b∈G j:=by rw[hG];exact ax8 _ (axy h4)
    refine .inl ⟨_,hN1 n u b h3 h4,⟨rfl,(own b hm).1,cs,T,?_,h6,a3X (aaF (Xt hok u (axy h3))) _ _ _⟩,rfl,by intro e;cases e⟩;exact Rd.openIn (ρ:=ρ') h5
   |none=>
    rw[OG hs,aH]at hi;split at hi
    ·rename_i e2;subst e2;cases hi;exact .inr (.inl ⟨hidN,rfl,rfl⟩)
    ·rename_i e2;cases hNi:N i with
     |none=>exact .inr (.inr ⟨rfl,Ne.symm e2,hi⟩)
     |some c=>
      obtain⟨h1,h2,_⟩:=hNr i c hNi;rcases Yt hs with h3|h3
      ·omega
      ·omega
 refine⟨ρ',es,e,hb,hlen,λi q e hq he=>⟨(hent i q e hq he).1,(hent i q e hq he).2.1⟩,he,⟨h.defers,h.tmps,λt' pv hl'=>?_,λi o hi=>?_,λi i' o o' c c' h1 h2 d1 d2 h3 h4 h5=>?_,λi c hi=>?_,h.ownA,h.base,h.may,?_⟩,L,?_,λi hi=>?_⟩
 ·obtain⟨v,h1,h2⟩:=h.env t' pv hl';exact⟨v,h1,h2.later L⟩
 ·rcases hlk i o hi with⟨c,h1,h2,_⟩|⟨_,rfl,rfl⟩|⟨h1,_,h2⟩
  ·exact .inr ⟨c,hρN i c h1,h2⟩
  ·exact .inr ⟨loc,hρ _ _ hl,(h.live ho (by intro e;cases e) hl)⟩
  ·rcases h.obj i o h2 with h3|⟨c,h3,h4⟩
   ·rw[hρo i h1];exact .inl h3
   ·exact .inr ⟨c,hρ _ _ h3,h4.later L (.inl rfl) rfl⟩
 ·
  have old: ∀i o c,look ((Aj t y nx++[(id,PO.bag k t l (some (j,nx)))])++s.hp) i=some o->o≠ .dead->N i=none->ρ' i=some c-> ∃o',look s.hp i=some o'/\o'≠ .dead/\ρ i=some c:=by
   intro i o c hi hd hNi hc;rw[hρo i hNi]at hc;rcases hlk i o hi with⟨c,h1,_⟩|⟨_,rfl,rfl⟩|⟨_,_,h2⟩
   ·rw[hNi]at h1;cases h1
   ·exact⟨_,ho,(by intro e;cases e),hc⟩
   ·exact⟨o,h2,hd,hc⟩
  cases hNi:N i with
  |some q=>
   rw[hρN i q hNi]at h3;cases h3;cases hNi':N i' with
   |some q'=>
    rw[hρN i' q' hNi']at h4;cases h4;exact hNd i i' c c' hNi hNi' h5
   |none=>
    obtain⟨o2,g1,g2,g3⟩:=old i' o' c' h2 d2 hNi' h4;exact absurd h5.symm (hF.dis id _ loc _ i' o2 c' ho rfl hl (hFj _ (hNr i c hNi).2.2) g1 g2 g3)
  |none=>
   obtain⟨o1,f1,f2,f3⟩:=old i o c h1 d1 hNi h3;cases hNi':N i' with
   |some q'=>
    rw[hρN i' q' hNi']at h4;cases h4;exact absurd h5 (hF.dis id _ loc _ i o1 c ho rfl hl (hFj _ (hNr i' c' hNi').2.2) f1 f2 f3)
   |none=>
    obtain⟨o2,g1,g2,g3⟩:=old i' o' c' h2 d2 hNi' h4;exact h.inj i i' o1 o2 c c' f1 g1 f2 g2 f3 g3 h5
 ·cases hNi:N i with
  |some q=>rw[hρN i q hNi]at hi;cases hi;exact(own _ (hNr i c hNi).2.2).2
  |none=>rw[hρo i hNi]at hi;exact h.own i c hi
 ·refine⟨λi b=>F i b/\ ¬(i=id/\b∈G j),λi k' t' l' out' c h1 h2=>?_,λi o c b h1 h2 h3 h4=>?_,λi o c b i' o' c' h1 h2 h3 h4 h5 h6 h7=>?_,λi i' o o' c c' b h1 h2 h3 h4 h5 h6 h7 h8=>?_⟩
  ·rcases hlk i _ h1 with⟨_,_,_,h3,_⟩|⟨hNi,rfl,h3⟩|⟨hNi,hne,h3⟩
   ·cases h3
   ·cases h3;rw[hρo _ hNi,hl]at h2;cases h2;refine⟨hok,es,λi=>if i=j then []else G i,hb,hlen,λi q e' hq he'=>?_,λi b hm=>?_,λi i' b hm hm'=>?_⟩
    ·obtain⟨g1,g2,g3⟩:=hent i q e' hq he';refine⟨⟨g1.choose,g1.choose_spec.1.later (ρ:=ρ.shut) (ρ':=ρ.shut) (Later.refl _ _),g1.choose_spec.2⟩,g2,?_⟩;unfold Al;simp only;split
     ·rename_i e1;subst e1;rw[he]at he';cases he';rw[awQ rfl];exact⟨rfl,_,hρN _ _ hN0,rfl,rfl,hv⟩
     ·rename_i e1;rw[awG (Ne.symm e1)];exact Small.keeps L.keeps (λ_ _=>rfl) g3
    ·change b∈(if i=j then []else G i)at hm;split at hm
     ·cases hm
     ·rename_i e1;exact⟨hGF i b hm,λ⟨_,h⟩=>e1 (hGd i j b hm h)⟩
    ·change b∈(if i=j then []else G i)at hm;change b∈(if i'=j then []else G i')at hm';split at hm
     ·cases hm
     ·split at hm'
      ·cases hm'
      ·exact hGd i i' b hm hm'
   ·rw[hρo _ hNi]at h2;exact((hF.val i k' t' l' out' c h3 h2).keeps L.keeps rfl λ_ _=>rfl).mono λb hb=>⟨hb,λh=>hne h.1⟩
  ·rcases hlk i _ h1 with⟨_,_,_,h5,_⟩|⟨hNi,rfl,h5⟩|⟨hNi,hne,h5⟩
   ·rw[h2]at h5;cases h5
   ·rw[hρo _ hNi]at h3;exact hF.own _ _ c b ho rfl h3 h4.1
   ·rw[hρo _ hNi]at h3;exact hF.own i o c b h5 h2 h3 h4.1
  ·
   have hb0: ∃o0 c0,look s.hp i=some o0/\o0.isBag=true/\ρ i=some c0:=by
    rcases hlk i _ h1 with⟨_,_,_,h8,_⟩|⟨hNi,rfl,h8⟩|⟨hNi,hne,h8⟩
    ·rw[h2]at h8;cases h8
    ·exact⟨_,_,ho,rfl,hl⟩
    ·rw[hρo _ hNi]at h3;exact⟨o,c,h8,h2,h3⟩
   obtain⟨o0,c0,g1,g2,g3⟩:=hb0;rcases hlk i' _ h5 with⟨q,hNi',_⟩|⟨hNi',rfl,h8⟩|⟨hNi',hne,h8⟩
   ·rw[hρN i' q hNi']at h7;cases h7;intro e1;have hm:b∈G j:=e1▸(hNr i' c' hNi').2.2;exact h4.2 ⟨hF.sep i id o0 _ c0 loc b g1 g2 g3 ho rfl hl h4.1 (hFj b hm),hm⟩
   ·rw[hρo _ hNi']at h7;exact hF.dis i o0 c0 b _ _ c' g1 g2 g3 h4.1 ho (by intro e;cases e) h7
   ·rw[hρo _ hNi']at h7;exact hF.dis i o0 c0 b i' o' c' g1 g2 g3 h4.1 h8 h6 h7
  ·have hb0: ∀i o c,look ((Aj t y nx++[(id,PO.bag k t l (some (j,nx)))])++s.hp) i=some o->o.isBag=true->ρ' i=some c-> ∃o0 c0,look s.hp i=some o0/\o0.isBag=true/\ρ i=some c0:=by
    intro i o c h1 h2 h3;rcases hlk i _ h1 with⟨_,_,_,h8,_⟩|⟨hNi,rfl,h8⟩|⟨hNi,hne,h8⟩
    ·rw[h2]at h8;cases h8
    ·exact⟨_,_,ho,rfl,hl⟩
    ·rw[hρo _ hNi]at h3;exact⟨o,c,h8,h2,h3⟩
   obtain⟨o1,c1,f1,f2,f3⟩:=hb0 i o c h1 h2 h3;obtain⟨o2,c2,g1,g2,g3⟩:=hb0 i' o' c' h4 h5 h6;exact hF.sep i i' o1 o2 c1 c2 b f1 f2 f3 g1 g2 g3 h7.1 h8.1
 ·rw[hv];exact VR.mkRf ⟨_,hρN _ _ hN0,Ty.okP_nil _,Ty.at_nil _,.inl rfl,by rw[Ty.off_nil]⟩
 ·cases hNi:N i with
  |some q=>obtain⟨h1,h2,_⟩:=hNr i q hNi;omega
  |none=>exact hρo i hNi
theorem aJ.rebag(h:aJ B ρ s a w){id:Nat}{k t:Ty}{l l':List (k.den×(t.den×lC (aQ t)))}{out':Option (Nat×Nat)}(ho:look s.hp id=some (.bag k t l none)){loc:Loc}(hl:ρ id=some loc)
  (w':World) (hsz:w'.heap.size=w.heap.size) (hk: ∀b,b≠loc.blk->w'.heap[b]?=w.heap[b]?) (hos:w'.os=w.os) (ht:w'.tape=w.tape) (hou:w'.output=w.output)
  (hfz0: ∀a,a.block=loc.blk->w'.frozen? a=w.frozen? a) (hbag: ∀F:Nat->Prop,(∀b,F b->w'.heap[b]?=w.heap[b]?)->Keeps ρ w ρ w'->KS ρ w loc.blk k t l none F->KS ρ w' loc.blk k t l' out' F):
  aJ B ρ { s with hp:=(id,.bag k t l' out')::s.hp } a w'/\Later ρ w ρ w':=by
 have hd:PO.bag k t l none≠ .dead:=by intro e;cases e
 have hor:=h.live ho hd hl;have hW:ρ.W loc.blk:=hor.2;have L:Later ρ w ρ w':=⟨by omega,λ_ _ h=>h,λ_ h=>.inl h,λ_ h=>.inl h,λ_ _ h _=>h,λb _ hn=>hk b (λe=>hn (by rw[e];exact hW))⟩;have hfz:=FB loc.blk hk hfz0;have hlk: ∀id' o1,look ((id,PO.bag k t l' out')::s.hp) id'=some o1->(id'=id/\o1= .bag k t l' out')\/(id'≠id/\look s.hp id'=some o1):=by
  intro id' o1 h1;rw[aH]at h1;split at h1
  ·rename_i e;simp only[awr]at h1;exact .inl ⟨e.symm,h1.symm⟩
  ·rename_i e;exact .inr ⟨Ne.symm e,h1⟩
 have hex: ∀id' o1,look ((id,PO.bag k t l' out')::s.hp) id'=some o1->o1≠ .dead-> ∃o2,look s.hp id'=some o2/\o2≠ .dead/\(o1.isBag=true->o2.isBag=true):=by
  intro id' o1 h1 hd1;rcases hlk id' o1 h1 with⟨rfl,rfl⟩|⟨_,h⟩
  ·exact⟨_,ho,hd,λ_=>rfl⟩
  ·exact⟨_,h,hd1,λh=>h⟩
 obtain⟨F,hF⟩:=h.hid;have hFb: ∀i o1 l1 b,look s.hp i=some o1->o1.isBag=true->ρ i=some l1->F i b->w'.heap[b]?=w.heap[b]?:=λi o1 l1 b h1 h2 h3 h4=>hk b (λe=>hF.dis i o1 l1 b id _ loc h1 h2 h3 h4 ho hd hl e.symm)
 refine⟨⟨h.defers,h.tmps,λt' pv hl'=>?_,λid' o1 hl'=>?_,λi j o1 o2 l1 l2 h1 h2 d1 d2 h3 h4 h5=>?_,λid' loc' hl'=>by have:=h.own id' loc' hl';omega,λb hb=>by have:=h.ownA b hb;omega,?_,h.may,F,?_⟩,L⟩
 ·obtain⟨v,h1,h2⟩:=h.env t' pv hl';exact⟨v,h1,h2.later L⟩
 ·rcases hlk id' o1 hl' with⟨rfl,rfl⟩|⟨hne,h1⟩
  ·exact .inr ⟨loc,hl,hor⟩
  ·rcases h.obj id' o1 h1 with h2|⟨loc',h2,h3⟩
   ·exact .inl h2
   ·by_cases hd1:o1= .dead
    ·exact .inl (.inl hd1)
    ·exact .inr ⟨loc',h2,h3.later L (.inl rfl) (hk _ (λe=>hne (h.inj id' id o1 _ loc' loc h1 ho hd1 hd h2 hl e)))⟩
 ·obtain⟨o3,h6,d6,_⟩:=hex i o1 h1 d1;obtain⟨o4,h7,d7,_⟩:=hex j o2 h2 d2;exact h.inj i j o3 o4 l1 l2 h6 h7 d6 d7 h3 h4 h5
 ·exact⟨hos.trans h.base.os,ht.trans h.base.tape,hou.trans h.base.output,λa ha hm=>(hfz a).trans (h.base.froz a ha hm),by have:=h.base.size;omega⟩
 ·refine⟨λi k1 t1 l1 out1 c h1 h2=>?_,λi o c b h1 h2 h3 h4=>?_,λi o c b i' o' c' h1 h2 h3 h4 h5 h6 h7=>?_,λi i' o o' c c' b h1 h2 h3 h4 h5 h6 h7 h8=>?_⟩
  ·rcases hlk i _ h1 with⟨rfl,h3⟩|⟨hne,h3⟩
   ·cases h3;rw[hl]at h2;cases h2;exact hbag _ (λb hb=>hFb _ _ loc b ho rfl hl hb) L.keeps (hF.val _ _ _ _ _ _ ho hl)
   ·exact(hF.val i k1 t1 l1 out1 c h3 h2).keeps L.keeps (hk _ (λe=>hne (h.inj i id _ _ c loc h3 ho (by intro e;cases e) hd h2 hl e))) λb hb=>hFb i _ c b h3 rfl h2 hb
  ·obtain⟨o2,g1,g2,g3⟩:=hex i o h1 (PO.bag_ne h2);have:=hF.own i o2 c b g1 (g3 h2) h3 h4;exact⟨this.1,by omega⟩
  ·obtain⟨o2,g1,g2,g3⟩:=hex i o h1 (PO.bag_ne h2);obtain⟨o3,f1,f2,_⟩:=hex i' o' h5 h6;exact hF.dis i o2 c b i' o3 c' g1 (g3 h2) h3 h4 f1 f2 h7
  ·obtain⟨o2,g1,g2,g3⟩:=hex i o h1 (PO.bag_ne h2);obtain⟨o3,f1,f2,f3⟩:=hex i' o' h4 (PO.bag_ne h5);exact hF.sep i i' o2 o3 c c' b g1 (g3 h2) h3 f1 (f3 h5) h6 h7 h8
structure abG(P:Program)(T:TypeId)(k:Ty):Prop where
 ex: ∃kT vT d,P.underlying T=some (.map kT vT)/\P.underlying kT=some d/\a6k d k/\k.key=true/\ ∀w,(zeroValue vT).run P w= .ok (.pointer none) w
include hti in
theorem SE {T:TypeId}{kt:Ty×Ty}(h:M9 C.ti T=some kt):abG P T kt.1:=by
 unfold M9 at h;split at h
 ·rename_i i hi;split at h
  ·rename_i kT vT hd;split at h
   ·rename_i x y hx hy;split at h
    ·rename_i t ht;generalize hb:(_&&_)=b at h;cases b
     ·cases h
     ·cases h;simp only[awu]at hb;have hu:=hti.under T i hi;rw[hd]at hu;have hs:=hti.shape kT x hx;have hz: ∀w,(zeroValue vT).run P w= .ok (.pointer none) w:=λw=>by have:=hti.zero vT y w hy;rw[ht]at this;exact this
      refine⟨kT,vT,x.desc,hu,hti.under kT x hx,?_,hb.1.1,hz⟩;have hb1:=hb.1.1;unfold kM at hs;split at hs
      ·rename_i kd e;rw[e];exact .inl ⟨kd,rfl,hs⟩
      ·rw[hs]at hb1;cases hb1
      ·rename_i e;rw[e];exact .inr ⟨rfl,hs⟩
      ·obtain⟨ha,_⟩:=hs;cases ht:x.ty<;>rw[ht]at ha hb1<;>simp[Ty.agg,Ty.key]at ha hb1
      ·obtain⟨_,_,e,_⟩:=hs;rw[e]at hb1;cases hb1
      ·obtain⟨_,_,e,_⟩:=hs;rw[e]at hb1;cases hb1
      ·rcases hs with⟨_,e⟩|⟨_,e⟩
       ·rw[e]at hb1;cases hb1
       ·rw[e]at hb1;cases hb1
      ·rw[hs]at hb1;cases hb1
      ·rw[hs]at hb1;cases hb1
      ·exact hs.elim
    ·cases h
   ·cases h
  ·cases h
 ·cases h
theorem SF {T:TypeId}{k:Ty}(hm:abG P T k){α:Type}{l:List (k.den×α)}{es:List MapEntry}(hlen:l.length=es.length)(hkeys: ∀(j:Nat) q e,l[j]?=some q->es[j]?=some e->(∃c,Rd ρ.shut w k q.1 c/\e.key=mkV k c)/\e.born=j)(x:k.den):
  ∃kT vT,P.underlying T=some (.map kT vT)/\(∀w b,(Instr.checkKey b 10000 kT (fK k x)).run P w= .ok () w)/\(∀w,(zeroValue vT).run P w= .ok (.pointer none) w)/\(∀w,(Instr.keyThatStays (fK k x) (fK k x)).run P w= .ok (fK k x) w)/\
  ((l[bidx k l x]?=none/\bidx k l x=l.length/\ ∀w,(Instr.findKey kT (fK k x) es).run P w= .ok none w)\/
  ∃q e,l[bidx k l x]?=some q/\es[bidx k l x]?=some e/\e.key=fK k x/\ ∀w,(Instr.findKey kT (fK k x) es).run P w= .ok (some (bidx k l x,e.val)) w):=by
 obtain⟨kT,vT,d,h1,h2,h3,h4,h6⟩:=hm.ex;refine⟨kT,vT,h1,λw b=>MapKept.run_checkKey h2 (uU h3 x) b 9999,h6,λw=>MapKept.run_keyThatStays (uU h3 x),?_⟩;rcases find_spec (v:=.unit) h3 x (l.map λq=>(q.1,())) es 0 (by simpa using hlen) (λj q e hq he=>by simp only[axk,axr]at hq;obtain⟨q',hq',rfl⟩:=hq;obtain⟨⟨c,hc,hkey⟩,_⟩:=hkeys j q' e hq' he;rw[hkey];exact(Ap h4 hc).2)with⟨h7,h8,h9⟩|⟨j,q,e,h7,h8,h9,h10,h11,h12⟩
 ·have e1:bidx k l x=l.length:=by unfold bidx;rw[h8];simp
  exact .inl ⟨by rw[e1];simp,e1,λw=>MapKept.run_findKey h2 h9⟩
 ·have e1:bidx k l x=j:=h10;simp only[axk,axr]at h7;obtain⟨q',hq',rfl⟩:=h7;exact .inr ⟨q',e,by rw[e1];exact hq',by rw[e1];exact h8,h11,λw=>by rw[awR]at h12;rw[e1];exact MapKept.run_findKey h2 h12⟩
theorem keyOf {k:Ty}(hk:k.key=true){ix:V}{key:k.den}{vy:Value}(hy:VR ρ w ix vy)(h:ix.to k=some key):vy=fK k key:=yE hk (VR.to hy h)
include hti in
theorem Rj(hr:aJ B ρ s a w){T:TypeId}{kt:Ty×Ty}(hbt:M9 C.ti T=some kt){x y:PV}{ok:Bool}{vx vy:Value}(hx:VP ρ w x vx)(hy:VP ρ w y vy)(nx:Nat){r:Ans}(hn: ∀i,nx<=i->i<nx+r.2.2->ρ i=none)(h:pJ kt x y ok s.h nx pk=some r):
  ∃ρ' v,(Instr.lookup T vx vy ok).run P w= .ok v w/\After B ρ s a w nx r.1 r.2.1 r.2.2 v ρ' w:=by
 have hm:=SE hti hbt;have hkk:kt.1.key=true:=hm.ex.choose_spec.choose_spec.choose_spec.2.2.2.1;unfold pJ at h;split at h
 ·rename_i ix;split at h
  ·rename_i key hkey;have e:=keyOf hkk hy hkey;subst e;cases ok
   ·cases h
   simp only[awL]at h;have none0:VP ρ w (.tup [⟨.ptr kt.2,.nil⟩,⟨.bool,false⟩]) (.tuple #[.pointer none,.bool false]):=⟨[.pointer none,.bool false],rfl,⟨_,rfl,rfl⟩,⟨_,rfl,rfl⟩,trivial⟩;split at h
   ·cases h;have e:=VR.mpNone hx;subst e;obtain⟨kT,vT,h1,h2,h3,_,h4⟩:=SF (ρ:=ρ) (w:=w) hm (α:=Unit) (l:=[]) (es:=[]) rfl (λj q e hq=>by simp at hq) key;refine⟨ρ,_,?_,After.pure hr none0⟩;rcases h4 with⟨_,_,h5⟩|⟨q,e,h5,_⟩
    ·simp[Instr.lookup,awJ h1,h2,h5,h3,Result.andThen]
    ·simp at h5
   ·rename_i id;obtain⟨loc,hloc,hty,rfl⟩:=VR.mpSome hx;split at h
    ·rename_i k t l ho;split at h
     ·rename_i ee;obtain⟨e1,e2⟩:=ee;subst e1;subst e2;unfold Sj at h;obtain⟨F,hF⟩:=hr.hid;obtain⟨_,es,G,hb,hlen,hent,_⟩:=hF.val id _ _ l none loc ho hloc;obtain⟨kT,vT,h1,h2,h3,_,h4⟩:=SF hm hlen (λj q e hq he=>⟨(hent j q e hq he).1,(hent j q e hq he).2.1⟩) key;have hg:=MapKept.run_getObj_map (P:=P) hb;rcases h4 with⟨h5,_,h6⟩|⟨q,e,h5,h6,_,h8⟩
      ·simp only[h5]at h;cases h;refine⟨ρ,_,?_,After.pure hr none0⟩;simp[Instr.lookup,awJ h1,hg,h2,h6,h3,Result.andThen]
      ·simp only[h5]at h;cases h;obtain⟨key',y'⟩:=q;obtain⟨ρ',es',e',g1,g2,_,g3,g4,g5,g6,g7⟩:=hr.bagOut ho hloc h5 nx hn;rw[hb]at g1;have ees:es'=es:=by
        have:=axm g1;injection this with h _
        exact(List.toArray_inj h).symm
       subst ees;rw[h6]at g3;cases g3;refine⟨ρ',.tuple #[e.val,.bool true],?_,⟨g4,g5,⟨[e.val,.bool true],rfl,g6,⟨_,rfl,rfl⟩,trivial⟩,g7,λe=>by simp at e⟩⟩;simp[Instr.lookup,awJ h1,hg,h2,h8,Result.andThen]
     ·cases h
    ·cases h
   ·cases h
  ·cases h
 ·cases h
theorem SG {k t:Ty}{l:List (k.den×(t.den×lC (aQ t)))}{x:k.den}(h:l[bidx k l x]?=none):R9 k t l x=l++[(x,(t.zero,RO (aQ t)))]:=by unfold R9;rw[h]
theorem Xu {k t:Ty}{l:List (k.den×(t.den×lC (aQ t)))}{x:k.den}{q:k.den×(t.den×lC (aQ t))}(h:l[bidx k l x]?=some q):R9 k t l x=l:=by unfold R9;rw[h]
include hti in
theorem SH(hr:aJ B ρ s a w){T:TypeId}{kt:Ty×Ty}(hbt:M9 C.ti T=some kt){x y z:PV}{vx vy vz:Value}{pv:PV}{u:Upd}(hx:VP ρ w x vx)(hy:VP ρ w y vy)(hz:VP ρ w z vz)(nx:Nat)(h:qF kt x y z s.h (λp u=>some (p,u))=some (pv,u)):
  ∃w',(Instr.mapUpdate T vx vy vz).run P w= .ok () w'/\After B ρ s a w nx pv u 0 undef ρ w':=by
 have hm:=SE hti hbt;have hkk:kt.1.key=true:=hm.ex.choose_spec.choose_spec.choose_spec.2.2.2.1;unfold qF at h;split at h
 ·rename_i ix yv;split at h
  ·rename_i key oid hkey hval;have e:=keyOf hkk hy hkey;subst e;obtain⟨cl,hcl,hok,hat,hcap,rfl⟩:=VR.ptrRf (VR.to hz hval);rw[Ty.at_nil]at hat;have hcty:cl.ty=kt.2:=axm hat;have hcc:cl.cap=none:=hcap.resolve_right (λh=>h rfl);rw[Ty.off_nil];split at h
   ·rename_i id;obtain⟨loc,hloc,hty,rfl⟩:=VR.mpSome hx;split at h
    ·rename_i k t l ho;split at h
     ·rename_i ee;obtain⟨e1,e2⟩:=ee;subst e1;subst e2;cases h;obtain⟨F,hF⟩:=hr.hid;obtain⟨hbo,es,G,hb,hlen,hent,_⟩:=hF.val id _ _ l none loc ho hloc;obtain⟨kT,vT,h1,h2,h3,h3',h4⟩:=SF hm hlen (λj q e hq he=>⟨(hent j q e hq he).1,(hent j q e hq he).2.1⟩) key;have hg:=MapKept.run_getObj_map (P:=P) hb;have keyR: ∃c,Rd ρ.shut w kt.1 key c/\fK kt.1 key=mkV kt.1 c:=⟨_,Rd.fK hkk _ _ _,(Ap hkk (Rd.fK hkk ρ w key)).2.symm⟩;have go: ∀(es':List MapEntry),(∀F:Nat->Prop,(∀b,F b->({ w with heap:=w.heap.setIfInBounds loc.blk (.map es'.toArray es'.length) } :World).heap[b]?=w.heap[b]?)->Keeps ρ w ρ { w with heap:=w.heap.setIfInBounds loc.blk (.map es'.toArray es'.length) } ->
        ({ w with heap:=w.heap.setIfInBounds loc.blk (.map es'.toArray es'.length) } :World).heap[loc.blk]?=some (.map es'.toArray es'.length)->KS ρ w loc.blk kt.1 kt.2 l none F->KS ρ { w with heap:=w.heap.setIfInBounds loc.blk (.map es'.toArray es'.length) } loc.blk kt.1 kt.2 (R9 kt.1 kt.2 l key) (some (bidx kt.1 l key,oid)) F)->
        ∃w',(setObj loc.blk (.map es'.toArray es'.length)).run P w= .ok () w'/\After B ρ s a w nx .un [(id,.bag kt.1 kt.2 (R9 kt.1 kt.2 l key) (some (bidx kt.1 l key,oid)))] 0 undef ρ w':=by
       intro es' hes;obtain⟨q1,q2⟩:=MapKept.heap_set (o':=.map es'.toArray es'.length) hb;refine⟨_,MapKept.run_setObj_map _ hb,?_⟩;obtain⟨q3,q4⟩:=hr.rebag ho hloc { w with heap:=w.heap.setIfInBounds loc.blk (.map es'.toArray es'.length) } (by simp) q2 rfl rfl rfl (Sl hb q1) (l':=R9 kt.1 kt.2 l key) (out':=some (bidx kt.1 l key,oid)) (λF hFb K hB=>hes F hFb K q1 hB);exact⟨q3,q4,trivial,λ_ _=>rfl,λ_=>rfl⟩
      rcases h4 with⟨h5,h5',h6⟩|⟨q,e,h5,h6,h7,h8⟩
      ·obtain⟨w',h11,h12⟩:=go (es++[{ key:=fK kt.1 key,val:=.pointer (some ⟨cl.blk,0,none⟩),born:=es.length }]) (λF hFb K hblk hB=>by
        obtain⟨_,es0,G,g1,g2,g3,g4,g5⟩:=hB;have e0:es0=es:=by
         rw[hb]at g1;have:=axm g1;injection this with h _
         exact(List.toArray_inj h).symm
        subst e0;refine⟨hbo,_,λi=>if i=l.length then []else G i,hblk,by rw[SG h5];simp[hlen],λj q e' hq he=>?_,λj b hm=>?_,λj j' b hm hm'=>?_⟩
        ·rw[SG h5]at hq;rw[h5'];by_cases hj:j<l.length
         ·rw[awY hj]at hq;rw[awY (by omega)]at he;obtain⟨⟨c,f1,f2⟩,f3,f4⟩:=g3 j q e' hq he;refine⟨⟨c,f1.keeps K.shut,f2⟩,f3,?_⟩;unfold Al;simp only;rw[awG (by omega),awG (by omega)];exact Small.keeps K (λb hbm=>hFb b (g4 j b hbm)) f4
         ·rw[axw (by omega)]at hq he;have hj0:j-l.length=0:=by
           rcases axd (j-l.length)with h0|h0
           ·exact h0
           ·rw[axv (by simp;omega)]at hq;cases hq
          rw[hj0]at hq;rw[show j-es0.length=0 by omega]at he;simp at hq he;subst hq;subst he;refine⟨⟨_,Rd.fK hkk _ _ _,keyR.choose_spec.2.trans (by rw[(Ap hkk keyR.choose_spec.1).1])⟩,by simp only;omega,?_⟩;unfold Al;simp only;rw[awQ (by omega),awQ (by omega)];exact⟨rfl,cl,hcl,hcty,hcc,rfl⟩
        ·change b∈(if j=l.length then []else G j)at hm;split at hm
         ·cases hm
         ·exact g4 j b hm
        ·change b∈(if j=l.length then []else G j)at hm;change b∈(if j'=l.length then []else G j')at hm';split at hm
         ·cases hm
         ·split at hm'
          ·cases hm'
          ·exact g5 j j' b hm hm')
       refine⟨w',?_,h12⟩;simp only[Instr.mapUpdate,awx,awJ h1,hg,h2,h6,aws];simpa using h11
      ·obtain⟨w',h11,h12⟩:=go (es.modify (bidx kt.1 l key) λe=> { e with key:=fK kt.1 key,val:=.pointer (some ⟨cl.blk,0,none⟩) }) (λF hFb K hblk hB=>by
        obtain⟨_,es0,G,g1,g2,g3,g4,g5⟩:=hB;have e0:es0=es:=by
         rw[hb]at g1;have:=axm g1;injection this with h _
         exact(List.toArray_inj h).symm
        subst e0;refine⟨hbo,_,λi=>if i=bidx kt.1 l key then []else G i,hblk,by rw[Xu h5];simp[hlen],λj q' e' hq he=>?_,λj b hm=>?_,λj j' b hm hm'=>?_⟩
        ·rw[Xu h5]at hq;rw[ayN]at he;by_cases hj:j=bidx kt.1 l key
         ·subst hj;rw[h6]at he;simp at he;subst he;obtain⟨⟨c,f1,f2⟩,f3,f4⟩:=g3 _ q' e hq h6;refine⟨⟨c,f1.keeps K.shut,h7.symm.trans f2⟩,f3,?_⟩;unfold Al;simp only[axV];exact⟨trivial,cl,hcl,hcty,hcc,rfl⟩
         ·simp[Ne.symm hj]at he;obtain⟨⟨c,f1,f2⟩,f3,f4⟩:=g3 j q' e' hq he;refine⟨⟨c,f1.keeps K.shut,f2⟩,f3,?_⟩;unfold Al;simp only;rw[awG (Ne.symm hj),awG hj];exact Small.keeps K (λb hbm=>hFb b (g4 j b hbm)) f4
        ·change b∈(if j=bidx kt.1 l key then []else G j)at hm;split at hm
         ·cases hm
         ·exact g4 j b hm
        ·change b∈(if j=bidx kt.1 l key then []else G j)at hm;change b∈(if j'=bidx kt.1 l key then []else G j')at hm';split at hm
         ·cases hm
         ·split at hm'
          ·cases hm'
          ·exact g5 j j' b hm hm')
       refine⟨w',?_,h12⟩;have hk0:((es.toArray[bidx kt.1 l key]?).map (·.key)).getD (fK kt.1 key)=fK kt.1 key:=by simp[h6,h7]
       simp only[Instr.mapUpdate,awx,awJ h1,hg,h2,h8,aws,hk0,h3',modify_toArray];simpa using h11
     ·cases h
    ·cases h
   ·cases h
  ·cases h
 ·cases h
end
def nodupB:List Nat->Bool| []=>true|x::l=>!(l.any (Nat.beq x))&&nodupB l
theorem wN: ∀ {l:List Nat},nodupB l=true->l.Nodup:=by
 intro l
 induction l with
 |nil=>intro _;exact List.nodup_nil
 |cons x l ih=>
  intro h;simp only[nodupB,awu,Bool.not_eq_true',List.any_eq_false]at h;refine ay0.2 ⟨λhm=>?_,ih h.2⟩;exact h.1 x hm (Nat.beq_refl x)
def Mr(h:Heap):(l:List Ty)->List Nat->Option (lC l)
 | [],[]=>some ()
 |t::l,i::is=>match h i with
  |some (.obj t' y)=>if e:t'=t then match Mr h l is with
    |some ys=>some (e▸y,ys)
    |none=>none
   else none
  |_=>none
 |_,_=>none
def grab(h:Heap)(t:Ty)(oid:Nat):Option ((t.den×lC (aQ t))×List Nat):=
 match h oid with
 |some (.obj t' x)=>if e:t'=t then match qX t (e▸x)with
   |some ids=>match Mr h (aQ t) ids with
    |some ys=>bif nodupB (oid::ids)then some (((fO t (e▸x) []).1,ys),ids)else none
    |none=>none
   |none=>none
  else none
 |_=>none
def ZT(l:List Nat):List (Nat×PO):=l.map λi=>(i,.dead)
def Qb(m:Nat)(s:DS):DS:=
 match s.h m with
 |some (.bag k t l (some (j,oid)))=>match grab s.h t oid with
  |some (y,ids)=> { s with hp:=(m,.bag k t (l.modify j λe=>(e.1,y)) none)::(ZT (oid::ids)++s.hp) }
  |none=>s
 |_=>s
def Yu:List (Nat×PO)->List Nat| []=>[]|(i,.bag _ _ _ _)::l=>i::Yu l|_::l=>Yu l
def DS.tidy(s:DS):DS:=(Yu s.hp).foldl (λs m=>Qb m s) s
theorem Qc: ∀ {t:Ty} {x:t.den} {ids:List Nat},qX t x=some ids->ids.length=(aQ t).length:=by
 intro t
 induction t with
 |ptr t=>
  intro x ids h;simp only[qX]at h;split at h
  ·cases h;rfl
  ·cases h
 |pair a b iha ihb=>
  intro x ids h;simp only[qX]at h;split at h
  ·rename_i l r h1 h2;cases h;simp only[aQ,awS,iha h1,ihb h2]
  ·cases h
 |_=>intro x ids h;cases h;rfl
theorem Yv: ∀ {t:Ty} {x:t.den} {ids l:List Nat},qX t x=some ids-> ∀ {z:List Nat},(fO t (fO t x z).1 (ids++l)).1=x:=by
 intro t
 induction t with
 |ptr t=>
  intro x ids l h z;simp only[qX]at h;split at h
  ·cases h;cases z<;>rfl
  ·cases h
 |pair a b iha ihb=>
  intro x ids l h z;simp only[qX]at h;split at h
  ·rename_i l1 l2 h1 h2;cases h;simp only[fO,axx,Ml];rw[iha h1];have e:(l1++(l2++l)).drop (aQ a).length=l2++l:=by rw[<-Qc h1,List.drop_left]
   rw[e,ihb h2]
  ·cases h
 |_=>intro x ids l h z;rfl
theorem a6l {ρ:Rho}{w:World} : ∀ {t:Ty} {x:t.den} {ids:List Nat} {cs:List Value},qX t x=some ids->Rd ρ w t x cs-> ∀i∈ids,∃loc,ρ i=some loc/\loc.cap=none:=by
 intro t
 induction t with
 |ptr t=>
  intro x ids cs h hr i hi;simp only[qX]at h;split at h
  ·cases h;simp only[axI]at hi;subst hi;obtain⟨v,_,loc,h1,_,_,h2,_⟩:=hr;exact⟨loc,h1,h2.resolve_right λh=>h rfl⟩
  ·cases h
 |pair a b iha ihb=>
  intro x ids cs h hr i hi;simp only[qX]at h;split at h
  ·rename_i l1 l2 h1 h2;cases h;rcases axo.1 hi with hi|hi
   ·exact iha h1 hr.1 i hi
   ·exact ihb h2 hr.2 i hi
  ·cases h
 |_=>intro x ids cs h hr i hi;cases h;cases hi
section
variable {B:Base} {ρ:Rho} {s:DS} {a:Act} {w:World}
theorem Wx(hr:aJ B ρ s a w): ∀ {l:List Ty} {is:List Nat} {ys:lC l},Mr s.h l is=some ys->(∀u∈l,u.nr=true)->
  ∃bs:List Nat,is.length=l.length/\zi ρ w l ys bs/\ ∀(n:Nat) i,is[n]?=some i-> ∃u y loc,l[n]?=some u/\look s.hp i=some (.obj u y)/\ρ i=some loc/\loc.ty=u/\bs[n]?=some loc.blk:=by
 intro l
 induction l with
 |nil=>
  intro is ys h _;cases is with
  |nil=>exact⟨[],rfl,trivial,λn i h=>by simp at h⟩
  |cons _ _=>cases h
 |cons t l ih=>
  intro is ys h hn;cases is with
  |nil=>cases h
  |cons i is=>
   simp only[Mr]at h;split at h
   ·rename_i t' y ho;split at h
    ·rename_i e;subst e;split at h
     ·rename_i ys' hys;cases h;obtain⟨bs,h1,h2,h3⟩:=ih hys λu hu=>hn u (ax8 _ hu)
      obtain⟨loc,hl,hor⟩: ∃loc,ρ i=some loc/\OR ρ w loc (.obj t' y):=by
       rcases hr.obj i _ ho with(h|⟨_,_,_,_,_,h⟩)|h
       ·cases h
       ·cases h
       ·exact h
      obtain⟨e1,_,cs,T,g1,g2,_⟩:=hor;refine⟨loc.blk::bs,by simp[h1],⟨⟨cs,T,g1.shutNr (hn t' (ax9 ..)),g2⟩,h2⟩,λn j hj=>?_⟩;cases n with
      |zero=>simp at hj;subst hj;exact⟨t',y,loc,rfl,ho,hl,e1,rfl⟩
      |succ n=>obtain⟨u,y',loc',f1,f2⟩:=h3 n j (by simpa using hj);exact⟨u,y',loc',by simpa using f1,by simpa using f2⟩
     ·cases h
    ·cases h
   ·cases h
theorem a2k: ∀ {l:List Nat} {hp:List (Nat×PO)} {id:Nat} {o:PO},look (ZT l++hp) id=some o->(o= .dead/\id∈l)\/(id∉ l/\look hp id=some o):=by
 intro l
 induction l with
 |nil=>intro hp id o h;exact .inr ⟨by simp,h⟩
 |cons x l ih=>
  intro hp id o h;have h':look ((x,PO.dead)::(ZT l++hp)) id=some o:=h;rw[aH]at h';split at h'
  ·rename_i e;exact .inl ⟨(axm h').symm,by simp[e]⟩
  ·rename_i e;rcases ih h' with⟨h1,h2⟩|⟨h1,h2⟩
   ·exact .inl ⟨h1,ax8 _ h2⟩
   ·exact .inr ⟨by simp only[axL,not_or];exact⟨Ne.symm e,h1⟩,h2⟩
theorem aJ.Qb(hr:aJ B ρ s a w)(m:Nat):aJ B ρ (Qb m s) a w:=by
 unfold Den.Qb;split
 ·rename_i k t l j oid ho;split
  ·rename_i y ids hg;unfold grab at hg;split at hg
   ·rename_i t' x hox;split at hg
    ·rename_i e;subst e;split at hg
     ·rename_i ids' hids;split at hg
      ·rename_i ys hys;cases hb:nodupB (oid::ids')
       ·rw[hb]at hg;cases hg
       ·rw[hb]at hg;cases hg;have hnd:=wN hb;have hne:PO.bag k t' l (some (j,oid))≠ .dead:=by intro e;cases e
        obtain⟨loc,hl,hor⟩: ∃loc,ρ m=some loc/\OR ρ w loc (.bag k t' l (some (j,oid))):=by
         rcases hr.obj m _ ho with(h|⟨_,_,_,_,_,h⟩)|h
         ·cases h
         ·cases h
         ·exact h
        obtain⟨F,hF⟩:=hr.hid;obtain⟨hok,es,G,h1,h2,h3,h4,h5⟩:=hF.val m k t' l _ loc ho hl;obtain⟨c0,hc0,hor0⟩: ∃loc,ρ oid=some loc/\OR ρ w loc (.obj t' x):=by
         rcases hr.obj oid _ hox with(h|⟨_,_,_,_,_,h⟩)|h
         ·cases h
         ·cases h
         ·exact h
        obtain⟨bs,g1,g2,g3⟩:=Wx hr hys (Xt hok);have hgl:=g2.length;obtain⟨e1,_,cs,T,hcs,hblk,_⟩:=hor0;have mem: ∀i∈oid::ids,∃o c,look s.hp i=some o/\o≠ .dead/\ρ i=some c/\c.blk∈c0.blk::bs/\ ∃u z,o= .obj u z:=by
         intro i hi;rcases axL.1 hi with rfl|hi
         ·exact⟨_,c0,hox,(by intro e;cases e),hc0,ax9 .., _,_,rfl⟩
         ·obtain⟨n,hn⟩:=axY hi;obtain⟨u,z,c,f1,f2,f3,f4,f5⟩:=g3 n i hn;exact⟨_,c,f2,(by intro e;cases e),f3,ax8 _ (axy f5),_,_,rfl⟩
        have back: ∀b∈c0.blk::bs,∃i∈oid::ids,∃o c,look s.hp i=some o/\o≠ .dead/\ρ i=some c/\c.blk=b:=by
         intro b hb;rcases axL.1 hb with rfl|hb
         ·exact⟨oid,ax9 .., _,c0,hox,(by intro e;cases e),hc0,rfl⟩
         ·obtain⟨n,hn⟩:=axY hb;have hlt:=(awH.1 hn).1;obtain⟨i,hi⟩: ∃i,ids[n]?=some i:=⟨ids[n]'(by omega),awy (by omega)⟩;obtain⟨u,z,c,f1,f2,f3,f4,f5⟩:=g3 n i hi;rw[hn]at f5;cases f5;exact⟨i,ax8 _ (axy hi),_,c,f2,(by intro e;cases e),f3,rfl⟩
        have ndb:(c0.blk::bs).Nodup:=by
         refine ay0.2 ⟨λhm=>?_,?_⟩
         ·obtain⟨n,hn⟩:=axY hm;have hlt:=(awH.1 hn).1;obtain⟨i,hi⟩: ∃i,ids[n]?=some i:=⟨ids[n]'(by omega),awy (by omega)⟩;obtain⟨u,z,c,f1,f2,f3,f4,f5⟩:=g3 n i hi;rw[hn]at f5;have:=hr.inj oid i _ _ c0 c hox f2 (by intro e;cases e) (by intro e;cases e) hc0 f3 (axm f5);subst this;exact(ay0.1 hnd).1 (axy hi)
         ·rw[List.nodup_iff_pairwise_ne,ayp];intro n n' hn hn' hlt heq;obtain⟨i,hi⟩: ∃i,ids[n]?=some i:=⟨ids[n]'(by omega),awy (by omega)⟩;obtain⟨i',hi'⟩: ∃i,ids[n']?=some i:=⟨ids[n']'(by omega),awy (by omega)⟩;obtain⟨u,z,c,f1,f2,f3,f4,f5⟩:=g3 n i hi;obtain⟨u',z',c',q1,q2,q3,q4,q5⟩:=g3 n' i' hi';rw[awy hn]at f5;rw[awy hn']at q5;have:=hr.inj i i' _ _ c c' f2 q2 (by intro e;cases e) (by intro e;cases e) f3 q3 (by rw[<-axm f5,<-axm q5];exact heq);subst this;obtain⟨a1,a2⟩:=awH.1 hi;obtain⟨b1,b2⟩:=awH.1 hi';exact ayp.1 (ay0.1 hnd).2 n n' a1 b1 hlt (a2.trans b2.symm)
        have fresh: ∀i o c b,look s.hp i=some o->o.isBag=true->ρ i=some c->F i b->b∉ c0.blk::bs:=by intro i o c b f1 f2 f3 f4 hm;obtain⟨i',_,o',c',q1,q2,q3,q4⟩:=back b hm;exact hF.dis i o c b i' o' c' f1 f2 f3 f4 q1 q2 q3 q4
        have hlk: ∀i o,look ((m,PO.bag k t' (l.modify j λe=>(e.1,((fO t' x []).1,ys))) none)::(ZT (oid::ids)++s.hp)) i=some o->
          (i=m/\o= .bag k t' (l.modify j λe=>(e.1,((fO t' x []).1,ys))) none)\/o= .dead\/(i≠m/\i∉ oid::ids/\look s.hp i=some o):=by
         intro i o hi;rw[aH]at hi;split at hi
         ·rename_i e;cases hi;exact .inl ⟨e.symm,rfl⟩
         ·rename_i e;rcases a2k hi with⟨f1,_⟩|⟨f1,f2⟩
          ·exact .inr (.inl f1)
          ·exact .inr (.inr ⟨Ne.symm e,f1,f2⟩)
        have old: ∀i o,look ((m,PO.bag k t' (l.modify j λe=>(e.1,((fO t' x []).1,ys))) none)::(ZT (oid::ids)++s.hp)) i=some o->o≠ .dead-> ∃o',look s.hp i=some o'/\o'≠ .dead/\o'.isBag=o.isBag/\i∉ oid::ids:=by
         intro i o hi hd;rcases hlk i o hi with⟨rfl,rfl⟩|e|⟨_,f1,f2⟩
         ·refine⟨_,ho,hne,rfl,λhm=>?_⟩;obtain⟨o',c',f1,_,_,_,u,z,rfl⟩:=mem i hm;have f0:look s.hp i=some (.bag k t' l (some (j,oid))):=ho;rw[f0]at f1;cases f1
         ·exact absurd e hd
         ·exact⟨o,f2,hd,rfl,f1⟩
        refine⟨hr.defers,hr.tmps,hr.env,λi o hi=>?_,λi i' o o' c c' q1 q2 d1 d2 q3 q4 q5=>?_,hr.own,hr.ownA,hr.base,hr.may,λi b=>F i b\/(i=m/\b∈c0.blk::bs),?_⟩
        ·rcases hlk i o hi with⟨rfl,rfl⟩|rfl|⟨_,_,f⟩
         ·exact .inr ⟨loc,hl,hor⟩
         ·exact .inl (.inl rfl)
         ·exact hr.obj i o f
        ·obtain⟨o1,f1,f2,_,_⟩:=old i o q1 d1;obtain⟨o2,f3,f4,_,_⟩:=old i' o' q2 d2;exact hr.inj i i' o1 o2 c c' f1 f3 f2 f4 q3 q4 q5
        ·refine⟨λi k1 t1 l1 out1 c q1 q2=>?_,λi o c b q1 q2 q3 q4=>?_,λi o c b i' o' c' q1 q2 q3 q4 q5 q6 q7=>?_,λi i' o o' c c' b q1 q2 q3 q4 q5 q6 q7 q8=>?_⟩
         ·rcases hlk i _ q1 with⟨rfl,e⟩|e|⟨hne',hni,f⟩
          ·cases e;rw[hl]at q2;cases q2;refine⟨hok,es,λi=>if i=j then(if j<l.length then c0.blk::bs else [])else G i,h1,by simp[h2],λn q e' hq he=>?_,λn b hm=>?_,λn n' b hm hm'=>?_⟩
           ·rw[ayN]at hq;by_cases hn:j=n
            ·subst hn;cases hlj:l[j]? with
             |none=>rw[hlj]at hq;simp at hq
             |some q0=>
              rw[hlj]at hq;simp at hq;subst hq;obtain⟨f1,f2,f3⟩:=h3 j q0 e' hlj he;refine⟨f1,f2,?_⟩;have hjl:=(awH.1 hlj).1;simp only[awQ,hjl];unfold Al at f3⊢;simp only[axV]at f3;obtain⟨_,c1,p1,p2,p3,p4⟩:=f3;rw[hc0]at p1;cases p1;refine⟨c0.blk,bs,rfl,ndb,p4,⟨cs,T,?_,hblk⟩,g2⟩;have hx:=Yv (l:=[]) hids (z:=[]);rw[ayr]at hx;have hlen:=Qc hids;have z1:(ids.zip (List.range ids.length)).map Prod.fst=ids:=by rw[List.map_fst_zip];simp
              have z2:(ids.zip (List.range ids.length)).map Prod.snd=List.range (aQ t').length:=by rw[List.map_snd_zip,hlen];simp
              have:=SC (ρ1:=ρ) (ρ2:=Yf ρ (aQ t') bs) rfl hok (x:=(fO t' x []).1) (l:=ids.zip (List.range ids.length)) (cs:=cs) (by simp[hlen]) (λq hq c hc=>by
               obtain⟨n,hn⟩:=axY hq;rw[ayc]at hn;obtain⟨n1,n2⟩:=hn;obtain⟨u,z,c',r1,r2,r3,r4,r5⟩:=g3 n q.1 n1;rw[hc]at r3;cases r3;have hq2:q.2=n:=by have:=(awH.1 n2).2;simpa using this.symm
               obtain⟨c2,s1,s2⟩:=a6l hids hcs q.1 (axy n1);rw[hc]at s1;cases s1;rw[hq2];show(match(aQ t')[n]?,bs[n]? with|some t,some b=>some (Loc.mk b t none)|_,_=>none)=_;rw[r1,r5];obtain⟨cb,ct,cc⟩:=c;simp only at r4 s2⊢;rw[r4,s2]) (by rw[z1,hx];exact hcs)
              rw[z2]at this;exact this
            ·simp[hn]at hq;obtain⟨f1,f2,f3⟩:=h3 n q e' hq he;refine⟨f1,f2,?_⟩;show Al ρ w t' none n q.2 (if n=j then(if j<l.length then c0.blk::bs else [])else G n) e'.val;rw[awG (show¬n=j from λe=>hn e.symm)];unfold Al at f3⊢;simp only[awG hn]at f3;exact f3
           ·change b∈(if n=j then(if j<l.length then c0.blk::bs else [])else G n)at hm;split at hm
            ·split at hm
             ·exact .inr ⟨rfl,hm⟩
             ·cases hm
            ·exact .inl (h4 n b hm)
           ·change b∈(if n=j then(if j<l.length then c0.blk::bs else [])else G n)at hm;change b∈(if n'=j then(if j<l.length then c0.blk::bs else [])else G n')at hm';by_cases en:n=j<;>by_cases en':n'=j
            ·rw[en,en']
            ·rw[awQ en]at hm;rw[awG en']at hm';split at hm
             ·exact absurd hm (fresh _ _ loc b ho rfl hl (h4 n' b hm'))
             ·cases hm
            ·rw[awG en]at hm;rw[awQ en']at hm';split at hm'
             ·exact absurd hm' (fresh _ _ loc b ho rfl hl (h4 n b hm))
             ·cases hm'
            ·rw[awG en]at hm;rw[awG en']at hm';exact h5 n n' b hm hm'
          ·cases e
          ·exact(hF.val i k1 t1 l1 out1 c f q2).mono λb hb=>.inl hb
         ·obtain⟨o1,f1,f2,f3,_⟩:=old i o q1 (PO.bag_ne q2);rcases q4 with q4|⟨rfl,hm⟩
          ·exact hF.own i o1 c b f1 (by rw[f3];exact q2) q3 q4
          ·obtain⟨i',_,o',c',p1,p2,p3,rfl⟩:=back b hm;exact⟨(hr.live p1 p2 p3).writes p2,hr.own i' c' p3⟩
         ·obtain⟨o1,f1,f2,f3,_⟩:=old i o q1 (PO.bag_ne q2);obtain⟨o2,f4,f5,_,f6⟩:=old i' o' q5 q6;rcases q4 with q4|⟨rfl,hm⟩
          ·exact hF.dis i o1 c b i' o2 c' f1 (by rw[f3];exact q2) q3 q4 f4 f5 q7
          ·intro e;obtain⟨i'',hi'',o3,c3,p1,p2,p3,p4⟩:=back b hm;have:=hr.inj i' i'' o2 o3 c' c3 f4 p1 f5 p2 q7 p3 (by rw[e,p4]);subst this;exact f6 hi''
         ·obtain⟨o1,f1,f2,f3,_⟩:=old i o q1 (PO.bag_ne q2);obtain⟨o2,f4,f5,f6,_⟩:=old i' o' q4 (PO.bag_ne q5);rcases q7 with q7|⟨rfl,hm⟩<;>rcases q8 with q8|⟨rfl,hm'⟩
          ·exact hF.sep i i' o1 o2 c c' b f1 (by rw[f3];exact q2) q3 f4 (by rw[f6];exact q5) q6 q7 q8
          ·exact absurd hm' (fresh i o1 c b f1 (by rw[f3];exact q2) q3 q7)
          ·exact absurd hm (fresh i' o2 c' b f4 (by rw[f6];exact q5) q6 q8)
          ·rfl
      ·cases hg
     ·cases hg
    ·cases hg
   ·cases hg
  ·exact hr
 ·exact hr
theorem a2l(m:Nat)(s:DS):(Qb m s).nx=s.nx/\(Qb m s).n=s.n:=by
 unfold Qb;split
 ·split
  ·exact⟨rfl,rfl⟩
  ·exact⟨rfl,rfl⟩
 ·exact⟨rfl,rfl⟩
theorem aJ.tidy(hr:aJ B ρ s a w):aJ B ρ s.tidy a w/\s.tidy.nx=s.nx/\s.tidy.n=s.n:=by
 unfold DS.tidy;generalize Yu s.hp=l
 induction l generalizing s with
 |nil=>exact⟨hr,rfl,rfl⟩
 |cons m l ih=>
  obtain⟨h1,h2,h3⟩:=ih (hr.Qb m);obtain⟨g1,g2⟩:=a2l m s;exact⟨h1,h2.trans g1,h3.trans g2⟩
end
section
variable {P:Program} {C:Cx} (hti:wL P C.ti) {B:Base} {ρ:Rho} {s:DS} {a:Act} {w:World}
theorem uV {o:Oper}{S:Sem Value}{v:Value}{w':World}(ho:execOp a.eval o=(do pure (Next.value (<-S))))(h:S.run P w= .ok v w'):Goes P o a w v w':=by left;rw[ho];simp[h]
theorem Ip {o:Oper}{S:Sem Unit}{w':World}(ho:execOp a.eval o=(do S;pure Next.skip))(h:S.run P w= .ok () w'):Goes P o a w undef w':=by right;rw[ho];simp[h]
theorem nZ(e:TypeId)(c:Array Value):(newRow e c).run P w= .ok ⟨w.heap.size,0,none⟩ (w.alloc (.cells c e)):=by simp only[newRow,awx,run_newObj,aws,awM];rfl
theorem a4U(hr:aJ B ρ s a w)(nx:Nat)(hn:ρ nx=none){t:Ty}{n:Nat}{f:Nat->t.den}{cs:List Value}{sh:Bool}(T:TypeId)(hc:Rd (ρ.at sh) w (.arr n t) f cs)(hm:n<=9223372036854775807):
  ∃ρ',After B ρ s a w nx (.v ⟨.sl t,.ms nx [] 0 n⟩) [(nx,.row sh T t n f)] 1 (.slice (some ⟨w.heap.size,0,none⟩) n n) ρ' (w.alloc (.cells cs.toArray T)):=by
 obtain⟨ρ',h1,h2,h3,h4⟩:=hr.alloc nx hn (.row sh T t n f) cs.toArray T (.arr n t) (some n) (λρ' w' L hW hb=>⟨rfl,hW,cs,[],hc.keeps (L.keeps.at sh),kK.of (by simpa using hb),n,rfl,by have:=hc.length;simpa [Ty.size]using this,ax2 _,hm⟩) (w.alloc (.cells cs.toArray T)) rfl rfl rfl rfl;refine⟨ρ',h1,h2,⟨[_],.inr ⟨_,n,n,0,h3,Ty.okP_nil _,Ty.at_nil _,by omega,rfl,λ_=>by rw[Ty.off_nil];simp,ax2 _,λc hc _ _=>⟨by cases hc;rfl,rfl⟩⟩,rfl⟩,EF h4,λe=>absurd e (by decide)⟩
theorem ZU {x y:PV}{vx vy:Value}{pv:PV}(hx:VP ρ w x vx)(hy:VP ρ w y vy)(h:Ma x y some=some pv): ∃v,(Builtin.max_ #[] 0 #[vx,vy]).run P w= .ok v w/\VP ρ w pv v:=by
 unfold Ma at h;split at h
 ·split at h
  ·rename_i k a k' b e;subst e;cases h;have e1:=VR.int hx;have e2:=VR.int hy;subst e1;subst e2;exact⟨_,by simp only[Builtin.max_,List.foldlM_cons,List.foldlM_nil,Builtin.max2];rfl,VR.mkInt⟩
  ·cases h
 ·cases h
theorem ZV {x y:PV}{vx vy:Value}{pv:PV}(hx:VP ρ w x vx)(hy:VP ρ w y vy)(h:Mc x y some=some pv): ∃v,(Builtin.min_ #[] 0 #[vx,vy]).run P w= .ok v w/\VP ρ w pv v:=by
 unfold Mc at h;split at h
 ·split at h
  ·rename_i k a k' b e;subst e;cases h;have e1:=VR.int hx;have e2:=VR.int hy;subst e1;subst e2;exact⟨_,by simp only[Builtin.min_,List.foldlM_cons,List.foldlM_nil,Builtin.min2];rfl,VR.mkInt⟩
  ·cases h
 ·cases h
include hti in
theorem ZW {T:TypeId}{Ts:Array TypeId}(hT:Ts[0]?=some T){ty:TypeId}{x:PV}{vx:Value}{pv:PV}(hx:VP ρ w x vx)(h:Md C.ti T x some=some pv): ∃v,(Builtin.len_ Ts ty #[vx]).run P w= .ok v w/\VP ρ w pv v:=by
 unfold Md at h;split at h
 ·rename_i i hi;have hu:=hti.under T i hi;split at h
  ·rename_i hd;rw[hd]at hu;split at h
   ·cases h;have e:=VR.str hx;subst e;exact⟨_,by simp[Builtin.len_,hT,awJ hu];rfl,VR.mkInt⟩
   ·cases h
  ·rename_i e hd;rw[hd]at hu;split at h
   ·rename_i t y;split at h
    ·rename_i n hn;cases h;have hs: ∃ad l cap,vx= .slice ad l cap/\n=(l:Int):=by
      cases y<;>simp only[lenOf,awr]at hn<;>subst hn
      ·have e:=VR.slNil hx;subst e;exact⟨_,_,_,rfl,rfl⟩
      ·obtain⟨ad,cap,rfl,_⟩:=VR.slFz hx;exact⟨_,_,_,rfl,rfl⟩
      ·rcases VR.slMs hx with⟨rfl,rfl⟩|⟨_,_,_,_,_,_,_,_,rfl,_⟩
       ·exact⟨_,_,_,rfl,rfl⟩
       ·exact⟨_,_,_,rfl,rfl⟩
     obtain⟨ad,l,cap,rfl,rfl⟩:=hs;exact⟨_,by simp[Builtin.len_,hT,awJ hu];rfl,VR.mkInt⟩
    ·cases h
   ·cases h
  ·rename_i n e hd;rw[hd]at hu;cases h;exact⟨_,by simp[Builtin.len_,hT,awJ hu];rfl,VR.mkInt⟩
  ·cases h
 ·cases h
theorem Qd {t:Ty}{T0:TypeId}{v:Value}(h:t.head=some T0)(hv:t.zcells[0]?=some v):v= .pointer none:=by
 unfold Ty.head at h;split at h
 ·simp[Ty.zcells]at hv;exact hv.symm
 ·simp[Ty.zcells]at hv;exact hv.symm
 ·cases h
include hti in
theorem SI {o:Oper}(hr:aJ B ρ s a w)(nx:Nat)(hn:ρ nx=none){pv:PV}{u:Upd}{n:Nat}(hn2: ∀i,nx<=i->i<nx+n->ρ i=none)(h:Fw C o s.val s.h nx pk=some (pv,u,n)):
  ∃ρ' w' v,Goes P o a w v w'/\After B ρ s a w nx pv u n v ρ' w':=by
 have pure0: ∀ {S:Sem Value} {pv':PV},pk pv' [] 0=some (pv,u,n)->execOp a.eval o=(do pure (Next.value (<-S)))->(∃v,S.run P w= .ok v w/\VP ρ w pv' v)-> ∃ρ' w' v,Goes P o a w v w'/\After B ρ s a w nx pv u n v ρ' w':=by intro S pv' hk ho ⟨v,h1,h2⟩;cases hk;exact⟨ρ,w,v,uV ho h1,After.pure hr h2⟩
 have nat0: ∀(f:(R:Type)->(PV->Option R)->Option R),(∀(R:Type) (K:PV->Option R),f R K=(f PV some).bind K)->f Ans (λv=>pk v [] 0)=some (pv,u,n)-> ∃pv',f PV some=some pv'/\pk pv' [] 0=some (pv,u,n):=by
  intro f hf h;rw[hf]at h;cases hp:f PV some with
  |none=>rw[hp]at h;cases h
  |some pv'=>rw[hp]at h;exact⟨pv',rfl,h⟩
 unfold Fw k0 at h;split at h
 ·rename_i x hop;cases h;exact⟨ρ,w,_,.inl (by simp only[execOp,hop];rfl),After.pure hr (hr.eval x)⟩
 ·rename_i x hop;cases h;exact⟨ρ,w,_,.inl (by simp only[execOp,hop];rfl),After.pure hr (hr.eval x)⟩
 ·rename_i c x y hop;split at h
  ·rename_i b hc;have hcv:=hr.eval c;rw[hc]at hcv;have hcv:=VR.bool hcv;cases b
   ·simp only[awW]at h;cases h;exact⟨ρ,w,_,.inl (by simp only[execOp,hop,hcv,asBool,awx,awM,aws];rfl),After.pure hr (hr.eval y)⟩
   ·simp only[awL]at h;cases h;exact⟨ρ,w,_,.inl (by simp only[execOp,hop,hcv,asBool,awx,awM,aws];rfl),After.pure hr (hr.eval x)⟩
  ·cases h
 ·rename_i T hop;split at h
  ·rename_i i hi;cases h;have hz:=Rd.zero ρ w i.ty;obtain⟨ρ',h1⟩:=FL hr nx hn T hz (λb T0 h0=>⟨(hti.head T i T0 hi h0).symm,λv hv=>.inl (Qd h0 hv)⟩);refine⟨ρ',_,_,.inl ?_,h1⟩;simp only[execOp,hop,Instr.alloc,awx,hti.zero T i w hi,aws,newVar,nZ,jG hz,awM]
  ·cases h
 ·rename_i T x hop;split at h
  ·rename_i i v hi hx;split at h
   ·rename_i y hy;have hv:=hr.eval x;rw[hx]at hv;obtain⟨c,hc,hcells,_⟩:=(VR.to hv hy).cells;generalize List.any _ _=fz at h;cases fz
    ·simp only[awW]at h;cases hsp:i.ty.spHead
     rotate_left
     ·rw[hsp]at h;cases h
     rw[hsp]at h;cases h;obtain⟨ρ',h1⟩:=FL hr nx hn T hc (λb T0 h0=>by simp[Ty.spHead,h0]at hsp);refine⟨ρ',_,_,.inl ?_,h1⟩;simp only[execOp,hop,Instr.box,awx,newVar,nZ,hcells,aws,awM]
    ·simp only[awL]at h;cases hb:dG i.ty y
     ·rw[hb]at h;cases h
     ·rw[hb]at h;cases h;have h1:=adF hr nx T hc hb;refine⟨ρ,_,_,.inl ?_,h1⟩;simp only[execOp,hop,Instr.box,awx,newVar,nZ,hcells,aws,awM]
   ·cases h
  ·rename_i i t hi hx;split at h
   ·rename_i e;subst e;generalize List.any _ _=fz at h;cases fz
    ·simp only[awW]at h;cases h;have hv:=hr.eval x;rw[hx]at hv;have hv:a.eval x=mkV i.ty i.ty.zcells:=hv;have hz:=Rd.zero ρ w i.ty;obtain⟨ρ',h1⟩:=FL hr nx hn T hz (λb T0 h0=>⟨(hti.head T i T0 hi h0).symm,λv hv=>.inl (Qd h0 hv)⟩);refine⟨ρ',_,_,.inl ?_,h1⟩;simp only[execOp,hop,Instr.box,awx,newVar,nZ,hv,jG hz,aws,awM]
    ·cases h
   ·cases h
  ·cases h
 ·rename_i T parts hop;obtain⟨pv',h1,h2⟩:=nat0 (λR K=>yx C.ti T _ K) (λR K=>FD ..) h;refine pure0 h2 (S:=Instr.build T (parts.map λ(i,x)=>(i,a.eval x))) (by simp only[execOp,hop]) ?_;obtain⟨h3,h4⟩:=Qa hr parts.toList;exact Wt hti (by simp) (λj p v hp hv=>h4 j p v hp (by simpa using hv)) h1
 ·rename_i T len parts hop;split at h
  ·rename_i i hi;have hu:=hti.under T i hi;split at h
   ·rename_i e t hd hty;rw[hd]at hu;obtain⟨i',hi',h2,h3⟩:=nY hti hi hd;split at h
    ·rename_i ie hie;rw[hi']at hie;cases hie;split at h
     ·rename_i ht;subst ht;split at h
      ·rename_i f hf;cases hb:Nat.ble (len*i'.ty.size) 16777216&&(parts.toList.map λp=>(p.1,s.val p.2)).all (λp=>Nat.blt p.1 len)
       ·rw[hb]at h;cases h
       ·rw[hb]at h;simp only[awL]at h;simp only[awu]at hb;obtain⟨hb1,hb2⟩:=hb;have hb1:=awN hb1;obtain⟨h4,h5⟩:=Qa hr parts.toList;have hz0:=Rd.zero ρ w (.arr len i'.ty);obtain⟨cs',h6,h7⟩:=Sv (pl:=λj=>some (j*i'.ty.size,i'.ty.size)) (vparts:=parts.toList.map λ(i,x)=>(i,a.eval x)) (by simp) h5 (λj p u hj hu'=>by have hp:=Sw hb2 j p hj;simp only[Ty.at]at hu';cases hu';exact⟨⟨hp,Ty.okP_nil _⟩,by simp[Ty.off]⟩) hf hz0;generalize List.any _ _=fz at h;cases fz
        rotate_left
        ·simp only[awL]at h;cases hfl:i'.ty.flat
         ·rw[hfl]at h;cases h
         ·rw[hfl]at h;cases h;have h8:=a6j hr nx e h7 hfl;refine⟨ρ,_,_,.inl ?_,h8⟩;simp only[execOp,hop,Instr.buildSlice,awx,awJ hu,hti.size e i' w hi',aws,ayQ];rw[awG (by omega)];have hzc:(Array.range (len*i'.ty.size)).map (λx=>i'.ty.zcells.toArray[x%i'.ty.zcells.toArray.size]!)=(Ty.arr len i'.ty).zcells.toArray:=by have:=xG i'.ty.zcells len;rw[cB]at this;rw[this];rfl
          have hp:(parts.map λ(x:Nat×Operand)=>(x.1,a.eval x.2)).toList=parts.toList.map λ(i,x)=>(i,a.eval x):=by simp
          split
          ·rename_i h0;have h1:(Array.range (len*i'.ty.size)).map (λx=>(#[]:Array Value)[x%(#[]:Array Value).size]!)=(Ty.arr len i'.ty).zcells.toArray:=by have:(Ty.arr len i'.ty).zcells=[]:=aya.1 (by rw[cB];exact h0);rw[this,h0];simp
           simp only[awM,aws,h1,hp,h6,awx,nZ]
          ·simp only[awx,hti.zero e i' w hi',aws,jG (Rd.zero ρ w i'.ty),awM,hzc,hp,h6,nZ]
        simp only[awW]at h;cases h;have h9:Rd (ρ.at (dG (.arr len i'.ty) f)) w (.arr len i'.ty) f cs':=h7.atOf (by cases dG (.arr len i'.ty) f<;>simp);have h10:len<=9223372036854775807:=by have:len*1<=len*i'.ty.size:=ayE _ h3;omega
        obtain⟨ρ',h8⟩:=a4U hr nx hn e h9 h10;refine⟨ρ',_,_,.inl ?_,h8⟩;simp only[execOp,hop,Instr.buildSlice,awx,awJ hu,hti.size e i' w hi',aws,ayQ];rw[awG (by omega)];have hzc:(Array.range (len*i'.ty.size)).map (λx=>i'.ty.zcells.toArray[x%i'.ty.zcells.toArray.size]!)=(Ty.arr len i'.ty).zcells.toArray:=by have:=xG i'.ty.zcells len;rw[cB]at this;rw[this];rfl
        have hp:(parts.map λ(x:Nat×Operand)=>(x.1,a.eval x.2)).toList=parts.toList.map λ(i,x)=>(i,a.eval x):=by simp
        split
        ·rename_i h0;have h1:(Array.range (len*i'.ty.size)).map (λx=>(#[]:Array Value)[x%(#[]:Array Value).size]!)=(Ty.arr len i'.ty).zcells.toArray:=by have:(Ty.arr len i'.ty).zcells=[]:=aya.1 (by rw[cB];exact h0);rw[this,h0];simp
         simp only[awM,aws,h1,hp,h6,awx,nZ]
        ·simp only[awx,hti.zero e i' w hi',aws,jG (Rd.zero ρ w i'.ty),awM,hzc,hp,h6,nZ]
      ·cases h
     ·cases h
    ·cases h
   ·cases h
  ·cases h
 ·rename_i T x hop;obtain⟨pv',h1,h2⟩:=nat0 (λR K=>rC C.ti T _ s.h K) (λR K=>Dq ..) h;exact pure0 h2 (S:=Instr.loadAt T (a.eval x)) (by simp only[execOp,hop]) (Mg hti hr (hr.eval x) h1)
 ·rename_i T x y hop;rw[FC]at h;cases hp:qY C.ti T (s.val x) (s.val y) s.h (λp u=>some (p,u))with
  |none=>rw[hp]at h;cases h
  |some r=>
   rw[hp]at h;cases h;obtain⟨w',h1,h2⟩:=Wu hti hr (hr.eval x) (hr.eval y) nx hn hp;exact⟨ρ,w',undef,Ip (by simp only[execOp,hop]) h1,h2⟩
 ·rename_i x hop;split at h
  ·rename_i t y hx;cases h;have hv:=hr.eval x;rw[hx]at hv;obtain⟨b,o,c,e,_⟩:=VR.ptrFz hv;exact⟨ρ,w,_,.inl (by simp only[execOp,hop,e];rfl),After.pure hr (by rw[<-e];exact hv)⟩
  ·rename_i t id p hx;cases h;have hv:=hr.eval x;rw[hx]at hv;obtain⟨loc,_,_,_,_,e⟩:=VR.ptrRf hv;exact⟨ρ,w,_,.inl (by simp only[execOp,hop,e];rfl),After.pure hr (by rw[<-e];exact hv)⟩
  ·cases h
 ·rename_i op T x y _ hop;obtain⟨pv',h1,h2⟩:=nat0 (λR K=>M7 C.ti op T _ _ K) (λR K=>Oz ..) h;exact pure0 h2 (S:=do eqGuard op T x y (a.eval x) (a.eval y);binOp op T (a.eval x) (a.eval y)) (by simp only[execOp,hop]) (ZM hti (hr.eval x) (hr.eval y) h1)
 ·rename_i op T x hop;obtain⟨pv',h1,h2⟩:=nat0 (λR K=>Ye op _ K) (λR K=>Sm ..) h;exact pure0 h2 (S:=Op.unary op (a.eval x)) (by simp only[execOp,hop]) (a2h (hr.eval x) h1)
 ·rename_i T T' x hop;obtain⟨ρ',v,w',h1,h2⟩:=Rf hti hr (hr.eval x) nx hn h;exact⟨ρ',w',v,uV (S:=convert T T' (a.eval x)) (by simp only[execOp,hop]) h1,h2⟩
 ·rename_i T x hop;obtain⟨pv',h1,h2⟩:=nat0 (λR K=>sP C.ti T _ K) (λR K=>Dr ..) h;exact pure0 h2 (S:=Instr.arrayAt T (a.eval x)) (by simp only[execOp,hop]) (Sr hti (hr.eval x) h1)
 ·rename_i fn first caps hop;obtain⟨pv',h1,h2⟩:=nat0 (λR K=>nW fn _ _ K) (λR K=>zk ..) h;refine pure0 h2 (S:=Instr.makeFunc fn (first.map a.eval) (caps.map a.eval)) (by simp only[execOp,hop]) ?_;unfold nW at h1;split at h1
  ·rename_i f l hf hl;cases h1;obtain⟨h3,h4⟩:=ZP hr caps.toList;obtain⟨h5,h6⟩:=ZO h3 h4 hl;have hf':first= #[]:=by simpa using hf
   subst hf';exact⟨_,rfl,[_],⟨caps.toList.map a.eval,rfl,h5,h6⟩,by have e:caps.map a.eval=(caps.toList.map a.eval).toArray:=ayt (by simp);rw[e,show(#[]:Array Operand).map a.eval= #[]by simp];rfl⟩
  ·cases h1
 ·rename_i T x lo hi mx hop;split at h
  ·obtain⟨pv',h1,h2⟩:=nat0 (λR K=>yC C.ti T _ _ _ K) (λR K=>FI ..) h;obtain⟨h3,h4⟩:=Sy hr lo;obtain⟨h5,h6⟩:=Sy hr hi;exact pure0 h2 (S:=Instr.sliceAt T (a.eval x) (lo.map a.eval) (hi.map a.eval) none) (by simp only[execOp,hop,Option.map_none]) (Wq hti (hr.eval x) h3 h5 h4 h6 h1)
  ·cases h
 ·rename_i T x j hop;obtain⟨pv',h1,h2⟩:=nat0 (λR K=>jI C.ti T _ j K) (λR K=>xC ..) h;exact pure0 h2 (S:=Instr.fieldAt T (a.eval x) j) (by simp only[execOp,hop]) (Mh hti (hr.eval x) h1)
 ·rename_i T x j hop;obtain⟨pv',h1,h2⟩:=nat0 (λR K=>yA C.ti T _ j K) (λR K=>FE ..) h;exact pure0 h2 (S:=Instr.field T (a.eval x) j) (by simp only[execOp,hop]) (Wo hti (hr.eval x) h1)
 ·rename_i T x y hop;obtain⟨pv',h1,h2⟩:=nat0 (λR K=>jJ C.ti T _ _ K) (λR K=>xD ..) h;exact pure0 h2 (S:=Instr.indexAt T (a.eval x) (a.eval y)) (by simp only[execOp,hop]) (Mi hti (hr.eval x) (hr.eval y) h1)
 ·rename_i T x y hop;obtain⟨pv',h1,h2⟩:=nat0 (λR K=>yB C.ti T _ _ K) (λR K=>FH ..) h;exact pure0 h2 (S:=Instr.index T (a.eval x) (a.eval y)) (by simp only[execOp,hop]) (Wp hti (hr.eval x) (hr.eval y) h1)
 ·rename_i x j hop;obtain⟨pv',h1,h2⟩:=nat0 (λR K=>pI _ j K) (λR K=>Bw ..) h;exact pure0 h2 (S:=Instr.extract (a.eval x) j) (by simp only[execOp,hop]) (Rb (hr.eval x) h1)
 ·rename_i T l c hop;obtain⟨ρ',v,w',h1,h2⟩:=Yo hti hr (hr.eval l) (hr.eval c) nx hn h;exact⟨ρ',w',v,uV (S:=Instr.makeSlice T (a.eval l) (a.eval c)) (by simp only[execOp,hop]) h1,h2⟩
 ·rename_i T r hop;split at h
  ·obtain⟨ρ',v,w',h1,h2⟩:=Ri hr nx hn h;exact⟨ρ',w',v,uV (S:=Instr.makeMap T none) (by simp only[execOp,hop,Option.map_none]) h1,h2⟩
  ·cases h
 ·rename_i T x y ok hop;split at h
  ·rename_i kt hbt;obtain⟨ρ',v,h1,h2⟩:=Rj hti hr hbt (hr.eval x) (hr.eval y) nx hn2 h;exact⟨ρ',w,v,uV (S:=Instr.lookup T (a.eval x) (a.eval y) ok) (by simp only[execOp,hop]) h1,h2⟩
  ·obtain⟨pv',h1,h2⟩:=nat0 (λR K=>qE C.ti T _ _ ok s.h K) (λR K=>Dt ..) h;exact pure0 h2 (S:=Instr.lookup T (a.eval x) (a.eval y) ok) (by simp only[execOp,hop]) (SB hti hr (hr.eval x) (hr.eval y) h1)
 ·rename_i T x y z hop;split at h
  ·rename_i kt hbt;rw[Du]at h;cases hp:qF kt (s.val x) (s.val y) (s.val z) s.h (λp u=>some (p,u))with
   |none=>rw[hp]at h;cases h
   |some r=>
    rw[hp]at h;cases h;obtain⟨w',h1,h2⟩:=SH hti hr hbt (hr.eval x) (hr.eval y) (hr.eval z) nx hp;exact⟨ρ,w',undef,Ip (by simp only[execOp,hop]) h1,h2⟩
  ·rw[xE]at h;cases hp:jd C.ti T (s.val x) (s.val y) (s.val z) s.h (λp u=>some (p,u))with
   |none=>rw[hp]at h;cases h
   |some r=>
    rw[hp]at h;cases h;obtain⟨w',h1,h2⟩:=Mk hti hr (hr.eval x) (hr.eval y) (hr.eval z) nx hp;exact⟨ρ,w',undef,Ip (by simp only[execOp,hop]) h1,h2⟩
 ·rename_i T x y hop;rw[zl]at h;cases hp:jW C.ti T (s.val x) (s.val y) s.h (λp u=>some (p,u))with
  |none=>rw[hp]at h;cases h
  |some r=>
   rw[hp]at h;cases h;obtain⟨v,w',h1,h2⟩:=OE hti hr (hr.eval x) (hr.eval y) nx hp;exact⟨ρ,w',v,uV (S:=Instr.mapEntry T (a.eval x) (a.eval y)) (by simp only[execOp,hop]) h1,h2⟩
 ·rename_i T x y z hop;rw[uS]at h;cases hp:gZ C.ti T (s.val x) (s.val y) (s.val z) s.h (λp u=>some (p,u))with
  |none=>rw[hp]at h;cases h
  |some r=>
   rw[hp]at h;cases h;obtain⟨w',h1,h2⟩:=KY hti hr (hr.eval x) (hr.eval y) (hr.eval z) nx hp;exact⟨ρ,w',undef,Ip (by simp only[execOp,hop]) h1,h2⟩
 ·rename_i c hop;unfold rY at h;split at h
  ·rename_i b hb;have one: ∀x,c.args.toList.map s.val=[x]-> ∃ox,c.args= #[ox]/\s.val ox=x:=by intro x e;obtain⟨ox,e1,e2⟩:=List.map_eq_singleton_iff.1 e;exact⟨ox,ayt e1,e2⟩
   have two: ∀x y,c.args.toList.map s.val=[x,y]-> ∃ox oy,c.args= #[ox,oy]/\s.val ox=x/\s.val oy=y:=by intro x y e;obtain⟨ox,l,e1,e2,e3⟩:=List.map_eq_cons_iff.1 e;obtain⟨oy,e4,e5⟩:=List.map_eq_singleton_iff.1 e3;subst e4;exact⟨ox,oy,ayt e1,e2,e5⟩
   have first: ∀T l,c.argTypes.toList=T::l->c.argTypes[0]?=some T:=by intro T l e;rw[<-ayg,e];rfl
   split at h
   ·rename_i x T l hx hT;obtain⟨ox,e1,rfl⟩:=one x hx;obtain⟨pv',h1,h2⟩:=nat0 (λR K=>Md C.ti T _ K) (λR K=>OC ..) h;obtain⟨v,h3,h4⟩:=ZW hti (first T l hT) (ty:=o.type) (hr.eval ox) h1;cases h2;exact⟨ρ,w,v,.inl (by simp only[execOp,hop,resolve,hb,e1,awx,awM,aws,invoke,builtin,ayj,axQ,ayI,h3]),After.pure hr h4⟩
   ·rename_i x hx;obtain⟨ox,e1,rfl⟩:=one x hx;obtain⟨pv',h1,h2⟩:=nat0 (λR K=>Bu C.ti _ _ s.h K) (λR K=>KT ..) h;obtain⟨v,w',h3,h4,h5⟩:=Yq (P:=P) hti hr (Ts:=c.argTypes) (hr.eval ox) h1;cases h2;exact⟨ρ,w',v,.inl (by simp only[execOp,hop,resolve,hb,e1,awx,awM,aws,invoke,builtin,ayj,axQ,ayI,h3]),⟨h4.1,h4.2,h5,λ_ _=>rfl,λ_=>rfl⟩⟩
   ·rename_i x y T l hx hT;obtain⟨ox,oy,e1,rfl,rfl⟩:=two x y hx;rw[KU]at h;cases hp:Bv C.ti T (s.val ox) (s.val oy) s.h (λp u=>some (p,u))with
    |none=>rw[hp]at h;cases h
    |some r=>
     rw[hp]at h;cases h;obtain⟨v,w',h3,h4⟩:=Yr hti hr (first T l hT) (ty:=o.type) (hr.eval ox) (hr.eval oy) nx hp;exact⟨ρ,w',v,.inl (by simp only[execOp,hop,resolve,hb,e1,awx,awM,aws,invoke,builtin,ayj,axQ,ayI,h3]),h4⟩
   ·rename_i x y hx;obtain⟨ox,oy,e1,rfl,rfl⟩:=two x y hx;obtain⟨pv',h1,h2⟩:=nat0 (λR K=>Ma _ _ K) (λR K=>OA ..) h;obtain⟨v,h3,h4⟩:=ZU (P:=P) (hr.eval ox) (hr.eval oy) h1;cases h2;exact⟨ρ,w,v,.inl (by simp only[execOp,hop,resolve,hb,e1,awx,awM,aws,invoke,builtin,ayj,axQ,ayI];rw[show Builtin.max_ c.argTypes o.type=Builtin.max_ #[] 0 from rfl,h3];rfl),After.pure hr h4⟩
   ·rename_i x y hx;obtain⟨ox,oy,e1,rfl,rfl⟩:=two x y hx;obtain⟨pv',h1,h2⟩:=nat0 (λR K=>Mc _ _ K) (λR K=>OB ..) h;obtain⟨v,h3,h4⟩:=ZV (P:=P) (hr.eval ox) (hr.eval oy) h1;cases h2;exact⟨ρ,w,v,.inl (by simp only[execOp,hop,resolve,hb,e1,awx,awM,aws,invoke,builtin,ayj,axQ,ayI];rw[show Builtin.min_ c.argTypes o.type=Builtin.min_ #[] 0 from rfl,h3];rfl),After.pure hr h4⟩
   ·rename_i x y T l hx hT;obtain⟨ox,oy,e1,rfl,hy⟩:=two x y hx;split at h
    ·rename_i str;have hv:=hr.eval oy;rw[hy]at hv;have hv:=VR.str hv;obtain⟨v,w',h3,h4,h5⟩:=Wv hti hr (first T l hT) (ty:=o.type) (hr.eval ox) nx hn h;exact⟨ρ,w',v,.inl (by simp only[execOp,hop,resolve,hb,e1,awx,awM,aws,invoke,builtin,ayj,axQ,ayI,hv,h3]),by simp only at h5;subst h5;exact h4⟩
    subst hy;obtain⟨v,w',h3,h4,h5⟩:=Yn hti hr (first T l hT) (ty:=o.type) (hr.eval ox) (hr.eval oy) nx hn h;exact⟨ρ,w',v,.inl (by simp only[execOp,hop,resolve,hb,e1,awx,awM,aws,invoke,builtin,ayj,axQ,ayI,h3]),by simp only at h5;subst h5;exact h4⟩
   ·rename_i x y T T' hx hT;obtain⟨ox,oy,e1,rfl,rfl⟩:=two x y hx;split at h
    ·rename_i e2;subst e2;obtain⟨ρ',v,w',h3,h4⟩:=Sz hti hr (ty:=o.type) (hr.eval ox) (hr.eval oy) nx hn h;have e3:c.argTypes= #[T,T]:=ayt hT;exact⟨ρ',w',v,.inl (by simp only[execOp,hop,resolve,hb,e1,e3,awx,awM,aws,invoke,builtin,ayj,axQ,ayI,h3]),h4⟩
    ·split at h
     ·rename_i str hy;cases hst:Im C.ti T'
      ·rw[hst]at h;cases h
      ·rw[hst]at h;simp only[awL]at h;have hv:=hr.eval oy;rw[hy]at hv;have hv:=VR.str hv;obtain⟨ρ',v,w',h3,h4⟩:=Rh hti hr (ty:=o.type) (hr.eval ox) hst nx hn h;have e3:c.argTypes= #[T,T']:=ayt hT;exact⟨ρ',w',v,.inl (by simp only[execOp,hop,resolve,hb,e1,e3,awx,awM,aws,invoke,builtin,ayj,axQ,ayI,hv,h3]),h4⟩
     ·cases h
   ·cases h
  ·cases h
 ·cases h
end
end Go.Den
