/-
 What the layer computes.
-/
import Derived.Test.YtldlihheppdhnaaGreatMF
import Derived.Test.YtldlihheppdhnaaGreatMK
import Derived.Test.YtldlihheppdhnaaGreatPlB
set_option linter.unusedVariables false
set_option linter.unusedSimpArgs false
namespace Go.Pl
open Go Go.Den Go.Num
section
variable {g:iY} {P Q G:Nat}
def uU(P Q G n:Nat)(c:Nat->Nat)(i:Int)(y:Nat):Prop:=(1<=i/\i<=7)/\y<Q/\Pz P Q n c/\G^y%P=atN P n c i.toNat
open Classical in
theorem Ob(h:cO g P Q G){n:Nat}{f:Nat->(Nat->Int)}{c:Nat->Nat}(hf: ∀j,j<n->IsN (f j) (c j)){i:Int}{a:Nat->Int}{y:Nat}(ha:IsN a y):
  zu (some g) n f (i,a)=some (decide (uU P Q G n c i y)):=by
 rw[Fg];unfold xA;have hI:=Xj h ha;have hM:=FK h hf;by_cases h1:1<=i
 ·by_cases h2:i<=7
  ·by_cases h3:y<Q
   ·by_cases h4:Pz P Q n c
    ·obtain⟨o,o1,o2⟩:=Xk h ha;obtain⟨z,z1,z2⟩:=Vw h h4.2.1 hf (i:=i.toNat) (by omega);rw[azv (by omega)]at z1;have e:decide (uU P Q G n c i y)=decide (G^y%P=atN P n c i.toNat):=by
      by_cases h5:G^y%P=atN P n c i.toNat
      ·rw[dJ h5,dJ (show uU P Q G n c i y from⟨⟨h1,h2⟩,h3,h4,h5⟩)]
      ·rw[bF h5,bF (λhh=>h5 hh.2.2.2)]
     rw[dJ h4]at hM;simp(disch:=omega) only[WW,hI,hM,o1,z1,o2.eqb z2,e,h3]
    ·rw[bF h4]at hM;rw[bF (p:=uU P Q G n c i y) (λhh=>h4 hh.2.2.1)];simp(disch:=omega) only[WW,hI,hM,h3]
   ·rw[bF (p:=uU P Q G n c i y) (λhh=>h3 hh.2.1)];simp(disch:=omega) only[WW,hI,h3]
  ·rw[bF (p:=uU P Q G n c i y) (λhh=>h2 hh.1.2)];simp(disch:=omega) only[WW]
 ·rw[bF (p:=uU P Q G n c i y) (λhh=>h1 hh.1.1)];simp(disch:=omega) only[WW]
def PY(P Q:Nat)(t:Int)(M:List (List Nat)):Prop:=(1<=t/\t<=2)/\(1<=M.length/\M.length<=25)/\ ∀i,i<M.length->(((M.getD i []).length:Nat):Int)=t+1/\Pz P Q (M.getD i []).length (λj=>(M.getD i []).getD j 0)
def uV(P Q G:Nat)(M:List (List Nat))(i:Int)(L:List Nat):Prop:=(1<=M.length/\M.length<=25)/\L.length=M.length/\ ∀k,k<M.length->uU P Q G (M.getD k []).length (λj=>(M.getD k []).getD j 0) i (L.getD k 0)
open Classical in
theorem RY(h:cO g P Q G){t:Int}(ht:1<=t/\t<=2){n:Nat}{m:Nat->SlV (Nat->Int)}{M:List (List Nat)}(hm:jm n m M)(hn:n<9223372036854775808):
  oF (some g) t n m=some (decide (PY P Q t M)):=by
 rw[Km];unfold Bv;have hb: ∀k,k<n-> ¬((((M.getD k []).length:Nat):Int)=t+1/\Pz P Q (M.getD k []).length (λj=>(M.getD k []).getD j 0))-> ¬PY P Q t M:=λk hk hh hmm=>hh (hmm.2.2 k (by rw[<-hm.sz];exact hk))
 obtain⟨y,y1,y2⟩:=l9 (R:=dV) (S:=Unit) (λk _=>jJ n m (n:Int) (k:Int) g t)
  (λk _=> ∀i,i<k->(((M.getD i []).length:Nat):Int)=t+1/\Pz P Q (M.getD i []).length (λj=>(M.getD i []).getD j 0))
  (λy=>(∃k:Nat,y=yQ (k:Int) g t/\ ¬PY P Q t M)\/(y=yR g t/\ ∀i,i<n->(((M.getD i []).length:Nat):Int)=t+1/\Pz P Q (M.getD i []).length (λj=>(M.getD i []).getD j 0))) n
  (λk hk _ hp=>by
   have hs:=hm.ms k hk;have hl:=hm.len k hk;have hC:=FK h (n:=(m k).len) (f:=SlV.fn (λ_=>0) (m k)) (c:=λj=>(M.getD k []).getD j 0) (hm.is k hk);by_cases c1:(((m k).len:Nat):Int)=t+1
   ·have e1:((((m k).len:Nat):Int) !=IntKind.i64.wrap (t+1))=false:=by rw[wrap_i64 (by omega)];exact a1k c1
    by_cases c2:Pz P Q (m k).len (λj=>(M.getD k []).getD j 0)
    ·rw[dJ c2]at hC;refine .inl ⟨(),?_,λi hi=>?_⟩
     ·simp(disch:=omega) only[dV,jJ,WW,CC,hs,e1,hC]
     ·by_cases e:i=k
      ·subst e;rw[<-hl];exact⟨c1,c2⟩
      ·exact hp i (by omega)
    ·rw[bF c2]at hC;refine .inr ⟨_,?_,.inl ⟨k,rfl,hb k hk (by rw[<-hl];exact λhh=>c2 hh.2)⟩⟩;simp(disch:=omega) only[dV,jJ,WW,CC,hs,e1,hC]
   ·have e1:((((m k).len:Nat):Int) !=IntKind.i64.wrap (t+1))=true:=by rw[wrap_i64 (by omega)];exact Y6 c1
    refine .inr ⟨_,?_,.inl ⟨k,rfl,hb k hk (by rw[<-hl];exact λhh=>c1 hh.1)⟩⟩;simp(disch:=omega) only[dV,jJ,WW,CC,hs,e1])
  (λ_ hp=>by refine⟨_,?_,.inr ⟨rfl,hp⟩⟩;simp(disch:=omega) only[dV,jJ,WW,CC]) () (λi hi=>absurd hi (axS _))
 have y1':aD dV (((n,m),((),(((n:Nat):Int),(0,())))),(g,(t,())))=some y:=y1;have hlr:uz t=some true:=by rw[Fu];unfold Cq;simp(disch:=omega) only[WW]
 simp only[y1'];rcases y2 with⟨k,rfl,hmm⟩|⟨rfl,hp⟩
 ·rw[bF hmm];simp(disch:=omega) only[WW,yQ]
 ·simp only[yR,hlr];have hsz:=hm.sz;by_cases c1:1<=n
  ·by_cases c2:n<=25
   ·rw[dJ (p:=PY P Q t M) ⟨ht,by omega,λi hi=>hp i (by omega)⟩];simp(disch:=omega) only[WW]
   ·rw[bF (p:=PY P Q t M) (λhh=>c2 (by have:=hh.2.1;omega))];simp(disch:=omega) only[WW]
  ·rw[bF (p:=PY P Q t M) (λhh=>c1 (by have:=hh.2.1;omega))];simp(disch:=omega) only[WW]
open Classical in
theorem Oc(h:cO g P Q G){n:Nat}{m:Nat->SlV (Nat->Int)}{M:List (List Nat)}(hm:jm n m M)(hn:n<9223372036854775808){i:Int}{ny:Nat}{y:Nat->(Nat->Int)}{L:List Nat}(hy:tK ny y L):
  eF (some g) n m (i,(ny,y))=some (decide (uV P Q G M i L)):=by
 rw[Fv];unfold xC;have hsz:=hm.sz;have hLl:=hy.1;by_cases c1:1<=n
 case neg=>
  rw[bF (p:=uV P Q G M i L) (λhh=>c1 (by have:=hh.1;omega))];simp(disch:=omega) only[WW]
 by_cases c2:n<=25
 case neg=>
  rw[bF (p:=uV P Q G M i L) (λhh=>c2 (by have:=hh.1;omega))];simp(disch:=omega) only[WW]
 by_cases c3:ny=n
 case neg=>
  rw[bF (p:=uV P Q G M i L) (λhh=>c3 (by have:=hh.2.1;omega))];have e:(((ny:Nat):Int) !=(n:Int))=true:=Y6 (by omega);simp(disch:=omega) only[WW,e]
 subst c3;obtain⟨z,y1,y2⟩:=l9 (R:=gY) (S:=Unit) (λk _=>pR g ny m (ny:Int) (k:Int) i ny y)
  (λk _=> ∀j,j<k->uU P Q G (M.getD j []).length (λq=>(M.getD j []).getD q 0) i (L.getD j 0))
  (λz=>(z=Ls false/\ ¬uV P Q G M i L)\/(z=Lu/\ ∀j,j<ny->uU P Q G (M.getD j []).length (λq=>(M.getD j []).getD q 0) i (L.getD j 0))) ny
  (λk hk _ hp=>by
   have hs:=hm.ms k hk;have hl:=hm.len k hk;have hC:=Ob h (n:=(m k).len) (f:=SlV.fn (λ_=>0) (m k)) (c:=λj=>(M.getD k []).getD j 0) (hm.is k hk) (i:=i) (hy.2 k hk);by_cases c:uU P Q G (m k).len (λj=>(M.getD k []).getD j 0) i (L.getD k 0)
   ·rw[dJ c]at hC;refine .inl ⟨(),?_,λj hj=>?_⟩
    ·simp(disch:=omega) only[gY,pR,WW,CC,hs,hC]
    ·by_cases e:j=k
     ·subst e;rw[<-hl];exact c
     ·exact hp j (by omega)
   ·rw[bF c]at hC;refine .inr ⟨_,?_,.inl ⟨rfl,λhh=>c (by rw[hl];exact hh.2.2 k (by omega))⟩⟩;simp(disch:=omega) only[gY,pR,WW,CC,hs,hC])
  (λ_ hp=>by refine⟨_,?_,.inr ⟨rfl,hp⟩⟩;simp(disch:=omega) only[gY,pR,WW,CC]) () (λi hi=>absurd hi (axS _))
 have y1':aD gY ((g,((),((ny,m),(((ny:Nat):Int),(0,()))))),((i,(ny,y)),()))=some z:=y1;simp(disch:=omega) only[WW,ayJ,y1'];rcases y2 with⟨rfl,hh⟩|⟨rfl,hp⟩
 ·rw[bF hh]
 ·rw[dJ (p:=uV P Q G M i L) ⟨by omega,by omega,λj hj=>hp j (by omega)⟩]
end
theorem LV {n:Nat}{m:Nat->SlV (Nat->Int)}{M:List (List Nat)}(hm:jm n m M)(hn:n<9223372036854775808)(hb:(iQ M).length<2^59):
  qP n m=some (zF (iQ M)):=by
 rw[Dv];unfold Aj;have hs:NK ⟨(iQ M).toArray⟩=some (zF (bl ⟨(iQ M).toArray⟩)):=ZW (by simpa [ByteArray.size]using hb);simp only[BN hm hn,hs]
open Go Go.Den Go.Num
theorem Im {n:Nat}(hn:n<9223372036854775808): ∃a,aV (n:Int)=some a/\IsN a n:=by obtain⟨a,h1,h2⟩:=NT (n:=(n:Int)) (by omega);exact⟨a,h1,h2⟩
open Classical in
noncomputable def Jr(n:Nat):Nat->Int:=if h:n<9223372036854775808 then Classical.choose (Im h)else λ_=>0
theorem xH {n:Nat}(h:n<9223372036854775808):aV (n:Int)=some (Jr n):=by unfold Jr;rw[dif_pos h];exact(Classical.choose_spec (Im h)).1
theorem CF {n:Nat}(h:n<9223372036854775808):IsN (Jr n) n:=by unfold Jr;rw[dif_pos h];exact(Classical.choose_spec (Im h)).2
section
variable {P Q G:Nat}
def evN(A:Nat->Nat)(n X Q:Nat):Nat:=Vs A (λi=>X^i) n%Q
theorem a2b(hP:1<P)(p62:P<4611686018427387904)(q31:Q<2147483648){n:Nat}(hn:n<=7){f:Nat->Int}{c:Nat->Nat}(hf:IsR n f c)(hc: ∀j,j<n->c j<Q):
  ∃o,ql ((P:Int),(Q:Int),(G:Int)) n f (n:Int)=some (n,o)/\ ∀j,j<n->IsN (o j) (G^c j%P):=by
 rw[Y2];unfold Zt;obtain⟨o,y1,e1⟩:=aP (R:=vZ) (S:=Nat->(Nat->Int)) (λk o=>Li n f (n:Int) k o (k:Int) ((P:Int),(Q:Int),(G:Int)))
  (λo=>Ep n o) (λk o=> ∀j,j<k->IsN (o j) (G^c j%P)) n
  (λk hk o ho=>by
   have hck:=hc k hk;have hlt:G^c k%P<P:=axG _ (by omega);have z1:=xH (n:=c k) (by omega);have z2:=CF (n:=c k) (by omega);have e1:=ZR (P:=P) (Q:=Q) (G:=G) (a:=G) z2 (by omega) (by omega);have z3:=xH (n:=G^c k%P) (by omega);have b1:Nat.ble ((k+1)*32) 140737488355328=true:=axu (by omega);have b2:Nat.ble (k+1) 9223372036854775807=true:=axu (by omega);refine⟨glue k o (λj=>(upd zNN 0 (Jr (G^c k%P))) (0+j)),?_,λj hj=>?_⟩
   ·simp(disch:=omega) only[vZ,Li,WW,CC,hf k hk,z1,e1,z3,b1,b2,Bool.and_self]
   ·by_cases hjk:j<k
    ·rw[Rj hjk];exact ho j hjk
    ·obtain rfl:j=k:=by omega
     rw[Rk (axr _),ayu];exact CF (by omega))
  (λo ho=>by simp(disch:=omega) only[vZ,Li,WW,CC]) zNN (λj hj=>absurd hj (axS _))
 have y1':aD vZ (((n,f),((n:Int),((),((0,zNN),(0,()))))),(((P:Int),(Q:Int),(G:Int)),()))=some (Ep n o):=y1;simp only[y1',Ep];exact⟨_,rfl,λj hj=>by simp only[axA];exact e1 j hj⟩
theorem Rl(q31:Q<2147483648){n:Nat}(hn:n<=100){l:Nat->(Nat->Int)}{A:Nat->Nat}(hl: ∀i,i<n->IsN (l i) (A i))(hA: ∀i,i<n->A i<Q):Ae n l (Q:Int)=some true:=by
 rw[Y3];unfold Zu;obtain⟨_,y1,rfl⟩:=aP (R:=w9) (S:=Unit) (λk _=>Ll n l (Q:Int) (k:Int)) (λ_=>Et) (λk s=>s=()) n
  (λk hk _ _=>by
   have z1:=xH (n:=Q) (by omega);have z2:=CF (n:=Q) (by omega);have c1:=ZI (hl k hk) z2;have hak:=hA k hk;have e: ¬Dz (A k) Q>=0:=by unfold Dz;rw[axp hak];decide
   refine⟨(),?_,rfl⟩;simp(disch:=omega) only[w9,Ll,WW,CC,z1,c1,e])
  (λ_ _=>by simp(disch:=omega) only[w9,Ll,WW,CC]) () rfl
 have y1':aD w9 (((n,l),((Q:Int),(0,()))),())=some Et:=y1;simp only[y1',Et]
theorem aaB(hP:1<P)(p62:P<4611686018427387904)(hQ:1<Q)(q31:Q<2147483648){n:Nat}(hn:n<=7){l:Nat->(Nat->Int)}{A:Nat->Nat}(hl: ∀i,i<n->IsN (l i) (A i))(hA: ∀i,i<n->A i<Q):
  ∃w o,wZ n l (Q:Int)=some (n,w)/\ql ((P:Int),(Q:Int),(G:Int)) n w (n:Int)=some (n,o)/\(∀j,j<n->IsN (o j) (G^A j%P))/\ ∀X:Nat,bE n w (X:Int) (Q:Int)=some ((evN A n X Q:Nat):Int)/\aV ((evN A n X Q:Nat):Int)=some (Jr (evN A n X Q))/\IsN (Jr (evN A n X Q)) (evN A n X Q):=by
 obtain⟨w,h1,h2⟩:=ZT (n:=n) (by omega) hl (q:=Q) (by omega) (by omega);have h3:IsR n w A:=λi hi=>by rw[h2 i hi];simp only[axk (hA i hi)]
 obtain⟨o,o1,o2⟩:=a2b (P:=P) (Q:=Q) (G:=G) hP p62 q31 hn h3 hA;refine⟨w,o,h1,o1,o2,λX=>?_⟩;have hlt:evN A n X Q<Q:=axG _ (by omega);exact⟨Xm hQ q31 (by omega) h3,xH (by omega),CF (by omega)⟩
def coN(a b:Nat->Nat)(t k j:Nat):Nat:=if j=0 then a k else b (t*k+(j-1))
theorem a6F {n:Nat}{x:Nat->Int}{l:Nat->(Nat->Int)}{a b:Nat->Nat}{t k lo:Nat}(hx:IsN x (a k))(hl: ∀j,j<t->IsN (l (lo+j)) (b (t*k+j))): ∀i,i<t+1->IsN ((λj=>(glue 1 (upd zNN 0 x) (λj=>l (lo+j))) (0+j)) i) (coN a b t k i):=by
 intro i hi;simp only[axA];by_cases e:i=0
 ·subst e;rw[Rj (by omega)];exact hx
 ·rw[Rk (by omega),coN,axi e];exact hl (i-1) (by omega)
def vD(P G:Nat)(a b:Nat->Nat)(t nn:Nat):List (List Nat):=(List.range nn).map λk=>(List.range (t+1)).map λj=>G^coN a b t k j%P
theorem wP {a b:Nat->Nat}{t nn k:Nat}(hk:k<nn):(vD P G a b t nn).getD k []=(List.range (t+1)).map λj=>G^coN a b t k j%P:=by simp[vD,axm,axW,ayP hk]
theorem Od {f:Nat->Nat}{n j:Nat}(hj:j<n):((List.range n).map f).getD j 0=f j:=by simp[axm,axW,ayP hj]
structure aaC(P Q G:Nat)(a b:Nat->Nat)(t nn:Nat)(m:Nat->SlV (Nat->Int))(l:Nat->Int×SlV (Nat->Int)):Prop where
 mat:jm nn m (vD P G a b t nn)
 sh: ∀i,i<3*t+1-> ∃f,(l i).2= .fz nn f/\ ∀k,k<nn->IsN (f k) (evN (coN a b t k) (t+1) (i+1) Q)
theorem a07 {a b:Nat->Nat}{t nn:Nat}{m:Nat->SlV (Nat->Int)}(h: ∀k,k<nn-> ∃o,m k= .fz (t+1) o/\ ∀j,j<t+1->IsN (o j) (G^coN a b t k j%P)):jm nn m (vD P G a b t nn) where
 sz:=by simp[vD]
 ms:=λi hi=>by obtain⟨o,h1,_⟩:=h i hi;rw[h1];rfl
 len:=λi hi=>by obtain⟨o,h1,_⟩:=h i hi;rw[h1,wP hi];simp[SlV.len]
 is:=λi hi j hj=>by obtain⟨o,h1,h2⟩:=h i hi;rw[h1]at hj⊢;have hj':j<t+1:=hj;rw[wP hi,Od hj'];exact h2 j hj'
theorem a6G(hP:1<P)(p62:P<4611686018427387904)(hQ:1<Q)(q31:Q<2147483648){t nn:Nat}(ht:t=1\/t=2)(hnn:nn=1\/nn=2){x y:Nat->(Nat->Int)}{a b:Nat->Nat}(hx: ∀k,k<nn->IsN (x k) (a k))(hy: ∀j,j<t*nn->IsN (y j) (b j))(ha: ∀k,k<nn->a k<Q)(hb: ∀j,j<t*nn->b j<Q):
  ∃m l,Eu ((P:Int),(Q:Int),(G:Int)) (t:Int) nn x (t*nn) y=some (((nn,m),((3*t+1,l),(0,()))),())/\aaC P Q G a b t nn m l:=by
 have i1:=Rl q31 (n:=nn) (by omega) hx ha;have i2:=Rl q31 (n:=t*nn) (by rcases ht with rfl|rfl<;>omega) hy hb;have hA: ∀k,k<nn-> ∀i,i<t+1->coN a b t k i<Q:=λk hk i hi=>by
  unfold coN;split
  ·exact ha k hk
  ·exact hb _ (by rcases ht with rfl|rfl<;>rcases hnn with rfl|rfl<;>omega)
 have R0:=λ(k lo:Nat) (hk:k<nn) (hlo:lo=t*k)=>aaB (P:=P) (G:=G) hP p62 hQ q31 (n:=t+1) (by omega) (a6F (n:=t) (x:=x k) (l:=y) (a:=a) (b:=b) (t:=t) (k:=k) (lo:=lo) (hx k hk) (λj hj=>by subst hlo;exact hy _ (by rcases ht with rfl|rfl<;>rcases hnn with rfl|rfl<;>omega))) (hA k hk)
 rw[Ke];unfold Ht;rcases ht with rfl|rfl
 ·rcases hnn with rfl|rfl
  ·obtain⟨w,o,h1,h2,h3,E⟩:=R0 0 0 (by omega) rfl;have h2':ql ((P:Int),(Q:Int),(G:Int)) 2 w 2=some (2,o):=h2;have E1: ∀X:Nat,bE 2 w (no_index (OfNat.ofNat X:Int)) (Q:Int)=some ((evN (coN a b 1 0) 2 X Q:Nat):Int):=λX=>(E X).1
   have E2: ∀X:Nat,aV ((evN (coN a b 1 0) 2 X Q:Nat):Int)=some (Jr (evN (coN a b 1 0) 2 X Q)):=λX=>(E X).2.1
   refine⟨?_,?_,?g,?h⟩
   case g=>
    show xk _ x 1 y=_;unfold xk;simp(disch:=omega) only[WW,ayJ,show(((1:Nat):Int) !=1)=false from rfl,i1,i2,h1,h2',E1,E2];rfl
   case h=>
    refine⟨a07 λk hk=>?_,λi hi=>?_⟩
    ·obtain rfl:k=0:=by omega
     exact⟨o,rfl,h3⟩
    ·rcases(by omega:i=0\/i=1\/i=2\/i=3)with rfl|rfl|rfl|rfl
     all_goals exact⟨_,rfl,λk hk=>by obtain rfl:k=0:=(by omega);exact(E _).2.2⟩
  ·obtain⟨w,o,h1,h2,h3,E⟩:=R0 0 0 (by omega) rfl;obtain⟨w1,o1,g1,g2,g3,F⟩:=R0 1 1 (by omega) rfl;have h2':ql ((P:Int),(Q:Int),(G:Int)) 2 w 2=some (2,o):=h2;have E1: ∀X:Nat,bE 2 w (no_index (OfNat.ofNat X:Int)) (Q:Int)=some ((evN (coN a b 1 0) 2 X Q:Nat):Int):=λX=>(E X).1
   have E2: ∀X:Nat,aV ((evN (coN a b 1 0) 2 X Q:Nat):Int)=some (Jr (evN (coN a b 1 0) 2 X Q)):=λX=>(E X).2.1
   have g2':ql ((P:Int),(Q:Int),(G:Int)) 2 w1 2=some (2,o1):=g2;have F1: ∀X:Nat,bE 2 w1 (no_index (OfNat.ofNat X:Int)) (Q:Int)=some ((evN (coN a b 1 1) 2 X Q:Nat):Int):=λX=>(F X).1
   have F2: ∀X:Nat,aV ((evN (coN a b 1 1) 2 X Q:Nat):Int)=some (Jr (evN (coN a b 1 1) 2 X Q)):=λX=>(F X).2.1
   refine⟨?_,?_,?g,?h⟩
   case g=>
    show xq _ x 2 y=_;unfold xq;simp(disch:=omega) only[WW,ayJ,show(((2:Nat):Int) !=2)=false from rfl,i1,i2,h1,h2',E1,E2,g1,g2',F1,F2];rfl
   case h=>
    refine⟨a07 λk hk=>?_,λi hi=>?_⟩
    ·rcases(by omega:k=0\/k=1)with rfl|rfl
     ·exact⟨o,rfl,h3⟩
     ·exact⟨o1,rfl,g3⟩
    ·rcases(by omega:i=0\/i=1\/i=2\/i=3)with rfl|rfl|rfl|rfl
     all_goals exact⟨_,rfl,λk hk=>by rcases(by omega:k=0\/k=1)with rfl|rfl;exact(E _).2.2;exact(F _).2.2⟩
 ·rcases hnn with rfl|rfl
  ·obtain⟨w,o,h1,h2,h3,E⟩:=R0 0 0 (by omega) rfl;have h2':ql ((P:Int),(Q:Int),(G:Int)) 3 w 3=some (3,o):=h2;have E1: ∀X:Nat,bE 3 w (no_index (OfNat.ofNat X:Int)) (Q:Int)=some ((evN (coN a b 2 0) 3 X Q:Nat):Int):=λX=>(E X).1
   have E2: ∀X:Nat,aV ((evN (coN a b 2 0) 3 X Q:Nat):Int)=some (Jr (evN (coN a b 2 0) 3 X Q)):=λX=>(E X).2.1
   refine⟨?_,?_,?g,?h⟩
   case g=>
    show xu _ x 2 y=_;unfold xu;simp(disch:=omega) only[WW,ayJ,show(((2:Nat):Int) !=2)=false from rfl,i1,i2,h1,h2',E1,E2];rfl
   case h=>
    refine⟨a07 λk hk=>?_,λi hi=>?_⟩
    ·obtain rfl:k=0:=by omega
     exact⟨o,rfl,h3⟩
    ·rcases(by omega:i=0\/i=1\/i=2\/i=3\/i=4\/i=5\/i=6)with rfl|rfl|rfl|rfl|rfl|rfl|rfl
     all_goals exact⟨_,rfl,λk hk=>by obtain rfl:k=0:=(by omega);exact(E _).2.2⟩
  ·obtain⟨w,o,h1,h2,h3,E⟩:=R0 0 0 (by omega) rfl;obtain⟨w1,o1,g1,g2,g3,F⟩:=R0 1 2 (by omega) rfl;have h2':ql ((P:Int),(Q:Int),(G:Int)) 3 w 3=some (3,o):=h2;have E1: ∀X:Nat,bE 3 w (no_index (OfNat.ofNat X:Int)) (Q:Int)=some ((evN (coN a b 2 0) 3 X Q:Nat):Int):=λX=>(E X).1
   have E2: ∀X:Nat,aV ((evN (coN a b 2 0) 3 X Q:Nat):Int)=some (Jr (evN (coN a b 2 0) 3 X Q)):=λX=>(E X).2.1
   have g2':ql ((P:Int),(Q:Int),(G:Int)) 3 w1 3=some (3,o1):=g2;have F1: ∀X:Nat,bE 3 w1 (no_index (OfNat.ofNat X:Int)) (Q:Int)=some ((evN (coN a b 2 1) 3 X Q:Nat):Int):=λX=>(F X).1
   have F2: ∀X:Nat,aV ((evN (coN a b 2 1) 3 X Q:Nat):Int)=some (Jr (evN (coN a b 2 1) 3 X Q)):=λX=>(F X).2.1
   refine⟨?_,?_,?g,?h⟩
   case g=>
    show xw _ x 4 y=_;unfold xw;simp(disch:=omega) only[WW,ayJ,show(((4:Nat):Int) !=4)=false from rfl,i1,i2,h1,h2',E1,E2,g1,g2',F1,F2];rfl
   case h=>
    refine⟨a07 λk hk=>?_,λi hi=>?_⟩
    ·rcases(by omega:k=0\/k=1)with rfl|rfl
     ·exact⟨o,rfl,h3⟩
     ·exact⟨o1,rfl,g3⟩
    ·rcases(by omega:i=0\/i=1\/i=2\/i=3\/i=4\/i=5\/i=6)with rfl|rfl|rfl|rfl|rfl|rfl|rfl
     all_goals exact⟨_,rfl,λk hk=>by rcases(by omega:k=0\/k=1)with rfl|rfl;exact(E _).2.2;exact(F _).2.2⟩
end
open Go Go.Den Go.Num
def Wi(a b c d:Bool):Int:=(bif a then 1 else 0)+(bif b then 2 else 0)+(bif c then 4 else 0)+(bif d then 8 else 0)
def Wj(k c:Int):Prop:=(k=1\/k=2)/\c=8\/k=3/\(c=8\/av .andNot .i64 c 4=11)\/(k=4\/k=8)/\c=13\/(k=5\/k=6)/\c=3\/k=7/\c=9
structure asr where
 st:Bool
 dg:Bool
 mx:Bool
 op:Bool
noncomputable def lD(op:Int)(st:aH)(dg:ByteArray)(nm ny:Nat):asr:=⟨!(eqF (.pair (.int .i64) (.int .i64)) st (0,0)),!(sEq dg (ByteArray.mk #[])),decide (0<nm+ny),op !=0⟩
def Jd(b:asr)(op:Int)(st:aH)(dg:ByteArray)(M:List (List Nat))(ny:Nat):Prop:=
 (b.st=true->mJ st)/\(b.dg=true->dg.size=32)/\(b.mx=true->ny=M.length/\iQ M≠ [])/\(b.op=true->1<=op/\op<=1048576)
abbrev FY(k op:Int)(key:ByteArray)(st:aH)(dg:ByteArray)(nm:Nat)(m:Nat->SlV (Nat->Int))(ny:Nat)(y:Nat->(Nat->Int)):Int×(Int×(ByteArray×((Int×Int)×(ByteArray×((Nat×(Nat->SlV (Nat->Int)))×(Nat×(Nat->(Nat->Int)))))))):=(k,(op,(key,(st,(dg,((nm,m),(ny,y)))))))
theorem a08(s:aH):zy s=some (decide (mJ s)):=by
 rw[Fw];unfold Cr mJ;by_cases h1:s.1>=1
 ·by_cases h2:s.1<=1099511627776
  ·by_cases h3:s.2>=1<;>simp[h1,h2,h3]
  ·simp[h1,h2]
 ·simp[h1]
theorem some_spec(w:Int)(is_ may:Bool)(o:Int)(ok:Bool):dh w is_ may o ok=some ((),((bif is_ then av .or .i64 o w else o),((!is_||may)&&ok,()))):=by rw[yS];unfold uE;cases is_<;>cases may<;>cases ok<;>rfl
theorem aaD(l:List UInt8):sEq ⟨l.toArray⟩ (ByteArray.mk #[])=decide (l=[]):=by
 by_cases h:l=[]
 ·subst h;rw[dJ rfl];exact(uT _ _).2 rfl
 ·rw[bF h];cases hb:sEq ⟨l.toArray⟩ (ByteArray.mk #[])
  ·rfl
  ·have:=(uT _ _).1 hb;simp only[ByteArray.mk.injEq,Array.mk.injEq]at this;exact absurd (by simpa using this) h
open Classical in
theorem a09 {k op:Int}{key:ByteArray}{st:aH}{dg:ByteArray}{nm:Nat}{m:Nat->SlV (Nat->Int)}{M:List (List Nat)}(hm:jm nm m M){ny:Nat}{y:Nat->(Nat->Int)}(hn:nm<1000000000)(hy:ny<1000000000):
  uF (FY k op key st dg nm m ny y)=some (Wi (lD op st dg nm ny).st (lD op st dg nm ny).dg (lD op st dg nm ny).mx (lD op st dg nm ny).op,decide (Jd (lD op st dg nm ny) op st dg M ny)):=by
 rw[Fy];unfold Ct;have hB:=BN hm (by omega);have ht:IntKind.i64.wrap (((nm:Nat):Int)+((ny:Nat):Int))=((nm+ny:Nat):Int):=wrap_i64 (by omega);have ht2:decide (((nm+ny:Nat):Int)>0)=decide (0<nm+ny):=by
  by_cases h:0<nm+ny
  ·rw[dJ h];exact dJ (by omega)
  ·rw[bF h];exact bF (by omega)
 have hsz:=hm.sz;have hp: ∀b1 b2 b3 b4:Bool,∀q1 q2 q3 q4:Bool,(q1=true↔mJ st)->(q2=true↔dg.size=32)->(q3=true↔ny=M.length/\iQ M≠ [])->(b4=true->(q4=true↔1<=op/\op<=1048576))->
   ((!b4||q4)&&((!b3||q3)&&((!b2||q2)&&((!b1||q1)&&true))))=decide (Jd ⟨b1,b2,b3,b4⟩ op st dg M ny):=by
  intro b1 b2 b3 b4 q1 q2 q3 q4 h1 h2 h3 h4;rw[az5,axK];unfold Jd;simp only;rw[<-h1,<-h2,<-h3];cases b4
  ·cases b1<;>cases b2<;>cases b3<;>cases q1<;>cases q2<;>cases q3<;>simp
  ·rw[<-h4 rfl];cases b1<;>cases b2<;>cases b3<;>cases q1<;>cases q2<;>cases q3<;>cases q4<;>simp
 have hbit: ∀b1 b2 b3 b4:Bool,(bif b4 then av .or .i64 (bif b3 then av .or .i64 (bif b2 then av .or .i64 (bif b1 then av .or .i64 0 1 else 0) 2 else(bif b1 then av .or .i64 0 1 else 0)) 4 else(bif b2 then av .or .i64 (bif b1 then av .or .i64 0 1 else 0) 2 else(bif b1 then av .or .i64 0 1 else 0))) 8 else(bif b3 then av .or .i64 (bif b2 then av .or .i64 (bif b1 then av .or .i64 0 1 else 0) 2 else(bif b1 then av .or .i64 0 1 else 0)) 4 else(bif b2 then av .or .i64 (bif b1 then av .or .i64 0 1 else 0) 2 else(bif b1 then av .or .i64 0 1 else 0))))=Wi b1 b2 b3 b4:=by decide
 have h32:((((dg.size:Nat):Int)==32)=true↔dg.size=32):=by rw[azV];omega
 have hmx:(!(sEq ⟨(iQ M).toArray⟩ (ByteArray.mk #[])))=decide (iQ M≠ []):=by rw[aaD];by_cases h:iQ M=[]<;>simp[h]
 simp only[FY,a08,some_spec,ht,ht2,hB,hmx];show _=some (Wi (!(eqF (.pair (.int .i64) (.int .i64)) st (0,0))) (!(sEq dg (ByteArray.mk #[]))) (decide (0<nm+ny)) (op !=0),decide (Jd ⟨!(eqF (.pair (.int .i64) (.int .i64)) st (0,0)),!(sEq dg (ByteArray.mk #[])),decide (0<nm+ny),op !=0⟩ op st dg M ny));generalize hb4:(op !=0)=b4;generalize (!(eqF (.pair (.int .i64) (.int .i64)) st (0,0)))=b1;generalize (!(sEq dg (ByteArray.mk #[])))=b2;generalize decide (0<nm+ny)=b3;have q3:ny=nm->(decide (iQ M≠ [])=true↔ny=M.length/\iQ M≠ []):=λc1=>by rw[axK];exact⟨λh=>⟨by omega,h⟩,λh=>h.2⟩
 have q3':ny≠nm->(false=true↔ny=M.length/\iQ M≠ []):=λc1=>⟨λh=>by simp at h,λh=>absurd (by omega) c1⟩
 have q4:1<=op->(b4=true->(decide (op<=1048576)=true↔1<=op/\op<=1048576)):=λc2 _=>by rw[axK];exact⟨λh=>⟨c2,h⟩,λh=>h.2⟩
 have q4': ¬1<=op->(b4=true->(false=true↔1<=op/\op<=1048576)):=λc2 _=>⟨λh=>by simp at h,λh=>absurd h.1 c2⟩
 by_cases c1:ny=nm
 ·have e:(((ny:Nat):Int)==((nm:Nat):Int))=true:=Y5 (by omega);by_cases c2:1<=op
  ·rw[e,dJ (show op>=1 from c2),bM,bM,hbit,hp b1 b2 b3 b4 _ _ _ _ decide_eq_true_iff h32 (q3 c1) (q4 c2)]
  ·rw[e,bF (show¬op>=1 from c2),bM,bO,hbit,hp b1 b2 b3 b4 _ _ _ _ decide_eq_true_iff h32 (q3 c1) (q4' c2)]
 ·have e:(((ny:Nat):Int)==((nm:Nat):Int))=false:=iP (by omega);by_cases c2:1<=op
  ·rw[e,dJ (show op>=1 from c2),bO,bM,hbit,hp b1 b2 b3 b4 _ _ _ _ decide_eq_true_iff h32 (q3' c1) (q4 c2)]
  ·rw[e,bF (show¬op>=1 from c2),bO,bO,hbit,hp b1 b2 b3 b4 _ _ _ _ decide_eq_true_iff h32 (q3' c1) (q4' c2)]
theorem vE(x k:Int):(x=k/\(x==k)=true)\/(x≠k/\(x==k)=false):=by
 by_cases h:x=k
 ·exact .inl ⟨h,Y5 h⟩
 ·exact .inr ⟨h,iP h⟩
def wOk(k op:Int)(key:ByteArray)(st:aH)(dg:ByteArray)(M:List (List Nat))(ny:Nat):Prop:=
 (1<=key.size/\key.size<=8)/\Jd (lD op st dg M.length ny) op st dg M ny/\Wj k (Wi (lD op st dg M.length ny).st (lD op st dg M.length ny).dg (lD op st dg M.length ny).mx (lD op st dg M.length ny).op)
open Classical in
theorem RZ {k op:Int}{key:ByteArray}{st:aH}{dg:ByteArray}{nm:Nat}{m:Nat->SlV (Nat->Int)}{M:List (List Nat)}(hm:jm nm m M){ny:Nat}{y:Nat->(Nat->Int)}(hn:nm<1000000000)(hy:ny<1000000000):
  wC (FY k op key st dg nm m ny y)=some (if wOk k op key st dg M ny then 0 else 1):=by
 have hc:=a09 (k:=k) (op:=op) (key:=key) (st:=st) (dg:=dg) hm (y:=y) hn hy;have hsz:=hm.sz;rw[Kn];unfold I4;have hc':uF ((FY k op key st dg nm m ny y).1,((FY k op key st dg nm m ny y).2.1,((FY k op key st dg nm m ny y).2.2.1,((FY k op key st dg nm m ny y).2.2.2.1,((FY k op key st dg nm m ny y).2.2.2.2.1,(((FY k op key st dg nm m ny y).2.2.2.2.2.1.1,(FY k op key st dg nm m ny y).2.2.2.2.2.1.2),((FY k op key st dg nm m ny y).2.2.2.2.2.2.1,(FY k op key st dg nm m ny y).2.2.2.2.2.2.2)))))))=_:=hc;rw[hc'];unfold wOk;rw[<-hsz];generalize Wi (lD op st dg nm ny).st (lD op st dg nm ny).dg (lD op st dg nm ny).mx (lD op st dg nm ny).op=c;generalize Jd (lD op st dg nm ny) op st dg M ny=K;simp only[FY,a1W];have h7:(k=1\/k=2\/k=3\/k=4\/k=5\/k=6\/k=7\/k=8)\/(k≠1/\k≠2/\k≠3/\k≠4/\k≠5/\k≠6/\k≠7/\k≠8):=by omega
 unfold Wj;by_cases hk:1<=key.size/\key.size<=8
 ·rcases h7 with(rfl|rfl|rfl|rfl|rfl|rfl|rfl|rfl)|⟨a1,a2,a3,a4,a5,a6,a7,a8⟩
  ·by_cases hK:K<;>rcases vE c 8 with⟨c1,d1⟩|⟨c1,d1⟩<;>simp[hk,hK,c1,d1]
  ·by_cases hK:K<;>rcases vE c 8 with⟨c1,d1⟩|⟨c1,d1⟩<;>simp[hk,hK,c1,d1]
  ·by_cases hK:K<;>rcases vE c 8 with⟨c1,d1⟩|⟨c1,d1⟩<;>rcases vE (av .andNot .i64 c 4) 11 with⟨c2,d2⟩|⟨c2,d2⟩<;>simp[hk,hK,c1,d1,c2,d2]
  ·by_cases hK:K<;>rcases vE c 13 with⟨c1,d1⟩|⟨c1,d1⟩<;>simp[hk,hK,c1,d1]
  ·by_cases hK:K<;>rcases vE c 3 with⟨c1,d1⟩|⟨c1,d1⟩<;>simp[hk,hK,c1,d1]
  ·by_cases hK:K<;>rcases vE c 3 with⟨c1,d1⟩|⟨c1,d1⟩<;>simp[hk,hK,c1,d1]
  ·by_cases hK:K<;>rcases vE c 9 with⟨c1,d1⟩|⟨c1,d1⟩<;>simp[hk,hK,c1,d1]
  ·by_cases hK:K<;>rcases vE c 13 with⟨c1,d1⟩|⟨c1,d1⟩<;>simp[hk,hK,c1,d1]
  ·simp[a1,a2,a3,a4,a5,a6,a7,a8,iP a1,iP a2,iP a3,iP a4,iP a5,iP a6,iP a7,iP a8]
 ·rcases h7 with(rfl|rfl|rfl|rfl|rfl|rfl|rfl|rfl)|⟨a1,a2,a3,a4,a5,a6,a7,a8⟩
  ·by_cases hK:K<;>rcases vE c 8 with⟨c1,d1⟩|⟨c1,d1⟩<;>simp[hk,hK,c1,d1]
  ·by_cases hK:K<;>rcases vE c 8 with⟨c1,d1⟩|⟨c1,d1⟩<;>simp[hk,hK,c1,d1]
  ·by_cases hK:K<;>rcases vE c 8 with⟨c1,d1⟩|⟨c1,d1⟩<;>rcases vE (av .andNot .i64 c 4) 11 with⟨c2,d2⟩|⟨c2,d2⟩<;>simp[hk,hK,c1,d1,c2,d2]
  ·by_cases hK:K<;>rcases vE c 13 with⟨c1,d1⟩|⟨c1,d1⟩<;>simp[hk,hK,c1,d1]
  ·by_cases hK:K<;>rcases vE c 3 with⟨c1,d1⟩|⟨c1,d1⟩<;>simp[hk,hK,c1,d1]
  ·by_cases hK:K<;>rcases vE c 3 with⟨c1,d1⟩|⟨c1,d1⟩<;>simp[hk,hK,c1,d1]
  ·by_cases hK:K<;>rcases vE c 9 with⟨c1,d1⟩|⟨c1,d1⟩<;>simp[hk,hK,c1,d1]
  ·by_cases hK:K<;>rcases vE c 13 with⟨c1,d1⟩|⟨c1,d1⟩<;>simp[hk,hK,c1,d1]
  ·simp[a1,a2,a3,a4,a5,a6,a7,a8,iP a1,iP a2,iP a3,iP a4,iP a5,iP a6,iP a7,iP a8]
open Go Go.Den
def gH:List (ByteArray×Rc)->ByteArray->Nat| [],_=>0|e::l,k=>if e.1=k then 0 else gH l k+1
def a2c(N:Nat)(e:ByteArray×Rc):ByteArray×(RD×(VT×(VT×Unit))):=(e.1,((e.2.v,(e.1,(.nil,(.nil,e.2.c)))),(((N:Int),e.2.e),(((N:Int),e.2.r),()))))
def tL(N:Nat)(l:List (ByteArray×Rc)):BG:=l.map (a2c N)
theorem Oe(N:Nat)(k:ByteArray): ∀l,bidx .str (tL N l) k=gH l k
 | []=>rfl
 |e::l=>by
  have ih:=Oe N k l;show(bif sEq k e.1 then 0 else bidx .str (tL N l) k+1)=_;rw[ih,gH];by_cases h:e.1=k
  ·rw[(uT _ _).2 h.symm,axp h];rfl
  ·cases hb:sEq k e.1
   ·rw[axi h];rfl
   ·exact absurd ((uT _ _).1 hb).symm h
theorem Je(N:Nat)(l:List (ByteArray×Rc))(i:Nat):(tL N l)[i]?=(l[i]?).map (a2c N):=axW
theorem a2d: ∀(l:List (ByteArray×Rc)) k,gH l k<=l.length
 | [],_=>axr _
 |e::l,k=>by have:=a2d l k;simp only[gH,ayb];split<;>omega
theorem wQ: ∀ {l:List (ByteArray×Rc)} {k e},l[gH l k]?=some e->e.1=k
 |e0::l,k,e,h=>by
  simp only[gH]at h;split at h
  ·rename_i h0;simp only[axR,axe]at h;rw[<-h];exact h0
  ·simp only[ayv]at h;exact wQ h
theorem a4k {l:List (ByteArray×Rc)}{k:ByteArray}(h:l[gH l k]?=none):gH l k=l.length:=by have:=a2d l k;rw[List.getElem?_eq_none_iff]at h;omega
def nV:FU:=λ_ _ _=>((0,0),ByteArray.empty)
def newR:Rc:=⟨zVA,nV,nV,zCS⟩
def AQ(l:List (ByteArray×Rc))(k:ByteArray):Rc:=match l[gH l k]? with|some e=>e.2|none=>newR
def Js(l:List (ByteArray×Rc))(k:ByteArray)(x:Rc):List (ByteArray×Rc):=match l[gH l k]? with|some _=>l.modify (gH l k) (λe=>(e.1,x))|none=>l++[(k,x)]
theorem abJ(N:Nat)(l:List (ByteArray×Rc))(i:Nat)(k:ByteArray)(x:Rc)(h: ∀e,l[i]?=some e->e.1=k):
  List.modify (tL N l) i (λe=>(e.1,((x.v,(k,(.nil,(.nil,x.c)))),(((N:Int),x.e),(((N:Int),x.r),())))))=tL N (l.modify i (λe=>(e.1,x))):=by
 apply ayj;intro j;simp only[tL,az1,axW];by_cases e:i=j
 ·subst e;cases hj:l[i]? with
  |none=>rfl
  |some q=>
   have:=h q hj;simp[a2c,this]
 ·simp only[axi e];cases l[j]?<;>rfl
section
variable {f:Fr} {z:Fx}
def nD(f:Fr)(v:VA)(x:Rc):RcW:=if Az x.v v.1 v.2.1=true/\x.v.2.2.2.1=0 then({ x with v:=v },RX f { x with v:=v })else(x,[])
def iJ(f:Fr)(rec:FV)(i:Nat)(p:PR)(x:Rc):RcW:=
 if¬oN p.1.1 x.v.1 then gG (nD f p.1 x) λy=>(y,[Ik f i p])
 else if O8 p.1.1 x.v.1 then qD f rec p x
 else if(x.c i).2.1.1.1.1<p.1.1.1 then({ x with c:=upd x.c i ((x.c i).1,(p,(x.c i).2.2)) },[])else(x,[])
def EL(f:Fr)(rec:FV)(from_:Int)(p:aH)(d:ByteArray)(x:Rc):RcW:=if okV f.N x.e from_ p then ku f rec p d { x with e:=pW x.e from_ p d } else(x,[])
def uW(f:Fr)(rec:FV)(from_:Int)(p:aH)(d:ByteArray)(x:Rc):RcW:=if okV f.N x.r from_ p then ku f rec p d { x with r:=pW x.r from_ p d } else(x,[])
def BO(f:Fr)(i:Nat)(op:Int)(x:Rc):RcW:=
 if(x.c i).2.2.2<op/\(x.c i).2.2.1<=op then({ x with c:=upd x.c i ((x.c i).1,((x.c i).2.1,(op,(x.c i).2.2.2))) },O7 f { x with c:=upd x.c i ((x.c i).1,((x.c i).2.1,(op,(x.c i).2.2.2))) } i)else(x,[])
def yN(c:Nat->CL)(i:Nat)(op:Int):Nat->CL:=upd c i ((c i).1,((c i).2.1,((c i).2.2.1,(if(c i).2.2.2<op then op else(c i).2.2.2))))
def LW(i:Nat)(op:Int)(x:Rc):RcW:=
 if(x.c i).2.2.1<=op then({ x with c:=upd (yN x.c i op) i ((yN x.c i op i).1,((yN x.c i op i).2.1,(0,(yN x.c i op i).2.2.2))) },[])else({ x with c:=yN x.c i op },[])
theorem Wl(hf:f.Ok)(v:VA)(x:Rc)(o:fO)(ho:o.1+3<1000000000):gu v (f.mk' z x o)=some ((),f.mk' z (nD f v x).1 (apps o (nD f v x).2)):=by
 rw[qX];unfold mq;simp only[Ri];have h1:=VH (z:=z) hf { x with v:=v } o ho;simp only[Fr.mk',Fr.so,Fr.rc]at h1;cases hs:Az x.v v.1 v.2.1
 ·have e:nD f v x=(x,[]):=axi λh=>by rw[hs]at h;exact absurd h.1 (by decide)
  simp only[bO,e,eB]
 ·by_cases hy:x.v.2.2.2.1=0
  ·have e:nD f v x=_:=axp ⟨hs,hy⟩;have e2:(((x.v.2.2.2.1:Nat):Int)==0)=true:=Y5 (by omega);simp only[bM,e,e2,h1]
  ·have e:nD f v x=(x,[]):=axi λh=>hy h.2
   have e2:(((x.v.2.2.2.1:Nat):Int)==0)=false:=iP (by omega);simp only[bM,bO,e,e2,eB]
theorem a4l(c:Nat->CL):act c<=3:=a4c _ _
theorem Xu(hf:f.Ok){i:Nat}(hi:i<3)(p:PR)(hp:mJ p.1.1)(x:Rc)(o:fO)(hw:WFc x.c)(ho:o.1+10000<1000000000):
  iB ((i+1:Nat):Int) p (f.mk' z x o)=some ((),f.mk' z (iJ f (eO f 5) i p x).1 (apps o (iJ f (eO f 5) i p x).2)):=by
 rw[nM];unfold jA;have hn:=hf.n7;have ei:IntKind.i64.wrap (((i+1:Nat):Int)-1)=(i:Int):=by rw[wrap_i64 (by omega)];omega
 have eN:IntKind.i64.wrap ((f.N:Int)+((i+1:Nat):Int))=((f.N+(i+1):Nat):Int):=wrap_i64 (by omega);have h5:HB 5=6534:=rfl;rw[ei,Kr (by omega),bM];simp only[oO,PL];by_cases h1:oN p.1.1 x.v.1
 ·by_cases h2:O8 p.1.1 x.v.1
  ·have e:iJ f (eO f 5) i p x=qD f (eO f 5) p x:=by rw[iJ,axi (λh=>h h1),axp h2]
   have ht:=VN (z:=z) hf (DI hf 5) p hp x o hw (by have:=a4l x.c;omega) (by omega);simp only[Fr.mk',Fr.so,Fr.rc]at ht;simp(disch:=omega) only[WW,h1,h2,e,ht]
  ·by_cases h3:(x.c i).2.1.1.1.1<p.1.1.1
   ·have e:iJ f (eO f 5) i p x=_:=(axi (λh=>h h1)).trans ((axi h2).trans (axp h3));simp(disch:=omega) only[WW,h1,h2,e,eB]
   ·have e:iJ f (eO f 5) i p x=_:=(axi (λh=>h h1)).trans ((axi h2).trans (axi h3));simp(disch:=omega) only[WW,h1,h2,e,eB]
 ·have e:iJ f (eO f 5) i p x=gG (nD f p.1 x) λy=>(y,[Ik f i p]):=axp h1
  have hm:=Wl (z:=z) hf p.1 x o (by omega);have hl:(nD f p.1 x).2.length<=3:=by unfold nD;split;exact yg _ 3;exact ays _
  have hs:=sF (z:=z) hf (nD f p.1 x).1 (apps o (nD f p.1 x).2) (by rw[gF];omega) ((f.N+(i+1):Nat):Int) 7 p.2 f.key p.1.1 ByteArray.empty 0 (λ_=>.nil) 0 zNN;simp only[Fr.mk',Fr.so,Fr.rc]at hm hs;simp(disch:=omega) only[WW,h1,e,hm,eN,hs,gG,<-jl,Ij,Ik]
theorem a4m(hf:f.Ok)(from_:Int)(h0:from_<9223372036854775808)(k op:Int)(key:ByteArray)(p:aH)(d:ByteArray)(nm:Nat)(m:Nat->SlV (Nat->Int))(ny:Nat)(y:Nat->(Nat->Int))(x:Rc)(o:fO)(hw:WFc x.c)(ho:o.1+10000<1000000000):
  jq from_ k op key p d nm m ny y (f.mk' z x o)=some ((),f.mk' z (EL f (eO f 5) from_ p d x).1 (apps o (EL f (eO f 5) from_ p d x).2)):=by
 rw[qW];unfold mo;have h5:HB 5=6534:=rfl;have hput:=pX hf.n7 x.e from_ h0 p d;by_cases h:okV f.N x.e from_ p
 ·have e:EL f (eO f 5) from_ p d x=_:=axp h;have hl:=LU (z:=z) hf (DI hf 5) p d { x with e:=pW x.e from_ p d } o hw (by have:=a4l x.c;simp only;omega) (by omega);simp only[Fr.mk',Fr.so,Fr.rc]at hl;rw[axp h]at hput;simp(disch:=omega) only[WW,hput,h,e,hl]
 ·have e:EL f (eO f 5) from_ p d x=_:=axi h;rw[axi h]at hput;simp(disch:=omega) only[WW,hput,h,e,eB]
theorem a2e(hf:f.Ok)(from_:Int)(h0:from_<9223372036854775808)(k op:Int)(key:ByteArray)(p:aH)(d:ByteArray)(nm:Nat)(m:Nat->SlV (Nat->Int))(ny:Nat)(y:Nat->(Nat->Int))(x:Rc)(o:fO)(hw:WFc x.c)(ho:o.1+10000<1000000000):
  iX from_ k op key p d nm m ny y (f.mk' z x o)=some ((),f.mk' z (uW f (eO f 5) from_ p d x).1 (apps o (uW f (eO f 5) from_ p d x).2)):=by
 rw[qg];unfold kZ;have h5:HB 5=6534:=rfl;have hput:=pX hf.n7 x.r from_ h0 p d;by_cases h:okV f.N x.r from_ p
 ·have e:uW f (eO f 5) from_ p d x=_:=axp h;have hl:=LU (z:=z) hf (DI hf 5) p d { x with r:=pW x.r from_ p d } o hw (by have:=a4l x.c;simp only;omega) (by omega);simp only[Fr.mk',Fr.so,Fr.rc]at hl;rw[axp h]at hput;simp(disch:=omega) only[WW,hput,h,e,hl]
 ·have e:uW f (eO f 5) from_ p d x=_:=axi h;rw[axi h]at hput;simp(disch:=omega) only[WW,hput,h,e,eB]
end
open Go Go.Den Go.Num
structure Hd where
 g:GR
 P:Nat
 Q:Nat
 G:Nat
 T:Nat
 I:Nat
 N:Nat
structure Hd.Ok(h:Hd):Prop where
 grp:cO h.g h.P h.Q h.G
 T:1<=h.T/\h.T<=2
 N:h.N=3*h.T+1
 I:1<=h.I/\h.I<=h.N
@[reducible] def Hd.fr (h:Hd) (key:ByteArray):Fr:=⟨h.T,h.I,h.N,key⟩
theorem Hd.Ok.f {h:Hd}(hh:h.Ok)(key:ByteArray):(h.fr key).Ok:=⟨hh.T,hh.N,hh.I⟩
structure Sv where
 l:List (ByteArray×Rc)
 n:Nat
 ks:Nat->ByteArray
 u:List (Int×Int)
 o:fO
@[reducible] def Hd.sn (h:Hd) (b:BG) (o:fO):SN:=(h.g,((h.T:Int),((h.I:Int),((h.N:Int),((3:Int),((),(b,o)))))))
@[reducible] def Hd.sp (h:Hd) (n:Nat) (ks:Nat->ByteArray) (u:List (Int×Int)):SP:=((h.N:Int),((3:Int),((n,ks),u)))
@[reducible] def Hd.mk' (h:Hd) (s:Sv):SS:=(h.sn (tL h.N s.l) s.o,(h.sp s.n s.ks s.u,()))
structure Sv.Ok(s:Sv):Prop where
 srt:rH s.n s.ks
 few:s.n<1000
 wf: ∀e∈s.l,WFc e.2.c
def iN(h:Hd)(from_ k:Int)(st:aH):Prop:=
 (k=1\/k=2\/k=8)/\((h.N:Int)<from_/\from_<=h.N+3)\/k=4/\((h.N:Int)<from_/\from_<=h.N+3)/\st.2=from_-h.N\/(k=5\/k=6)/\1<=from_/\from_<=h.N/\from_≠h.I
open Classical in
theorem a2f {h:Hd}(hh:h.Ok){from_:Int}(hf: -9223372036854775808<=from_/\from_<9223372036854775808)(k op:Int)(key:ByteArray)(st:aH)(dg:ByteArray)(nm:Nat)(m:Nat->SlV (Nat->Int))(ny:Nat)(y:Nat->(Nat->Int))(s:Sv):
  iU from_ k op key st dg nm m ny y (h.mk' s)=some ((decide (iN h from_ k st),()),h.mk' s):=by
 rw[qd];unfold kY;have hT:=hh.T;have hN:=hh.N;extract_lets-underBinder q;have hq: ∀b:Bool,(b=true↔((h.N:Int)<from_/\from_<=h.N+3))->q ((b,()),())=some ((decide (iN h from_ k st),()),h.mk' s):=by
  intro b hb;unfold q;extract_lets-underBinder c q1;have h7:(k=1\/k=2\/k=4\/k=5\/k=6\/k=8)\/(k≠1/\k≠2/\k≠4/\k≠5/\k≠6/\k≠8):=by omega
  rcases h7 with(rfl|rfl|rfl|rfl|rfl|rfl)|⟨a1,a2,a4,a5,a6,a8⟩
  ·have e:decide (iN h from_ 1 st)=b:=by rw[az5,axK,hb];simp[iN]
   simp only[q1,c,e];rfl
  ·have e:decide (iN h from_ 2 st)=b:=by rw[az5,axK,hb];simp[iN]
   simp only[q1,c,e];rfl
  ·have e:decide (iN h from_ 4 st)=(b&&(st.2==IntKind.i64.wrap (from_-h.N))):=by
    rw[az5,axK,axh,hb,azV];simp only[iN];constructor
    ·rintro (h|h|h)
     ·omega
     ·refine⟨h.2.1,?_⟩;rw[wrap_i64 (by omega)];exact h.2.2
     ·omega
    ·rintro ⟨h1,h2⟩;rw[wrap_i64 (by omega)]at h2;exact .inr (.inl ⟨by trivial,h1,h2⟩)
   simp only[q1,c,e];cases b<;>rfl
  ·have e:decide (iN h from_ 5 st)=decide (1<=from_/\from_<=h.N/\from_≠h.I):=by simp[iN]
   simp only[q1,c,e];by_cases c1:1<=from_<;>by_cases c2:from_<=(h.N:Int)<;>by_cases c3:from_=(h.I:Int)<;>simp[c1,c2,c3]
  ·have e:decide (iN h from_ 6 st)=decide (1<=from_/\from_<=h.N/\from_≠h.I):=by simp[iN]
   simp only[q1,c,e];by_cases c1:1<=from_<;>by_cases c2:from_<=(h.N:Int)<;>by_cases c3:from_=(h.I:Int)<;>simp[c1,c2,c3]
  ·have e:decide (iN h from_ 8 st)=b:=by rw[az5,axK,hb];simp[iN]
   simp only[q1,c,e];rfl
  ·have e:decide (iN h from_ k st)=false:=by rw[decide_eq_false_iff_not];simp only[iN];omega
   simp only[q1,c,e,iP a1,iP a2,iP a4,iP a5,iP a6,iP a8,bO]
 clear_value q;have e3:IntKind.i64.wrap ((h.N:Int)+3)=(h.N:Int)+3:=wrap_i64 (by omega);by_cases c1:(h.N:Int)<from_
 ·simp only[dJ (show from_>(h.N:Int)from c1),bM,e3];exact hq _ (by rw[axK];exact⟨λh=>⟨c1,h⟩,λh=>h.2⟩)
 ·simp only[bF (show¬from_>(h.N:Int)from c1),bO];exact hq _ ⟨λh=>by simp at h,λh=>absurd h.1 c1⟩
def Wm(h:Hd)(from_ k op:Int)(key:ByteArray)(st:aH)(dg:ByteArray)(M:List (List Nat))(L:List Nat):Prop:=
 wOk k op key st dg M L.length/\iN h from_ k st/\((k=4\/k=8)->PY h.P h.Q (h.T:Int) M/\uV h.P h.Q h.G M (h.I:Int) L)
@[reducible] def Hd.opn (h:Hd) (key:ByteArray) (from_:Int) (s:Sv):=vC key from_ (h.N:Int) 3 s.n s.ks s.u
open Classical in
theorem a2g {h:Hd}(hh:h.Ok){from_:Int}(hf: -9223372036854775808<=from_/\from_<9223372036854775808)(k op:Int)(key:ByteArray)(st:aH)(dg:ByteArray){nm:Nat}{m:Nat->SlV (Nat->Int)}{M:List (List Nat)}(hm:jm nm m M){ny:Nat}{y:Nat->(Nat->Int)}{L:List Nat}(hy:tK ny y L)(hn:nm<1000000000)(hny:ny<1000000000){s:Sv}(hs:s.Ok):
  kG from_ k op key st dg nm m ny y (h.mk' s)=some (if Wm h from_ k op key st dg M L then(((h.opn key from_ s).1.2.2.1==0,()),(h.sn (tL h.N s.l) s.o,((h.opn key from_ s).2.1,())))else((false,()),h.mk' s)):=by
 rw[uN];unfold oG;have hC:=RZ (k:=k) (op:=op) (key:=key) (st:=st) (dg:=dg) hm (y:=y) hn hny;have hy1:=hy.1;subst hy1;have hS:=a2f hh hf k op key st dg nm m L.length y s;have hO:=a1Y hs.srt hs.few key from_ (h.N:Int) 3 s.u;simp only[FY]at hC;simp-zeta-letToHave only[hC];unfold Wm;by_cases c1:wOk k op key st dg M L.length
 ·by_cases c2:iN h from_ k st
  ·simp-zeta-letToHave only[axp c1,hS,dJ c2,ayJ,bO];extract_lets-underBinder r1 t k3 k1;have hk3:k3 ((),())=some (((h.opn key from_ s).1.2.2.1==0,()),(h.sn (tL h.N s.l) s.o,((h.opn key from_ s).2.1,()))):=by unfold k3;simp only[hO]
   clear_value k3;show(bif t then _ else bif (k==4)then k1 ((true,()),())else k1 (((k==8),()),()))=_;by_cases c3:k=4\/k=8
   ·have hM:=RY hh.grp (t:=(h.T:Int)) (by have:=hh.T;omega) hm (by omega);have hH:=Oc hh.grp hm (by omega) (i:=(h.I:Int)) hy;have hk1:k1 ((true,()),())=some (if PY h.P h.Q (h.T:Int) M/\uV h.P h.Q h.G M (h.I:Int) L then(((h.opn key from_ s).1.2.2.1==0,()),(h.sn (tL h.N s.l) s.o,((h.opn key from_ s).2.1,())))else((false,()),h.mk' s)):=by
     unfold k1;by_cases c4:PY h.P h.Q (h.T:Int) M
     ·by_cases c5:uV h.P h.Q h.G M (h.I:Int) L
      ·rw[axp ⟨c4,c5⟩];simp only[bM,hM,hH,dJ c4,dJ c5,aym,bO,hk3]
      ·rw[axi λh=>c5 h.2];simp only[bM,hM,hH,dJ c4,bF c5,aym,az9,bO,bM]
     ·rw[axi λh=>c4 h.1];simp only[bM,hM,bF c4,az9,bM]
    clear_value k1;have e:((wOk k op key st dg M L.length/\iN h from_ k st/\((k=4\/k=8)->PY h.P h.Q (h.T:Int) M/\uV h.P h.Q h.G M (h.I:Int) L))↔(PY h.P h.Q (h.T:Int) M/\uV h.P h.Q h.G M (h.I:Int) L)):=⟨λh=>h.2.2 c3,λh=>⟨c1,c2,λ_=>h⟩⟩;simp only[e];rcases c3 with rfl|rfl
    ·exact hk1
    ·exact hk1
   ·have e:(wOk k op key st dg M L.length/\iN h from_ k st/\((k=4\/k=8)->PY h.P h.Q (h.T:Int) M/\uV h.P h.Q h.G M (h.I:Int) L)):=⟨c1,c2,λh=>absurd h c3⟩;rw[axp e,iP (λh=>c3 (.inl h)),iP (λh=>c3 (.inr h)),bO];unfold k1;simp only[bO,hk3];rfl
  ·rw[axi (λhx:_/\_/\_=>c2 hx.2.1)];simp only[axp c1,hS,bF c2];rfl
 ·rw[axi (λhx:_/\_/\_=>c1 hx.1)];simp only[axi c1];rfl
def frz(o:fO):fO:=(o.1,λj=>o.2 (0+j))
def jN(h:Hd)(from_ k op:Int)(key:ByteArray)(st:aH)(dg:ByteArray)(v:VA)(x:Rc):RcW:=
 if k=1 then BO (h.fr key) (from_-h.N-1).toNat op x
 else if k=2 then LW (from_-h.N-1).toNat op x
 else if k=5 then EL (h.fr key) (eO (h.fr key) 5) from_ st dg x
 else if k=6 then uW (h.fr key) (eO (h.fr key) 5) from_ st dg x
 else if k=8 then nD (h.fr key) v x
 else iJ (h.fr key) (eO (h.fr key) 5) (from_-h.N-1).toNat (v,op) x
def aaE(h:Hd)(key:ByteArray)(x:Rc):RD×(VT×(VT×Unit)):=((x.v,(key,(.nil,(.nil,x.c)))),(((h.N:Int),x.e),(((h.N:Int),x.r),())))
def asu:RD×(VT×(VT×Unit)):=(tRC.zero,Sc (aX tRC))
theorem abK {a b c d:Bool}(h:Wi a b c d=13):a=true/\b=false/\c=true/\d=true:=by revert h;cases a<;>cases b<;>cases c<;>cases d<;>decide
theorem ajd {a b c d:Bool}(h:Wi a b c d=3):a=true/\b=true/\c=false/\d=false:=by revert h;cases a<;>cases b<;>cases c<;>cases d<;>decide
theorem aje {a b c d:Bool}(h:Wi a b c d=8):a=false/\b=false/\c=false/\d=true:=by revert h;cases a<;>cases b<;>cases c<;>cases d<;>decide
theorem a4n {k op:Int}{key:ByteArray}{st:aH}{dg:ByteArray}{M:List (List Nat)}{ny:Nat}(h:wOk k op key st dg M ny)(hk:k=4\/k=8):mJ st/\ny=M.length/\iQ M≠ []/\1<=op/\op<=1048576/\dg.size=0:=by
 obtain⟨_,h2,h3⟩:=h;have hc:Wi (lD op st dg M.length ny).st (lD op st dg M.length ny).dg (lD op st dg M.length ny).mx (lD op st dg M.length ny).op=13:=by unfold Wj at h3;omega
 obtain⟨a1,a2,a3,a4⟩:=abK hc;have m:=h2.2.2.1 a3;have o:=h2.2.2.2 a4;refine⟨h2.1 a1,m.1,m.2,o.1,o.2,?_⟩;have:sEq dg (ByteArray.mk #[])=true:=by simpa [lD]using a2
 rw[(uT _ _).1 this];rfl
theorem PZ {h:Hd}{from_:Int}(hc:(h.N:Int)<from_/\from_<=h.N+3): ∃i:Nat,i<3/\from_=((h.N+(i+1):Nat):Int)/\(from_-h.N-1).toNat=i:=
 ⟨(from_-h.N-1).toNat,by omega,by omega,rfl⟩
section
variable {h:Hd}
open Classical in
theorem step_ok(hh:h.Ok){from_:Int}(hf: -9223372036854775808<=from_/\from_<9223372036854775808){k op:Int}{key:ByteArray}{st:aH}{dg:ByteArray}{nm:Nat}{m:Nat->SlV (Nat->Int)}{M:List (List Nat)}(hm:jm nm m M){ny:Nat}{y:Nat->(Nat->Int)}{L:List Nat}(hy:tK ny y L)(hn:nm<1000000000)(hny:ny<1000000000){s:Sv}(hs:s.Ok){D:ByteArray}(hD:qP nm m=some D)
  (hmay:Wm h from_ k op key st dg M L) (hopn:(h.opn key from_ s).1.2.2.1=0) {n':Nat} {ks':Nat->ByteArray} {u':List (Int×Int)} (hsp:(h.opn key from_ s).2.1=h.sp n' ks' u'):
  bn from_ k op key st dg nm m ny y (h.mk' s)=some (((frz (apps zNO (jN h from_ k op key st dg (st,(D,((nm,m),(ny,y)))) (AQ s.l key)).2),()),h.mk' ⟨Js s.l key (jN h from_ k op key st dg (st,(D,((nm,m),(ny,y)))) (AQ s.l key)).1,n',ks',u',frz (apps zNO (jN h from_ k op key st dg (st,(D,((nm,m),(ny,y)))) (AQ s.l key)).2)⟩)):=by
 rw[l8];unfold gD;have hMay:=a2g hh hf k op key st dg hm hy hn hny hs;rw[axp hmay,hopn,hsp]at hMay;have hg:=(hh.f key).n7;simp-zeta-letToHave only[hMay,ayA];extract_lets-underBinder r K;have hK: ∀(bj:BG×Nat) (x:Rc),WFc x.c->K ((),((h.g,((h.T:Int),((h.I:Int),((h.N:Int),((3:Int),((),(bj,()))))))),((h.fr key).rc x,(((h.N:Int),x.e),(((h.N:Int),x.r),())))))=
   some (((frz (apps zNO (jN h from_ k op key st dg (st,(D,((nm,m),(ny,y)))) x).2),()),(h.sn (List.modify bj.1 bj.2 λe=>(e.1,aaE h key (jN h from_ k op key st dg (st,(D,((nm,m),(ny,y)))) x).1)) (frz (apps zNO (jN h from_ k op key st dg (st,(D,((nm,m),(ny,y)))) x).2)),(h.sp n' ks' u',())))):=by
  intro bj x hw;let z:Fx:=⟨h.g,bj,h.sp n' ks' u'⟩;have hF:=hh.f key;unfold K;rcases(show k=1\/k=2\/k=4\/k=5\/k=6\/k=8 by have:=hmay.2.1;unfold iN at this;omega)with rfl|rfl|rfl|rfl|rfl|rfl
  ·obtain⟨i,hi,rfl,e0⟩:=PZ (h:=h) (from_:=from_) (by have:=hmay.2.1;unfold iN at this;omega);have e1:IntKind.i64.wrap ((((h.N+(i+1):Nat):Int))-(h.N:Int))=((i+1:Nat):Int):=by rw[wrap_i64 (by omega)];omega
   have e2:IntKind.i64.wrap (((i+1:Nat):Int)-1)=(i:Int):=by rw[wrap_i64 (by omega)];omega
   have e3:IntKind.i64.wrap ((h.N:Int)+((i+1:Nat):Int))=((h.N+(i+1):Nat):Int):=wrap_i64 (by omega);have es:jN h ((h.N+(i+1):Nat):Int) 1 op key st dg (st,(D,((nm,m),(ny,y)))) x=BO (h.fr key) i op x:=by rw[jN,axp rfl,e0]
   rw[es];by_cases c1:(x.c i).2.2.2<op
   ·by_cases c2:(x.c i).2.2.1<=op
    ·have e:BO (h.fr key) i op x=_:=axp ⟨c1,c2⟩;have hs:=sF (z:=z) hF { x with c:=upd x.c i ((x.c i).1,((x.c i).2.1,(op,(x.c i).2.2.2))) } zNO (by decide) ((h.N+(i+1):Nat):Int) 3 (upd x.c i ((x.c i).1,((x.c i).2.1,(op,(x.c i).2.2.2))) i).2.2.1 key x.v.1 x.v.2.1 x.v.2.2.1.1 x.v.2.2.1.2 x.v.2.2.2.1 x.v.2.2.2.2;simp only[Fr.mk',Fr.so,Fr.rc,z]at hs;by_cases c3:0<(upd x.c i ((x.c i).1,((x.c i).2.1,(op,(x.c i).2.2.2))) i).2.2.1
     ·simp(disch:=omega) only[WW,ayA,e1,e2,e3,c1,c2,c3,e,hs,O7,axp,Ij,stP];rfl
     ·simp(disch:=omega) only[WW,ayA,e1,e2,e3,c1,c2,c3,e,O7,axi,not_false_eq_true,eB];rfl
    ·have e:BO (h.fr key) i op x=(x,[]):=axi λh=>c2 h.2
     simp(disch:=omega) only[WW,ayA,e1,e2,e3,c1,c2,e,eB];rfl
   ·have e:BO (h.fr key) i op x=(x,[]):=axi λh=>c1 h.1
    simp(disch:=omega) only[WW,ayA,e1,e2,e3,c1,e,eB];rfl
  ·obtain⟨i,hi,rfl,e0⟩:=PZ (h:=h) (from_:=from_) (by have:=hmay.2.1;unfold iN at this;omega);have e1:IntKind.i64.wrap ((((h.N+(i+1):Nat):Int))-(h.N:Int))=((i+1:Nat):Int):=by rw[wrap_i64 (by omega)];omega
   have e2:IntKind.i64.wrap (((i+1:Nat):Int)-1)=(i:Int):=by rw[wrap_i64 (by omega)];omega
   have es:jN h ((h.N+(i+1):Nat):Int) 2 op key st dg (st,(D,((nm,m),(ny,y)))) x=LW i op x:=by rw[jN,axi (by decide),axp rfl,e0]
   rw[es];have eu:(yN x.c i op i).2.2.1=(x.c i).2.2.1:=by rw[yN,upd_same]
   by_cases c2:(x.c i).2.2.1<=op
   ·have e:LW i op x=_:=axp c2;have c2':(yN x.c i op i).2.2.1<=op:=by rw[eu];exact c2
    simp only[yN]at c2' e;simp(disch:=omega) only[WW,ayA,show((2:Int)==1)=false from rfl,e1,e2,c2',e,eB];rfl
   ·have e:LW i op x=_:=axi c2;have c2': ¬(yN x.c i op i).2.2.1<=op:=by rw[eu];exact c2
    simp only[yN]at c2' e;simp(disch:=omega) only[WW,ayA,show((2:Int)==1)=false from rfl,e1,e2,c2',e,eB];rfl
  ·obtain⟨i,hi,rfl,e0⟩:=PZ (h:=h) (from_:=from_) (by have:=hmay.2.1;unfold iN at this;omega);have e1:IntKind.i64.wrap ((((h.N+(i+1):Nat):Int))-(h.N:Int))=((i+1:Nat):Int):=by rw[wrap_i64 (by omega)];omega
   have es:jN h ((h.N+(i+1):Nat):Int) 4 op key st dg (st,(D,((nm,m),(ny,y)))) x=iJ (h.fr key) (eO (h.fr key) 5) i ((st,(D,((nm,m),(ny,y)))),op) x:=by rw[jN,axi (by decide),axi (by decide),axi (by decide),axi (by decide),axi (by decide),e0]
   rw[es];have hp:=Xu (z:=z) hF hi ((st,(D,((nm,m),(ny,y)))),op) (a4n hmay.1 (.inl rfl)).1 x zNO hw (by decide);simp only[Fr.mk',Fr.so,Fr.rc,z]at hp;simp(disch:=omega) only[WW,ayA,show((4:Int)==1)=false from rfl,show((4:Int)==2)=false from rfl,show((4:Int)==5)=false from rfl,show((4:Int)==6)=false from rfl,show((4:Int)==8)=false from rfl,e1,hD,hp];rfl
  ·have es:jN h from_ 5 op key st dg (st,(D,((nm,m),(ny,y)))) x=EL (h.fr key) (eO (h.fr key) 5) from_ st dg x:=by rw[jN,axi (by decide),axi (by decide),axp rfl]
   rw[es];have hp:=a4m (z:=z) hF from_ hf.2 5 op key st dg nm m ny y x zNO hw (by decide);simp only[Fr.mk',Fr.so,Fr.rc,z]at hp;simp(disch:=omega) only[WW,ayA,show((5:Int)==1)=false from rfl,show((5:Int)==2)=false from rfl,hp];rfl
  ·have es:jN h from_ 6 op key st dg (st,(D,((nm,m),(ny,y)))) x=uW (h.fr key) (eO (h.fr key) 5) from_ st dg x:=by rw[jN,axi (by decide),axi (by decide),axi (by decide),axp rfl]
   rw[es];have hp:=a2e (z:=z) hF from_ hf.2 6 op key st dg nm m ny y x zNO hw (by decide);simp only[Fr.mk',Fr.so,Fr.rc,z]at hp;simp(disch:=omega) only[WW,ayA,show((6:Int)==1)=false from rfl,show((6:Int)==2)=false from rfl,show((6:Int)==5)=false from rfl,hp];rfl
  ·have es:jN h from_ 8 op key st dg (st,(D,((nm,m),(ny,y)))) x=nD (h.fr key) (st,(D,((nm,m),(ny,y)))) x:=by rw[jN,axi (by decide),axi (by decide),axi (by decide),axi (by decide),axp rfl]
   rw[es];have hp:=Wl (z:=z) hF (st,(D,((nm,m),(ny,y)))) x zNO (by decide);simp only[Fr.mk',Fr.so,Fr.rc,z]at hp;simp(disch:=omega) only[WW,ayA,show((8:Int)==1)=false from rfl,show((8:Int)==2)=false from rfl,show((8:Int)==5)=false from rfl,show((8:Int)==6)=false from rfl,hD,hp];rfl
 clear_value K;simp only[r,aym,bO,Oe,Je];cases hl:s.l[gH s.l key]? with
 |none=>
  have hv:lZ (h.N:Int)=some (((),(0,())),(((h.N:Int),nV),())):=by rw[FH];unfold Cv;have hN:=hh.N;have hT:=hh.T;simp(disch:=omega) only[WW];rfl
  have hg:AQ s.l key=newR:=by unfold AQ;rw[hl]
  have hp: ∀x,Js s.l key x=s.l++[(key,x)]:=λx=>by unfold Js;rw[hl]
  have hix:=a4k hl;have h0:(tL h.N s.l)[bidx .str (tL h.N s.l) key]?=none:=by rw[Oe,Je,hl];rfl
  have hb:(WC .str tRC (tL h.N s.l) key:BG)=(tL h.N s.l++[(key,asu)]:BG):=Tn (k:=.str) (t:=tRC) (l:=tL h.N s.l) (x:=key) h0;simp only[Option.map_none,hv];rw[hb];refine(hK ((tL h.N s.l++[(key,asu)]:BG),gH s.l key) newR (λi _ hp=>absurd hp (by show¬((0:Int)<0);decide))).trans ?_;rw[hg,hp,hix]
  congr 4
  apply ayj;intro j;have e1:(tL h.N s.l).length=s.l.length:=by simp[tL]
  simp only[az1,tL,List.map_append,List.getElem?_append,azF];by_cases c1:j<s.l.length
  ·simp[c1,show¬s.l.length=j by omega]
  ·by_cases c2:s.l.length=j
   ·subst c2;simp[a2c,aaE]
   ·obtain⟨i,hi⟩: ∃i,j-s.l.length=i+1:=⟨j-s.l.length-1,by omega⟩;simp[c1,c2,hi]
 |some q=>
  have hk:=wQ hl;have hg:AQ s.l key=q.2:=by unfold AQ;rw[hl]
  have hp: ∀x,Js s.l key x=s.l.modify (gH s.l key) (λe=>(e.1,x)):=λx=>by unfold Js;rw[hl]
  simp only[ayn,a2c,hk];refine(hK (tL h.N s.l,gH s.l key) q.2 (hs.wf q (ayc hl))).trans ?_;rw[hg,hp];have:=abJ h.N s.l (gH s.l key) key (jN h from_ k op key st dg (st,(D,((nm,m),(ny,y)))) q.2).1 (λe he=>by rw[hl]at he;cases he;exact hk);simp only[aaE,this]
open Classical in
theorem abL(hh:h.Ok){from_:Int}(hf: -9223372036854775808<=from_/\from_<9223372036854775808){k op:Int}{key:ByteArray}{st:aH}{dg:ByteArray}{nm:Nat}{m:Nat->SlV (Nat->Int)}{M:List (List Nat)}(hm:jm nm m M){ny:Nat}{y:Nat->(Nat->Int)}{L:List Nat}(hy:tK ny y L)(hn:nm<1000000000)(hny:ny<1000000000){s:Sv}(hs:s.Ok)
  (hmay: ¬(Wm h from_ k op key st dg M L/\(h.opn key from_ s).1.2.2.1=0)):bn from_ k op key st dg nm m ny y (h.mk' s)=some ((zNO,()),h.mk' s):=by
 rw[l8];unfold gD;have hMay:=a2g hh hf k op key st dg hm hy hn hny hs;by_cases c:Wm h from_ k op key st dg M L
 ·have c2:(h.opn key from_ s).1.2.2.1≠0:=λe=>hmay ⟨c,e⟩
  rw[axp c,iP c2]at hMay;have hst:(h.opn key from_ s).2.1=h.sp s.n s.ks s.u:=by
   revert c2;unfold Hd.opn vC;split
   ·intro _;rfl
   ·split
    ·intro h;exact absurd rfl h
    ·split
     ·intro _;rfl
     ·intro h;exact absurd rfl h
  rw[hst]at hMay;simp only[hMay];rfl
 ·rw[axi c]at hMay;simp only[hMay];rfl
end
open Go Go.Den Go.Num
def oP(f:Fr)(k:Int)(c:Rh):List OU:=if 0<c.1.1 then EJ f k c.1 c.2 else []
def Yo(f:Fr)(x:Rc)(c:Nat):List OU:=
 oP f 5 (atT f.N x.e f.I ((c+1:Nat):Int) 0)++(oP f 6 (atT f.N x.r f.I ((c+1:Nat):Int) 0)++(oP f 5 (atT f.N x.e f.I ((c+1:Nat):Int) 1)++oP f 6 (atT f.N x.r f.I ((c+1:Nat):Int) 1)))
def Wn(f:Fr)(x:Rc):Nat->List OU|0=>[]|n+1=>Wn f x n++Yo f x n
def a2h(f:Fr)(x:Rc):List OU:=Wn f x 3++RX f x
section
variable {f:Fr} {z:Fx}
theorem DK(hf:f.Ok)(k:Int)(c:Rh):(oP f k c).length<=7:=by
 unfold oP;split
 ·exact Oa hf _ _ _
 ·exact ays _
theorem a6H(hf:f.Ok)(x:Rc)(c:Nat):(Yo f x c).length<=28:=by have h1:=DK hf 5 (atT f.N x.e f.I ((c+1:Nat):Int) 0);have h2:=DK hf 6 (atT f.N x.r f.I ((c+1:Nat):Int) 0);have h3:=DK hf 5 (atT f.N x.e f.I ((c+1:Nat):Int) 1);have h4:=DK hf 6 (atT f.N x.r f.I ((c+1:Nat):Int) 1);simp only[Yo,axq];omega
theorem Jf(hf:f.Ok)(x:Rc): ∀n,(Wn f x n).length<=28*n
 |0=>axr _
 |n+1=>by have:=Jf hf x n;have:=a6H hf x n;rw[Wn,axq];omega
theorem a6I(hf:f.Ok)(x:Rc):(a2h f x).length<=87:=by have:=Jf hf x 3;have:=yg (f:=f) x 3;rw[a2h,axq,RX];omega
@[reducible] def Fr.lt (f:Fr) (z:Fx) (x:Rc) (o:fO):SO×(SP×(Unit×(RC×(VT×(VT×(Unit×Unit)))))):=(f.so z o,(z.sp,((),(f.rc x,(((f.N:Int),x.e),(((f.N:Int),x.r),((),())))))))
@[reducible] def Fr.lj (f:Fr) (z:Fx) (x:Rc) (o:fO):SO×(SP×CR):=(f.so z o,(z.sp,(f.rc x,(((f.N:Int),x.e),(((f.N:Int),x.r),())))))
theorem a4o(hf:f.Ok)(x:Rc)(o:fO)(ho:o.1+28<1000000000){i:Nat}(hi:i<3):
  bS (bq 3 (i:Int) (f.lt z x o))=some (.inl (bq 3 ((i+1:Nat):Int) (f.lt z x (apps o (Yo f x i))))):=by
 have hn:=hf.n7;have ei:IntKind.i64.wrap ((i:Int)+1)=((i+1:Nat):Int):=wrap_i64 (by omega);dsimp-zeta only[bS,bq,Fr.lt,Fr.so,Fr.rc];extract_lets-underBinder t t1 k1 k;rw[show decide (t1<t)=true from axw (show(i:Int)<3 by omega),show inb t1 4=true from Kr (by show(0:Int)<=i/\(i:Int)<((4:Nat):Int);omega),bM,bM];have sv: ∀(q:fO),q.1+7<1000000000-> ∀(k:Int) (c:Rh),bJ k c.1 c.2 (f.so z q,(f.rc x,(((f.N:Int),x.e),(((f.N:Int),x.r),(z.sp,())))))=some ((),(f.so z (apps q (EJ f k c.1 c.2)),(f.rc x,(((f.N:Int),x.e),(((f.N:Int),x.r),(z.sp,())))))):=λq hq k c=>EK hf x q hq k c.1 c.2
 have lenP: ∀k c,(oP f k c).length<=7:=DK hf;have hk1: ∀q:fO,q.1+14<1000000000->k1 ((),f.lj z x q)=some (.inl (bq 3 ((i+1:Nat):Int) (f.lt z x (apps (apps q (oP f 5 (atT f.N x.e f.I ((i+1:Nat):Int) 1))) (oP f 6 (atT f.N x.r f.I ((i+1:Nat):Int) 1)))))):=by
  intro q hq;unfold k1;extract_lets-underBinder k2;have hk2: ∀q:fO,q.1+7<1000000000->k2 ((),f.lj z x q)=some (.inl (bq 3 ((i+1:Nat):Int) (f.lt z x (apps q (oP f 6 (atT f.N x.r f.I ((i+1:Nat):Int) 1)))))):=by
   intro q hq;unfold k2;have hs:=sv q hq 6 (atT f.N x.r f.I ((i+1:Nat):Int) 1);simp only[t1,t,ei,xE hn];by_cases c:0<(atT f.N x.r f.I ((i+1:Nat):Int) 1).1.1
   ·have e:oP f 6 (atT f.N x.r f.I ((i+1:Nat):Int) 1)=_:=axp c;simp(disch:=omega) only[WW,c,e,hs,bq]
   ·have e:oP f 6 (atT f.N x.r f.I ((i+1:Nat):Int) 1)=_:=axi c;simp(disch:=omega) only[WW,c,e,eB,bq]
  clear_value k2;have hs:=sv q (by omega) 5 (atT f.N x.e f.I ((i+1:Nat):Int) 1);have hl:=lenP 5 (atT f.N x.e f.I ((i+1:Nat):Int) 1);simp only[t1,ei,xE hn];by_cases c:0<(atT f.N x.e f.I ((i+1:Nat):Int) 1).1.1
  ·have e:oP f 5 (atT f.N x.e f.I ((i+1:Nat):Int) 1)=_:=axp c;rw[e]at hl⊢;simp(disch:=omega) only[WW,c,hs];exact hk2 _ (by rw[gF];omega)
  ·have e:oP f 5 (atT f.N x.e f.I ((i+1:Nat):Int) 1)=_:=axi c;rw[e];simp(disch:=omega) only[WW,c];exact hk2 q (by omega)
 clear_value k1;have hk: ∀q:fO,q.1+21<1000000000->k ((),f.lj z x q)=some (.inl (bq 3 ((i+1:Nat):Int) (f.lt z x (apps (apps (apps q (oP f 6 (atT f.N x.r f.I ((i+1:Nat):Int) 0))) (oP f 5 (atT f.N x.e f.I ((i+1:Nat):Int) 1))) (oP f 6 (atT f.N x.r f.I ((i+1:Nat):Int) 1)))))):=by
  intro q hq;unfold k;have hs:=sv q (by omega) 6 (atT f.N x.r f.I ((i+1:Nat):Int) 0);have hl:=lenP 6 (atT f.N x.r f.I ((i+1:Nat):Int) 0);simp only[t1,ei,xE hn];by_cases c:0<(atT f.N x.r f.I ((i+1:Nat):Int) 0).1.1
  ·have e:oP f 6 (atT f.N x.r f.I ((i+1:Nat):Int) 0)=_:=axp c;rw[e]at hl⊢;simp(disch:=omega) only[WW,c,hs];exact hk1 _ (by rw[gF];omega)
  ·have e:oP f 6 (atT f.N x.r f.I ((i+1:Nat):Int) 0)=_:=axi c;rw[e];simp(disch:=omega) only[WW,c];exact hk1 q (by omega)
 clear_value k;have hs:=sv o (by omega) 5 (atT f.N x.e f.I ((i+1:Nat):Int) 0);have hl:=lenP 5 (atT f.N x.e f.I ((i+1:Nat):Int) 0);rw[Yo,<-jl,<-jl,<-jl];simp only[t1,ei,xE hn];by_cases c:0<(atT f.N x.e f.I ((i+1:Nat):Int) 0).1.1
 ·have e:oP f 5 (atT f.N x.e f.I ((i+1:Nat):Int) 0)=_:=axp c;rw[e]at hl⊢;simp(disch:=omega) only[WW,c,hs];exact hk _ (by rw[gF];omega)
 ·have e:oP f 5 (atT f.N x.e f.I ((i+1:Nat):Int) 0)=_:=axi c;rw[e];simp(disch:=omega) only[WW,c];exact hk o (by omega)
end
def Sv.Full(s:Sv):Prop:= ∀i,i<s.n-> ∃e,s.l[gH s.l (s.ks i)]?=some e
def vF(h:Hd)(s:Sv):Nat->List OU|0=>[]|n+1=>vF h s n++a2h (h.fr (s.ks n)) (AQ s.l (s.ks n))
def Yp(h:Hd)(s:Sv):List OU:=vF h s s.n
theorem Q0 {h:Hd}(hh:h.Ok)(s:Sv): ∀n,(vF h s n).length<=87*n
 |0=>axr _
 |n+1=>by have:=Q0 hh s n;have:=a6I (hh.f (s.ks n)) (AQ s.l (s.ks n));rw[vF,axq];omega
theorem Rm {α:Type}(l:List α)(i:Nat)(g:α->α)(h: ∀e,l[i]?=some e->g e=e):l.modify i g=l:=by
 apply ayj;intro j;rw[az1];by_cases e:i=j
 ·subst e;cases hj:l[i]? with
  |none=>rfl
  |some q=>simp[h q hj]
 ·simp[e]
theorem a6J {h:Hd}(hh:h.Ok){s:Sv}(hs:s.Ok)(hf:s.Full):dn (h.mk' s)=some (((frz (apps zNO (Yp h s))),()),h.mk' { s with o:=frz (apps zNO (Yp h s)) }):=by
 rw[tF];unfold jr;have hK:gZ (h.N:Int) 3 s.n s.ks s.u=some (((s.n,(λj=>s.ks (0+j))),()),(h.sp s.n s.ks s.u,())):=by rw[mX];unfold qy;have:=hs.few;rw[axu (by omega),bM]
 obtain⟨o,h1,rfl⟩:=aP (R:=dB) (S:=fO)
  (λi o=>kg s.n (λj=>s.ks (0+j)) (s.n:Int) (i:Int) (h.sn (tL h.N s.l) o,(h.sp s.n s.ks s.u,((),()))))
  (λo=>Ao (h.sn (tL h.N s.l) o,(h.sp s.n s.ks s.u,((),()))))
  (λi o=>o=apps zNO (vF h s i)) s.n
  (λi hi o ho=>by
   subst ho;obtain⟨e,he⟩:=hf i hi;have hk:=wQ he;have hg:AQ s.l (s.ks i)=e.2:=by unfold AQ;rw[he]
   have hF:=hh.f (s.ks i);have hfew:=hs.few;have hlen:=Q0 hh s i;let z:Fx:=⟨h.g,(tL h.N s.l,gH s.l (s.ks i)),h.sp s.n s.ks s.u⟩;obtain⟨o1,p1,rfl⟩:=aP (R:=bS) (S:=fO)
    (λj o=>bq 3 (j:Int) ((h.fr (s.ks i)).lt z e.2 o)) (λo=>((),(h.fr (s.ks i)).lt z e.2 o))
    (λj o=>o=apps (apps zNO (vF h s i)) (Wn (h.fr (s.ks i)) e.2 j)) 3
    (λj hj o ho=>by subst ho;have hl2:=Jf hF e.2 j;refine⟨_,a4o hF e.2 _ (by rw[gF,gF];show 0+_+_+_<_;omega) hj,?_⟩;rw[jl];rfl)
    (λo ho=>by simp(disch:=omega) only[bS,bq,WW,CC]) (apps zNO (vF h s i)) rfl
   have hl3:=Jf hF e.2 3;have ha:=VH (z:=z) hF e.2 (apps (apps zNO (vF h s i)) (Wn (h.fr (s.ks i)) e.2 3)) (by rw[gF,gF];show 0+_+_+_<_;omega);have p1':aD bS (((),((),((3:Int),(0,())))),(h.fr (s.ks i)).lt z e.2 (apps zNO (vF h s i)))=_:=p1;refine⟨_,?_,rfl⟩;have hmod:List.modify (tL h.N s.l) (gH s.l (s.ks i)) (λq=>(q.1,((e.2.v,(s.ks i,(.nil,(.nil,e.2.c)))),(((h.N:Int),e.2.e),(((h.N:Int),e.2.r),())))))=tL h.N s.l:=
    Rm _ _ _ λq hq=>by rw[Je,he]at hq;simp only[ayn,axe]at hq;subst hq;simp only[a2c,hk]
   simp only[Fr.mk',Fr.so,Fr.rc,Fr.lt,z]at ha p1';rw[vF,hg,a2h,<-jl,<-jl];simp(disch:=omega) only[dB,kg,WW,CC,axA,Oe,Je,he,ayn,a2c,hk,p1',ha,hmod])
  (λo ho=>by simp(disch:=omega) only[dB,kg,WW,CC]) zNO rfl
 have h1':aD dB (((),((),((s.n,(λj=>s.ks (0+j))),(((s.n:Nat):Int),(0,()))))),(h.sn (tL h.N s.l) zNO,(h.sp s.n s.ks s.u,((),()))))=_:=h1;simp only[hK,h1'];rfl
theorem a6K {h:Hd}(s:Sv)(key:ByteArray):iD key (h.mk' s)=some (((match s.l[gH s.l key]? with|some e=>e.2.v.1|none=>(0,0)),((match s.l[gH s.l key]? with|some e=>e.2.v.2.1|none=>ByteArray.mk #[]),((match s.l[gH s.l key]? with|some e=>decide (0<e.2.v.2.2.2.1)|none=>false),()))),h.mk' s):=by
 rw[sZ];unfold ng;simp only[Oe,Je];cases he:s.l[gH s.l key]? with
 |none=>rfl
 |some e=>
  have hk:=wQ he;have hmod:List.modify (tL h.N s.l) (gH s.l key) (λq=>(q.1,((e.2.v,(e.1,(.nil,(.nil,e.2.c)))),(((h.N:Int),e.2.e),(((h.N:Int),e.2.r),())))))=tL h.N s.l:=
   Rm _ _ _ λq hq=>by rw[Je,he]at hq;simp only[ayn,axe]at hq;subst hq;rfl
  have hd:decide (((e.2.v.2.2.2.1:Nat):Int)>0)=decide (0<e.2.v.2.2.2.1):=by
   by_cases c:0<e.2.v.2.2.2.1
   ·rw[dJ c];exact dJ (by omega)
   ·rw[bF c];exact bF (by omega)
  simp only[ayn,a2c,hmod,hd]
open Go Go.Den Go.Num
def Gv(v:VA):Prop:= ∃M L,jm v.2.2.1.1 v.2.2.1.2 M/\tK v.2.2.2.1 v.2.2.2.2 L/\(M.length<1000/\L.length<1000/\ ∀i,i<v.2.2.1.1->(v.2.2.1.2 i).len<1000)/\
 (v.1=(0,0)/\v.2.1=ByteArray.empty/\M=[]/\L=[]\/mJ v.1/\v.2.1.size=32/\(M=[]/\L=[]\/AA M=true/\L.length=M.length))
def EM(q:PR):Prop:=Gv q.1/\(0<=q.2/\q.2<=1048576)/\(0<q.2->mJ q.1.1)
structure a4p(c:CL):Prop where
 p0:EM (c.1 0)
 p1:EM (c.1 1)
 w:EM c.2.1
 op:0<=c.2.2.1/\c.2.2.1<=1048576
def LX(c:Rh):Prop:=0<c.1.1->mJ c.1/\c.2.size=32
structure pY(x:Rc):Prop where
 v:Gv x.v
 e: ∀a b c,LX (x.e a b c)
 r: ∀a b c,LX (x.r a b c)
 c: ∀i,a4p (x.c i)
theorem a0a {m:Nat->SlV (Nat->Int)} :jm 0 m []:=⟨rfl,λi hi=>absurd hi (axS _),λi hi=>absurd hi (axS _),λi hi=>absurd hi (axS _)⟩
theorem a0b {y:Nat->Nat->Int} :tK 0 y []:=⟨rfl,λj hj=>absurd hj (axS _)⟩
theorem a5j:Gv zVA:=⟨[],[],a0a,a0b,⟨by decide,by decide,λ_ _=>(show(0:Nat)<1000 by decide)⟩,.inl ⟨rfl,rfl,rfl,rfl⟩⟩
theorem abM {p:aH}{d:ByteArray}(hp:mJ p)(hd:d.size=32):Gv (p,(d,((0,zSN),(0,zNN)))):=⟨[],[],a0a,a0b,⟨by decide,by decide,λ_ _=>(show(0:Nat)<1000 by decide)⟩,.inr ⟨hp,hd,.inl ⟨rfl,rfl⟩⟩⟩
theorem Jg:EM zPR:=⟨a5j,⟨Int.le_refl _,by decide⟩,λh=>absurd h (by decide)⟩
theorem EM.op0 {q:PR}(h:EM q):EM (q.1,0):=⟨h.1,⟨Int.le_refl _,by show(0:Int)<=_;decide⟩,λh=>absurd h (by show¬((0:Int)<0);decide)⟩
theorem uX {c:Nat->CL}(h: ∀i,a4p (c i)){i:Nat}{z:CL}(hz:a4p z): ∀k,a4p (upd c i z k):=λk=>by
 by_cases e:k=i
 ·subst e;rw[upd_same];exact hz
 ·rw[upd_ne e];exact h k
theorem aaF:pY newR:=⟨a5j,λ_ _ _ h=>absurd h (by show¬((0:Int)<0);decide),λ_ _ _ h=>absurd h (by show¬((0:Int)<0);decide),λ_=>⟨Jg,Jg,Jg,⟨Int.le_refl _,by show(0:Int)<=_;decide⟩⟩⟩
theorem EN {F:FU}(h: ∀a b c,LX (F a b c)){srv:Int}{p:aH}{d:ByteArray}(hp:mJ p)(hd:d.size=32): ∀a b c,LX (pW F srv p d a b c):=λa b c=>by
 unfold pW;split
 ·exact λ_=>⟨hp,hd⟩
 ·exact h a b c
def asv(k op:Int)(key:ByteArray)(st:aH)(dg:ByteArray)(M:List (List Nat))(L:List Nat):Prop:=
 (1<=key.size/\key.size<=8)/\
 ((k=5\/k=6)/\op=0/\mJ st/\dg.size=32/\M=[]/\L=[]\/
  k=3/\(1<=op/\op<=1048576)/\(st=(0,0)/\dg=ByteArray.empty/\M=[]/\L=[]\/mJ st/\dg.size=32/\(M=[]/\L=[]\/AA M=true/\L.length=M.length))\/
  k=7/\(1<=op/\op<=1048576)/\mJ st/\dg=ByteArray.empty/\M=[]/\L=[])
def Wo(f:Fr)(x:OU):Prop:=x.1≠(f.I:Int)/\ ∃nm m ny y M L,x.2.2.2.2.2.2=((.fz nm m,.fz ny y):SlV (SlV (Nat->Int))×SlV (Nat->Int))/\jm nm m M/\tK ny y L/\(M.length<1000/\L.length<1000/\ ∀i,i<nm->(m i).len<1000)/\asv x.2.1 x.2.2.1 x.2.2.2.1 x.2.2.2.2.1 x.2.2.2.2.2.1 M L
def oQ(f:Fr)(l:List OU):Prop:= ∀x∈l,Wo f x
theorem oQ.nil(f:Fr):oQ f []:=λx h=>absurd h (by simp)
theorem oQ.app {f:Fr}{a b:List OU}(h:oQ f a)(g:oQ f b):oQ f (a++b):=λx hx=>(ay0.1 hx).elim (h x) (g x)
theorem oQ.one {f:Fr}{x:OU}(h:Wo f x):oQ f [x]:=λy hy=>by rw[ayp.1 hy];exact h
def jo(f:Fr)(a:RcW):Prop:=pY a.1/\oQ f a.2
theorem jo.bind {f:Fr}{a:RcW}{F:Rc->RcW}(h:jo f a)(g: ∀x,pY x->jo f (F x)):jo f (gG a F):=⟨(g a.1 h.1).1,h.2.app (g a.1 h.1).2⟩
structure Fr.Ok2(f:Fr):Prop extends f.Ok where
 key:1<=f.key.size/\f.key.size<=8
section
variable {f:Fr}
theorem adt(hf:f.Ok2)(c:Nat):((f.N+(c+1):Nat):Int)≠(f.I:Int):=by have:=hf.I;omega
theorem SA(hf:f.Ok2){i:Nat}{q:PR}(h:EM q)(h0:0<q.2):Wo f (Ik f i q):=
 ⟨adt hf i,0,_,0,zNN,[],[],rfl,a0a,a0b,⟨by decide,by decide,λ_ _=>(show(0:Nat)<1000 by decide)⟩,hf.key,.inr (.inr ⟨rfl,⟨h0,h.2.1.2⟩,h.2.2 h0,rfl,rfl,rfl⟩)⟩
theorem abN(hf:f.Ok2)(i:Nat){x:Rc}(h:pY x):jo f (FW f i x):=by
 unfold FW;split
 ·rename_i hc;refine⟨⟨h.v,h.e,h.r,uX h.c ⟨?_,?_,(h.c i).w,(h.c i).op⟩⟩,.one (SA hf (h.c i).p0 hc.1)⟩
  ·show EM (upd (x.c i).1 0 (((x.c i).1 0).1,0) 0);rw[upd_same];exact(h.c i).p0.op0
  ·show EM (upd (x.c i).1 0 (((x.c i).1 0).1,0) 1);rw[upd_ne (by decide)];exact(h.c i).p1
 ·exact⟨h,.nil f⟩
theorem abO(hf:f.Ok2)(i:Nat){x:Rc}(h:pY x):jo f (FX f i x):=by
 unfold FX;split
 ·rename_i hc;refine⟨⟨h.v,h.e,h.r,uX h.c ⟨?_,?_,(h.c i).w,(h.c i).op⟩⟩,.one (SA hf (h.c i).p1 hc.1)⟩
  ·show EM (upd (x.c i).1 1 (((x.c i).1 1).1,0) 0);rw[upd_ne (by decide)];exact(h.c i).p0
  ·show EM (upd (x.c i).1 1 (((x.c i).1 1).1,0) 1);rw[upd_same];exact(h.c i).p1.op0
 ·exact⟨h,.nil f⟩
theorem abP(hf:f.Ok2)(i:Nat){x:Rc}(h:pY x):jo f (Il f i x):=by
 unfold Il;split
 ·rename_i hc;exact⟨⟨h.v,h.e,h.r,uX h.c ⟨(h.c i).p0,(h.c i).p1,(h.c i).w.op0,(h.c i).op⟩⟩,.one (SA hf (h.c i).w hc.1)⟩
 ·exact⟨h,.nil f⟩
theorem a2i(hf:f.Ok2){x:Rc}(h:pY x): ∀n,jo f (BL f x n)
 |0=>⟨h,.nil f⟩
 |n+1=>(a2i hf h n).bind λy hy=>((abN hf n hy).bind λz hz=>abO hf n hz).bind λz hz=>abP hf n hz
theorem ajf(hf:f.Ok2){x:Rc}(h:pY x){i:Nat}(hi:0<(x.c i).2.2.1):Wo f (stP f x i):=by obtain⟨M,L,h1,h2,h3,h4⟩:=h.v;exact⟨adt hf i,_,_,_,_,M,L,rfl,h1,h2,h3,hf.key,.inr (.inl ⟨rfl,⟨hi,(h.c i).op.2⟩,h4⟩)⟩
theorem a2j(hf:f.Ok2){x:Rc}(h:pY x)(i:Nat):oQ f (O7 f x i):=by
 unfold O7;split
 ·rename_i hc;exact .one (ajf hf h hc)
 ·exact .nil f
theorem SB(hf:f.Ok2){x:Rc}(h:pY x): ∀n,oQ f (ZY f x n)
 |0=>.nil f
 |n+1=>(SB hf h n).app (a2j hf h n)
theorem SC(hf:f.Ok2){k:Int}(hk:k=5\/k=6){p:aH}(hp:mJ p){d:ByteArray}(hd:d.size=32): ∀n,oQ f (a00 f k p d n)
 |0=>.nil f
 |n+1=>(SC hf hk hp hd n).app (by
  split
  ·exact .nil f
  ·rename_i hn;exact .one ⟨by show((n+1:Nat):Int)≠_;omega,0,_,0,zNN,[],[],rfl,a0a,a0b,⟨by decide,by decide,λ_ _=>(show(0:Nat)<1000 by decide)⟩,hf.key,.inl ⟨hk,rfl,hp,hd,rfl,rfl⟩⟩)
theorem a2k {x:Rc}(h:pY x){p:PR}(hp:EM p): ∀i,a4p (takeC x p i):=by
 unfold takeC;split
 ·refine uX h.c ⟨?_,?_,(h.c _).w,(h.c _).op⟩
  ·by_cases e:(p.1.1.1%2).toNat=0
   ·show EM (upd _ _ _ 0);rw[e,upd_same];exact hp
   ·show EM (upd _ _ _ 0);rw[upd_ne (Ne.symm e)];exact(h.c _).p0
  ·by_cases e:(p.1.1.1%2).toNat=1
   ·show EM (upd _ _ _ 1);rw[e,upd_same];exact hp
   ·show EM (upd _ _ _ 1);rw[upd_ne (Ne.symm e)];exact(h.c _).p1
 ·exact h.c
def Wp(f:Fr)(rec:FV):Prop:= ∀p d x,mJ p->d.size=32->pY x->jo f (rec p d x)
variable {rec:FV}
theorem a6L(hf:f.Ok2){p:aH}(hp:mJ p){d:ByteArray}(hd:d.size=32){x:Rc}(h:pY x):jo f (qC f p d x):=by
 unfold qC;split
 ·exact⟨⟨h.v,h.e,EN h.r hp hd,h.c⟩,SC hf (.inr rfl) hp hd _⟩
 ·exact⟨h,.nil f⟩
theorem Q5(hf:f.Ok2)(hr:Wp f rec){p:aH}(hp:mJ p){d:ByteArray}(hd:d.size=32){x:Rc}(h:pY x):jo f (ku f rec p d x):=
 (a6L hf hp hd h).bind λy hy=>by
  unfold endP;split
  ·exact hr p d y hp hd hy
  ·exact⟨hy,.nil f⟩
theorem abQ {v:VA}(h:Gv v)(hp:mJ v.1):v.2.1.size=32:=by
 obtain⟨M,L,_,_,_,h4⟩:=h;rcases h4 with h4|h4
 ·have:=hp.1;rw[h4.1]at this;exact absurd this (by decide)
 ·exact h4.2.1
theorem Yq(hf:f.Ok2)(hr:Wp f rec){p:PR}(hp:EM p)(hm:mJ p.1.1){x:Rc}(h:pY x):jo f (qD f rec p x):=by
 have hd:=abQ hp.1 hm;unfold qD;split
 ·exact jo.bind (a:=(_,_)) ⟨⟨h.v,EN h.e hm hd,h.r,a2k h hp⟩,SC hf (.inl rfl) hm hd _⟩ λy hy=>Q5 hf hr hm hd hy
 ·exact⟨⟨h.v,h.e,h.r,a2k h hp⟩,.nil f⟩
theorem a6M(hf:f.Ok2)(hr:Wp f rec)(i:Nat){x:Rc}(h:pY x):jo f (wL f rec i x):=by
 unfold wL;split
 ·rename_i hg;exact Yq hf hr (h.c i).w ((h.c i).w.2.2 hg.1) ⟨h.v,h.e,h.r,uX h.c ⟨(h.c i).p0,(h.c i).p1,Jg,(h.c i).op⟩⟩
 ·exact⟨h,.nil f⟩
theorem Yr(hf:f.Ok2)(hr:Wp f rec){x:Rc}(h:pY x): ∀n,jo f (wM f rec x n)
 |0=>⟨h,.nil f⟩
 |n+1=>(Yr hf hr h n).bind λy hy=>a6M hf hr n hy
theorem aaG {c:CL}(hc:a4p c){p:aH}(hp:mJ p){d:ByteArray}(hd:d.size=32):Gv (BM c p d):=by
 unfold BM;split
 ·exact hc.p0.1
 ·split
  ·exact hc.p1.1
  ·split
   ·exact hc.w.1
   ·exact abM hp hd
theorem a6N(hf:f.Ok2)(hr:Wp f rec):Wp f (wN f rec):=λp d x hp hd h=>by have h1:pY { x with v:=BM (x.c (p.2-1).toNat) p d } :=⟨aaG (h.c _) hp hd,h.e,h.r,h.c⟩;exact(jo.bind (a:=(_,_)) ⟨h1,SB hf h1 3⟩ λy hy=>a2i hf hy 3).bind λy hy=>Yr hf hr hy 3
theorem Jh(hf:f.Ok2): ∀n,Wp f (eO f n)
 |0=>λp d x _ _ h=>⟨h,.nil f⟩
 |n+1=>a6N hf (Jh hf n)
theorem Yt(hf:f.Ok2){v:VA}(hv:Gv v){x:Rc}(h:pY x):jo f (nD f v x):=by
 unfold nD;split
 ·have h1:pY { x with v:=v } :=⟨hv,h.e,h.r,h.c⟩;exact⟨h1,SB hf h1 3⟩
 ·exact⟨h,.nil f⟩
theorem a0c(hf:f.Ok2)(i:Nat){p:PR}(hp:EM p)(hm:mJ p.1.1)(h0:0<p.2){x:Rc}(h:pY x):jo f (iJ f (eO f 5) i p x):=by
 unfold iJ;split
 ·exact(Yt hf hp.1 h).bind λy hy=>⟨hy,.one (SA hf hp h0)⟩
 ·split
  ·exact Yq hf (Jh hf 5) hp hm h
  ·split
   ·exact⟨⟨h.v,h.e,h.r,uX h.c ⟨(h.c i).p0,(h.c i).p1,hp,(h.c i).op⟩⟩,.nil f⟩
   ·exact⟨h,.nil f⟩
theorem a6O(hf:f.Ok2)(from_:Int){p:aH}(hp:mJ p){d:ByteArray}(hd:d.size=32){x:Rc}(h:pY x):jo f (EL f (eO f 5) from_ p d x):=by
 unfold EL;split
 ·exact Q5 hf (Jh hf 5) hp hd ⟨h.v,EN h.e hp hd,h.r,h.c⟩
 ·exact⟨h,.nil f⟩
theorem a6P(hf:f.Ok2)(from_:Int){p:aH}(hp:mJ p){d:ByteArray}(hd:d.size=32){x:Rc}(h:pY x):jo f (uW f (eO f 5) from_ p d x):=by
 unfold uW;split
 ·exact Q5 hf (Jh hf 5) hp hd ⟨h.v,h.e,EN h.r hp hd,h.c⟩
 ·exact⟨h,.nil f⟩
theorem a4q(hf:f.Ok2)(i:Nat){op:Int}(ho:1<=op/\op<=1048576){x:Rc}(h:pY x):jo f (BO f i op x):=by
 unfold BO;split
 ·have h1:pY { x with c:=upd x.c i ((x.c i).1,((x.c i).2.1,(op,(x.c i).2.2.2))) } :=⟨h.v,h.e,h.r,uX h.c ⟨(h.c i).p0,(h.c i).p1,(h.c i).w,by show 0<=op/\op<=_;omega⟩⟩;exact⟨h1,a2j hf h1 i⟩
 ·exact⟨h,.nil f⟩
theorem a6Q(i:Nat)(op:Int){x:Rc}(h:pY x):jo f (LW i op x):=by
 have h1: ∀k,a4p (yN x.c i op k):=uX h.c ⟨(h.c i).p0,(h.c i).p1,(h.c i).w,(h.c i).op⟩;unfold LW;split
 ·exact⟨⟨h.v,h.e,h.r,uX h1 ⟨(h1 i).p0,(h1 i).p1,(h1 i).w,⟨Int.le_refl _,by show(0:Int)<=_;decide⟩⟩⟩,.nil f⟩
 ·exact⟨⟨h.v,h.e,h.r,h1⟩,.nil f⟩
theorem aaH(hf:f.Ok2){x:Rc}(h:pY x)(i:Nat):oQ f (Yo f x i):=by
 have at_ok: ∀(F:FU),(∀a b c,LX (F a b c))-> ∀a b c,LX (atT f.N F a b c):=λF hF a b c=>by
  unfold atT;split
  ·exact hF _ _ _
  ·exact λh=>absurd h (by show¬((0:Int)<0);decide)
 have says: ∀k,k=5\/k=6-> ∀c:Rh,LX c->oQ f (oP f k c):=λk hk c hc=>by
  unfold oP;split
  ·rename_i h0;exact SC hf hk (hc h0).1 (hc h0).2 _
  ·exact .nil f
 exact(says 5 (.inl rfl) _ (at_ok _ h.e _ _ _)).app ((says 6 (.inr rfl) _ (at_ok _ h.r _ _ _)).app ((says 5 (.inl rfl) _ (at_ok _ h.e _ _ _)).app (says 6 (.inr rfl) _ (at_ok _ h.r _ _ _))))
theorem a2l(hf:f.Ok2){x:Rc}(h:pY x): ∀n,oQ f (Wn f x n)
 |0=>.nil f
 |n+1=>(a2l hf h n).app (aaH hf h n)
theorem aaI(hf:f.Ok2){x:Rc}(h:pY x):oQ f (a2h f x):=(a2l hf h 3).app (SB hf h 3)
end
end Go.Pl
