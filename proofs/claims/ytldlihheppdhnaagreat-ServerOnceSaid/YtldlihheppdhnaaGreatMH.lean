/-
 What the layer computes.
-/
import Derived.Test.YtldlihheppdhnaaGreatMF
import Derived.Test.YtldlihheppdhnaaGreatMK
import Derived.Test.YtldlihheppdhnaaGreatPlB
set_option linter.unusedVariables false
set_option linter.unusedSimpArgs false
namespace Go.Pl
open Go Go.Den Go.Num
section
variable {g:sj} {P Q G:Nat}
def uX(P Q G n:Nat)(c:Nat->Nat)(i:Int)(y:Nat):Prop:=(1<=i/\i<=7)/\y<Q/\Qj P Q n c/\G^y%P=atN P n c i.toNat
open Classical in
theorem OM(h:dI g P Q G){n:Nat}{f:Nat->(Nat->Int)}{c:Nat->Nat}(hf: ∀j,j<n->IsN (f j) (c j)){i:Int}{a:Nat->Int}{y:Nat}(ha:IsN a y):
  zD (some g) n f (i,a)=some (decide (uX P Q G n c i y)):=by
 rw[FN];unfold xA;have hI:=XL h ha;have hM:=Gb h hf;by_cases h1:1<=i
 ·by_cases h2:i<=7
  ·by_cases h3:y<Q
   ·by_cases h4:Qj P Q n c
    ·obtain⟨o,o1,o2⟩:=XM h ha;obtain⟨z,z1,z2⟩:=Wm h h4.2.1 hf (i:=i.toNat) (by omega);rw[aAc (by omega)]at z1;have e:decide (uX P Q G n c i y)=decide (G^y%P=atN P n c i.toNat):=by
      by_cases h5:G^y%P=atN P n c i.toNat
      ·rw[dH h5,dH (show uX P Q G n c i y from⟨⟨h1,h2⟩,h3,h4,h5⟩)]
      ·rw[bq h5,bq (λhh=>h5 hh.2.2.2)]
     rw[dH h4]at hM;simp(disch:=omega) only[WW,hI,hM,o1,z1,o2.eqb z2,e,h3]
    ·rw[bq h4]at hM;rw[bq (p:=uX P Q G n c i y) (λhh=>h4 hh.2.2.1)];simp(disch:=omega) only[WW,hI,hM,h3]
   ·rw[bq (p:=uX P Q G n c i y) (λhh=>h3 hh.2.1)];simp(disch:=omega) only[WW,hI,h3]
  ·rw[bq (p:=uX P Q G n c i y) (λhh=>h2 hh.1.2)];simp(disch:=omega) only[WW]
 ·rw[bq (p:=uX P Q G n c i y) (λhh=>h1 hh.1.1)];simp(disch:=omega) only[WW]
def Qy(P Q:Nat)(t:Int)(M:List (List Nat)):Prop:=(1<=t/\t<=2)/\(1<=M.length/\M.length<=25)/\ ∀i,i<M.length->(((M.getD i []).length:Nat):Int)=t+1/\Qj P Q (M.getD i []).length (λj=>(M.getD i []).getD j 0)
def uY(P Q G:Nat)(M:List (List Nat))(i:Int)(L:List Nat):Prop:=(1<=M.length/\M.length<=25)/\L.length=M.length/\ ∀k,k<M.length->uX P Q G (M.getD k []).length (λj=>(M.getD k []).getD j 0) i (L.getD k 0)
open Classical in
theorem SQ(h:dI g P Q G){t:Int}(ht:1<=t/\t<=2){n:Nat}{m:Nat->SlV (Nat->Int)}{M:List (List Nat)}(hm:lD n m M)(hn:n<9223372036854775808):
  oF (some g) t n m=some (decide (Qy P Q t M)):=by
 rw[KS];unfold BU;have hb: ∀k,k<n-> ¬((((M.getD k []).length:Nat):Int)=t+1/\Qj P Q (M.getD k []).length (λj=>(M.getD k []).getD j 0))-> ¬Qy P Q t M:=λk hk hh hmm=>hh (hmm.2.2 k (by rw[<-hm.sz];exact hk))
 obtain⟨y,y1,y2⟩:=mX (R:=eB) (S:=Unit) (λk _=>jN n m (n:Int) (k:Int) g t)
  (λk _=> ∀i,i<k->(((M.getD i []).length:Nat):Int)=t+1/\Qj P Q (M.getD i []).length (λj=>(M.getD i []).getD j 0))
  (λy=>(∃k:Nat,y=yZ (k:Int) g t/\ ¬Qy P Q t M)\/(y=z8 g t/\ ∀i,i<n->(((M.getD i []).length:Nat):Int)=t+1/\Qj P Q (M.getD i []).length (λj=>(M.getD i []).getD j 0))) n
  (λk hk _ hp=>by
   have hs:=hm.ms k hk;have hl:=hm.len k hk;have hC:=Gb h (n:=(m k).len) (f:=SlV.fn (λ_=>0) (m k)) (c:=λj=>(M.getD k []).getD j 0) (hm.is k hk);by_cases c1:(((m k).len:Nat):Int)=t+1
   ·have e1:((((m k).len:Nat):Int) !=IntKind.i64.wrap (t+1))=false:=by rw[wrap_i64 (by omega)];exact a1Q c1
    by_cases c2:Qj P Q (m k).len (λj=>(M.getD k []).getD j 0)
    ·rw[dH c2]at hC;refine .inl ⟨(),?_,λi hi=>?_⟩
     ·simp(disch:=omega) only[eB,jN,WW,CC,hs,e1,hC]
     ·by_cases e:i=k
      ·subst e;rw[<-hl];exact⟨c1,c2⟩
      ·exact hp i (by omega)
    ·rw[bq c2]at hC;refine .inr ⟨_,?_,.inl ⟨k,rfl,hb k hk (by rw[<-hl];exact λhh=>c2 hh.2)⟩⟩;simp(disch:=omega) only[eB,jN,WW,CC,hs,e1,hC]
   ·have e1:((((m k).len:Nat):Int) !=IntKind.i64.wrap (t+1))=true:=by rw[wrap_i64 (by omega)];exact RJ c1
    refine .inr ⟨_,?_,.inl ⟨k,rfl,hb k hk (by rw[<-hl];exact λhh=>c1 hh.1)⟩⟩;simp(disch:=omega) only[eB,jN,WW,CC,hs,e1])
  (λ_ hp=>by refine⟨_,?_,.inr ⟨rfl,hp⟩⟩;simp(disch:=omega) only[eB,jN,WW,CC]) () (λi hi=>absurd hi (ayz _))
 have y1':aB eB (((n,m),((),(((n:Nat):Int),(0,())))),(g,(t,())))=some y:=y1;have hlr:uD t=some true:=by rw[FT];unfold CP;simp(disch:=omega) only[WW]
 simp only[y1'];rcases y2 with⟨k,rfl,hmm⟩|⟨rfl,hp⟩
 ·rw[bq hmm];simp(disch:=omega) only[WW,yZ]
 ·simp only[z8,hlr];have hsz:=hm.sz;by_cases c1:1<=n
  ·by_cases c2:n<=25
   ·rw[dH (p:=Qy P Q t M) ⟨ht,by omega,λi hi=>hp i (by omega)⟩];simp(disch:=omega) only[WW]
   ·rw[bq (p:=Qy P Q t M) (λhh=>c2 (by have:=hh.2.1;omega))];simp(disch:=omega) only[WW]
  ·rw[bq (p:=Qy P Q t M) (λhh=>c1 (by have:=hh.2.1;omega))];simp(disch:=omega) only[WW]
open Classical in
theorem OO(h:dI g P Q G){n:Nat}{m:Nat->SlV (Nat->Int)}{M:List (List Nat)}(hm:lD n m M)(hn:n<9223372036854775808){i:Int}{ny:Nat}{y:Nat->(Nat->Int)}{L:List Nat}(hy:Ci ny y L):
  eP (some g) n m (i,(ny,y))=some (decide (uY P Q G M i L)):=by
 rw[FU];unfold xC;have hsz:=hm.sz;have hLl:=hy.1;by_cases c1:1<=n
 case neg=>
  rw[bq (p:=uY P Q G M i L) (λhh=>c1 (by have:=hh.1;omega))];simp(disch:=omega) only[WW]
 by_cases c2:n<=25
 case neg=>
  rw[bq (p:=uY P Q G M i L) (λhh=>c2 (by have:=hh.1;omega))];simp(disch:=omega) only[WW]
 by_cases c3:ny=n
 case neg=>
  rw[bq (p:=uY P Q G M i L) (λhh=>c3 (by have:=hh.2.1;omega))];have e:(((ny:Nat):Int) !=(n:Int))=true:=RJ (by omega);simp(disch:=omega) only[WW,e]
 subst c3;obtain⟨z,y1,y2⟩:=mX (R:=iC) (S:=Unit) (λk _=>pO g ny m (ny:Int) (k:Int) i ny y)
  (λk _=> ∀j,j<k->uX P Q G (M.getD j []).length (λq=>(M.getD j []).getD q 0) i (L.getD j 0))
  (λz=>(z=M7 false/\ ¬uY P Q G M i L)\/(z=M8/\ ∀j,j<ny->uX P Q G (M.getD j []).length (λq=>(M.getD j []).getD q 0) i (L.getD j 0))) ny
  (λk hk _ hp=>by
   have hs:=hm.ms k hk;have hl:=hm.len k hk;have hC:=OM h (n:=(m k).len) (f:=SlV.fn (λ_=>0) (m k)) (c:=λj=>(M.getD k []).getD j 0) (hm.is k hk) (i:=i) (hy.2 k hk);by_cases c:uX P Q G (m k).len (λj=>(M.getD k []).getD j 0) i (L.getD k 0)
   ·rw[dH c]at hC;refine .inl ⟨(),?_,λj hj=>?_⟩
    ·simp(disch:=omega) only[iC,pO,WW,CC,hs,hC]
    ·by_cases e:j=k
     ·subst e;rw[<-hl];exact c
     ·exact hp j (by omega)
   ·rw[bq c]at hC;refine .inr ⟨_,?_,.inl ⟨rfl,λhh=>c (by rw[hl];exact hh.2.2 k (by omega))⟩⟩;simp(disch:=omega) only[iC,pO,WW,CC,hs,hC])
  (λ_ hp=>by refine⟨_,?_,.inr ⟨rfl,hp⟩⟩;simp(disch:=omega) only[iC,pO,WW,CC]) () (λi hi=>absurd hi (ayz _))
 have y1':aB iC ((g,((),((ny,m),(((ny:Nat):Int),(0,()))))),((i,(ny,y)),()))=some z:=y1;simp(disch:=omega) only[WW,az7,y1'];rcases y2 with⟨rfl,hh⟩|⟨rfl,hp⟩
 ·rw[bq hh]
 ·rw[dH (p:=uY P Q G M i L) ⟨by omega,by omega,λj hj=>hp j (by omega)⟩]
end
theorem Mr {n:Nat}{m:Nat->SlV (Nat->Int)}{M:List (List Nat)}(hm:lD n m M)(hn:n<9223372036854775808)(hb:(gT M).length<2^59):
  qL n m=some (yu (gT M)):=by
 rw[DT];unfold Au;have hs:Oj ⟨(gT M).toArray⟩=some (yu (bl ⟨(gT M).toArray⟩)):=a0s (by simpa [ByteArray.size]using hb);simp only[Ch hm hn,hs]
open Go Go.Den Go.Num
theorem Jc {n:Nat}(hn:n<9223372036854775808): ∃a,aT (n:Int)=some a/\IsN a n:=by obtain⟨a,h1,h2⟩:=Ov (n:=(n:Int)) (by omega);exact⟨a,h1,h2⟩
open Classical in
noncomputable def K9(n:Nat):Nat->Int:=if h:n<9223372036854775808 then Classical.choose (Jc h)else λ_=>0
theorem xI {n:Nat}(h:n<9223372036854775808):aT (n:Int)=some (K9 n):=by unfold K9;rw[dif_pos h];exact(Classical.choose_spec (Jc h)).1
theorem D5 {n:Nat}(h:n<9223372036854775808):IsN (K9 n) n:=by unfold K9;rw[dif_pos h];exact(Classical.choose_spec (Jc h)).2
section
variable {P Q G:Nat}
def evN(A:Nat->Nat)(n X Q:Nat):Nat:=Wj A (λi=>X^i) n%Q
theorem a2H(hP:1<P)(p62:P<4611686018427387904)(q31:Q<2147483648){n:Nat}(hn:n<=7){f:Nat->Int}{c:Nat->Nat}(hf:IsR n f c)(hc: ∀j,j<n->c j<Q):
  ∃o,qh ((P:Int),(Q:Int),(G:Int)) n f (n:Int)=some (n,o)/\ ∀j,j<n->IsN (o j) (G^c j%P):=by
 rw[Yu];unfold a01;obtain⟨o,y1,e1⟩:=aO (R:=wo) (S:=Nat->(Nat->Int)) (λk o=>LY n f (n:Int) k o (k:Int) ((P:Int),(Q:Int),(G:Int)))
  (λo=>EK n o) (λk o=> ∀j,j<k->IsN (o j) (G^c j%P)) n
  (λk hk o ho=>by
   have hck:=hc k hk;have hlt:G^c k%P<P:=ayk _ (by omega);have z1:=xI (n:=c k) (by omega);have z2:=D5 (n:=c k) (by omega);have e1:=a0o (P:=P) (Q:=Q) (G:=G) (a:=G) z2 (by omega) (by omega);have z3:=xI (n:=G^c k%P) (by omega);have b1:Nat.ble ((k+1)*32) 140737488355328=true:=ay6 (by omega);have b2:Nat.ble (k+1) 9223372036854775807=true:=ay6 (by omega);refine⟨glue k o (λj=>(upd zNN 0 (K9 (G^c k%P))) (0+j)),?_,λj hj=>?_⟩
   ·simp(disch:=omega) only[wo,LY,WW,CC,hf k hk,z1,e1,z3,b1,b2,aAD]
   ·by_cases hjk:j<k
    ·rw[YN hjk];exact ho j hjk
    ·obtain rfl:j=k:=by omega
     rw[YO (ay7 _),azz];exact D5 (by omega))
  (λo ho=>by simp(disch:=omega) only[wo,LY,WW,CC]) zNN (λj hj=>absurd hj (ayz _))
 have y1':aB wo (((n,f),((n:Int),((),((0,zNN),(0,()))))),(((P:Int),(Q:Int),(G:Int)),()))=some (EK n o):=y1;simp only[y1',EK];exact⟨_,rfl,λj hj=>by simp only[aye];exact e1 j hj⟩
theorem RX(q31:Q<2147483648){n:Nat}(hn:n<=100){l:Nat->(Nat->Int)}{A:Nat->Nat}(hl: ∀i,i<n->IsN (l i) (A i))(hA: ∀i,i<n->A i<Q):Am n l (Q:Int)=some true:=by
 rw[Yv];unfold a02;obtain⟨_,y1,rfl⟩:=aO (R:=wu) (S:=Unit) (λk _=>M0 n l (Q:Int) (k:Int)) (λ_=>EM) (λk s=>s=()) n
  (λk hk _ _=>by
   have z1:=xI (n:=Q) (by omega);have z2:=D5 (n:=Q) (by omega);have c1:=a0f (hl k hk) z2;have hak:=hA k hk;have e: ¬DX (A k) Q>=0:=by unfold DX;rw[ay5 hak];decide
   refine⟨(),?_,rfl⟩;simp(disch:=omega) only[wu,M0,WW,CC,z1,c1,e])
  (λ_ _=>by simp(disch:=omega) only[wu,M0,WW,CC]) () rfl
 have y1':aB wu (((n,l),((Q:Int),(0,()))),())=some EM:=y1;simp only[y1',EM]
theorem abb(hP:1<P)(p62:P<4611686018427387904)(hQ:1<Q)(q31:Q<2147483648){n:Nat}(hn:n<=7){l:Nat->(Nat->Int)}{A:Nat->Nat}(hl: ∀i,i<n->IsN (l i) (A i))(hA: ∀i,i<n->A i<Q):
  ∃w o,x9 n l (Q:Int)=some (n,w)/\qh ((P:Int),(Q:Int),(G:Int)) n w (n:Int)=some (n,o)/\(∀j,j<n->IsN (o j) (G^A j%P))/\ ∀X:Nat,bn n w (X:Int) (Q:Int)=some ((evN A n X Q:Nat):Int)/\aT ((evN A n X Q:Nat):Int)=some (K9 (evN A n X Q))/\IsN (K9 (evN A n X Q)) (evN A n X Q):=by
 obtain⟨w,h1,h2⟩:=a0p (n:=n) (by omega) hl (q:=Q) (by omega) (by omega);have h3:IsR n w A:=λi hi=>by rw[h2 i hi];simp only[ay1 (hA i hi)]
 obtain⟨o,o1,o2⟩:=a2H (P:=P) (Q:=Q) (G:=G) hP p62 q31 hn h3 hA;refine⟨w,o,h1,o1,o2,λX=>?_⟩;have hlt:evN A n X Q<Q:=ayk _ (by omega);exact⟨XP hQ q31 (by omega) h3,xI (by omega),D5 (by omega)⟩
def coN(a b:Nat->Nat)(t k j:Nat):Nat:=if j=0 then a k else b (t*k+(j-1))
theorem a7r {n:Nat}{x:Nat->Int}{l:Nat->(Nat->Int)}{a b:Nat->Nat}{t k lo:Nat}(hx:IsN x (a k))(hl: ∀j,j<t->IsN (l (lo+j)) (b (t*k+j))): ∀i,i<t+1->IsN ((λj=>(glue 1 (upd zNN 0 x) (λj=>l (lo+j))) (0+j)) i) (coN a b t k i):=by
 intro i hi;simp only[aye];by_cases e:i=0
 ·subst e;rw[YN (by omega)];exact hx
 ·rw[YO (by omega),coN,axY e];exact hl (i-1) (by omega)
def vE(P G:Nat)(a b:Nat->Nat)(t nn:Nat):List (List Nat):=(List.range nn).map λk=>(List.range (t+1)).map λj=>G^coN a b t k j%P
theorem wR {a b:Nat->Nat}{t nn k:Nat}(hk:k<nn):(vE P G a b t nn).getD k []=(List.range (t+1)).map λj=>G^coN a b t k j%P:=by simp[vE,ayo,ayD,azu hk]
theorem OP {f:Nat->Nat}{n j:Nat}(hj:j<n):((List.range n).map f).getD j 0=f j:=by simp[ayo,ayD,azu hj]
structure abd(P Q G:Nat)(a b:Nat->Nat)(t nn:Nat)(m:Nat->SlV (Nat->Int))(l:Nat->Int×SlV (Nat->Int)):Prop where
 mat:lD nn m (vE P G a b t nn)
 sh: ∀i,i<3*t+1-> ∃f,(l i).2= .fz nn f/\ ∀k,k<nn->IsN (f k) (evN (coN a b t k) (t+1) (i+1) Q)
theorem a0A {a b:Nat->Nat}{t nn:Nat}{m:Nat->SlV (Nat->Int)}(h: ∀k,k<nn-> ∃o,m k= .fz (t+1) o/\ ∀j,j<t+1->IsN (o j) (G^coN a b t k j%P)):lD nn m (vE P G a b t nn) where
 sz:=by simp[vE]
 ms:=λi hi=>by obtain⟨o,h1,_⟩:=h i hi;rw[h1];rfl
 len:=λi hi=>by obtain⟨o,h1,_⟩:=h i hi;rw[h1,wR hi];simp[SlV.len]
 is:=λi hi j hj=>by obtain⟨o,h1,h2⟩:=h i hi;rw[h1]at hj⊢;have hj':j<t+1:=hj;rw[wR hi,OP hj'];exact h2 j hj'
theorem a7s(hP:1<P)(p62:P<4611686018427387904)(hQ:1<Q)(q31:Q<2147483648){t nn:Nat}(ht:t=1\/t=2)(hnn:nn=1\/nn=2){x y:Nat->(Nat->Int)}{a b:Nat->Nat}(hx: ∀k,k<nn->IsN (x k) (a k))(hy: ∀j,j<t*nn->IsN (y j) (b j))(ha: ∀k,k<nn->a k<Q)(hb: ∀j,j<t*nn->b j<Q):
  ∃m l,EN ((P:Int),(Q:Int),(G:Int)) (t:Int) nn x (t*nn) y=some (((nn,m),((3*t+1,l),(0,()))),())/\abd P Q G a b t nn m l:=by
 have i1:=RX q31 (n:=nn) (by omega) hx ha;have i2:=RX q31 (n:=t*nn) (by rcases ht with rfl|rfl<;>omega) hy hb;have hA: ∀k,k<nn-> ∀i,i<t+1->coN a b t k i<Q:=λk hk i hi=>by
  unfold coN;split
  ·exact ha k hk
  ·exact hb _ (by rcases ht with rfl|rfl<;>rcases hnn with rfl|rfl<;>omega)
 have R0:=λ(k lo:Nat) (hk:k<nn) (hlo:lo=t*k)=>abb (P:=P) (G:=G) hP p62 hQ q31 (n:=t+1) (by omega) (a7r (n:=t) (x:=x k) (l:=y) (a:=a) (b:=b) (t:=t) (k:=k) (lo:=lo) (hx k hk) (λj hj=>by subst hlo;exact hy _ (by rcases ht with rfl|rfl<;>rcases hnn with rfl|rfl<;>omega))) (hA k hk)
 rw[KL];unfold Iw;rcases ht with rfl|rfl
 ·rcases hnn with rfl|rfl
  ·obtain⟨w,o,h1,h2,h3,E⟩:=R0 0 0 (by omega) rfl;have h2':qh ((P:Int),(Q:Int),(G:Int)) 2 w 2=some (2,o):=h2;have E1: ∀X:Nat,bn 2 w (no_index (OfNat.ofNat X:Int)) (Q:Int)=some ((evN (coN a b 1 0) 2 X Q:Nat):Int):=λX=>(E X).1
   have E2: ∀X:Nat,aT ((evN (coN a b 1 0) 2 X Q:Nat):Int)=some (K9 (evN (coN a b 1 0) 2 X Q)):=λX=>(E X).2.1
   refine⟨?_,?_,?g,?h⟩
   case g=>
    show xk _ x 1 y=_;unfold xk;simp(disch:=omega) only[WW,az7,show(((1:Nat):Int) !=1)=false from rfl,i1,i2,h1,h2',E1,E2];rfl
   case h=>
    refine⟨a0A λk hk=>?_,λi hi=>?_⟩
    ·obtain rfl:k=0:=by omega
     exact⟨o,rfl,h3⟩
    ·rcases(by omega:i=0\/i=1\/i=2\/i=3)with rfl|rfl|rfl|rfl
     all_goals exact⟨_,rfl,λk hk=>by obtain rfl:k=0:=(by omega);exact(E _).2.2⟩
  ·obtain⟨w,o,h1,h2,h3,E⟩:=R0 0 0 (by omega) rfl;obtain⟨w1,o1,g1,g2,g3,F⟩:=R0 1 1 (by omega) rfl;have h2':qh ((P:Int),(Q:Int),(G:Int)) 2 w 2=some (2,o):=h2;have E1: ∀X:Nat,bn 2 w (no_index (OfNat.ofNat X:Int)) (Q:Int)=some ((evN (coN a b 1 0) 2 X Q:Nat):Int):=λX=>(E X).1
   have E2: ∀X:Nat,aT ((evN (coN a b 1 0) 2 X Q:Nat):Int)=some (K9 (evN (coN a b 1 0) 2 X Q)):=λX=>(E X).2.1
   have g2':qh ((P:Int),(Q:Int),(G:Int)) 2 w1 2=some (2,o1):=g2;have F1: ∀X:Nat,bn 2 w1 (no_index (OfNat.ofNat X:Int)) (Q:Int)=some ((evN (coN a b 1 1) 2 X Q:Nat):Int):=λX=>(F X).1
   have F2: ∀X:Nat,aT ((evN (coN a b 1 1) 2 X Q:Nat):Int)=some (K9 (evN (coN a b 1 1) 2 X Q)):=λX=>(F X).2.1
   refine⟨?_,?_,?g,?h⟩
   case g=>
    show xq _ x 2 y=_;unfold xq;simp(disch:=omega) only[WW,az7,show(((2:Nat):Int) !=2)=false from rfl,i1,i2,h1,h2',E1,E2,g1,g2',F1,F2];rfl
   case h=>
    refine⟨a0A λk hk=>?_,λi hi=>?_⟩
    ·rcases(by omega:k=0\/k=1)with rfl|rfl
     ·exact⟨o,rfl,h3⟩
     ·exact⟨o1,rfl,g3⟩
    ·rcases(by omega:i=0\/i=1\/i=2\/i=3)with rfl|rfl|rfl|rfl
     all_goals exact⟨_,rfl,λk hk=>by rcases(by omega:k=0\/k=1)with rfl|rfl;exact(E _).2.2;exact(F _).2.2⟩
 ·rcases hnn with rfl|rfl
  ·obtain⟨w,o,h1,h2,h3,E⟩:=R0 0 0 (by omega) rfl;have h2':qh ((P:Int),(Q:Int),(G:Int)) 3 w 3=some (3,o):=h2;have E1: ∀X:Nat,bn 3 w (no_index (OfNat.ofNat X:Int)) (Q:Int)=some ((evN (coN a b 2 0) 3 X Q:Nat):Int):=λX=>(E X).1
   have E2: ∀X:Nat,aT ((evN (coN a b 2 0) 3 X Q:Nat):Int)=some (K9 (evN (coN a b 2 0) 3 X Q)):=λX=>(E X).2.1
   refine⟨?_,?_,?g,?h⟩
   case g=>
    show xu _ x 2 y=_;unfold xu;simp(disch:=omega) only[WW,az7,show(((2:Nat):Int) !=2)=false from rfl,i1,i2,h1,h2',E1,E2];rfl
   case h=>
    refine⟨a0A λk hk=>?_,λi hi=>?_⟩
    ·obtain rfl:k=0:=by omega
     exact⟨o,rfl,h3⟩
    ·rcases(by omega:i=0\/i=1\/i=2\/i=3\/i=4\/i=5\/i=6)with rfl|rfl|rfl|rfl|rfl|rfl|rfl
     all_goals exact⟨_,rfl,λk hk=>by obtain rfl:k=0:=(by omega);exact(E _).2.2⟩
  ·obtain⟨w,o,h1,h2,h3,E⟩:=R0 0 0 (by omega) rfl;obtain⟨w1,o1,g1,g2,g3,F⟩:=R0 1 2 (by omega) rfl;have h2':qh ((P:Int),(Q:Int),(G:Int)) 3 w 3=some (3,o):=h2;have E1: ∀X:Nat,bn 3 w (no_index (OfNat.ofNat X:Int)) (Q:Int)=some ((evN (coN a b 2 0) 3 X Q:Nat):Int):=λX=>(E X).1
   have E2: ∀X:Nat,aT ((evN (coN a b 2 0) 3 X Q:Nat):Int)=some (K9 (evN (coN a b 2 0) 3 X Q)):=λX=>(E X).2.1
   have g2':qh ((P:Int),(Q:Int),(G:Int)) 3 w1 3=some (3,o1):=g2;have F1: ∀X:Nat,bn 3 w1 (no_index (OfNat.ofNat X:Int)) (Q:Int)=some ((evN (coN a b 2 1) 3 X Q:Nat):Int):=λX=>(F X).1
   have F2: ∀X:Nat,aT ((evN (coN a b 2 1) 3 X Q:Nat):Int)=some (K9 (evN (coN a b 2 1) 3 X Q)):=λX=>(F X).2.1
   refine⟨?_,?_,?g,?h⟩
   case g=>
    show xw _ x 4 y=_;unfold xw;simp(disch:=omega) only[WW,az7,show(((4:Nat):Int) !=4)=false from rfl,i1,i2,h1,h2',E1,E2,g1,g2',F1,F2];rfl
   case h=>
    refine⟨a0A λk hk=>?_,λi hi=>?_⟩
    ·rcases(by omega:k=0\/k=1)with rfl|rfl
     ·exact⟨o,rfl,h3⟩
     ·exact⟨o1,rfl,g3⟩
    ·rcases(by omega:i=0\/i=1\/i=2\/i=3\/i=4\/i=5\/i=6)with rfl|rfl|rfl|rfl|rfl|rfl|rfl
     all_goals exact⟨_,rfl,λk hk=>by rcases(by omega:k=0\/k=1)with rfl|rfl;exact(E _).2.2;exact(F _).2.2⟩
end
open Go Go.Den Go.Num
def WK(a b c d:Bool):Int:=(bif a then 1 else 0)+(bif b then 2 else 0)+(bif c then 4 else 0)+(bif d then 8 else 0)
def WL(k c:Int):Prop:=(k=1\/k=2)/\c=8\/k=3/\(c=8\/ak .andNot .i64 c 4=11)\/(k=4\/k=8)/\c=13\/(k=5\/k=6)/\c=3\/k=7/\c=9
structure atc where
 st:Bool
 dg:Bool
 mx:Bool
 op:Bool
noncomputable def lF(op:Int)(st:aC)(dg:ByteArray)(nm ny:Nat):atc:=⟨!(eqF (.pair (.int .i64) (.int .i64)) st (0,0)),!(sEq dg (ByteArray.mk #[])),decide (0<nm+ny),op !=0⟩
def JQ(b:atc)(op:Int)(st:aC)(dg:ByteArray)(M:List (List Nat))(ny:Nat):Prop:=
 (b.st=true->j5 st)/\(b.dg=true->dg.size=32)/\(b.mx=true->ny=M.length/\gT M≠ [])/\(b.op=true->1<=op/\op<=1048576)
abbrev Gt(k op:Int)(key:ByteArray)(st:aC)(dg:ByteArray)(nm:Nat)(m:Nat->SlV (Nat->Int))(ny:Nat)(y:Nat->(Nat->Int)):Int×(Int×(ByteArray×((Int×Int)×(ByteArray×((Nat×(Nat->SlV (Nat->Int)))×(Nat×(Nat->(Nat->Int)))))))):=(k,(op,(key,(st,(dg,((nm,m),(ny,y)))))))
theorem a0B(s:aC):zI s=some (decide (j5 s)):=by
 rw[FV];unfold CQ j5;by_cases h1:s.1>=1
 ·by_cases h2:s.1<=1099511627776
  ·by_cases h3:s.2>=1<;>simp[h1,h2,h3]
  ·simp[h1,h2]
 ·simp[h1]
theorem some_spec(w:Int)(is_ may:Bool)(o:Int)(ok:Bool):cO w is_ may o ok=some ((),((bif is_ then ak .or .i64 o w else o),((!is_||may)&&ok,()))):=by rw[za];unfold uF;cases is_<;>cases may<;>cases ok<;>rfl
theorem abe(l:List UInt8):sEq ⟨l.toArray⟩ (ByteArray.mk #[])=decide (l=[]):=by
 by_cases h:l=[]
 ·subst h;rw[dH rfl];exact(nN _ _).2 rfl
 ·rw[bq h];cases hb:sEq ⟨l.toArray⟩ (ByteArray.mk #[])
  ·rfl
  ·have:=(nN _ _).1 hb;simp only[ByteArray.mk.injEq,Array.mk.injEq]at this;exact absurd (by simpa using this) h
open Classical in
theorem a0C {k op:Int}{key:ByteArray}{st:aC}{dg:ByteArray}{nm:Nat}{m:Nat->SlV (Nat->Int)}{M:List (List Nat)}(hm:lD nm m M){ny:Nat}{y:Nat->(Nat->Int)}(hn:nm<1000000000)(hy:ny<1000000000):
  uG (Gt k op key st dg nm m ny y)=some (WK (lF op st dg nm ny).st (lF op st dg nm ny).dg (lF op st dg nm ny).mx (lF op st dg nm ny).op,decide (JQ (lF op st dg nm ny) op st dg M ny)):=by
 rw[FW];unfold CS;have hB:=Ch hm (by omega);have ht:IntKind.i64.wrap (((nm:Nat):Int)+((ny:Nat):Int))=((nm+ny:Nat):Int):=wrap_i64 (by omega);have ht2:decide (((nm+ny:Nat):Int)>0)=decide (0<nm+ny):=by
  by_cases h:0<nm+ny
  ·rw[dH h];exact dH (by omega)
  ·rw[bq h];exact bq (by omega)
 have hsz:=hm.sz;have hp: ∀b1 b2 b3 b4:Bool,∀q1 q2 q3 q4:Bool,(q1=true↔j5 st)->(q2=true↔dg.size=32)->(q3=true↔ny=M.length/\gT M≠ [])->(b4=true->(q4=true↔1<=op/\op<=1048576))->
   ((!b4||q4)&&((!b3||q3)&&((!b2||q2)&&((!b1||q1)&&true))))=decide (JQ ⟨b1,b2,b3,b4⟩ op st dg M ny):=by
  intro b1 b2 b3 b4 q1 q2 q3 q4 h1 h2 h3 h4;rw[azL,ayq];unfold JQ;simp only;rw[<-h1,<-h2,<-h3];cases b4
  ·cases b1<;>cases b2<;>cases b3<;>cases q1<;>cases q2<;>cases q3<;>simp
  ·rw[<-h4 rfl];cases b1<;>cases b2<;>cases b3<;>cases q1<;>cases q2<;>cases q3<;>cases q4<;>simp
 have hbit: ∀b1 b2 b3 b4:Bool,(bif b4 then ak .or .i64 (bif b3 then ak .or .i64 (bif b2 then ak .or .i64 (bif b1 then ak .or .i64 0 1 else 0) 2 else(bif b1 then ak .or .i64 0 1 else 0)) 4 else(bif b2 then ak .or .i64 (bif b1 then ak .or .i64 0 1 else 0) 2 else(bif b1 then ak .or .i64 0 1 else 0))) 8 else(bif b3 then ak .or .i64 (bif b2 then ak .or .i64 (bif b1 then ak .or .i64 0 1 else 0) 2 else(bif b1 then ak .or .i64 0 1 else 0)) 4 else(bif b2 then ak .or .i64 (bif b1 then ak .or .i64 0 1 else 0) 2 else(bif b1 then ak .or .i64 0 1 else 0))))=WK b1 b2 b3 b4:=by decide
 have h32:((((dg.size:Nat):Int)==32)=true↔dg.size=32):=by rw[aAl];omega
 have hmx:(!(sEq ⟨(gT M).toArray⟩ (ByteArray.mk #[])))=decide (gT M≠ []):=by rw[abe];by_cases h:gT M=[]<;>simp[h]
 simp only[Gt,a0B,some_spec,ht,ht2,hB,hmx];show _=some (WK (!(eqF (.pair (.int .i64) (.int .i64)) st (0,0))) (!(sEq dg (ByteArray.mk #[]))) (decide (0<nm+ny)) (op !=0),decide (JQ ⟨!(eqF (.pair (.int .i64) (.int .i64)) st (0,0)),!(sEq dg (ByteArray.mk #[])),decide (0<nm+ny),op !=0⟩ op st dg M ny));generalize hb4:(op !=0)=b4;generalize (!(eqF (.pair (.int .i64) (.int .i64)) st (0,0)))=b1;generalize (!(sEq dg (ByteArray.mk #[])))=b2;generalize decide (0<nm+ny)=b3;have q3:ny=nm->(decide (gT M≠ [])=true↔ny=M.length/\gT M≠ []):=λc1=>by rw[ayq];exact⟨λh=>⟨by omega,h⟩,λh=>h.2⟩
 have q3':ny≠nm->(false=true↔ny=M.length/\gT M≠ []):=λc1=>⟨λh=>by simp at h,λh=>absurd (by omega) c1⟩
 have q4:1<=op->(b4=true->(decide (op<=1048576)=true↔1<=op/\op<=1048576)):=λc2 _=>by rw[ayq];exact⟨λh=>⟨c2,h⟩,λh=>h.2⟩
 have q4': ¬1<=op->(b4=true->(false=true↔1<=op/\op<=1048576)):=λc2 _=>⟨λh=>by simp at h,λh=>absurd h.1 c2⟩
 by_cases c1:ny=nm
 ·have e:(((ny:Nat):Int)==((nm:Nat):Int))=true:=G8 (by omega);by_cases c2:1<=op
  ·rw[e,dH (show op>=1 from c2),bA,bA,hbit,hp b1 b2 b3 b4 _ _ _ _ decide_eq_true_iff h32 (q3 c1) (q4 c2)]
  ·rw[e,bq (show¬op>=1 from c2),bA,bH,hbit,hp b1 b2 b3 b4 _ _ _ _ decide_eq_true_iff h32 (q3 c1) (q4' c2)]
 ·have e:(((ny:Nat):Int)==((nm:Nat):Int))=false:=gN (by omega);by_cases c2:1<=op
  ·rw[e,dH (show op>=1 from c2),bH,bA,hbit,hp b1 b2 b3 b4 _ _ _ _ decide_eq_true_iff h32 (q3' c1) (q4 c2)]
  ·rw[e,bq (show¬op>=1 from c2),bH,bH,hbit,hp b1 b2 b3 b4 _ _ _ _ decide_eq_true_iff h32 (q3' c1) (q4' c2)]
theorem vF(x k:Int):(x=k/\(x==k)=true)\/(x≠k/\(x==k)=false):=by
 by_cases h:x=k
 ·exact .inl ⟨h,G8 h⟩
 ·exact .inr ⟨h,gN h⟩
def wOk(k op:Int)(key:ByteArray)(st:aC)(dg:ByteArray)(M:List (List Nat))(ny:Nat):Prop:=
 (1<=key.size/\key.size<=8)/\JQ (lF op st dg M.length ny) op st dg M ny/\WL k (WK (lF op st dg M.length ny).st (lF op st dg M.length ny).dg (lF op st dg M.length ny).mx (lF op st dg M.length ny).op)
open Classical in
theorem SV {k op:Int}{key:ByteArray}{st:aC}{dg:ByteArray}{nm:Nat}{m:Nat->SlV (Nat->Int)}{M:List (List Nat)}(hm:lD nm m M){ny:Nat}{y:Nat->(Nat->Int)}(hn:nm<1000000000)(hy:ny<1000000000):
  wF (Gt k op key st dg nm m ny y)=some (if wOk k op key st dg M ny then 0 else 1):=by
 have hc:=a0C (k:=k) (op:=op) (key:=key) (st:=st) (dg:=dg) hm (y:=y) hn hy;have hsz:=hm.sz;rw[KT];unfold IK;have hc':uG ((Gt k op key st dg nm m ny y).1,((Gt k op key st dg nm m ny y).2.1,((Gt k op key st dg nm m ny y).2.2.1,((Gt k op key st dg nm m ny y).2.2.2.1,((Gt k op key st dg nm m ny y).2.2.2.2.1,(((Gt k op key st dg nm m ny y).2.2.2.2.2.1.1,(Gt k op key st dg nm m ny y).2.2.2.2.2.1.2),((Gt k op key st dg nm m ny y).2.2.2.2.2.2.1,(Gt k op key st dg nm m ny y).2.2.2.2.2.2.2)))))))=_:=hc;rw[hc'];unfold wOk;rw[<-hsz];generalize WK (lF op st dg nm ny).st (lF op st dg nm ny).dg (lF op st dg nm ny).mx (lF op st dg nm ny).op=c;generalize JQ (lF op st dg nm ny) op st dg M ny=K;simp only[Gt,a2C];have h7:(k=1\/k=2\/k=3\/k=4\/k=5\/k=6\/k=7\/k=8)\/(k≠1/\k≠2/\k≠3/\k≠4/\k≠5/\k≠6/\k≠7/\k≠8):=by omega
 unfold WL;by_cases hk:1<=key.size/\key.size<=8
 ·rcases h7 with(rfl|rfl|rfl|rfl|rfl|rfl|rfl|rfl)|⟨a1,a2,a3,a4,a5,a6,a7,a8⟩
  ·by_cases hK:K<;>rcases vF c 8 with⟨c1,d1⟩|⟨c1,d1⟩<;>simp[hk,hK,c1,d1]
  ·by_cases hK:K<;>rcases vF c 8 with⟨c1,d1⟩|⟨c1,d1⟩<;>simp[hk,hK,c1,d1]
  ·by_cases hK:K<;>rcases vF c 8 with⟨c1,d1⟩|⟨c1,d1⟩<;>rcases vF (ak .andNot .i64 c 4) 11 with⟨c2,d2⟩|⟨c2,d2⟩<;>simp[hk,hK,c1,d1,c2,d2]
  ·by_cases hK:K<;>rcases vF c 13 with⟨c1,d1⟩|⟨c1,d1⟩<;>simp[hk,hK,c1,d1]
  ·by_cases hK:K<;>rcases vF c 3 with⟨c1,d1⟩|⟨c1,d1⟩<;>simp[hk,hK,c1,d1]
  ·by_cases hK:K<;>rcases vF c 3 with⟨c1,d1⟩|⟨c1,d1⟩<;>simp[hk,hK,c1,d1]
  ·by_cases hK:K<;>rcases vF c 9 with⟨c1,d1⟩|⟨c1,d1⟩<;>simp[hk,hK,c1,d1]
  ·by_cases hK:K<;>rcases vF c 13 with⟨c1,d1⟩|⟨c1,d1⟩<;>simp[hk,hK,c1,d1]
  ·simp[a1,a2,a3,a4,a5,a6,a7,a8,gN a1,gN a2,gN a3,gN a4,gN a5,gN a6,gN a7,gN a8]
 ·rcases h7 with(rfl|rfl|rfl|rfl|rfl|rfl|rfl|rfl)|⟨a1,a2,a3,a4,a5,a6,a7,a8⟩
  ·by_cases hK:K<;>rcases vF c 8 with⟨c1,d1⟩|⟨c1,d1⟩<;>simp[hk,hK,c1,d1]
  ·by_cases hK:K<;>rcases vF c 8 with⟨c1,d1⟩|⟨c1,d1⟩<;>simp[hk,hK,c1,d1]
  ·by_cases hK:K<;>rcases vF c 8 with⟨c1,d1⟩|⟨c1,d1⟩<;>rcases vF (ak .andNot .i64 c 4) 11 with⟨c2,d2⟩|⟨c2,d2⟩<;>simp[hk,hK,c1,d1,c2,d2]
  ·by_cases hK:K<;>rcases vF c 13 with⟨c1,d1⟩|⟨c1,d1⟩<;>simp[hk,hK,c1,d1]
  ·by_cases hK:K<;>rcases vF c 3 with⟨c1,d1⟩|⟨c1,d1⟩<;>simp[hk,hK,c1,d1]
  ·by_cases hK:K<;>rcases vF c 3 with⟨c1,d1⟩|⟨c1,d1⟩<;>simp[hk,hK,c1,d1]
  ·by_cases hK:K<;>rcases vF c 9 with⟨c1,d1⟩|⟨c1,d1⟩<;>simp[hk,hK,c1,d1]
  ·by_cases hK:K<;>rcases vF c 13 with⟨c1,d1⟩|⟨c1,d1⟩<;>simp[hk,hK,c1,d1]
  ·simp[a1,a2,a3,a4,a5,a6,a7,a8,gN a1,gN a2,gN a3,gN a4,gN a5,gN a6,gN a7,gN a8]
open Go Go.Den
def bU:List (ByteArray×Rc)->ByteArray->Nat| [],_=>0|e::l,k=>if e.1=k then 0 else bU l k+1
def a2I(N:Nat)(e:ByteArray×Rc):ByteArray×(RD×(VT×(VT×Unit))):=(e.1,((e.2.v,(e.1,(.nil,(.nil,e.2.c)))),(((N:Int),e.2.e),(((N:Int),e.2.r),()))))
def tT(N:Nat)(l:List (ByteArray×Rc)):BG:=l.map (a2I N)
theorem OQ(N:Nat)(k:ByteArray): ∀l,bidx .str (tT N l) k=bU l k
 | []=>rfl
 |e::l=>by
  have ih:=OQ N k l;show(bif sEq k e.1 then 0 else bidx .str (tT N l) k+1)=_;rw[ih,bU];by_cases h:e.1=k
  ·rw[(nN _ _).2 h.symm,ay5 h];rfl
  ·cases hb:sEq k e.1
   ·rw[axY h];rfl
   ·exact absurd ((nN _ _).1 hb).symm h
theorem JR(N:Nat)(l:List (ByteArray×Rc))(i:Nat):(tT N l)[i]?=(l[i]?).map (a2I N):=ayD
theorem a2J: ∀(l:List (ByteArray×Rc)) k,bU l k<=l.length
 | [],_=>ay7 _
 |e::l,k=>by have:=a2J l k;simp only[bU,ayN];split<;>omega
theorem pW: ∀ {l:List (ByteArray×Rc)} {k e},l[bU l k]?=some e->e.1=k
 |e0::l,k,e,h=>by
  simp only[bU]at h;split at h
  ·rename_i h0;simp only[ayy,axV]at h;rw[<-h];exact h0
  ·simp only[az0]at h;exact pW h
theorem WM {l:List (ByteArray×Rc)}{k:ByteArray}(h:l[bU l k]?=none):bU l k=l.length:=by have:=a2J l k;rw[List.getElem?_eq_none_iff]at h;omega
def nV:Gs:=λ_ _ _=>((0,0),ByteArray.empty)
def newR:Rc:=⟨zVA,nV,nV,zCS⟩
def gu(l:List (ByteArray×Rc))(k:ByteArray):Rc:=match l[bU l k]? with|some e=>e.2|none=>newR
def D6(l:List (ByteArray×Rc))(k:ByteArray)(x:Rc):List (ByteArray×Rc):=match l[bU l k]? with|some _=>l.modify (bU l k) (λe=>(e.1,x))|none=>l++[(k,x)]
theorem acA(N:Nat)(l:List (ByteArray×Rc))(i:Nat)(k:ByteArray)(x:Rc)(h: ∀e,l[i]?=some e->e.1=k):
  List.modify (tT N l) i (λe=>(e.1,((x.v,(k,(.nil,(.nil,x.c)))),(((N:Int),x.e),(((N:Int),x.r),())))))=tT N (l.modify i (λe=>(e.1,x))):=by
 apply az3;intro j;simp only[tT,azw,ayD];by_cases e:i=j
 ·subst e;cases hj:l[i]? with
  |none=>rfl
  |some q=>
   have:=h q hj;simp[a2I,this]
 ·simp only[axY e];cases l[j]?<;>rfl
section
variable {f:Fr} {z:Fx}
def lG(f:Fr)(v:VA)(x:Rc):RcW:=if zi x.v v.1 v.2.1=true/\x.v.2.2.2.1=0 then({ x with v:=v },OI f { x with v:=v })else(x,[])
def gq(f:Fr)(rec:E5)(i:Nat)(p:PR)(x:Rc):RcW:=
 if¬dJ p.1.1 x.v.1 then fZ (lG f p.1 x) λy=>(y,[Ja f i p])
 else if Gd p.1.1 x.v.1 then nD f rec p x
 else if(x.c i).2.1.1.1.1<p.1.1.1 then({ x with c:=upd x.c i ((x.c i).1,(p,(x.c i).2.2)) },[])else(x,[])
def AX(f:Fr)(rec:E5)(from_:Int)(p:aC)(d:ByteArray)(x:Rc):RcW:=if okV f.N x.e from_ p then jF f rec p d { x with e:=kH x.e from_ p d } else(x,[])
def qB(f:Fr)(rec:E5)(from_:Int)(p:aC)(d:ByteArray)(x:Rc):RcW:=if okV f.N x.r from_ p then jF f rec p d { x with r:=kH x.r from_ p d } else(x,[])
def xJ(f:Fr)(i:Nat)(op:Int)(x:Rc):RcW:=
 if(x.c i).2.2.2<op/\(x.c i).2.2.1<=op then({ x with c:=upd x.c i ((x.c i).1,((x.c i).2.1,(op,(x.c i).2.2.2))) },J9 f { x with c:=upd x.c i ((x.c i).1,((x.c i).2.1,(op,(x.c i).2.2.2))) } i)else(x,[])
def yS(c:Nat->CL)(i:Nat)(op:Int):Nat->CL:=upd c i ((c i).1,((c i).2.1,((c i).2.2.1,(if(c i).2.2.2<op then op else(c i).2.2.2))))
def Fb(i:Nat)(op:Int)(x:Rc):RcW:=
 if(x.c i).2.2.1<=op then({ x with c:=upd (yS x.c i op) i ((yS x.c i op i).1,((yS x.c i op i).2.1,(0,(yS x.c i op i).2.2.2))) },[])else({ x with c:=yS x.c i op },[])
theorem WO(hf:f.Ok)(v:VA)(x:Rc)(o:iN)(ho:o.1+3<1000000000):gL v (f.mk' z x o)=some ((),f.mk' z (lG f v x).1 (apps o (lG f v x).2)):=by
 rw[qR];unfold mD;simp only[RV];have h1:=Wx (z:=z) hf { x with v:=v } o ho;simp only[Fr.mk',Fr.so,Fr.rc]at h1;cases hs:zi x.v v.1 v.2.1
 ·have e:lG f v x=(x,[]):=axY λh=>by rw[hs]at h;exact absurd h.1 (by decide)
  simp only[bH,e,eO]
 ·by_cases hy:x.v.2.2.2.1=0
  ·have e:lG f v x=_:=ay5 ⟨hs,hy⟩;have e2:(((x.v.2.2.2.1:Nat):Int)==0)=true:=G8 (by omega);simp only[bA,e,e2,h1]
  ·have e:lG f v x=(x,[]):=axY λh=>hy h.2
   have e2:(((x.v.2.2.2.1:Nat):Int)==0)=false:=gN (by omega);simp only[bA,bH,e,e2,eO]
theorem a4S(c:Nat->CL):act c<=3:=a4L _ _
theorem XY(hf:f.Ok){i:Nat}(hi:i<3)(p:PR)(hp:j5 p.1.1)(x:Rc)(o:iN)(hw:WFc x.c)(ho:o.1+10000<1000000000):
  iG ((i+1:Nat):Int) p (f.mk' z x o)=some ((),f.mk' z (gq f (dQ f 5) i p x).1 (apps o (gq f (dQ f 5) i p x).2)):=by
 rw[nL];unfold jE;have hn:=hf.n7;have ei:IntKind.i64.wrap (((i+1:Nat):Int)-1)=(i:Int):=by rw[wrap_i64 (by omega)];omega
 have eN:IntKind.i64.wrap ((f.N:Int)+((i+1:Nat):Int))=((f.N+(i+1):Nat):Int):=wrap_i64 (by omega);have h5:HB 5=6534:=rfl;rw[ei,KU (by omega),bA];simp only[oN,Qr];by_cases h1:dJ p.1.1 x.v.1
 ·by_cases h2:Gd p.1.1 x.v.1
  ·have e:gq f (dQ f 5) i p x=nD f (dQ f 5) p x:=by rw[gq,axY (λh=>h h1),ay5 h2]
   have ht:=WB (z:=z) hf (Ea hf 5) p hp x o hw (by have:=a4S x.c;omega) (by omega);simp only[Fr.mk',Fr.so,Fr.rc]at ht;simp(disch:=omega) only[WW,h1,h2,e,ht]
  ·by_cases h3:(x.c i).2.1.1.1.1<p.1.1.1
   ·have e:gq f (dQ f 5) i p x=_:=(axY (λh=>h h1)).trans ((axY h2).trans (ay5 h3));simp(disch:=omega) only[WW,h1,h2,e,eO]
   ·have e:gq f (dQ f 5) i p x=_:=(axY (λh=>h h1)).trans ((axY h2).trans (axY h3));simp(disch:=omega) only[WW,h1,h2,e,eO]
 ·have e:gq f (dQ f 5) i p x=fZ (lG f p.1 x) λy=>(y,[Ja f i p]):=ay5 h1
  have hm:=WO (z:=z) hf p.1 x o (by omega);have hl:(lG f p.1 x).2.length<=3:=by unfold lG;split;exact yw _ 3;exact az8 _
  have hs:=su (z:=z) hf (lG f p.1 x).1 (apps o (lG f p.1 x).2) (by rw[gQ];omega) ((f.N+(i+1):Nat):Int) 7 p.2 f.key p.1.1 ByteArray.empty 0 (λ_=>.nil) 0 zNN;simp only[Fr.mk',Fr.so,Fr.rc]at hm hs;simp(disch:=omega) only[WW,h1,e,hm,eN,hs,fZ,<-jm,J8,Ja]
theorem a4T(hf:f.Ok)(from_:Int)(h0:from_<9223372036854775808)(k op:Int)(key:ByteArray)(p:aC)(d:ByteArray)(nm:Nat)(m:Nat->SlV (Nat->Int))(ny:Nat)(y:Nat->(Nat->Int))(x:Rc)(o:iN)(hw:WFc x.c)(ho:o.1+10000<1000000000):
  jr from_ k op key p d nm m ny y (f.mk' z x o)=some ((),f.mk' z (AX f (dQ f 5) from_ p d x).1 (apps o (AX f (dQ f 5) from_ p d x).2)):=by
 rw[qQ];unfold mq;have h5:HB 5=6534:=rfl;have hput:=pV hf.n7 x.e from_ h0 p d;by_cases h:okV f.N x.e from_ p
 ·have e:AX f (dQ f 5) from_ p d x=_:=ay5 h;have hl:=Mq (z:=z) hf (Ea hf 5) p d { x with e:=kH x.e from_ p d } o hw (by have:=a4S x.c;simp only;omega) (by omega);simp only[Fr.mk',Fr.so,Fr.rc]at hl;rw[ay5 h]at hput;simp(disch:=omega) only[WW,hput,h,e,hl]
 ·have e:AX f (dQ f 5) from_ p d x=_:=axY h;rw[axY h]at hput;simp(disch:=omega) only[WW,hput,h,e,eO]
theorem a2K(hf:f.Ok)(from_:Int)(h0:from_<9223372036854775808)(k op:Int)(key:ByteArray)(p:aC)(d:ByteArray)(nm:Nat)(m:Nat->SlV (Nat->Int))(ny:Nat)(y:Nat->(Nat->Int))(x:Rc)(o:iN)(hw:WFc x.c)(ho:o.1+10000<1000000000):
  j4 from_ k op key p d nm m ny y (f.mk' z x o)=some ((),f.mk' z (qB f (dQ f 5) from_ p d x).1 (apps o (qB f (dQ f 5) from_ p d x).2)):=by
 rw[qb];unfold l9;have h5:HB 5=6534:=rfl;have hput:=pV hf.n7 x.r from_ h0 p d;by_cases h:okV f.N x.r from_ p
 ·have e:qB f (dQ f 5) from_ p d x=_:=ay5 h;have hl:=Mq (z:=z) hf (Ea hf 5) p d { x with r:=kH x.r from_ p d } o hw (by have:=a4S x.c;simp only;omega) (by omega);simp only[Fr.mk',Fr.so,Fr.rc]at hl;rw[ay5 h]at hput;simp(disch:=omega) only[WW,hput,h,e,hl]
 ·have e:qB f (dQ f 5) from_ p d x=_:=axY h;rw[axY h]at hput;simp(disch:=omega) only[WW,hput,h,e,eO]
end
open Go Go.Den Go.Num
structure Hd where
 g:GR
 P:Nat
 Q:Nat
 G:Nat
 T:Nat
 I:Nat
 N:Nat
structure Hd.Ok(h:Hd):Prop where
 grp:dI h.g h.P h.Q h.G
 T:1<=h.T/\h.T<=2
 N:h.N=3*h.T+1
 I:1<=h.I/\h.I<=h.N
@[reducible] def Hd.fr (h:Hd) (key:ByteArray):Fr:=⟨h.T,h.I,h.N,key⟩
theorem Hd.Ok.f {h:Hd}(hh:h.Ok)(key:ByteArray):(h.fr key).Ok:=⟨hh.T,hh.N,hh.I⟩
structure Sv where
 l:List (ByteArray×Rc)
 n:Nat
 ks:Nat->ByteArray
 u:List (Int×Int)
 o:iN
@[reducible] def Hd.sn (h:Hd) (b:BG) (o:iN):SN:=(h.g,((h.T:Int),((h.I:Int),((h.N:Int),((3:Int),((),(b,o)))))))
@[reducible] def Hd.sp (h:Hd) (n:Nat) (ks:Nat->ByteArray) (u:List (Int×Int)):SP:=((h.N:Int),((3:Int),((n,ks),u)))
@[reducible] def Hd.mk' (h:Hd) (s:Sv):SS:=(h.sn (tT h.N s.l) s.o,(h.sp s.n s.ks s.u,()))
structure Sv.Ok(s:Sv):Prop where
 srt:rE s.n s.ks
 few:s.n<1000
 wf: ∀e∈s.l,WFc e.2.c
def gI(h:Hd)(from_ k:Int)(st:aC):Prop:=
 (k=1\/k=2\/k=8)/\((h.N:Int)<from_/\from_<=h.N+3)\/k=4/\((h.N:Int)<from_/\from_<=h.N+3)/\st.2=from_-h.N\/(k=5\/k=6)/\1<=from_/\from_<=h.N/\from_≠h.I
open Classical in
theorem a2L {h:Hd}(hh:h.Ok){from_:Int}(hf: -9223372036854775808<=from_/\from_<9223372036854775808)(k op:Int)(key:ByteArray)(st:aC)(dg:ByteArray)(nm:Nat)(m:Nat->SlV (Nat->Int))(ny:Nat)(y:Nat->(Nat->Int))(s:Sv):
  iX from_ k op key st dg nm m ny y (h.mk' s)=some ((decide (gI h from_ k st),()),h.mk' s):=by
 rw[pY];unfold l8;have hT:=hh.T;have hN:=hh.N;extract_lets-underBinder q;have hq: ∀b:Bool,(b=true↔((h.N:Int)<from_/\from_<=h.N+3))->q ((b,()),())=some ((decide (gI h from_ k st),()),h.mk' s):=by
  intro b hb;unfold q;extract_lets-underBinder c q1;have h7:(k=1\/k=2\/k=4\/k=5\/k=6\/k=8)\/(k≠1/\k≠2/\k≠4/\k≠5/\k≠6/\k≠8):=by omega
  rcases h7 with(rfl|rfl|rfl|rfl|rfl|rfl)|⟨a1,a2,a4,a5,a6,a8⟩
  ·have e:decide (gI h from_ 1 st)=b:=by rw[azL,ayq,hb];simp[gI]
   simp only[q1,c,e];rfl
  ·have e:decide (gI h from_ 2 st)=b:=by rw[azL,ayq,hb];simp[gI]
   simp only[q1,c,e];rfl
  ·have e:decide (gI h from_ 4 st)=(b&&(st.2==IntKind.i64.wrap (from_-h.N))):=by
    rw[azL,ayq,axZ,hb,aAl];simp only[gI];constructor
    ·rintro (h|h|h)
     ·omega
     ·refine⟨h.2.1,?_⟩;rw[wrap_i64 (by omega)];exact h.2.2
     ·omega
    ·rintro ⟨h1,h2⟩;rw[wrap_i64 (by omega)]at h2;exact .inr (.inl ⟨by trivial,h1,h2⟩)
   simp only[q1,c,e];cases b<;>rfl
  ·have e:decide (gI h from_ 5 st)=decide (1<=from_/\from_<=h.N/\from_≠h.I):=by simp[gI]
   simp only[q1,c,e];by_cases c1:1<=from_<;>by_cases c2:from_<=(h.N:Int)<;>by_cases c3:from_=(h.I:Int)<;>simp[c1,c2,c3]
  ·have e:decide (gI h from_ 6 st)=decide (1<=from_/\from_<=h.N/\from_≠h.I):=by simp[gI]
   simp only[q1,c,e];by_cases c1:1<=from_<;>by_cases c2:from_<=(h.N:Int)<;>by_cases c3:from_=(h.I:Int)<;>simp[c1,c2,c3]
  ·have e:decide (gI h from_ 8 st)=b:=by rw[azL,ayq,hb];simp[gI]
   simp only[q1,c,e];rfl
  ·have e:decide (gI h from_ k st)=false:=by rw[decide_eq_false_iff_not];simp only[gI];omega
   simp only[q1,c,e,gN a1,gN a2,gN a4,gN a5,gN a6,gN a8,bH]
 clear_value q;have e3:IntKind.i64.wrap ((h.N:Int)+3)=(h.N:Int)+3:=wrap_i64 (by omega);by_cases c1:(h.N:Int)<from_
 ·simp only[dH (show from_>(h.N:Int)from c1),bA,e3];exact hq _ (by rw[ayq];exact⟨λh=>⟨c1,h⟩,λh=>h.2⟩)
 ·simp only[bq (show¬from_>(h.N:Int)from c1),bH];exact hq _ ⟨λh=>by simp at h,λh=>absurd h.1 c1⟩
def SX(h:Hd)(from_ k op:Int)(key:ByteArray)(st:aC)(dg:ByteArray)(M:List (List Nat))(L:List Nat):Prop:=
 wOk k op key st dg M L.length/\gI h from_ k st/\((k=4\/k=8)->Qy h.P h.Q (h.T:Int) M/\uY h.P h.Q h.G M (h.I:Int) L)
@[reducible] def Hd.opn (h:Hd) (key:ByteArray) (from_:Int) (s:Sv):=vD key from_ (h.N:Int) 3 s.n s.ks s.u
open Classical in
theorem a2M {h:Hd}(hh:h.Ok){from_:Int}(hf: -9223372036854775808<=from_/\from_<9223372036854775808)(k op:Int)(key:ByteArray)(st:aC)(dg:ByteArray){nm:Nat}{m:Nat->SlV (Nat->Int)}{M:List (List Nat)}(hm:lD nm m M){ny:Nat}{y:Nat->(Nat->Int)}{L:List Nat}(hy:Ci ny y L)(hn:nm<1000000000)(hny:ny<1000000000){s:Sv}(hs:s.Ok):
  kP from_ k op key st dg nm m ny y (h.mk' s)=some (if SX h from_ k op key st dg M L then(((h.opn key from_ s).1.2.2.1==0,()),(h.sn (tT h.N s.l) s.o,((h.opn key from_ s).2.1,())))else((false,()),h.mk' s)):=by
 rw[uP];unfold oG;have hC:=SV (k:=k) (op:=op) (key:=key) (st:=st) (dg:=dg) hm (y:=y) hn hny;have hy1:=hy.1;subst hy1;have hS:=a2L hh hf k op key st dg nm m L.length y s;have hO:=a2E hs.srt hs.few key from_ (h.N:Int) 3 s.u;simp only[Gt]at hC;simp-zeta-letToHave only[hC];unfold SX;by_cases c1:wOk k op key st dg M L.length
 ·by_cases c2:gI h from_ k st
  ·simp-zeta-letToHave only[ay5 c1,hS,dH c2,az7,bH];extract_lets-underBinder r1 t k3 k1;have hk3:k3 ((),())=some (((h.opn key from_ s).1.2.2.1==0,()),(h.sn (tT h.N s.l) s.o,((h.opn key from_ s).2.1,()))):=by unfold k3;simp only[hO]
   clear_value k3;show(bif t then _ else bif (k==4)then k1 ((true,()),())else k1 (((k==8),()),()))=_;by_cases c3:k=4\/k=8
   ·have hM:=SQ hh.grp (t:=(h.T:Int)) (by have:=hh.T;omega) hm (by omega);have hH:=OO hh.grp hm (by omega) (i:=(h.I:Int)) hy;have hk1:k1 ((true,()),())=some (if Qy h.P h.Q (h.T:Int) M/\uY h.P h.Q h.G M (h.I:Int) L then(((h.opn key from_ s).1.2.2.1==0,()),(h.sn (tT h.N s.l) s.o,((h.opn key from_ s).2.1,())))else((false,()),h.mk' s)):=by
     unfold k1;by_cases c4:Qy h.P h.Q (h.T:Int) M
     ·by_cases c5:uY h.P h.Q h.G M (h.I:Int) L
      ·rw[ay5 ⟨c4,c5⟩];simp only[bA,hM,hH,dH c4,dH c5,ayK,bH,hk3]
      ·rw[axY λh=>c5 h.2];simp only[bA,hM,hH,dH c4,bq c5,ayK,azB,bH,bA]
     ·rw[axY λh=>c4 h.1];simp only[bA,hM,bq c4,azB,bA]
    clear_value k1;have e:((wOk k op key st dg M L.length/\gI h from_ k st/\((k=4\/k=8)->Qy h.P h.Q (h.T:Int) M/\uY h.P h.Q h.G M (h.I:Int) L))↔(Qy h.P h.Q (h.T:Int) M/\uY h.P h.Q h.G M (h.I:Int) L)):=⟨λh=>h.2.2 c3,λh=>⟨c1,c2,λ_=>h⟩⟩;simp only[e];rcases c3 with rfl|rfl
    ·exact hk1
    ·exact hk1
   ·have e:(wOk k op key st dg M L.length/\gI h from_ k st/\((k=4\/k=8)->Qy h.P h.Q (h.T:Int) M/\uY h.P h.Q h.G M (h.I:Int) L)):=⟨c1,c2,λh=>absurd h c3⟩;rw[ay5 e,gN (λh=>c3 (.inl h)),gN (λh=>c3 (.inr h)),bH];unfold k1;simp only[bH,hk3];rfl
  ·rw[axY (λhx:_/\_/\_=>c2 hx.2.1)];simp only[ay5 c1,hS,bq c2];rfl
 ·rw[axY (λhx:_/\_/\_=>c1 hx.1)];simp only[axY c1];rfl
def frz(o:iN):iN:=(o.1,λj=>o.2 (0+j))
def jo(h:Hd)(from_ k op:Int)(key:ByteArray)(st:aC)(dg:ByteArray)(v:VA)(x:Rc):RcW:=
 if k=1 then xJ (h.fr key) (from_-h.N-1).toNat op x
 else if k=2 then Fb (from_-h.N-1).toNat op x
 else if k=5 then AX (h.fr key) (dQ (h.fr key) 5) from_ st dg x
 else if k=6 then qB (h.fr key) (dQ (h.fr key) 5) from_ st dg x
 else if k=8 then lG (h.fr key) v x
 else gq (h.fr key) (dQ (h.fr key) 5) (from_-h.N-1).toNat (v,op) x
def abf(h:Hd)(key:ByteArray)(x:Rc):RD×(VT×(VT×Unit)):=((x.v,(key,(.nil,(.nil,x.c)))),(((h.N:Int),x.e),(((h.N:Int),x.r),())))
def atd:RD×(VT×(VT×Unit)):=(tRC.zero,Ta (aV tRC))
theorem acB {a b c d:Bool}(h:WK a b c d=13):a=true/\b=false/\c=true/\d=true:=by revert h;cases a<;>cases b<;>cases c<;>cases d<;>decide
theorem abg {a b c d:Bool}(h:WK a b c d=3):a=true/\b=true/\c=false/\d=false:=by revert h;cases a<;>cases b<;>cases c<;>cases d<;>decide
theorem ajZ {a b c d:Bool}(h:WK a b c d=8):a=false/\b=false/\c=false/\d=true:=by revert h;cases a<;>cases b<;>cases c<;>cases d<;>decide
theorem a0D {k op:Int}{key:ByteArray}{st:aC}{dg:ByteArray}{M:List (List Nat)}{ny:Nat}(h:wOk k op key st dg M ny)(hk:k=4\/k=8):j5 st/\ny=M.length/\gT M≠ []/\1<=op/\op<=1048576/\dg.size=0:=by
 obtain⟨_,h2,h3⟩:=h;have hc:WK (lF op st dg M.length ny).st (lF op st dg M.length ny).dg (lF op st dg M.length ny).mx (lF op st dg M.length ny).op=13:=by unfold WL at h3;omega
 obtain⟨a1,a2,a3,a4⟩:=acB hc;have m:=h2.2.2.1 a3;have o:=h2.2.2.2 a4;refine⟨h2.1 a1,m.1,m.2,o.1,o.2,?_⟩;have:sEq dg (ByteArray.mk #[])=true:=by simpa [lF]using a2
 rw[(nN _ _).1 this];rfl
theorem Qz {h:Hd}{from_:Int}(hc:(h.N:Int)<from_/\from_<=h.N+3): ∃i:Nat,i<3/\from_=((h.N+(i+1):Nat):Int)/\(from_-h.N-1).toNat=i:=
 ⟨(from_-h.N-1).toNat,by omega,by omega,rfl⟩
section
variable {h:Hd}
open Classical in
theorem step_ok(hh:h.Ok){from_:Int}(hf: -9223372036854775808<=from_/\from_<9223372036854775808){k op:Int}{key:ByteArray}{st:aC}{dg:ByteArray}{nm:Nat}{m:Nat->SlV (Nat->Int)}{M:List (List Nat)}(hm:lD nm m M){ny:Nat}{y:Nat->(Nat->Int)}{L:List Nat}(hy:Ci ny y L)(hn:nm<1000000000)(hny:ny<1000000000){s:Sv}(hs:s.Ok){D:ByteArray}(hD:qL nm m=some D)
  (hmay:SX h from_ k op key st dg M L) (hopn:(h.opn key from_ s).1.2.2.1=0) {n':Nat} {ks':Nat->ByteArray} {u':List (Int×Int)} (hsp:(h.opn key from_ s).2.1=h.sp n' ks' u'):
  bC from_ k op key st dg nm m ny y (h.mk' s)=some (((frz (apps zNO (jo h from_ k op key st dg (st,(D,((nm,m),(ny,y)))) (gu s.l key)).2),()),h.mk' ⟨D6 s.l key (jo h from_ k op key st dg (st,(D,((nm,m),(ny,y)))) (gu s.l key)).1,n',ks',u',frz (apps zNO (jo h from_ k op key st dg (st,(D,((nm,m),(ny,y)))) (gu s.l key)).2)⟩)):=by
 rw[lg];unfold gM;have hMay:=a2M hh hf k op key st dg hm hy hn hny hs;rw[ay5 hmay,hopn,hsp]at hMay;have hg:=(hh.f key).n7;simp-zeta-letToHave only[hMay,ayZ];extract_lets-underBinder r K;have hK: ∀(bj:BG×Nat) (x:Rc),WFc x.c->K ((),((h.g,((h.T:Int),((h.I:Int),((h.N:Int),((3:Int),((),(bj,()))))))),((h.fr key).rc x,(((h.N:Int),x.e),(((h.N:Int),x.r),())))))=
   some (((frz (apps zNO (jo h from_ k op key st dg (st,(D,((nm,m),(ny,y)))) x).2),()),(h.sn (List.modify bj.1 bj.2 λe=>(e.1,abf h key (jo h from_ k op key st dg (st,(D,((nm,m),(ny,y)))) x).1)) (frz (apps zNO (jo h from_ k op key st dg (st,(D,((nm,m),(ny,y)))) x).2)),(h.sp n' ks' u',())))):=by
  intro bj x hw;let z:Fx:=⟨h.g,bj,h.sp n' ks' u'⟩;have hF:=hh.f key;unfold K;rcases(show k=1\/k=2\/k=4\/k=5\/k=6\/k=8 by have:=hmay.2.1;unfold gI at this;omega)with rfl|rfl|rfl|rfl|rfl|rfl
  ·obtain⟨i,hi,rfl,e0⟩:=Qz (h:=h) (from_:=from_) (by have:=hmay.2.1;unfold gI at this;omega);have e1:IntKind.i64.wrap ((((h.N+(i+1):Nat):Int))-(h.N:Int))=((i+1:Nat):Int):=by rw[wrap_i64 (by omega)];omega
   have e2:IntKind.i64.wrap (((i+1:Nat):Int)-1)=(i:Int):=by rw[wrap_i64 (by omega)];omega
   have e3:IntKind.i64.wrap ((h.N:Int)+((i+1:Nat):Int))=((h.N+(i+1):Nat):Int):=wrap_i64 (by omega);have es:jo h ((h.N+(i+1):Nat):Int) 1 op key st dg (st,(D,((nm,m),(ny,y)))) x=xJ (h.fr key) i op x:=by rw[jo,ay5 rfl,e0]
   rw[es];by_cases c1:(x.c i).2.2.2<op
   ·by_cases c2:(x.c i).2.2.1<=op
    ·have e:xJ (h.fr key) i op x=_:=ay5 ⟨c1,c2⟩;have hs:=su (z:=z) hF { x with c:=upd x.c i ((x.c i).1,((x.c i).2.1,(op,(x.c i).2.2.2))) } zNO (by decide) ((h.N+(i+1):Nat):Int) 3 (upd x.c i ((x.c i).1,((x.c i).2.1,(op,(x.c i).2.2.2))) i).2.2.1 key x.v.1 x.v.2.1 x.v.2.2.1.1 x.v.2.2.1.2 x.v.2.2.2.1 x.v.2.2.2.2;simp only[Fr.mk',Fr.so,Fr.rc,z]at hs;by_cases c3:0<(upd x.c i ((x.c i).1,((x.c i).2.1,(op,(x.c i).2.2.2))) i).2.2.1
     ·simp(disch:=omega) only[WW,ayZ,e1,e2,e3,c1,c2,c3,e,hs,J9,ay5,J8,stP];rfl
     ·simp(disch:=omega) only[WW,ayZ,e1,e2,e3,c1,c2,c3,e,J9,axY,not_false_eq_true,eO];rfl
    ·have e:xJ (h.fr key) i op x=(x,[]):=axY λh=>c2 h.2
     simp(disch:=omega) only[WW,ayZ,e1,e2,e3,c1,c2,e,eO];rfl
   ·have e:xJ (h.fr key) i op x=(x,[]):=axY λh=>c1 h.1
    simp(disch:=omega) only[WW,ayZ,e1,e2,e3,c1,e,eO];rfl
  ·obtain⟨i,hi,rfl,e0⟩:=Qz (h:=h) (from_:=from_) (by have:=hmay.2.1;unfold gI at this;omega);have e1:IntKind.i64.wrap ((((h.N+(i+1):Nat):Int))-(h.N:Int))=((i+1:Nat):Int):=by rw[wrap_i64 (by omega)];omega
   have e2:IntKind.i64.wrap (((i+1:Nat):Int)-1)=(i:Int):=by rw[wrap_i64 (by omega)];omega
   have es:jo h ((h.N+(i+1):Nat):Int) 2 op key st dg (st,(D,((nm,m),(ny,y)))) x=Fb i op x:=by rw[jo,axY (by decide),ay5 rfl,e0]
   rw[es];have eu:(yS x.c i op i).2.2.1=(x.c i).2.2.1:=by rw[yS,upd_same]
   by_cases c2:(x.c i).2.2.1<=op
   ·have e:Fb i op x=_:=ay5 c2;have c2':(yS x.c i op i).2.2.1<=op:=by rw[eu];exact c2
    simp only[yS]at c2' e;simp(disch:=omega) only[WW,ayZ,show((2:Int)==1)=false from rfl,e1,e2,c2',e,eO];rfl
   ·have e:Fb i op x=_:=axY c2;have c2': ¬(yS x.c i op i).2.2.1<=op:=by rw[eu];exact c2
    simp only[yS]at c2' e;simp(disch:=omega) only[WW,ayZ,show((2:Int)==1)=false from rfl,e1,e2,c2',e,eO];rfl
  ·obtain⟨i,hi,rfl,e0⟩:=Qz (h:=h) (from_:=from_) (by have:=hmay.2.1;unfold gI at this;omega);have e1:IntKind.i64.wrap ((((h.N+(i+1):Nat):Int))-(h.N:Int))=((i+1:Nat):Int):=by rw[wrap_i64 (by omega)];omega
   have es:jo h ((h.N+(i+1):Nat):Int) 4 op key st dg (st,(D,((nm,m),(ny,y)))) x=gq (h.fr key) (dQ (h.fr key) 5) i ((st,(D,((nm,m),(ny,y)))),op) x:=by rw[jo,axY (by decide),axY (by decide),axY (by decide),axY (by decide),axY (by decide),e0]
   rw[es];have hp:=XY (z:=z) hF hi ((st,(D,((nm,m),(ny,y)))),op) (a0D hmay.1 (.inl rfl)).1 x zNO hw (by decide);simp only[Fr.mk',Fr.so,Fr.rc,z]at hp;simp(disch:=omega) only[WW,ayZ,show((4:Int)==1)=false from rfl,show((4:Int)==2)=false from rfl,show((4:Int)==5)=false from rfl,show((4:Int)==6)=false from rfl,show((4:Int)==8)=false from rfl,e1,hD,hp];rfl
  ·have es:jo h from_ 5 op key st dg (st,(D,((nm,m),(ny,y)))) x=AX (h.fr key) (dQ (h.fr key) 5) from_ st dg x:=by rw[jo,axY (by decide),axY (by decide),ay5 rfl]
   rw[es];have hp:=a4T (z:=z) hF from_ hf.2 5 op key st dg nm m ny y x zNO hw (by decide);simp only[Fr.mk',Fr.so,Fr.rc,z]at hp;simp(disch:=omega) only[WW,ayZ,show((5:Int)==1)=false from rfl,show((5:Int)==2)=false from rfl,hp];rfl
  ·have es:jo h from_ 6 op key st dg (st,(D,((nm,m),(ny,y)))) x=qB (h.fr key) (dQ (h.fr key) 5) from_ st dg x:=by rw[jo,axY (by decide),axY (by decide),axY (by decide),ay5 rfl]
   rw[es];have hp:=a2K (z:=z) hF from_ hf.2 6 op key st dg nm m ny y x zNO hw (by decide);simp only[Fr.mk',Fr.so,Fr.rc,z]at hp;simp(disch:=omega) only[WW,ayZ,show((6:Int)==1)=false from rfl,show((6:Int)==2)=false from rfl,show((6:Int)==5)=false from rfl,hp];rfl
  ·have es:jo h from_ 8 op key st dg (st,(D,((nm,m),(ny,y)))) x=lG (h.fr key) (st,(D,((nm,m),(ny,y)))) x:=by rw[jo,axY (by decide),axY (by decide),axY (by decide),axY (by decide),ay5 rfl]
   rw[es];have hp:=WO (z:=z) hF (st,(D,((nm,m),(ny,y)))) x zNO (by decide);simp only[Fr.mk',Fr.so,Fr.rc,z]at hp;simp(disch:=omega) only[WW,ayZ,show((8:Int)==1)=false from rfl,show((8:Int)==2)=false from rfl,show((8:Int)==5)=false from rfl,show((8:Int)==6)=false from rfl,hD,hp];rfl
 clear_value K;simp only[r,ayK,bH,OQ,JR];cases hl:s.l[bU s.l key]? with
 |none=>
  have hv:mg (h.N:Int)=some (((),(0,())),(((h.N:Int),nV),())):=by rw[G6];unfold CV;have hN:=hh.N;have hT:=hh.T;simp(disch:=omega) only[WW];rfl
  have hg:gu s.l key=newR:=by unfold gu;rw[hl]
  have hp: ∀x,D6 s.l key x=s.l++[(key,x)]:=λx=>by unfold D6;rw[hl]
  have hix:=WM hl;have h0:(tT h.N s.l)[bidx .str (tT h.N s.l) key]?=none:=by rw[OQ,JR,hl];rfl
  have hb:(X9 .str tRC (tT h.N s.l) key:BG)=(tT h.N s.l++[(key,atd)]:BG):=U1 (k:=.str) (t:=tRC) (l:=tT h.N s.l) (x:=key) h0;simp only[Option.map_none,hv];rw[hb];refine(hK ((tT h.N s.l++[(key,atd)]:BG),bU s.l key) newR (λi _ hp=>absurd hp (by show¬((0:Int)<0);decide))).trans ?_;rw[hg,hp,hix]
  congr 4
  apply az3;intro j;have e1:(tT h.N s.l).length=s.l.length:=by simp[tT]
  simp only[azw,tT,List.map_append,List.getElem?_append,aAn];by_cases c1:j<s.l.length
  ·simp[c1,show¬s.l.length=j by omega]
  ·by_cases c2:s.l.length=j
   ·subst c2;simp[a2I,abf]
   ·obtain⟨i,hi⟩: ∃i,j-s.l.length=i+1:=⟨j-s.l.length-1,by omega⟩;simp[c1,c2,hi]
 |some q=>
  have hk:=pW hl;have hg:gu s.l key=q.2:=by unfold gu;rw[hl]
  have hp: ∀x,D6 s.l key x=s.l.modify (bU s.l key) (λe=>(e.1,x)):=λx=>by unfold D6;rw[hl]
  simp only[ayU,a2I,hk];refine(hK (tT h.N s.l,bU s.l key) q.2 (hs.wf q (ayS hl))).trans ?_;rw[hg,hp];have:=acA h.N s.l (bU s.l key) key (jo h from_ k op key st dg (st,(D,((nm,m),(ny,y)))) q.2).1 (λe he=>by rw[hl]at he;cases he;exact hk);simp only[abf,this]
open Classical in
theorem acC(hh:h.Ok){from_:Int}(hf: -9223372036854775808<=from_/\from_<9223372036854775808){k op:Int}{key:ByteArray}{st:aC}{dg:ByteArray}{nm:Nat}{m:Nat->SlV (Nat->Int)}{M:List (List Nat)}(hm:lD nm m M){ny:Nat}{y:Nat->(Nat->Int)}{L:List Nat}(hy:Ci ny y L)(hn:nm<1000000000)(hny:ny<1000000000){s:Sv}(hs:s.Ok)
  (hmay: ¬(SX h from_ k op key st dg M L/\(h.opn key from_ s).1.2.2.1=0)):bC from_ k op key st dg nm m ny y (h.mk' s)=some ((zNO,()),h.mk' s):=by
 rw[lg];unfold gM;have hMay:=a2M hh hf k op key st dg hm hy hn hny hs;by_cases c:SX h from_ k op key st dg M L
 ·have c2:(h.opn key from_ s).1.2.2.1≠0:=λe=>hmay ⟨c,e⟩
  rw[ay5 c,gN c2]at hMay;have hst:(h.opn key from_ s).2.1=h.sp s.n s.ks s.u:=by
   revert c2;unfold Hd.opn vD;split
   ·intro _;rfl
   ·split
    ·intro h;exact absurd rfl h
    ·split
     ·intro _;rfl
     ·intro h;exact absurd rfl h
  rw[hst]at hMay;simp only[hMay];rfl
 ·rw[axY c]at hMay;simp only[hMay];rfl
end
open Go Go.Den Go.Num
def jR(f:Fr)(k:Int)(c:Gc):List OU:=if 0<c.1.1 then F8 f k c.1 c.2 else []
def La(f:Fr)(x:Rc)(c:Nat):List OU:=
 jR f 5 (atT f.N x.e f.I ((c+1:Nat):Int) 0)++(jR f 6 (atT f.N x.r f.I ((c+1:Nat):Int) 0)++(jR f 5 (atT f.N x.e f.I ((c+1:Nat):Int) 1)++jR f 6 (atT f.N x.r f.I ((c+1:Nat):Int) 1)))
def Ec(f:Fr)(x:Rc):Nat->List OU|0=>[]|n+1=>Ec f x n++La f x n
def YQ(f:Fr)(x:Rc):List OU:=Ec f x 3++OI f x
section
variable {f:Fr} {z:Fx}
theorem Ed(hf:f.Ok)(k:Int)(c:Gc):(jR f k c).length<=7:=by
 unfold jR;split
 ·exact OL hf _ _ _
 ·exact az8 _
theorem a7t(hf:f.Ok)(x:Rc)(c:Nat):(La f x c).length<=28:=by have h1:=Ed hf 5 (atT f.N x.e f.I ((c+1:Nat):Int) 0);have h2:=Ed hf 6 (atT f.N x.r f.I ((c+1:Nat):Int) 0);have h3:=Ed hf 5 (atT f.N x.e f.I ((c+1:Nat):Int) 1);have h4:=Ed hf 6 (atT f.N x.r f.I ((c+1:Nat):Int) 1);simp only[La,ayd];omega
theorem JU(hf:f.Ok)(x:Rc): ∀n,(Ec f x n).length<=28*n
 |0=>ay7 _
 |n+1=>by have:=JU hf x n;have:=a7t hf x n;rw[Ec,ayd];omega
theorem a7u(hf:f.Ok)(x:Rc):(YQ f x).length<=87:=by have:=JU hf x 3;have:=yw (f:=f) x 3;rw[YQ,ayd,OI];omega
@[reducible] def Fr.lt (f:Fr) (z:Fx) (x:Rc) (o:iN):SO×(SP×(Unit×(RC×(VT×(VT×(Unit×Unit)))))):=(f.so z o,(z.sp,((),(f.rc x,(((f.N:Int),x.e),(((f.N:Int),x.r),((),())))))))
@[reducible] def Fr.lj (f:Fr) (z:Fx) (x:Rc) (o:iN):SO×(SP×CR):=(f.so z o,(z.sp,(f.rc x,(((f.N:Int),x.e),(((f.N:Int),x.r),())))))
theorem a4U(hf:f.Ok)(x:Rc)(o:iN)(ho:o.1+28<1000000000){i:Nat}(hi:i<3):
  bM (aY 3 (i:Int) (f.lt z x o))=some (.inl (aY 3 ((i+1:Nat):Int) (f.lt z x (apps o (La f x i))))):=by
 have hn:=hf.n7;have ei:IntKind.i64.wrap ((i:Int)+1)=((i+1:Nat):Int):=wrap_i64 (by omega);dsimp-zeta only[bM,aY,Fr.lt,Fr.so,Fr.rc];extract_lets-underBinder t t1 k1 k;rw[show decide (t1<t)=true from ayf (show(i:Int)<3 by omega),show inb t1 4=true from KU (by show(0:Int)<=i/\(i:Int)<((4:Nat):Int);omega),bA,bA];have sv: ∀(q:iN),q.1+7<1000000000-> ∀(k:Int) (c:Gc),bE k c.1 c.2 (f.so z q,(f.rc x,(((f.N:Int),x.e),(((f.N:Int),x.r),(z.sp,())))))=some ((),(f.so z (apps q (F8 f k c.1 c.2)),(f.rc x,(((f.N:Int),x.e),(((f.N:Int),x.r),(z.sp,())))))):=λq hq k c=>F9 hf x q hq k c.1 c.2
 have lenP: ∀k c,(jR f k c).length<=7:=Ed hf;have hk1: ∀q:iN,q.1+14<1000000000->k1 ((),f.lj z x q)=some (.inl (aY 3 ((i+1:Nat):Int) (f.lt z x (apps (apps q (jR f 5 (atT f.N x.e f.I ((i+1:Nat):Int) 1))) (jR f 6 (atT f.N x.r f.I ((i+1:Nat):Int) 1)))))):=by
  intro q hq;unfold k1;extract_lets-underBinder k2;have hk2: ∀q:iN,q.1+7<1000000000->k2 ((),f.lj z x q)=some (.inl (aY 3 ((i+1:Nat):Int) (f.lt z x (apps q (jR f 6 (atT f.N x.r f.I ((i+1:Nat):Int) 1)))))):=by
   intro q hq;unfold k2;have hs:=sv q hq 6 (atT f.N x.r f.I ((i+1:Nat):Int) 1);simp only[t1,t,ei,xG hn];by_cases c:0<(atT f.N x.r f.I ((i+1:Nat):Int) 1).1.1
   ·have e:jR f 6 (atT f.N x.r f.I ((i+1:Nat):Int) 1)=_:=ay5 c;simp(disch:=omega) only[WW,c,e,hs,aY]
   ·have e:jR f 6 (atT f.N x.r f.I ((i+1:Nat):Int) 1)=_:=axY c;simp(disch:=omega) only[WW,c,e,eO,aY]
  clear_value k2;have hs:=sv q (by omega) 5 (atT f.N x.e f.I ((i+1:Nat):Int) 1);have hl:=lenP 5 (atT f.N x.e f.I ((i+1:Nat):Int) 1);simp only[t1,ei,xG hn];by_cases c:0<(atT f.N x.e f.I ((i+1:Nat):Int) 1).1.1
  ·have e:jR f 5 (atT f.N x.e f.I ((i+1:Nat):Int) 1)=_:=ay5 c;rw[e]at hl⊢;simp(disch:=omega) only[WW,c,hs];exact hk2 _ (by rw[gQ];omega)
  ·have e:jR f 5 (atT f.N x.e f.I ((i+1:Nat):Int) 1)=_:=axY c;rw[e];simp(disch:=omega) only[WW,c];exact hk2 q (by omega)
 clear_value k1;have hk: ∀q:iN,q.1+21<1000000000->k ((),f.lj z x q)=some (.inl (aY 3 ((i+1:Nat):Int) (f.lt z x (apps (apps (apps q (jR f 6 (atT f.N x.r f.I ((i+1:Nat):Int) 0))) (jR f 5 (atT f.N x.e f.I ((i+1:Nat):Int) 1))) (jR f 6 (atT f.N x.r f.I ((i+1:Nat):Int) 1)))))):=by
  intro q hq;unfold k;have hs:=sv q (by omega) 6 (atT f.N x.r f.I ((i+1:Nat):Int) 0);have hl:=lenP 6 (atT f.N x.r f.I ((i+1:Nat):Int) 0);simp only[t1,ei,xG hn];by_cases c:0<(atT f.N x.r f.I ((i+1:Nat):Int) 0).1.1
  ·have e:jR f 6 (atT f.N x.r f.I ((i+1:Nat):Int) 0)=_:=ay5 c;rw[e]at hl⊢;simp(disch:=omega) only[WW,c,hs];exact hk1 _ (by rw[gQ];omega)
  ·have e:jR f 6 (atT f.N x.r f.I ((i+1:Nat):Int) 0)=_:=axY c;rw[e];simp(disch:=omega) only[WW,c];exact hk1 q (by omega)
 clear_value k;have hs:=sv o (by omega) 5 (atT f.N x.e f.I ((i+1:Nat):Int) 0);have hl:=lenP 5 (atT f.N x.e f.I ((i+1:Nat):Int) 0);rw[La,<-jm,<-jm,<-jm];simp only[t1,ei,xG hn];by_cases c:0<(atT f.N x.e f.I ((i+1:Nat):Int) 0).1.1
 ·have e:jR f 5 (atT f.N x.e f.I ((i+1:Nat):Int) 0)=_:=ay5 c;rw[e]at hl⊢;simp(disch:=omega) only[WW,c,hs];exact hk _ (by rw[gQ];omega)
 ·have e:jR f 5 (atT f.N x.e f.I ((i+1:Nat):Int) 0)=_:=axY c;rw[e];simp(disch:=omega) only[WW,c];exact hk o (by omega)
end
def Sv.Full(s:Sv):Prop:= ∀i,i<s.n-> ∃e,s.l[bU s.l (s.ks i)]?=some e
def yx(h:Hd)(s:Sv):Nat->List OU|0=>[]|n+1=>yx h s n++YQ (h.fr (s.ks n)) (gu s.l (s.ks n))
def a2N(h:Hd)(s:Sv):List OU:=yx h s s.n
theorem QA {h:Hd}(hh:h.Ok)(s:Sv): ∀n,(yx h s n).length<=87*n
 |0=>ay7 _
 |n+1=>by have:=QA hh s n;have:=a7u (hh.f (s.ks n)) (gu s.l (s.ks n));rw[yx,ayd];omega
theorem RY {α:Type}(l:List α)(i:Nat)(g:α->α)(h: ∀e,l[i]?=some e->g e=e):l.modify i g=l:=by
 apply az3;intro j;rw[azw];by_cases e:i=j
 ·subst e;cases hj:l[i]? with
  |none=>rfl
  |some q=>simp[h q hj]
 ·simp[e]
theorem a7v {h:Hd}(hh:h.Ok){s:Sv}(hs:s.Ok)(hf:s.Full):fA (h.mk' s)=some (((frz (apps zNO (a2N h s))),()),h.mk' { s with o:=frz (apps zNO (a2N h s)) }):=by
 rw[tO];unfold jv;have hK:iD (h.N:Int) 3 s.n s.ks s.u=some (((s.n,(λj=>s.ks (0+j))),()),(h.sp s.n s.ks s.u,())):=by rw[ng];unfold qw;have:=hs.few;rw[ay6 (by omega),bA]
 obtain⟨o,h1,rfl⟩:=aO (R:=dx) (S:=iN)
  (λi o=>kE s.n (λj=>s.ks (0+j)) (s.n:Int) (i:Int) (h.sn (tT h.N s.l) o,(h.sp s.n s.ks s.u,((),()))))
  (λo=>AB (h.sn (tT h.N s.l) o,(h.sp s.n s.ks s.u,((),()))))
  (λi o=>o=apps zNO (yx h s i)) s.n
  (λi hi o ho=>by
   subst ho;obtain⟨e,he⟩:=hf i hi;have hk:=pW he;have hg:gu s.l (s.ks i)=e.2:=by unfold gu;rw[he]
   have hF:=hh.f (s.ks i);have hfew:=hs.few;have hlen:=QA hh s i;let z:Fx:=⟨h.g,(tT h.N s.l,bU s.l (s.ks i)),h.sp s.n s.ks s.u⟩;obtain⟨o1,p1,rfl⟩:=aO (R:=bM) (S:=iN)
    (λj o=>aY 3 (j:Int) ((h.fr (s.ks i)).lt z e.2 o)) (λo=>((),(h.fr (s.ks i)).lt z e.2 o))
    (λj o=>o=apps (apps zNO (yx h s i)) (Ec (h.fr (s.ks i)) e.2 j)) 3
    (λj hj o ho=>by subst ho;have hl2:=JU hF e.2 j;refine⟨_,a4U hF e.2 _ (by rw[gQ,gQ];show 0+_+_+_<_;omega) hj,?_⟩;rw[jm];rfl)
    (λo ho=>by simp(disch:=omega) only[bM,aY,WW,CC]) (apps zNO (yx h s i)) rfl
   have hl3:=JU hF e.2 3;have ha:=Wx (z:=z) hF e.2 (apps (apps zNO (yx h s i)) (Ec (h.fr (s.ks i)) e.2 3)) (by rw[gQ,gQ];show 0+_+_+_<_;omega);have p1':aB bM (((),((),((3:Int),(0,())))),(h.fr (s.ks i)).lt z e.2 (apps zNO (yx h s i)))=_:=p1;refine⟨_,?_,rfl⟩;have hmod:List.modify (tT h.N s.l) (bU s.l (s.ks i)) (λq=>(q.1,((e.2.v,(s.ks i,(.nil,(.nil,e.2.c)))),(((h.N:Int),e.2.e),(((h.N:Int),e.2.r),())))))=tT h.N s.l:=
    RY _ _ _ λq hq=>by rw[JR,he]at hq;simp only[ayU,axV]at hq;subst hq;simp only[a2I,hk]
   simp only[Fr.mk',Fr.so,Fr.rc,Fr.lt,z]at ha p1';rw[yx,hg,YQ,<-jm,<-jm];simp(disch:=omega) only[dx,kE,WW,CC,aye,OQ,JR,he,ayU,a2I,hk,p1',ha,hmod])
  (λo ho=>by simp(disch:=omega) only[dx,kE,WW,CC]) zNO rfl
 have h1':aB dx (((),((),((s.n,(λj=>s.ks (0+j))),(((s.n:Nat):Int),(0,()))))),(h.sn (tT h.N s.l) zNO,(h.sp s.n s.ks s.u,((),()))))=_:=h1;simp only[hK,h1'];rfl
theorem YR {h:Hd}(s:Sv)(key:ByteArray):bW key (h.mk' s)=some (((match s.l[bU s.l key]? with|some e=>e.2.v.1|none=>(0,0)),((match s.l[bU s.l key]? with|some e=>e.2.v.2.1|none=>ByteArray.mk #[]),((match s.l[bU s.l key]? with|some e=>decide (0<e.2.v.2.2.2.1)|none=>false),()))),h.mk' s):=by
 rw[tK];unfold nk;simp only[OQ,JR];cases he:s.l[bU s.l key]? with
 |none=>rfl
 |some e=>
  have hk:=pW he;have hmod:List.modify (tT h.N s.l) (bU s.l key) (λq=>(q.1,((e.2.v,(e.1,(.nil,(.nil,e.2.c)))),(((h.N:Int),e.2.e),(((h.N:Int),e.2.r),())))))=tT h.N s.l:=
   RY _ _ _ λq hq=>by rw[JR,he]at hq;simp only[ayU,axV]at hq;subst hq;rfl
  have hd:decide (((e.2.v.2.2.2.1:Nat):Int)>0)=decide (0<e.2.v.2.2.2.1):=by
   by_cases c:0<e.2.v.2.2.2.1
   ·rw[dH c];exact dH (by omega)
   ·rw[bq c];exact bq (by omega)
  simp only[ayU,a2I,hmod,hd]
open Go Go.Den Go.Num
def Gv(v:VA):Prop:= ∃M L,lD v.2.2.1.1 v.2.2.1.2 M/\Ci v.2.2.2.1 v.2.2.2.2 L/\(M.length<1000/\L.length<1000/\ ∀i,i<v.2.2.1.1->(v.2.2.1.2 i).len<1000)/\
 (v.1=(0,0)/\v.2.1=ByteArray.empty/\M=[]/\L=[]\/j5 v.1/\v.2.1.size=32/\(M=[]/\L=[]\/zk M=true/\L.length=M.length))
def D7(q:PR):Prop:=Gv q.1/\(0<=q.2/\q.2<=1048576)/\(0<q.2->j5 q.1.1)
structure a4V(c:CL):Prop where
 p0:D7 (c.1 0)
 p1:D7 (c.1 1)
 w:D7 c.2.1
 op:0<=c.2.2.1/\c.2.2.1<=1048576
def Ms(c:Gc):Prop:=0<c.1.1->j5 c.1/\c.2.size=32
structure jG(x:Rc):Prop where
 v:Gv x.v
 e: ∀a b c,Ms (x.e a b c)
 r: ∀a b c,Ms (x.r a b c)
 c: ∀i,a4V (x.c i)
theorem a0E {m:Nat->SlV (Nat->Int)} :lD 0 m []:=⟨rfl,λi hi=>absurd hi (ayz _),λi hi=>absurd hi (ayz _),λi hi=>absurd hi (ayz _)⟩
theorem a0F {y:Nat->Nat->Int} :Ci 0 y []:=⟨rfl,λj hj=>absurd hj (ayz _)⟩
theorem a5T:Gv zVA:=⟨[],[],a0E,a0F,⟨by decide,by decide,λ_ _=>(show(0:Nat)<1000 by decide)⟩,.inl ⟨rfl,rfl,rfl,rfl⟩⟩
theorem acD {p:aC}{d:ByteArray}(hp:j5 p)(hd:d.size=32):Gv (p,(d,((0,zSN),(0,zNN)))):=⟨[],[],a0E,a0F,⟨by decide,by decide,λ_ _=>(show(0:Nat)<1000 by decide)⟩,.inr ⟨hp,hd,.inl ⟨rfl,rfl⟩⟩⟩
theorem Ee:D7 zPR:=⟨a5T,⟨aAL _,by decide⟩,λh=>absurd h (by decide)⟩
theorem D7.op0 {q:PR}(h:D7 q):D7 (q.1,0):=⟨h.1,⟨aAL _,by show(0:Int)<=_;decide⟩,λh=>absurd h (by show¬((0:Int)<0);decide)⟩
theorem qX {c:Nat->CL}(h: ∀i,a4V (c i)){i:Nat}{z:CL}(hz:a4V z): ∀k,a4V (upd c i z k):=λk=>by
 by_cases e:k=i
 ·subst e;rw[upd_same];exact hz
 ·rw[upd_ne e];exact h k
theorem abh:jG newR:=⟨a5T,λ_ _ _ h=>absurd h (by show¬((0:Int)<0);decide),λ_ _ _ h=>absurd h (by show¬((0:Int)<0);decide),λ_=>⟨Ee,Ee,Ee,⟨aAL _,by show(0:Int)<=_;decide⟩⟩⟩
theorem sD {F:Gs}(h: ∀a b c,Ms (F a b c)){srv:Int}{p:aC}{d:ByteArray}(hp:j5 p)(hd:d.size=32): ∀a b c,Ms (kH F srv p d a b c):=λa b c=>by
 unfold kH;split
 ·exact λ_=>⟨hp,hd⟩
 ·exact h a b c
def aea(k op:Int)(key:ByteArray)(st:aC)(dg:ByteArray)(M:List (List Nat))(L:List Nat):Prop:=
 (1<=key.size/\key.size<=8)/\
 ((k=5\/k=6)/\op=0/\j5 st/\dg.size=32/\M=[]/\L=[]\/
  k=3/\(1<=op/\op<=1048576)/\(st=(0,0)/\dg=ByteArray.empty/\M=[]/\L=[]\/j5 st/\dg.size=32/\(M=[]/\L=[]\/zk M=true/\L.length=M.length))\/
  k=7/\(1<=op/\op<=1048576)/\j5 st/\dg=ByteArray.empty/\M=[]/\L=[])
def OT(f:Fr)(x:OU):Prop:=x.1≠(f.I:Int)/\ ∃nm m ny y M L,x.2.2.2.2.2.2=((.fz nm m,.fz ny y):SlV (SlV (Nat->Int))×SlV (Nat->Int))/\lD nm m M/\Ci ny y L/\(M.length<1000/\L.length<1000/\ ∀i,i<nm->(m i).len<1000)/\aea x.2.1 x.2.2.1 x.2.2.2.1 x.2.2.2.2.1 x.2.2.2.2.2.1 M L
def oO(f:Fr)(l:List OU):Prop:= ∀x∈l,OT f x
theorem oO.nil(f:Fr):oO f []:=λx h=>absurd h (by simp)
theorem oO.app {f:Fr}{a b:List OU}(h:oO f a)(g:oO f b):oO f (a++b):=λx hx=>(ays.1 hx).elim (h x) (g x)
theorem oO.one {f:Fr}{x:OU}(h:OT f x):oO f [x]:=λy hy=>by rw[az1.1 hy];exact h
def iU(f:Fr)(a:RcW):Prop:=jG a.1/\oO f a.2
theorem iU.bind {f:Fr}{a:RcW}{F:Rc->RcW}(h:iU f a)(g: ∀x,jG x->iU f (F x)):iU f (fZ a F):=⟨(g a.1 h.1).1,h.2.app (g a.1 h.1).2⟩
structure Fr.Ok2(f:Fr):Prop extends f.Ok where
 key:1<=f.key.size/\f.key.size<=8
section
variable {f:Fr}
theorem aeb(hf:f.Ok2)(c:Nat):((f.N+(c+1):Nat):Int)≠(f.I:Int):=by have:=hf.I;omega
theorem Tw(hf:f.Ok2){i:Nat}{q:PR}(h:D7 q)(h0:0<q.2):OT f (Ja f i q):=
 ⟨aeb hf i,0,_,0,zNN,[],[],rfl,a0E,a0F,⟨by decide,by decide,λ_ _=>(show(0:Nat)<1000 by decide)⟩,hf.key,.inr (.inr ⟨rfl,⟨h0,h.2.1.2⟩,h.2.2 h0,rfl,rfl,rfl⟩)⟩
theorem acE(hf:f.Ok2)(i:Nat){x:Rc}(h:jG x):iU f (E8 f i x):=by
 unfold E8;split
 ·rename_i hc;refine⟨⟨h.v,h.e,h.r,qX h.c ⟨?_,?_,(h.c i).w,(h.c i).op⟩⟩,.one (Tw hf (h.c i).p0 hc.1)⟩
  ·show D7 (upd (x.c i).1 0 (((x.c i).1 0).1,0) 0);rw[upd_same];exact(h.c i).p0.op0
  ·show D7 (upd (x.c i).1 0 (((x.c i).1 0).1,0) 1);rw[upd_ne (by decide)];exact(h.c i).p1
 ·exact⟨h,.nil f⟩
theorem acF(hf:f.Ok2)(i:Nat){x:Rc}(h:jG x):iU f (E9 f i x):=by
 unfold E9;split
 ·rename_i hc;refine⟨⟨h.v,h.e,h.r,qX h.c ⟨?_,?_,(h.c i).w,(h.c i).op⟩⟩,.one (Tw hf (h.c i).p1 hc.1)⟩
  ·show D7 (upd (x.c i).1 1 (((x.c i).1 1).1,0) 0);rw[upd_ne (by decide)];exact(h.c i).p0
  ·show D7 (upd (x.c i).1 1 (((x.c i).1 1).1,0) 1);rw[upd_same];exact(h.c i).p1.op0
 ·exact⟨h,.nil f⟩
theorem acG(hf:f.Ok2)(i:Nat){x:Rc}(h:jG x):iU f (Fa f i x):=by
 unfold Fa;split
 ·rename_i hc;exact⟨⟨h.v,h.e,h.r,qX h.c ⟨(h.c i).p0,(h.c i).p1,(h.c i).w.op0,(h.c i).op⟩⟩,.one (Tw hf (h.c i).w hc.1)⟩
 ·exact⟨h,.nil f⟩
theorem WQ(hf:f.Ok2){x:Rc}(h:jG x): ∀n,iU f (zh f x n)
 |0=>⟨h,.nil f⟩
 |n+1=>(WQ hf h n).bind λy hy=>((acE hf n hy).bind λz hz=>acF hf n hz).bind λz hz=>acG hf n hz
theorem ak0(hf:f.Ok2){x:Rc}(h:jG x){i:Nat}(hi:0<(x.c i).2.2.1):OT f (stP f x i):=by obtain⟨M,L,h1,h2,h3,h4⟩:=h.v;exact⟨aeb hf i,_,_,_,_,M,L,rfl,h1,h2,h3,hf.key,.inr (.inl ⟨rfl,⟨hi,(h.c i).op.2⟩,h4⟩)⟩
theorem a2O(hf:f.Ok2){x:Rc}(h:jG x)(i:Nat):oO f (J9 f x i):=by
 unfold J9;split
 ·rename_i hc;exact .one (ak0 hf h hc)
 ·exact .nil f
theorem OV(hf:f.Ok2){x:Rc}(h:jG x): ∀n,oO f (XU f x n)
 |0=>.nil f
 |n+1=>(OV hf h n).app (a2O hf h n)
theorem Tx(hf:f.Ok2){k:Int}(hk:k=5\/k=6){p:aC}(hp:j5 p){d:ByteArray}(hd:d.size=32): ∀n,oO f (Qq f k p d n)
 |0=>.nil f
 |n+1=>(Tx hf hk hp hd n).app (by
  split
  ·exact .nil f
  ·rename_i hn;exact .one ⟨by show((n+1:Nat):Int)≠_;omega,0,_,0,zNN,[],[],rfl,a0E,a0F,⟨by decide,by decide,λ_ _=>(show(0:Nat)<1000 by decide)⟩,hf.key,.inl ⟨hk,rfl,hp,hd,rfl,rfl⟩⟩)
theorem WR {x:Rc}(h:jG x){p:PR}(hp:D7 p): ∀i,a4V (takeC x p i):=by
 unfold takeC;split
 ·refine qX h.c ⟨?_,?_,(h.c _).w,(h.c _).op⟩
  ·by_cases e:(p.1.1.1%2).toNat=0
   ·show D7 (upd _ _ _ 0);rw[e,upd_same];exact hp
   ·show D7 (upd _ _ _ 0);rw[upd_ne (Ne.symm e)];exact(h.c _).p0
  ·by_cases e:(p.1.1.1%2).toNat=1
   ·show D7 (upd _ _ _ 1);rw[e,upd_same];exact hp
   ·show D7 (upd _ _ _ 1);rw[upd_ne (Ne.symm e)];exact(h.c _).p1
 ·exact h.c
def OW(f:Fr)(rec:E5):Prop:= ∀p d x,j5 p->d.size=32->jG x->iU f (rec p d x)
variable {rec:E5}
theorem YS(hf:f.Ok2){p:aC}(hp:j5 p){d:ByteArray}(hd:d.size=32){x:Rc}(h:jG x):iU f (nC f p d x):=by
 unfold nC;split
 ·exact⟨⟨h.v,h.e,sD h.r hp hd,h.c⟩,Tx hf (.inr rfl) hp hd _⟩
 ·exact⟨h,.nil f⟩
theorem QB(hf:f.Ok2)(hr:OW f rec){p:aC}(hp:j5 p){d:ByteArray}(hd:d.size=32){x:Rc}(h:jG x):iU f (jF f rec p d x):=
 (YS hf hp hd h).bind λy hy=>by
  unfold endP;split
  ·exact hr p d y hp hd hy
  ·exact⟨hy,.nil f⟩
theorem a5U {v:VA}(h:Gv v)(hp:j5 v.1):v.2.1.size=32:=by
 obtain⟨M,L,_,_,_,h4⟩:=h;rcases h4 with h4|h4
 ·have:=hp.1;rw[h4.1]at this;exact absurd this (by decide)
 ·exact h4.2.1
theorem YT(hf:f.Ok2)(hr:OW f rec){p:PR}(hp:D7 p)(hm:j5 p.1.1){x:Rc}(h:jG x):iU f (nD f rec p x):=by
 have hd:=a5U hp.1 hm;unfold nD;split
 ·exact iU.bind (a:=(_,_)) ⟨⟨h.v,sD h.e hm hd,h.r,WR h hp⟩,Tx hf (.inl rfl) hm hd _⟩ λy hy=>QB hf hr hm hd hy
 ·exact⟨⟨h.v,h.e,h.r,WR h hp⟩,.nil f⟩
theorem a7w(hf:f.Ok2)(hr:OW f rec)(i:Nat){x:Rc}(h:jG x):iU f (sw f rec i x):=by
 unfold sw;split
 ·rename_i hg;exact YT hf hr (h.c i).w ((h.c i).w.2.2 hg.1) ⟨h.v,h.e,h.r,qX h.c ⟨(h.c i).p0,(h.c i).p1,Ee,(h.c i).op⟩⟩
 ·exact⟨h,.nil f⟩
theorem QC(hf:f.Ok2)(hr:OW f rec){x:Rc}(h:jG x): ∀n,iU f (uV f rec x n)
 |0=>⟨h,.nil f⟩
 |n+1=>(QC hf hr h n).bind λy hy=>a7w hf hr n hy
theorem a2P {c:CL}(hc:a4V c){p:aC}(hp:j5 p){d:ByteArray}(hd:d.size=32):Gv (qc c p d):=by
 unfold qc;split
 ·exact hc.p0.1
 ·split
  ·exact hc.p1.1
  ·split
   ·exact hc.w.1
   ·exact acD hp hd
theorem a7x(hf:f.Ok2)(hr:OW f rec):OW f (uW f rec):=λp d x hp hd h=>by have h1:jG { x with v:=qc (x.c (p.2-1).toNat) p d } :=⟨a2P (h.c _) hp hd,h.e,h.r,h.c⟩;exact(iU.bind (a:=(_,_)) ⟨h1,OV hf h1 3⟩ λy hy=>WQ hf hy 3).bind λy hy=>QC hf hr hy 3
theorem Ef(hf:f.Ok2): ∀n,OW f (dQ f n)
 |0=>λp d x _ _ h=>⟨h,.nil f⟩
 |n+1=>a7x hf (Ef hf n)
theorem YU(hf:f.Ok2){v:VA}(hv:Gv v){x:Rc}(h:jG x):iU f (lG f v x):=by
 unfold lG;split
 ·have h1:jG { x with v:=v } :=⟨hv,h.e,h.r,h.c⟩;exact⟨h1,OV hf h1 3⟩
 ·exact⟨h,.nil f⟩
theorem a0G(hf:f.Ok2)(i:Nat){p:PR}(hp:D7 p)(hm:j5 p.1.1)(h0:0<p.2){x:Rc}(h:jG x):iU f (gq f (dQ f 5) i p x):=by
 unfold gq;split
 ·exact(YU hf hp.1 h).bind λy hy=>⟨hy,.one (Tw hf hp h0)⟩
 ·split
  ·exact YT hf (Ef hf 5) hp hm h
  ·split
   ·exact⟨⟨h.v,h.e,h.r,qX h.c ⟨(h.c i).p0,(h.c i).p1,hp,(h.c i).op⟩⟩,.nil f⟩
   ·exact⟨h,.nil f⟩
theorem a7y(hf:f.Ok2)(from_:Int){p:aC}(hp:j5 p){d:ByteArray}(hd:d.size=32){x:Rc}(h:jG x):iU f (AX f (dQ f 5) from_ p d x):=by
 unfold AX;split
 ·exact QB hf (Ef hf 5) hp hd ⟨h.v,sD h.e hp hd,h.r,h.c⟩
 ·exact⟨h,.nil f⟩
theorem a7z(hf:f.Ok2)(from_:Int){p:aC}(hp:j5 p){d:ByteArray}(hd:d.size=32){x:Rc}(h:jG x):iU f (qB f (dQ f 5) from_ p d x):=by
 unfold qB;split
 ·exact QB hf (Ef hf 5) hp hd ⟨h.v,h.e,sD h.r hp hd,h.c⟩
 ·exact⟨h,.nil f⟩
theorem a4W(hf:f.Ok2)(i:Nat){op:Int}(ho:1<=op/\op<=1048576){x:Rc}(h:jG x):iU f (xJ f i op x):=by
 unfold xJ;split
 ·have h1:jG { x with c:=upd x.c i ((x.c i).1,((x.c i).2.1,(op,(x.c i).2.2.2))) } :=⟨h.v,h.e,h.r,qX h.c ⟨(h.c i).p0,(h.c i).p1,(h.c i).w,by show 0<=op/\op<=_;omega⟩⟩;exact⟨h1,a2O hf h1 i⟩
 ·exact⟨h,.nil f⟩
theorem a7A(i:Nat)(op:Int){x:Rc}(h:jG x):iU f (Fb i op x):=by
 have h1: ∀k,a4V (yS x.c i op k):=qX h.c ⟨(h.c i).p0,(h.c i).p1,(h.c i).w,(h.c i).op⟩;unfold Fb;split
 ·exact⟨⟨h.v,h.e,h.r,qX h1 ⟨(h1 i).p0,(h1 i).p1,(h1 i).w,⟨aAL _,by show(0:Int)<=_;decide⟩⟩⟩,.nil f⟩
 ·exact⟨⟨h.v,h.e,h.r,h1⟩,.nil f⟩
theorem abj(hf:f.Ok2){x:Rc}(h:jG x)(i:Nat):oO f (La f x i):=by
 have at_ok: ∀(F:Gs),(∀a b c,Ms (F a b c))-> ∀a b c,Ms (atT f.N F a b c):=λF hF a b c=>by
  unfold atT;split
  ·exact hF _ _ _
  ·exact λh=>absurd h (by show¬((0:Int)<0);decide)
 have says: ∀k,k=5\/k=6-> ∀c:Gc,Ms c->oO f (jR f k c):=λk hk c hc=>by
  unfold jR;split
  ·rename_i h0;exact Tx hf hk (hc h0).1 (hc h0).2 _
  ·exact .nil f
 exact(says 5 (.inl rfl) _ (at_ok _ h.e _ _ _)).app ((says 6 (.inr rfl) _ (at_ok _ h.r _ _ _)).app ((says 5 (.inl rfl) _ (at_ok _ h.e _ _ _)).app (says 6 (.inr rfl) _ (at_ok _ h.r _ _ _))))
theorem a2Q(hf:f.Ok2){x:Rc}(h:jG x): ∀n,oO f (Ec f x n)
 |0=>.nil f
 |n+1=>(a2Q hf h n).app (abj hf h n)
theorem abk(hf:f.Ok2){x:Rc}(h:jG x):oO f (YQ f x):=(a2Q hf h 3).app (OV hf h 3)
end
end Go.Pl
