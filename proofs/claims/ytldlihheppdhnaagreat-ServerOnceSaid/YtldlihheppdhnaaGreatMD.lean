/-
 Primes, groups, the field.
-/
import Derived.Test.YtldlihheppdhnaaGreatMA
import Derived.Test.YtldlihheppdhnaaGreatMC
import Derived.Test.YtldlihheppdhnaaGreatPlA
set_option linter.unusedVariables false
namespace Go.Num
section
variable {q:Nat} [NeZero q]
def ajR(f:Nat->Fin q):Nat->Fin q|0=>0|n+1=>ajR f n+f n
def pw(x:Fin q):Nat->Fin q|0=>1|n+1=>pw x n*x
def ev(f:Nat->Fin q)(n:Nat)(x:Fin q):Fin q:=ajR (λi=>f i*pw x i) n
def conv(f g:Nat->Fin q)(k:Nat):Fin q:=ajR (λi=>f i*g (k-i)) (k+1)
def quo(f:Nat->Fin q)(x:Fin q):Nat->Nat->Fin q|0,_=>0|n+1,i=>quo f x n i+(if i<n then f n*pw x (n-1-i)else 0)
end
def pm(m:Nat):Nat->Nat->Nat->Nat|0,_,_=>1%m|k+1,b,e=>if e%2=1 then b*pm m k (b*b%m) (e/2)%m else pm m k (b*b%m) (e/2)
theorem a5G(m:Nat): ∀k b e,e<2^k->pm m k b e=b^e%m:=by
 intro k
 induction k with
 |zero=>
  intro b e h;obtain rfl:e=0:=by simpa using h
  rw[pm,azD]
 |succ k ih=>
  intro b e h;have h2:e/2<2^k:=by rw[azv]at h;omega
  have h3:(b*b%m)^(e/2)%m=b^(2*(e/2))%m:=by rw[<-Nat.pow_mod,azX,Nat.pow_two]
  rw[pm,ih _ _ h2];split
  ·rename_i ho;rw[h3,Nat.mul_mod_mod]
   congr 1
   conv=>rhs;rw[show e=2*(e/2)+1 by omega]
   rw[azv,ayl]
  ·rename_i ho;rw[h3,show 2*(e/2)=e by omega]
theorem L6 {P Q G:Nat}(hP:2<=P)(h:G^Q%P=1)(a:Nat):G^a%P=G^(a%Q)%P:=by
 have h1:=ayM a Q
 conv=>lhs;rw[<-h1]
 rw[azk,azI,RI hP h,azj,aAB]
theorem a7c {P Q G:Nat}(hP:Pr P)(hQ:Pr Q)(h1:1<G)(h2:G<P)(h:G^Q%P=1)(a b:Nat):G^a%P=G^b%P↔a%Q=b%Q:=by
 constructor
 ·have key: ∀a b,a<=b->G^a%P=G^b%P->a%Q=b%Q:=by
   intro a b hab e;have hc:Nat.Coprime P (G^a):=by apply Nat.Coprime.pow_right;apply hP.coprime;intro hd;have:=aAJ (by omega) hd;omega
   have e2:(G^a*1)%P=(G^a*G^(b-a))%P:=by rw[azG,<-azk,show a+(b-a)=b by omega];exact e
   have e3:=Me hc e2;rw[ay1 hP.1]at e3;have e4:=Yw hP.1 hQ h (by rw[ay1 h2];omega) e3.symm;exact(IZ e4 hab).symm
  intro e;rcases Nat.le_total a b with hab|hab
  ·exact key a b hab e
  ·exact(key b a hab e.symm).symm
 ·intro e;rw[L6 hP.1 h a,L6 hP.1 h b,e]
section
variable {q:Nat} [NeZero q]
end
end Go.Num
set_option linter.unusedSimpArgs false
namespace Go.Pl
open Go Go.Den Go.Num
theorem Ga {n:Nat}(hn:2<=n):Pr n↔ ∀d,2<=d->d*d<=n->n%d≠0:=by
 constructor
 ·intro h d h2 hd;refine h.tried d h2 ?_;have:2*d<=d*d:=ayi _ h2;omega
 ·exact J2 hn
theorem Qg(n:Int): ∃b,BK n=some b/\(b=true↔2<=n/\n<65536/\Pr n.toNat):=by
 rw[I7];unfold EC;by_cases h2:n<2
 ·refine⟨false,?_,by simp;omega⟩;simp(disch:=omega) only[WW]
 ·by_cases h3:65536<=n
  ·refine⟨false,?_,by simp;omega⟩;simp(disch:=omega) only[WW]
  ·simp(disch:=omega) only[WW];obtain⟨N,rfl⟩: ∃N:Nat,n=(N:Int):=⟨n.toNat,by omega⟩;generalize ho:aB dV _=o;have hN2:2<=N:=by omega
   have goal: ∃y,aB dV (FD (N:Int) true (N:Int) ((0:Nat):Int))=some y/\ ∃b,y=BJ b/\(b=true↔Pr N):=
    mX (R:=dV) (S:=Unit) (λd _=>FD (N:Int) true (N:Int) (d:Int)) (λd _=> ∀k,2<=k->k<d->N%k≠0)
     (λy=> ∃b,y=BJ b/\(b=true↔Pr N)) N
     (λd hd _ hP=>by
      by_cases c2:d<2
      ·left;refine⟨(),?_,λk h1 h2=>by omega⟩;unfold dV;simp(disch:=omega) only[CC,WW]
      ·have hdd:d*d<65536*65536:=Nat.mul_lt_mul'' (by omega) (by omega);by_cases c3:N<d*d
       ·right;have hp:Pr N:=(Ga hN2).2 λk h1 h2=>hP k h1 (by apply ayu;intro hc;have:d*d<=k*k:=aAk (by omega) (by omega);omega)
        refine⟨_,?_,true,rfl,by simp only[hp]⟩;unfold dV;simp(disch:=omega) only[CC,WW]
       ·by_cases c4:N%d=0
        ·right;refine⟨_,?_,false,rfl,?_⟩
         ·unfold dV;simp(disch:=omega) only[CC,WW,c4]
         ·simp only[ayE,false_iff];exact λhp=>hp.tried d (by omega) hd c4
        ·left;refine⟨(),?_,λk h1 h2=>?_⟩
         ·unfold dV;generalize hm:N%d=m at c4;simp(disch:=omega) only[CC,WW,hm]
         ·by_cases e:k=d
          ·subst e;exact c4
          ·exact hP k h1 (by omega))
     (λ_ hP=>by
      have hp:Pr N:=(Ga hN2).2 λk h1 h2=>hP k h1 (by have:2*k<=k*k:=ayi _ h1;omega)
      refine⟨_,?_,true,rfl,by simp only[hp]⟩;unfold dV;simp(disch:=omega) only[CC,WW]) () (λk h1 h2=>by omega)
   obtain⟨y,hy,b,rfl,hb⟩:=goal;obtain rfl:=ho.symm.trans hy;exact⟨b,rfl,by rw[hb,ay8];exact⟨λh=>⟨by omega,by omega,h⟩,λh=>h.2.2⟩⟩
def qW(n f:Nat)(w:Int):Prop:=n%2=1/\n≠1/\2<=w/\w<65536/\f≠0/\(n-1)%f=0/\n<f*f/\(w.toNat^((n-1)/f)%n)^f%n=1/\Nat.gcd (w.toNat^((n-1)/f)%n+(n-1)) n=1
instance (n f:Nat) (w:Int):Decidable (qW n f w):=by unfold qW;exact inferInstance
theorem a0j(x n:Nat):Nat.gcd (x%n) n=Nat.gcd x n:=by rw[Nat.gcd_comm x n,Nat.gcd_rec n x]
theorem a2a {lo hi:Nat->Int}{n:Nat->Int}{N F:Nat}(h1:IsN lo (F*F%2^256))(h2:IsN hi (F*F/2^256))(hn:IsN n N):
  (F*F/2^256=0->(N<F*F↔ ¬DX (F*F%2^256) N<=0))/\(F*F/2^256≠0->N<F*F):=by
 have hN:=hn.1;constructor
 ·intro h;have:F*F<2^256:=by
   rcases Nat.div_eq_zero_iff.1 h with h|h
   ·exact absurd h (by decide)
   ·exact h
  rw[ay1 this];unfold DX;generalize F*F=Q at*;by_cases c1:Q<N
  ·rw[ay5 c1];constructor
   ·intro h;omega
   ·intro h;exact absurd (by decide) h
  ·rw[axY c1];by_cases c2:N<Q
   ·rw[ay5 c2];simp[c2]
   ·rw[axY c2];simp[c2]
 ·intro h;generalize F*F=Q at*;apply ayu;intro hc;exact h (az5 (by omega))
theorem SF {n f:Nat->Int}{N F:Nat}(hn:IsN n N)(hf:IsN f F)(w:Int):ED n f w=some (decide (qW N F w)):=by
 rw[Kr];unfold I8;have no: ¬qW N F w->some false=some (decide (qW N F w)):=λh=>by rw[ayj h]
 by_cases h1:N%2=1/\N≠1
 ·obtain⟨r,r1,hr,_⟩:=(mY hn).2 h1.1 h1.2;have hN1:=hr.one;by_cases h2:w<2
  ·simp(disch:=omega) only[WW,r1];exact no (λh=>by have:=h.2.2.1;omega)
  ·by_cases h3:65536<=w
   ·simp(disch:=omega) only[WW,r1];exact no (λh=>by have:=h.2.2.2.1;omega)
   ·by_cases h4:F=0
    ·simp(disch:=omega) only[WW,r1,hf.isZero];exact no (λh=>h.2.2.2.2.1 h4)
    ·obtain⟨o,o1,o2⟩:=oL (n:=1) (by decide);have o2':IsN o 1:=o2;obtain⟨l,l1,l2⟩:=uT hn o2';have hNl:=hn.1;have l3:IsN l (N-1):=l2.of_eq (by omega);obtain⟨k,q,d1,d2,d3⟩:=KZ l3 hf (by omega);obtain⟨lo,hi,m1,m2,m3⟩:=KY hf hf;have sq:=a2a m2 m3 hn;by_cases h5:(N-1)%F=0
     ·obtain⟨W,hW1,hW2⟩:=oL (n:=w) (by omega);obtain⟨p,p1,p2⟩:=qV hr hW2 d2;obtain⟨e,e1,e2⟩:=qV hr p2 hf;obtain⟨s,s1,s2⟩:=Qd p2 o2' hn hr.pos;obtain⟨g,g1,g2⟩:=XE s2 hn;rw[ay1 hN1,a0j]at g2;by_cases h6:N<F*F
      ·by_cases h7:(w.toNat^((N-1)/F)%N)^F%N=1
       ·have hfin:decide (Nat.gcd (w.toNat^((N-1)/F)%N+(N-1)) N=1)=decide (qW N F w):=by rw[azb];exact⟨λh=>⟨h1.1,h1.2,by omega,by omega,h4,h5,h6,h7,h⟩,λh=>h.2.2.2.2.2.2.2.2⟩
        by_cases h8:F*F/2^256=0
        ·have h9:=(sq.1 h8).1 h6;simp(disch:=first|omega|assumption) only[WW,r1,hf.isZero,o1,l1,d1,m1,d3.isZero,m3.isZero,fV m2 hn,bq h9,hW1,p1,e1,e2.eqb o2',s1,g1,g2.eqb o2',hfin]
        ·simp(disch:=first|omega|assumption) only[WW,r1,hf.isZero,o1,l1,d1,m1,d3.isZero,m3.isZero,hW1,p1,e1,e2.eqb o2',s1,g1,g2.eqb o2',hfin]
       ·have hno:=no (λh=>h7 h.2.2.2.2.2.2.2.1);by_cases h8:F*F/2^256=0
        ·have h9:=(sq.1 h8).1 h6;simp(disch:=first|omega|assumption) only[WW,r1,hf.isZero,o1,l1,d1,m1,d3.isZero,m3.isZero,fV m2 hn,bq h9,hW1,p1,e1,e2.eqb o2'];exact hno
        ·simp(disch:=first|omega|assumption) only[WW,r1,hf.isZero,o1,l1,d1,m1,d3.isZero,m3.isZero,hW1,p1,e1,e2.eqb o2'];exact hno
      ·have h8:F*F/2^256=0:=ayu λh=>h6 (sq.2 h)
       have h9:DX (F*F%2^256) N<=0:=ayu λh=>h6 ((sq.1 h8).2 h)
       simp(disch:=first|omega|assumption) only[WW,r1,hf.isZero,o1,l1,d1,m1,d3.isZero,m3.isZero,fV m2 hn,dH h9];exact no (λh=>h6 h.2.2.2.2.2.2.1)
     ·simp(disch:=first|omega|assumption) only[WW,r1,hf.isZero,o1,l1,d1,m1,d3.isZero];exact no (λh=>h5 h.2.2.2.2.2.1)
 ·have r1:=(mY hn).1 (by omega);simp(disch:=omega) only[WW,r1];exact no (λh=>h1 ⟨h.1,h.2.1⟩)
def AR(k:Nat)(N:Nat->Nat)(A:Nat->Int):Prop:=1<=k/\k<=8/\2<=N 0/\N 0<65536/\Pr (N 0)/\A 0=0/\ ∀i,i+1<k->qW (N (i+1)) (N i) (A (i+1))
theorem qW.prime {n f:Nat}{w:Int}(h:qW n f w)(hf:Pr f):Pr n:=by
 obtain⟨h1,h2,h3,h4,h5,h6,h7,h8,h9⟩:=h;refine a1P (f:=f) (k:=(n-1)/f) (a:=w.toNat) (by omega) hf ?_ h7 h8 ?_
 ·have:=ayM (n-1) f;rw[h6]at this;rw[ayl];exact this
 ·rw[<-Nat.add_sub_assoc (by omega)]at h9;exact h9
theorem AR.prime {k:Nat}{N:Nat->Nat}{A:Nat->Int}(h:AR k N A): ∀i,i<k->Pr (N i):=by
 intro i
 induction i with
 |zero=>intro _;exact h.2.2.2.2.1
 |succ i ih=>intro hi;exact(h.2.2.2.2.2.2 i hi).prime (ih (by omega))
theorem DY {k:Nat}{l:Nat->(Nat->Int)×Int}{N:Nat->Nat}(hl: ∀i,i<k->IsN (l i).1 (N i)):
  (AR k N (λi=>(l i).2)->sV k l=some 0)/\(¬AR k N (λi=>(l i).2)->sV k l=some 4):=by
 suffices h: ∃b:Bool,sV k l=some (if b then 0 else 4)/\(b=true↔AR k N (λi=>(l i).2))by
  obtain⟨b,h1,h2⟩:=h;rw[h1];constructor
  ·intro h;rw[h2.2 h];rfl
  ·intro h;cases b
   ·rfl
   ·exact absurd (h2.1 rfl) h
 rw[I9];unfold EF;by_cases h1:k<1
 ·refine⟨false,?_,by simp only[ayE,false_iff];exact λh=>by have:=h.1;omega⟩;simp(disch:=omega) only[WW];rfl
 ·by_cases h2:8<k
  ·refine⟨false,?_,by simp only[ayE,false_iff];exact λh=>by have:=h.2.1;omega⟩;simp(disch:=omega) only[WW];rfl
  ·have h0:=hl 0 (by omega);by_cases h3:N 0<9223372036854775808
   ·obtain⟨b,hb1,hb2⟩:=Qg ((N 0:Nat):Int);rw[ay8]at hb2;cases b with
    |false=>
     refine⟨false,?_,by simp only[ayE,false_iff];exact λh=>absurd (hb2.2 ⟨by have:=h.2.2.1;omega,by have:=h.2.2.2.1;omega,h.2.2.2.2.1⟩) (by decide)⟩;simp(disch:=omega) only[WW,uS h0,ay5 h3,hb1];rfl
    |true=>
     have hb3:=hb2.1 rfl;by_cases h4:(l 0).2=0
     ·simp(disch:=omega) only[WW,uS h0,ay5 h3,hb1];generalize ho:aB gG _=o;have L: ∃y,aB gG (FH k l ((1+0:Nat):Int))=some y/\((y=BL 4/\ ¬AR k N (λi=>(l i).2))\/(y=BM/\AR k N (λi=>(l i).2))):=
       mX (R:=gG) (S:=Unit) (λi _=>FH k l ((1+i:Nat):Int)) (λi _=> ∀j,j<i->qW (N (j+1)) (N j) ((l (j+1)).2))
        (λy=>(y=BL 4/\ ¬AR k N (λi=>(l i).2))\/(y=BM/\AR k N (λi=>(l i).2))) (k-1)
        (λi hi _ hP=>by
         have hs:=SF (hl (1+i) (by omega)) (hl i (by omega)) (l (1+i)).2;by_cases hst:qW (N (1+i)) (N i) (l (1+i)).2
         ·left;refine⟨(),?_,λj hj=>?_⟩
          ·unfold gG;simp(disch:=first|omega|assumption) only[CC,WW,aAv,hs,aAf]
          ·by_cases e:j=i
           ·subst e;rw[azp j 1];exact hst
           ·exact hP j (by omega)
         ·right;refine⟨_,?_,.inl ⟨rfl,λh=>hst ?_⟩⟩
          ·unfold gG;simp(disch:=first|omega|assumption) only[CC,WW,aAv,hs]
          ·have:=h.2.2.2.2.2.2 i (by omega);rw[azp 1 i];exact this)
        (λ_ hP=>by refine⟨_,?_,.inr ⟨rfl,by omega,by omega,by omega,by omega,hb3.2.2,h4,λi hi=>hP i (by omega)⟩⟩;unfold gG;simp(disch:=omega) only[CC,WW]) () (λj hj=>by omega)
      obtain⟨y,hy,hQ⟩:=L;obtain rfl:=ho.symm.trans hy;rcases hQ with⟨rfl,hQ⟩|⟨rfl,hQ⟩
      ·exact⟨false,rfl,by simp[hQ]⟩
      ·exact⟨true,rfl,by simp[hQ]⟩
     ·refine⟨false,?_,by simp only[ayE,false_iff];exact λh=>h4 h.2.2.2.2.2.1⟩;simp(disch:=omega) only[WW,uS h0,ay5 h3,hb1];rfl
   ·refine⟨false,?_,by simp only[ayE,false_iff];exact λh=>by have:=h.2.2.2.1;omega⟩;simp(disch:=omega) only[WW,uS h0,axY h3];rfl
theorem a5H {α:Type}(x:α):aL.vW (.fz x)=false:=rfl
theorem a2b {α:Type}(x:α):aL.isNil (.fz x)=false:=rfl
theorem aaT {α:Type}(d x:α):aL.val d (.fz x)=x:=rfl
abbrev sj:=(aL zf×aL zf)×(Nat->Int)
structure dI(g:sj)(P Q G:Nat):Prop where
 rings: ∃r f,g.1=(.fz r,.fz f)/\lq r P/\lq f Q
 gen:IsN g.2 G
 pp:Pr P
 pq:Pr Q
 big:512<=Q
 g1:1<G
 gP:G<P
 order:G^Q%P=1
theorem dI.qpos {g:sj}{P Q G:Nat}(h:dI g P Q G):0<Q:=h.pq.pos
theorem dI.ppos {g:sj}{P Q G:Nat}(h:dI g P Q G):0<P:=h.pp.pos
def Qh(k:Nat)(N:Nat->Nat)(A:Nat->Int)(G:Nat):Prop:=2<=k/\AR k N A/\512<=N (k-2)/\1<G/\G<N (k-1)/\G^N (k-2)%N (k-1)=1
theorem YB {n:Nat} :iM n<10↔n<512:=by
 constructor
 ·intro h;have h1:=JH n;have:2^iM n<=2^9:=ayt (by decide) (by omega);omega
 ·intro h;have:=uR (n:=n) (L:=9) h;omega
theorem J6 {k:Nat}{l:Nat->(Nat->Int)×Int}{ga:Nat->Int}{N:Nat->Nat}{G:Nat}(hl: ∀i,i<k->IsN (l i).1 (N i))(hg:IsN ga G):
  (Qh k N (λi=>(l i).2) G-> ∃g,sW ((k,l),ga)=some (some g,0)/\dI g (N (k-1)) (N (k-2)) G/\g.2=ga)/\(¬Qh k N (λi=>(l i).2) G->sW ((k,l),ga)=some (none,4)):=by
 rw[ND];unfold LK;by_cases h1:k<2
 ·refine⟨λh=>by have:=h.1;omega,λ_=>?_⟩;simp(disch:=omega) only[WW]
 ·by_cases h2:AR k N (λi=>(l i).2)
  ·have hk8:=h2.2.1;have hp:=h2.prime (k-1) (by omega);have hq:=h2.prime (k-2) (by omega);have hPN:=hl (k-1) (by omega);have hQN:=hl (k-2) (by omega);have hst:=h2.2.2.2.2.2.2 (k-2) (by omega);rw[show k-2+1=k-1 by omega]at hst;obtain⟨r,r1,hr,_⟩:=(mY hPN).2 hst.1 hst.2.1;have hc:=(DY hl).1 h2;generalize hP:N (k-1)=P at*;generalize hQ:N (k-2)=Q at*;have no: ∀ {p:Prop},(Qh k N (λi=>(l i).2) G->p)-> ¬p-> ¬Qh k N (λi=>(l i).2) G:=λh1 h2 h3=>h2 (h1 h3)
   obtain⟨o,o1,o2⟩:=oL (n:=1) (by decide);have o2':IsN o 1:=o2;by_cases h3:Q<512
   ·
    have hb:=YB.2 h3;refine⟨λh=>by have:=h.2.2.1;omega,λ_=>?_⟩;by_cases hodd:Q%2=1
    ·obtain⟨f,f1,hf,_⟩:=(mY hQN).2 hodd (by have:=hq.1;omega);simp(disch:=omega) only[CC,WW,hc,r1,f1,jQ hQN]
    ·have f1:=(mY hQN).1 (.inl (by omega));simp(disch:=omega) only[CC,WW,hc,r1,f1]
   ·have hb: ¬iM Q<10:=λh=>h3 (YB.1 h)
    have hodd:Q%2=1:=by have:=hq.tried 2 (by decide) (by omega);omega
    obtain⟨f,f1,hf,_⟩:=(mY hQN).2 hodd (by omega);by_cases h4:G=0
    ·subst h4;refine⟨λh=>by have:=h.2.2.2.1;omega,λ_=>?_⟩;simp(disch:=omega) only[CC,WW,hc,r1,f1,jQ hQN,hg.isZero]
    ·by_cases h5:G=1
     ·subst h5;refine⟨λh=>by have:=h.2.2.2.1;omega,λ_=>?_⟩;simp(disch:=omega) only[CC,WW,hc,r1,f1,jQ hQN,hg.isZero,o1,hg.eqb o2']
     ·by_cases h6:G<P
      ·obtain⟨z,z1,z2⟩:=qV hr hg hQN;by_cases h7:G^Q%P=1
       ·refine⟨λ_=>?_,λh=>absurd ⟨by omega,h2,by rw[hQ];omega,by omega,by rw[hP];exact h6,by rw[hP,hQ];exact h7⟩ h⟩;simp(disch:=first|omega|assumption) only[CC,WW,hc,r1,f1,jQ hQN,hg.isZero,o1,hg.eqb o2',pR hr hg,z1,z2.eqb o2'];exact⟨_,rfl,⟨⟨r,f,rfl,hr,hf⟩,hg,hp,hq,by omega,by omega,h6,h7⟩,rfl⟩
       ·refine⟨λh=>absurd (by have:=h.2.2.2.2.2;rw[hP,hQ]at this;exact this) h7,λ_=>?_⟩;simp(disch:=first|omega|assumption) only[CC,WW,hc,r1,f1,jQ hQN,hg.isZero,o1,hg.eqb o2',pR hr hg,z1,z2.eqb o2']
      ·refine⟨λh=>absurd (by have:=h.2.2.2.2.1;rw[hP]at this;exact this) h6,λ_=>?_⟩;simp(disch:=first|omega|assumption) only[CC,WW,hc,r1,f1,jQ hQN,hg.isZero,o1,hg.eqb o2',pR hr hg]
  ·refine⟨λh=>absurd h.2.1 h2,λ_=>?_⟩;simp(disch:=omega) only[CC,WW,(DY hl).2 h2]
section
variable {g:sj} {P Q G:Nat}
theorem yQ(h:dI g P Q G): ∃r,bP (some g)=some (some r)/\lq r P:=by rw[yY];unfold nH;obtain⟨r,f,e,hr,hf⟩:=h.rings;simp only[e,a5H,a2b,aaT,WW];exact⟨r,rfl,hr⟩
theorem wN(h:dI g P Q G): ∃r,dD (some g)=some (some r)/\lq r Q:=by rw[xV];unfold lV;obtain⟨r,f,e,hr,hf⟩:=h.rings;simp only[e,a5H,a2b,aaT,WW];exact⟨f,rfl,hf⟩
theorem a0k(h:dI g P Q G): ∃z,eG (some g)=some z/\IsN z Q:=by rw[Dq];unfold uw;obtain⟨r,r1,hr⟩:=wN h;simp only[r1,a1Y hr];exact⟨_,rfl,hr.m⟩
theorem a0l(h:dI g P Q G):qH (some g)=some g.2:=by rw[Dp];rfl
end
theorem a4B {k:Nat}{l:Nat->(Nat->Int)×Int}{ga:Nat->Int}(h:2<=k)(h2:k<=9223372036854775807):a5t ((k,l),ga)=some (l (k-1)).1:=by rw[a1z];unfold a3S;simp(disch:=omega) only[CC,WW]
theorem a4C {k:Nat}{l:Nat->(Nat->Int)×Int}{ga:Nat->Int}(h:2<=k)(h2:k<=9223372036854775807):a5u ((k,l),ga)=some (l (k-2)).1:=by rw[a1A];unfold a3T;simp(disch:=omega) only[CC,WW]
theorem qW.by_pm {n f w:Nat}(h1:n%2=1)(h2:n≠1)(h3:2<=w)(h4:w<65536)(h5:f≠0)(h6:(n-1)%f=0)(h7:n<f*f)(hn:n<2^256)(hf:f<2^256)(h8:pm n 256 (pm n 256 w ((n-1)/f)) f=1)(h9:Nat.gcd (pm n 256 w ((n-1)/f)+(n-1)) n=1):qW n f (w:Int):=by have e1:(n-1)/f<2^256:=ayh (ayH _ _) (by omega);rw[a5G n 256 w _ e1]at h8 h9;rw[a5G n 256 _ _ hf]at h8;exact⟨h1,h2,by omega,by omega,h5,h6,h7,h8,h9⟩
open Go Go.Den Go.Num
theorem RQ {n r:Nat}(hn:2<=n)(hr:n<(r+1)*(r+1))(h: ∀d,d<r+1->2<=d->n%d≠0):Pr n:=
 J2 hn λd h2 hd=>h d (by apply ayu;intro hc;have:(r+1)*(r+1)<=d*d:=aAk (by omega) (by omega);omega) h2
abbrev a4D:=Nat->(Nat->Int)×Int
def aaU:Nat->Nat|0=>65521|1=>1966023127|_=>1055500680322183127
def F5:a4D:=λj=>(upd (upd (upd (λ_=>((λ_=>0),0)) 0 ((upd (λ_=>0) 0 65521),0)) 1 ((upd (λ_=>0) 0 1966023127),2)) 2 ((upd (λ_=>0) 0 1055500680322183127),2)) (0+j)
def Mg:Nat->Int:=(upd (λ_=>0) 0 316543771439780984)
theorem Wd: ∀i,i<3->IsN (F5 i).1 (aaU i):=λi hi=>by
 match i,hi with
 |0,_=>exact IsN.of_eq (IsN.mk (a:=(F5 0).1) (x0:=65521) (x1:=0) (x2:=0) (x3:=0) rfl rfl rfl rfl (by decide) (by decide) (by decide) (by decide)) (by decide)
 |1,_=>exact IsN.of_eq (IsN.mk (a:=(F5 1).1) (x0:=1966023127) (x1:=0) (x2:=0) (x3:=0) rfl rfl rfl rfl (by decide) (by decide) (by decide) (by decide)) (by decide)
 |2,_=>exact IsN.of_eq (IsN.mk (a:=(F5 2).1) (x0:=1055500680322183127) (x1:=0) (x2:=0) (x3:=0) rfl rfl rfl rfl (by decide) (by decide) (by decide) (by decide)) (by decide)
theorem a2c:IsN Mg 316543771439780984:=IsN.of_eq (IsN.mk (a:=Mg) (x0:=316543771439780984) (x1:=0) (x2:=0) (x3:=0) rfl rfl rfl rfl (by decide) (by decide) (by decide) (by decide)) (by decide)
theorem a2d:Pr 65521:=RQ (r:=255) (by decide) (by decide) (by decide+kernel)
theorem a2e:qW 1966023127 65521 ((2:Nat):Int):=qW.by_pm (by decide) (by decide) (by decide) (by decide) (by decide) (by decide) (by decide) (by decide) (by decide) (by decide+kernel) (by decide+kernel)
theorem a2f:qW 1055500680322183127 1966023127 ((2:Nat):Int):=qW.by_pm (by decide) (by decide) (by decide) (by decide) (by decide) (by decide) (by decide) (by decide) (by decide) (by decide+kernel) (by decide+kernel)
theorem a7d(b e m:Nat)(hb:b=316543771439780984)(he:e=1966023127)(hm:m=1055500680322183127):b^e%m=1:=by rw[<-a5G m 256 b e (by subst he;decide)];subst hb he hm;decide+kernel
theorem a2g:Qh 3 aaU (λi=>(F5 i).2) 316543771439780984:=by
 refine⟨by decide,⟨by decide,by decide,by decide,by decide,a2d,rfl,λi hi=>?_⟩,by decide,by decide,by decide,a7d _ _ _ rfl rfl rfl⟩
 match i,hi with
 |0,_=>exact a2e
 |1,_=>exact a2f
theorem XJ:Jy=some ((3,F5),Mg):=by rw[NU];rfl
theorem a7e: ∃g,sW ((3,F5),Mg)=some (some g,0)/\dI g 1055500680322183127 1966023127 316543771439780984/\g.2=Mg:=(J6 Wd a2c).1 a2g
def aaV:Nat->Nat|0=>64817|1=>1815135269|_=>487269091447081429
def F6:a4D:=λj=>(upd (upd (upd (λ_=>((λ_=>0),0)) 0 ((upd (λ_=>0) 0 64817),0)) 1 ((upd (λ_=>0) 0 1815135269),2)) 2 ((upd (λ_=>0) 0 487269091447081429),2)) (0+j)
def Mh:Nat->Int:=(upd (λ_=>0) 0 54624333139524128)
theorem Wi: ∀i,i<3->IsN (F6 i).1 (aaV i):=λi hi=>by
 match i,hi with
 |0,_=>exact IsN.of_eq (IsN.mk (a:=(F6 0).1) (x0:=64817) (x1:=0) (x2:=0) (x3:=0) rfl rfl rfl rfl (by decide) (by decide) (by decide) (by decide)) (by decide)
 |1,_=>exact IsN.of_eq (IsN.mk (a:=(F6 1).1) (x0:=1815135269) (x1:=0) (x2:=0) (x3:=0) rfl rfl rfl rfl (by decide) (by decide) (by decide) (by decide)) (by decide)
 |2,_=>exact IsN.of_eq (IsN.mk (a:=(F6 2).1) (x0:=487269091447081429) (x1:=0) (x2:=0) (x3:=0) rfl rfl rfl rfl (by decide) (by decide) (by decide) (by decide)) (by decide)
theorem a2h:IsN Mh 54624333139524128:=IsN.of_eq (IsN.mk (a:=Mh) (x0:=54624333139524128) (x1:=0) (x2:=0) (x3:=0) rfl rfl rfl rfl (by decide) (by decide) (by decide) (by decide)) (by decide)
theorem a2i:Pr 64817:=RQ (r:=255) (by decide) (by decide) (by decide+kernel)
theorem a2j:qW 1815135269 64817 ((2:Nat):Int):=qW.by_pm (by decide) (by decide) (by decide) (by decide) (by decide) (by decide) (by decide) (by decide) (by decide) (by decide+kernel) (by decide+kernel)
theorem a2k:qW 487269091447081429 1815135269 ((2:Nat):Int):=qW.by_pm (by decide) (by decide) (by decide) (by decide) (by decide) (by decide) (by decide) (by decide) (by decide) (by decide+kernel) (by decide+kernel)
theorem a7f(b e m:Nat)(hb:b=54624333139524128)(he:e=1815135269)(hm:m=487269091447081429):b^e%m=1:=by rw[<-a5G m 256 b e (by subst he;decide)];subst hb he hm;decide+kernel
theorem a2l:Qh 3 aaV (λi=>(F6 i).2) 54624333139524128:=by
 refine⟨by decide,⟨by decide,by decide,by decide,by decide,a2i,rfl,λi hi=>?_⟩,by decide,by decide,by decide,a7f _ _ _ rfl rfl rfl⟩
 match i,hi with
 |0,_=>exact a2j
 |1,_=>exact a2k
theorem XK:Jz=some ((3,F6),Mh):=by rw[NV];rfl
theorem a7g: ∃g,sW ((3,F6),Mh)=some (some g,0)/\dI g 487269091447081429 1815135269 54624333139524128/\g.2=Mh:=(J6 Wi a2h).1 a2l
section
variable {g:sj} {P Q G:Nat} {a b:Nat->Int} {x y:Nat}
theorem XL(h:dI g P Q G)(ha:IsN a x):Ih (some g) a=some (decide (x<Q)):=by rw[Rs];unfold JA;obtain⟨r,r1,hr⟩:=wN h;simp only[r1,pR hr ha]
def Wj(A B:Nat->Nat):Nat->Nat|0=>0|n+1=>Wj A B n+A n*B n
theorem Wl(h:dI g P Q G)(ha:IsN a x)(hb:IsN b y): ∃z,Dr (some g) a b=some z/\IsN z (x^y%P):=by rw[O0];unfold EI;obtain⟨r,r1,hr⟩:=yQ h;obtain⟨z,z1,z2⟩:=qV hr ha hb;simp only[r1,z1];exact⟨z,rfl,z2⟩
theorem XM(h:dI g P Q G)(hb:IsN b y): ∃z,Ij (some g) b=some z/\IsN z (G^y%P):=by rw[Rt];unfold JB;obtain⟨z,z1,z2⟩:=Wl h h.gen hb;simp only[a0l h,z1];exact⟨z,rfl,z2⟩
theorem Qi(h:dI g P Q G){n:Nat}(hn:n<=64){bases exps:Nat->(Nat->Int)}{B E:Nat->Nat}(hB: ∀i,i<n->IsN (bases i) (B i))(hE: ∀i,i<n->IsN (exps i) (E i)):
  ∃z,BN (some g) n bases n exps=some (z,0)/\IsN z (jl (λi=>B i^E i) n%P):=by
 rw[Ii];unfold zB;obtain⟨r,r1,hr⟩:=yQ h;obtain⟨z,z1,z2⟩:=J5 hr hn hB hE;simp only[r1,z1];exact⟨z,rfl,z2⟩
theorem XO(h:dI g P Q G)(ha:IsN a x):O1 (some g) a=some (decide (x≠0/\x<P/\x^Q%P=1)):=by
 rw[Ru];unfold JC;obtain⟨r,r1,hr⟩:=yQ h;obtain⟨q,q1,q2⟩:=a0k h;obtain⟨o,o1,o2⟩:=oL (n:=1) (by decide);have o2':IsN o 1:=o2;obtain⟨z,z1,z2⟩:=qV hr ha q2;by_cases h0:x=0
 ·simp(disch:=omega) only[WW,ha.isZero,h0,ne_eq,az4,false_and]
 ·by_cases h1:x<P
  ·simp(disch:=omega) only[WW,ha.isZero,r1,pR hr ha,q1,z1,o1,z2.eqb o2',h0,h1,ne_eq,not_false_eq_true,true_and]
  ·simp(disch:=omega) only[WW,ha.isZero,r1,pR hr ha,h1,false_and,and_false]
end
open Go Go.Den Go.Num
theorem a2m {a:Nat->Int}{x q:Nat}(ha:IsN a x)(hq:0<q)(hq2:q<9223372036854775808):ZQ a (q:Int)=some ((x%q:Nat):Int):=by rw[Yq];unfold ZP;obtain⟨m,m1,m2⟩:=Ov (n:=(q:Int)) (by omega);obtain⟨r,r1,r2⟩:=XH ha m2 (by omega);rw[ay8]at r2;have hlt:=ayk x hq;simp only[m1,r1,zK r2,ay5 (show x%q<9223372036854775808 by omega)]
theorem a0m {a b q:Nat}(hq:0<q)(ha:a<4611686018427387904)(hb:b<4611686018427387904):Tm (a:Int) (b:Int) (q:Int)=some (((a+b)%q:Nat):Int):=by rw[V5];unfold UZ;simp(disch:=omega) only[CC,WW]
theorem a0n {a b q:Nat}(hq:0<q)(hq2:q<9223372036854775808):NY (a:Int) (b:Int) (q:Int)=some ((a*b%q:Nat):Int):=by rw[V7];unfold V6;simp only[AQ hq hq2]
theorem a2n {k:Nat}{l:Nat->(Nat->Int)×Int}{ga:Nat->Int}{P Q G:Nat}(h:2<=k)(h2:k<=9223372036854775807)(hP:IsN (l (k-1)).1 P)(hQ:IsN (l (k-2)).1 Q)(hG:IsN ga G)(p63:P<9223372036854775808)(q63:Q<9223372036854775808)(g63:G<9223372036854775808):
  LW ((k,l),ga)=some ((P:Int),(Q:Int),(G:Int)):=by
 rw[Yr];unfold ZR;simp only[a4B h h2,a4C h h2,zK hP,zK hQ,zK hG,ay5 p63,ay5 q63,ay5 g63]
section
variable {P Q G:Nat}
theorem a0o {a:Nat}{e:Nat->Int}{E:Nat}(he:IsN e E)(hP:0<P)(p63:P<9223372036854775808):NZ ((P:Int),(Q:Int),(G:Int)) (a:Int) e=some ((a^E%P:Nat):Int):=by rw[Vb];unfold Va;simp only[W9 he hP p63]
end
open Go Go.Den Go.Num
structure a4E(k:Nat)(l:a4D)(ga:Nat->Int)(g:sj)(P Q G:Nat):Prop where
 made:sW ((k,l),ga)=some (some g,0)
 group:dI g P Q G
 k2:2<=k
 k8:k<=8
 p:IsN (l (k-1)).1 P
 q:IsN (l (k-2)).1 Q
 gen:IsN ga G
 gen2:g.2=ga
theorem a4F: ∃g,a4E 3 F5 Mg g 1055500680322183127 1966023127 316543771439780984:=by obtain⟨g,g1,g2,g3⟩:=a7e;exact⟨g,g1,g2,by decide,by decide,Wd 2 (by decide),Wd 1 (by decide),a2c,g3⟩
theorem a4G: ∃g,a4E 3 F6 Mh g 487269091447081429 1815135269 54624333139524128:=by obtain⟨g,g1,g2,g3⟩:=a7g;exact⟨g,g1,g2,by decide,by decide,Wi 2 (by decide),Wi 1 (by decide),a2h,g3⟩
section
variable {g:sj} {P Q G:Nat}
theorem dI.pow_in(h:dI g P Q G)(e:Nat):(G^e%P)≠0/\G^e%P<P/\(G^e%P)^Q%P=1:=by
 have hQ:0<Q:=h.qpos;have h1:(G^e%P)^Q%P=1:=by rw[<-Nat.pow_mod,<-azX,ayl,azX,Nat.pow_mod,h.order,Nat.one_pow];exact ay1 h.pp.1
 refine⟨λh0=>?_,ayk _ h.ppos,h1⟩;rw[h0,Nat.zero_pow hQ]at h1;simp at h1
end
end Go.Pl
