/-
 Primes, groups, the field.
-/
import Derived.Test.YtldlihheppdhnaaGreatMA
import Derived.Test.YtldlihheppdhnaaGreatMC
import Derived.Test.YtldlihheppdhnaaGreatPlA
set_option linter.unusedVariables false
namespace Go.Num
section
variable {q:Nat} [NeZero q]
def aj3(f:Nat->Fin q):Nat->Fin q|0=>0|n+1=>aj3 f n+f n
def pw(x:Fin q):Nat->Fin q|0=>1|n+1=>pw x n*x
def ev(f:Nat->Fin q)(n:Nat)(x:Fin q):Fin q:=aj3 (λi=>f i*pw x i) n
def conv(f g:Nat->Fin q)(k:Nat):Fin q:=aj3 (λi=>f i*g (k-i)) (k+1)
def quo(f:Nat->Fin q)(x:Fin q):Nat->Nat->Fin q|0,_=>0|n+1,i=>quo f x n i+(if i<n then f n*pw x (n-1-i)else 0)
end
def pm(m:Nat):Nat->Nat->Nat->Nat|0,_,_=>1%m|k+1,b,e=>if e%2=1 then b*pm m k (b*b%m) (e/2)%m else pm m k (b*b%m) (e/2)
theorem a4Y(m:Nat): ∀k b e,e<2^k->pm m k b e=b^e%m:=by
 intro k
 induction k with
 |zero=>
  intro b e h;obtain rfl:e=0:=by simpa using h
  rw[pm,ayV]
 |succ k ih=>
  intro b e h;have h2:e/2<2^k:=by rw[ayQ]at h;omega
  have h3:(b*b%m)^(e/2)%m=b^(2*(e/2))%m:=by rw[<-Nat.pow_mod,azg,Nat.pow_two]
  rw[pm,ih _ _ h2];split
  ·rename_i ho;rw[h3,Nat.mul_mod_mod]
   congr 1
   conv=>rhs;rw[show e=2*(e/2)+1 by omega]
   rw[ayQ,axH]
  ·rename_i ho;rw[h3,show 2*(e/2)=e by omega]
theorem Kz {P Q G:Nat}(hP:2<=P)(h:G^Q%P=1)(a:Nat):G^a%P=G^(a%Q)%P:=by
 have h1:=ay3 a Q
 conv=>lhs;rw[<-h1]
 rw[ayF,ayW,R4 hP h,ayE,azT]
theorem a6q {P Q G:Nat}(hP:Pr P)(hQ:Pr Q)(h1:1<G)(h2:G<P)(h:G^Q%P=1)(a b:Nat):G^a%P=G^b%P↔a%Q=b%Q:=by
 constructor
 ·have key: ∀a b,a<=b->G^a%P=G^b%P->a%Q=b%Q:=by
   intro a b hab e;have hc:Nat.Coprime P (G^a):=by apply Nat.Coprime.pow_right;apply hP.coprime;intro hd;have:=aA0 (by omega) hd;omega
   have e2:(G^a*1)%P=(G^a*G^(b-a))%P:=by rw[az0,<-ayF,show a+(b-a)=b by omega];exact e
   have e3:=LC hc e2;rw[axk hP.1]at e3;have e4:=Y4 hP.1 hQ h (by rw[axk h2];omega) e3.symm;exact(Ia e4 hab).symm
  intro e;rcases Nat.le_total a b with hab|hab
  ·exact key a b hab e
  ·exact(key b a hab e.symm).symm
 ·intro e;rw[Kz hP.1 h a,Kz hP.1 h b,e]
section
variable {q:Nat} [NeZero q]
end
end Go.Num
set_option linter.unusedSimpArgs false
namespace Go.Pl
open Go Go.Den Go.Num
theorem FJ {n:Nat}(hn:2<=n):Pr n↔ ∀d,2<=d->d*d<=n->n%d≠0:=by
 constructor
 ·intro h d h2 hd;refine h.tried d h2 ?_;have:2*d<=d*d:=axF _ h2;omega
 ·exact Ib hn
theorem Pw(n:Int): ∃b,Bj n=some b/\(b=true↔2<=n/\n<65536/\Pr n.toNat):=by
 rw[GK];unfold Ef;by_cases h2:n<2
 ·refine⟨false,?_,by simp;omega⟩;simp(disch:=omega) only[WW]
 ·by_cases h3:65536<=n
  ·refine⟨false,?_,by simp;omega⟩;simp(disch:=omega) only[WW]
  ·simp(disch:=omega) only[WW];obtain⟨N,rfl⟩: ∃N:Nat,n=(N:Int):=⟨n.toNat,by omega⟩;generalize ho:aD dQ _=o;have hN2:2<=N:=by omega
   have goal: ∃y,aD dQ (F4 (N:Int) true (N:Int) ((0:Nat):Int))=some y/\ ∃b,y=Bh b/\(b=true↔Pr N):=
    l9 (R:=dQ) (S:=Unit) (λd _=>F4 (N:Int) true (N:Int) (d:Int)) (λd _=> ∀k,2<=k->k<d->N%k≠0)
     (λy=> ∃b,y=Bh b/\(b=true↔Pr N)) N
     (λd hd _ hP=>by
      by_cases c2:d<2
      ·left;refine⟨(),?_,λk h1 h2=>by omega⟩;unfold dQ;simp(disch:=omega) only[CC,WW]
      ·have hdd:d*d<65536*65536:=Nat.mul_lt_mul'' (by omega) (by omega);by_cases c3:N<d*d
       ·right;have hp:Pr N:=(FJ hN2).2 λk h1 h2=>hP k h1 (by apply axN;intro hc;have:d*d<=k*k:=azD (by omega) (by omega);omega)
        refine⟨_,?_,true,rfl,by simp only[hp]⟩;unfold dQ;simp(disch:=omega) only[CC,WW]
       ·by_cases c4:N%d=0
        ·right;refine⟨_,?_,false,rfl,?_⟩
         ·unfold dQ;simp(disch:=omega) only[CC,WW,c4]
         ·simp only[axX,false_iff];exact λhp=>hp.tried d (by omega) hd c4
        ·left;refine⟨(),?_,λk h1 h2=>?_⟩
         ·unfold dQ;generalize hm:N%d=m at c4;simp(disch:=omega) only[CC,WW,hm]
         ·by_cases e:k=d
          ·subst e;exact c4
          ·exact hP k h1 (by omega))
     (λ_ hP=>by
      have hp:Pr N:=(FJ hN2).2 λk h1 h2=>hP k h1 (by have:2*k<=k*k:=axF _ h1;omega)
      refine⟨_,?_,true,rfl,by simp only[hp]⟩;unfold dQ;simp(disch:=omega) only[CC,WW]) () (λk h1 h2=>by omega)
   obtain⟨y,hy,b,rfl,hb⟩:=goal;obtain rfl:=ho.symm.trans hy;exact⟨b,rfl,by rw[hb,axE];exact⟨λh=>⟨by omega,by omega,h⟩,λh=>h.2.2⟩⟩
def ru(n f:Nat)(w:Int):Prop:=n%2=1/\n≠1/\2<=w/\w<65536/\f≠0/\(n-1)%f=0/\n<f*f/\(w.toNat^((n-1)/f)%n)^f%n=1/\Nat.gcd (w.toNat^((n-1)/f)%n+(n-1)) n=1
instance (n f:Nat) (w:Int):Decidable (ru n f w):=by unfold ru;exact inferInstance
theorem ZM(x n:Nat):Nat.gcd (x%n) n=Nat.gcd x n:=by rw[Nat.gcd_comm x n,Nat.gcd_rec n x]
theorem a1u {lo hi:Nat->Int}{n:Nat->Int}{N F:Nat}(h1:IsN lo (F*F%2^256))(h2:IsN hi (F*F/2^256))(hn:IsN n N):
  (F*F/2^256=0->(N<F*F↔ ¬Dz (F*F%2^256) N<=0))/\(F*F/2^256≠0->N<F*F):=by
 have hN:=hn.1;constructor
 ·intro h;have:F*F<2^256:=by
   rcases Nat.div_eq_zero_iff.1 h with h|h
   ·exact absurd h (by decide)
   ·exact h
  rw[axk this];unfold Dz;generalize F*F=Q at*;by_cases c1:Q<N
  ·rw[axp c1];constructor
   ·intro h;omega
   ·intro h;exact absurd (by decide) h
  ·rw[axi c1];by_cases c2:N<Q
   ·rw[axp c2];simp[c2]
   ·rw[axi c2];simp[c2]
 ·intro h;generalize F*F=Q at*;apply axN;intro hc;exact h (ayl (by omega))
theorem RP {n f:Nat->Int}{N F:Nat}(hn:IsN n N)(hf:IsN f F)(w:Int):Eh n f w=some (decide (ru N F w)):=by
 rw[JO];unfold GL;have no: ¬ru N F w->some false=some (decide (ru N F w)):=λh=>by rw[axz h]
 by_cases h1:N%2=1/\N≠1
 ·obtain⟨r,r1,hr,_⟩:=(mV hn).2 h1.1 h1.2;have hN1:=hr.one;by_cases h2:w<2
  ·simp(disch:=omega) only[WW,r1];exact no (λh=>by have:=h.2.2.1;omega)
  ·by_cases h3:65536<=w
   ·simp(disch:=omega) only[WW,r1];exact no (λh=>by have:=h.2.2.2.1;omega)
   ·by_cases h4:F=0
    ·simp(disch:=omega) only[WW,r1,hf.isZero];exact no (λh=>h.2.2.2.2.1 h4)
    ·obtain⟨o,o1,o2⟩:=oL (n:=1) (by decide);have o2':IsN o 1:=o2;obtain⟨l,l1,l2⟩:=uR hn o2';have hNl:=hn.1;have l3:IsN l (N-1):=l2.of_eq (by omega);obtain⟨k,q,d1,d2,d3⟩:=Ky l3 hf (by omega);obtain⟨lo,hi,m1,m2,m3⟩:=Kw hf hf;have sq:=a1u m2 m3 hn;by_cases h5:(N-1)%F=0
     ·obtain⟨W,hW1,hW2⟩:=oL (n:=w) (by omega);obtain⟨p,p1,p2⟩:=qZ hr hW2 d2;obtain⟨e,e1,e2⟩:=qZ hr p2 hf;obtain⟨s,s1,s2⟩:=Pq p2 o2' hn hr.pos;obtain⟨g,g1,g2⟩:=Xd s2 hn;rw[axk hN1,ZM]at g2;by_cases h6:N<F*F
      ·by_cases h7:(w.toNat^((N-1)/F)%N)^F%N=1
       ·have hfin:decide (Nat.gcd (w.toNat^((N-1)/F)%N+(N-1)) N=1)=decide (ru N F w):=by rw[ayt];exact⟨λh=>⟨h1.1,h1.2,by omega,by omega,h4,h5,h6,h7,h⟩,λh=>h.2.2.2.2.2.2.2.2⟩
        by_cases h8:F*F/2^256=0
        ·have h9:=(sq.1 h8).1 h6;simp(disch:=first|omega|assumption) only[WW,r1,hf.isZero,o1,l1,d1,m1,d3.isZero,m3.isZero,fJ m2 hn,bF h9,hW1,p1,e1,e2.eqb o2',s1,g1,g2.eqb o2',hfin]
        ·simp(disch:=first|omega|assumption) only[WW,r1,hf.isZero,o1,l1,d1,m1,d3.isZero,m3.isZero,hW1,p1,e1,e2.eqb o2',s1,g1,g2.eqb o2',hfin]
       ·have hno:=no (λh=>h7 h.2.2.2.2.2.2.2.1);by_cases h8:F*F/2^256=0
        ·have h9:=(sq.1 h8).1 h6;simp(disch:=first|omega|assumption) only[WW,r1,hf.isZero,o1,l1,d1,m1,d3.isZero,m3.isZero,fJ m2 hn,bF h9,hW1,p1,e1,e2.eqb o2'];exact hno
        ·simp(disch:=first|omega|assumption) only[WW,r1,hf.isZero,o1,l1,d1,m1,d3.isZero,m3.isZero,hW1,p1,e1,e2.eqb o2'];exact hno
      ·have h8:F*F/2^256=0:=axN λh=>h6 (sq.2 h)
       have h9:Dz (F*F%2^256) N<=0:=axN λh=>h6 ((sq.1 h8).2 h)
       simp(disch:=first|omega|assumption) only[WW,r1,hf.isZero,o1,l1,d1,m1,d3.isZero,m3.isZero,fJ m2 hn,dJ h9];exact no (λh=>h6 h.2.2.2.2.2.2.1)
     ·simp(disch:=first|omega|assumption) only[WW,r1,hf.isZero,o1,l1,d1,m1,d3.isZero];exact no (λh=>h5 h.2.2.2.2.2.1)
 ·have r1:=(mV hn).1 (by omega);simp(disch:=omega) only[WW,r1];exact no (λh=>h1 ⟨h.1,h.2.1⟩)
def Av(k:Nat)(N:Nat->Nat)(A:Nat->Int):Prop:=1<=k/\k<=8/\2<=N 0/\N 0<65536/\Pr (N 0)/\A 0=0/\ ∀i,i+1<k->ru (N (i+1)) (N i) (A (i+1))
theorem ru.prime {n f:Nat}{w:Int}(h:ru n f w)(hf:Pr f):Pr n:=by
 obtain⟨h1,h2,h3,h4,h5,h6,h7,h8,h9⟩:=h;refine a1j (f:=f) (k:=(n-1)/f) (a:=w.toNat) (by omega) hf ?_ h7 h8 ?_
 ·have:=ay3 (n-1) f;rw[h6]at this;rw[axH];exact this
 ·rw[<-Nat.add_sub_assoc (by omega)]at h9;exact h9
theorem Av.prime {k:Nat}{N:Nat->Nat}{A:Nat->Int}(h:Av k N A): ∀i,i<k->Pr (N i):=by
 intro i
 induction i with
 |zero=>intro _;exact h.2.2.2.2.1
 |succ i ih=>intro hi;exact(h.2.2.2.2.2.2 i hi).prime (ih (by omega))
theorem DC {k:Nat}{l:Nat->(Nat->Int)×Int}{N:Nat->Nat}(hl: ∀i,i<k->IsN (l i).1 (N i)):
  (Av k N (λi=>(l i).2)->sO k l=some 0)/\(¬Av k N (λi=>(l i).2)->sO k l=some 4):=by
 suffices h: ∃b:Bool,sO k l=some (if b then 0 else 4)/\(b=true↔Av k N (λi=>(l i).2))by
  obtain⟨b,h1,h2⟩:=h;rw[h1];constructor
  ·intro h;rw[h2.2 h];rfl
  ·intro h;cases b
   ·rfl
   ·exact absurd (h2.1 rfl) h
 rw[GN];unfold Ei;by_cases h1:k<1
 ·refine⟨false,?_,by simp only[axX,false_iff];exact λh=>by have:=h.1;omega⟩;simp(disch:=omega) only[WW];rfl
 ·by_cases h2:8<k
  ·refine⟨false,?_,by simp only[axX,false_iff];exact λh=>by have:=h.2.1;omega⟩;simp(disch:=omega) only[WW];rfl
  ·have h0:=hl 0 (by omega);by_cases h3:N 0<9223372036854775808
   ·obtain⟨b,hb1,hb2⟩:=Pw ((N 0:Nat):Int);rw[axE]at hb2;cases b with
    |false=>
     refine⟨false,?_,by simp only[axX,false_iff];exact λh=>absurd (hb2.2 ⟨by have:=h.2.2.1;omega,by have:=h.2.2.2.1;omega,h.2.2.2.2.1⟩) (by decide)⟩;simp(disch:=omega) only[WW,uQ h0,axp h3,hb1];rfl
    |true=>
     have hb3:=hb2.1 rfl;by_cases h4:(l 0).2=0
     ·simp(disch:=omega) only[WW,uQ h0,axp h3,hb1];generalize ho:aD fU _=o;have L: ∃y,aD fU (F6 k l ((1+0:Nat):Int))=some y/\((y=Bl 4/\ ¬Av k N (λi=>(l i).2))\/(y=Bn/\Av k N (λi=>(l i).2))):=
       l9 (R:=fU) (S:=Unit) (λi _=>F6 k l ((1+i:Nat):Int)) (λi _=> ∀j,j<i->ru (N (j+1)) (N j) ((l (j+1)).2))
        (λy=>(y=Bl 4/\ ¬Av k N (λi=>(l i).2))\/(y=Bn/\Av k N (λi=>(l i).2))) (k-1)
        (λi hi _ hP=>by
         have hs:=RP (hl (1+i) (by omega)) (hl i (by omega)) (l (1+i)).2;by_cases hst:ru (N (1+i)) (N i) (l (1+i)).2
         ·left;refine⟨(),?_,λj hj=>?_⟩
          ·unfold fU;simp(disch:=first|omega|assumption) only[CC,WW,azN,hs,azy]
          ·by_cases e:j=i
           ·subst e;rw[ayK j 1];exact hst
           ·exact hP j (by omega)
         ·right;refine⟨_,?_,.inl ⟨rfl,λh=>hst ?_⟩⟩
          ·unfold fU;simp(disch:=first|omega|assumption) only[CC,WW,azN,hs]
          ·have:=h.2.2.2.2.2.2 i (by omega);rw[ayK 1 i];exact this)
        (λ_ hP=>by refine⟨_,?_,.inr ⟨rfl,by omega,by omega,by omega,by omega,hb3.2.2,h4,λi hi=>hP i (by omega)⟩⟩;unfold fU;simp(disch:=omega) only[CC,WW]) () (λj hj=>by omega)
      obtain⟨y,hy,hQ⟩:=L;obtain rfl:=ho.symm.trans hy;rcases hQ with⟨rfl,hQ⟩|⟨rfl,hQ⟩
      ·exact⟨false,rfl,by simp[hQ]⟩
      ·exact⟨true,rfl,by simp[hQ]⟩
     ·refine⟨false,?_,by simp only[axX,false_iff];exact λh=>h4 h.2.2.2.2.2.1⟩;simp(disch:=omega) only[WW,uQ h0,axp h3,hb1];rfl
   ·refine⟨false,?_,by simp only[axX,false_iff];exact λh=>by have:=h.2.2.2.1;omega⟩;simp(disch:=omega) only[WW,uQ h0,axi h3];rfl
theorem a4Z {α:Type}(x:α):aR.vQ (.fz x)=false:=rfl
theorem a1v {α:Type}(x:α):aR.isNil (.fz x)=false:=rfl
theorem aaj {α:Type}(d x:α):aR.val d (.fz x)=x:=rfl
abbrev iY:=(aR tH×aR tH)×(Nat->Int)
structure cO(g:iY)(P Q G:Nat):Prop where
 rings: ∃r f,g.1=(.fz r,.fz f)/\lg r P/\lg f Q
 gen:IsN g.2 G
 pp:Pr P
 pq:Pr Q
 big:512<=Q
 g1:1<G
 gP:G<P
 order:G^Q%P=1
theorem cO.qpos {g:iY}{P Q G:Nat}(h:cO g P Q G):0<Q:=h.pq.pos
theorem cO.ppos {g:iY}{P Q G:Nat}(h:cO g P Q G):0<P:=h.pp.pos
def Px(k:Nat)(N:Nat->Nat)(A:Nat->Int)(G:Nat):Prop:=2<=k/\Av k N A/\512<=N (k-2)/\1<G/\G<N (k-1)/\G^N (k-2)%N (k-1)=1
theorem Yb {n:Nat} :iG n<10↔n<512:=by
 constructor
 ·intro h;have h1:=J5 n;have:2^iG n<=2^9:=axM (by decide) (by omega);omega
 ·intro h;have:=uP (n:=n) (L:=9) h;omega
theorem Ih {k:Nat}{l:Nat->(Nat->Int)×Int}{ga:Nat->Int}{N:Nat->Nat}{G:Nat}(hl: ∀i,i<k->IsN (l i).1 (N i))(hg:IsN ga G):
  (Px k N (λi=>(l i).2) G-> ∃g,pI ((k,l),ga)=some (some g,0)/\cO g (N (k-1)) (N (k-2)) G/\g.2=ga)/\(¬Px k N (λi=>(l i).2) G->pI ((k,l),ga)=some (none,4)):=by
 rw[MU];unfold La;by_cases h1:k<2
 ·refine⟨λh=>by have:=h.1;omega,λ_=>?_⟩;simp(disch:=omega) only[WW]
 ·by_cases h2:Av k N (λi=>(l i).2)
  ·have hk8:=h2.2.1;have hp:=h2.prime (k-1) (by omega);have hq:=h2.prime (k-2) (by omega);have hPN:=hl (k-1) (by omega);have hQN:=hl (k-2) (by omega);have hst:=h2.2.2.2.2.2.2 (k-2) (by omega);rw[show k-2+1=k-1 by omega]at hst;obtain⟨r,r1,hr,_⟩:=(mV hPN).2 hst.1 hst.2.1;have hc:=(DC hl).1 h2;generalize hP:N (k-1)=P at*;generalize hQ:N (k-2)=Q at*;have no: ∀ {p:Prop},(Px k N (λi=>(l i).2) G->p)-> ¬p-> ¬Px k N (λi=>(l i).2) G:=λh1 h2 h3=>h2 (h1 h3)
   obtain⟨o,o1,o2⟩:=oL (n:=1) (by decide);have o2':IsN o 1:=o2;by_cases h3:Q<512
   ·
    have hb:=Yb.2 h3;refine⟨λh=>by have:=h.2.2.1;omega,λ_=>?_⟩;by_cases hodd:Q%2=1
    ·obtain⟨f,f1,hf,_⟩:=(mV hQN).2 hodd (by have:=hq.1;omega);simp(disch:=omega) only[CC,WW,hc,r1,f1,jM hQN]
    ·have f1:=(mV hQN).1 (.inl (by omega));simp(disch:=omega) only[CC,WW,hc,r1,f1]
   ·have hb: ¬iG Q<10:=λh=>h3 (Yb.1 h)
    have hodd:Q%2=1:=by have:=hq.tried 2 (by decide) (by omega);omega
    obtain⟨f,f1,hf,_⟩:=(mV hQN).2 hodd (by omega);by_cases h4:G=0
    ·subst h4;refine⟨λh=>by have:=h.2.2.2.1;omega,λ_=>?_⟩;simp(disch:=omega) only[CC,WW,hc,r1,f1,jM hQN,hg.isZero]
    ·by_cases h5:G=1
     ·subst h5;refine⟨λh=>by have:=h.2.2.2.1;omega,λ_=>?_⟩;simp(disch:=omega) only[CC,WW,hc,r1,f1,jM hQN,hg.isZero,o1,hg.eqb o2']
     ·by_cases h6:G<P
      ·obtain⟨z,z1,z2⟩:=qZ hr hg hQN;by_cases h7:G^Q%P=1
       ·refine⟨λ_=>?_,λh=>absurd ⟨by omega,h2,by rw[hQ];omega,by omega,by rw[hP];exact h6,by rw[hP,hQ];exact h7⟩ h⟩;simp(disch:=first|omega|assumption) only[CC,WW,hc,r1,f1,jM hQN,hg.isZero,o1,hg.eqb o2',pU hr hg,z1,z2.eqb o2'];exact⟨_,rfl,⟨⟨r,f,rfl,hr,hf⟩,hg,hp,hq,by omega,by omega,h6,h7⟩,rfl⟩
       ·refine⟨λh=>absurd (by have:=h.2.2.2.2.2;rw[hP,hQ]at this;exact this) h7,λ_=>?_⟩;simp(disch:=first|omega|assumption) only[CC,WW,hc,r1,f1,jM hQN,hg.isZero,o1,hg.eqb o2',pU hr hg,z1,z2.eqb o2']
      ·refine⟨λh=>absurd (by have:=h.2.2.2.2.1;rw[hP]at this;exact this) h6,λ_=>?_⟩;simp(disch:=first|omega|assumption) only[CC,WW,hc,r1,f1,jM hQN,hg.isZero,o1,hg.eqb o2',pU hr hg]
  ·refine⟨λh=>absurd h.2.1 h2,λ_=>?_⟩;simp(disch:=omega) only[CC,WW,(DC hl).2 h2]
section
variable {g:iY} {P Q G:Nat}
theorem yL(h:cO g P Q G): ∃r,bH (some g)=some (some r)/\lg r P:=by rw[qj];unfold jE;obtain⟨r,f,e,hr,hf⟩:=h.rings;simp only[e,a4Z,a1v,aaj,WW];exact⟨r,rfl,hr⟩
theorem lu(h:cO g P Q G): ∃r,bZ (some g)=some (some r)/\lg r Q:=by rw[jF];unfold je;obtain⟨r,f,e,hr,hf⟩:=h.rings;simp only[e,a4Z,a1v,aaj,WW];exact⟨f,rfl,hf⟩
theorem ZN(h:cO g P Q G): ∃z,dR (some g)=some z/\IsN z Q:=by rw[vU];unfold og;obtain⟨r,r1,hr⟩:=lu h;simp only[r1,a1s hr];exact⟨_,rfl,hr.m⟩
theorem ZO(h:cO g P Q G):qL (some g)=some g.2:=by rw[D8];rfl
end
theorem a3S {k:Nat}{l:Nat->(Nat->Int)×Int}{ga:Nat->Int}(h:2<=k)(h2:k<=9223372036854775807):a4L ((k,l),ga)=some (l (k-1)).1:=by rw[a10];unfold a3j;simp(disch:=omega) only[CC,WW]
theorem a3T {k:Nat}{l:Nat->(Nat->Int)×Int}{ga:Nat->Int}(h:2<=k)(h2:k<=9223372036854775807):a4M ((k,l),ga)=some (l (k-2)).1:=by rw[a11];unfold a3k;simp(disch:=omega) only[CC,WW]
theorem ru.by_pm {n f w:Nat}(h1:n%2=1)(h2:n≠1)(h3:2<=w)(h4:w<65536)(h5:f≠0)(h6:(n-1)%f=0)(h7:n<f*f)(hn:n<2^256)(hf:f<2^256)(h8:pm n 256 (pm n 256 w ((n-1)/f)) f=1)(h9:Nat.gcd (pm n 256 w ((n-1)/f)+(n-1)) n=1):ru n f (w:Int):=by have e1:(n-1)/f<2^256:=axB (ay1 _ _) (by omega);rw[a4Y n 256 w _ e1]at h8 h9;rw[a4Y n 256 _ _ hf]at h8;exact⟨h1,h2,by omega,by omega,h5,h6,h7,h8,h9⟩
open Go Go.Den Go.Num
theorem R9 {n r:Nat}(hn:2<=n)(hr:n<(r+1)*(r+1))(h: ∀d,d<r+1->2<=d->n%d≠0):Pr n:=
 Ib hn λd h2 hd=>h d (by apply axN;intro hc;have:(r+1)*(r+1)<=d*d:=azD (by omega) (by omega);omega) h2
abbrev a3U:=Nat->(Nat->Int)×Int
def aak:Nat->Nat|0=>65521|1=>1966023127|_=>1055500680322183127
def EG:a3U:=λj=>(upd (upd (upd (λ_=>((λ_=>0),0)) 0 ((upd (λ_=>0) 0 65521),0)) 1 ((upd (λ_=>0) 0 1966023127),2)) 2 ((upd (λ_=>0) 0 1055500680322183127),2)) (0+j)
def LH:Nat->Int:=(upd (λ_=>0) 0 316543771439780984)
theorem Vq: ∀i,i<3->IsN (EG i).1 (aak i):=λi hi=>by
 match i,hi with
 |0,_=>exact IsN.of_eq (IsN.mk (a:=(EG 0).1) (x0:=65521) (x1:=0) (x2:=0) (x3:=0) rfl rfl rfl rfl (by decide) (by decide) (by decide) (by decide)) (by decide)
 |1,_=>exact IsN.of_eq (IsN.mk (a:=(EG 1).1) (x0:=1966023127) (x1:=0) (x2:=0) (x3:=0) rfl rfl rfl rfl (by decide) (by decide) (by decide) (by decide)) (by decide)
 |2,_=>exact IsN.of_eq (IsN.mk (a:=(EG 2).1) (x0:=1055500680322183127) (x1:=0) (x2:=0) (x3:=0) rfl rfl rfl rfl (by decide) (by decide) (by decide) (by decide)) (by decide)
theorem a1w:IsN LH 316543771439780984:=IsN.of_eq (IsN.mk (a:=LH) (x0:=316543771439780984) (x1:=0) (x2:=0) (x3:=0) rfl rfl rfl rfl (by decide) (by decide) (by decide) (by decide)) (by decide)
theorem a1x:Pr 65521:=R9 (r:=255) (by decide) (by decide) (by decide+kernel)
theorem a1y:ru 1966023127 65521 ((2:Nat):Int):=ru.by_pm (by decide) (by decide) (by decide) (by decide) (by decide) (by decide) (by decide) (by decide) (by decide) (by decide+kernel) (by decide+kernel)
theorem a1z:ru 1055500680322183127 1966023127 ((2:Nat):Int):=ru.by_pm (by decide) (by decide) (by decide) (by decide) (by decide) (by decide) (by decide) (by decide) (by decide) (by decide+kernel) (by decide+kernel)
theorem a6r(b e m:Nat)(hb:b=316543771439780984)(he:e=1966023127)(hm:m=1055500680322183127):b^e%m=1:=by rw[<-a4Y m 256 b e (by subst he;decide)];subst hb he hm;decide+kernel
theorem a1A:Px 3 aak (λi=>(EG i).2) 316543771439780984:=by
 refine⟨by decide,⟨by decide,by decide,by decide,by decide,a1x,rfl,λi hi=>?_⟩,by decide,by decide,by decide,a6r _ _ _ rfl rfl rfl⟩
 match i,hi with
 |0,_=>exact a1y
 |1,_=>exact a1z
theorem KA:D9=some ((3,EG),LH):=by rw[Ng];rfl
theorem a6s: ∃g,pI ((3,EG),LH)=some (some g,0)/\cO g 1055500680322183127 1966023127 316543771439780984/\g.2=LH:=(Ih Vq a1w).1 a1A
def aal:Nat->Nat|0=>64817|1=>1815135269|_=>487269091447081429
def EH:a3U:=λj=>(upd (upd (upd (λ_=>((λ_=>0),0)) 0 ((upd (λ_=>0) 0 64817),0)) 1 ((upd (λ_=>0) 0 1815135269),2)) 2 ((upd (λ_=>0) 0 487269091447081429),2)) (0+j)
def LJ:Nat->Int:=(upd (λ_=>0) 0 54624333139524128)
theorem Vr: ∀i,i<3->IsN (EH i).1 (aal i):=λi hi=>by
 match i,hi with
 |0,_=>exact IsN.of_eq (IsN.mk (a:=(EH 0).1) (x0:=64817) (x1:=0) (x2:=0) (x3:=0) rfl rfl rfl rfl (by decide) (by decide) (by decide) (by decide)) (by decide)
 |1,_=>exact IsN.of_eq (IsN.mk (a:=(EH 1).1) (x0:=1815135269) (x1:=0) (x2:=0) (x3:=0) rfl rfl rfl rfl (by decide) (by decide) (by decide) (by decide)) (by decide)
 |2,_=>exact IsN.of_eq (IsN.mk (a:=(EH 2).1) (x0:=487269091447081429) (x1:=0) (x2:=0) (x3:=0) rfl rfl rfl rfl (by decide) (by decide) (by decide) (by decide)) (by decide)
theorem a1B:IsN LJ 54624333139524128:=IsN.of_eq (IsN.mk (a:=LJ) (x0:=54624333139524128) (x1:=0) (x2:=0) (x3:=0) rfl rfl rfl rfl (by decide) (by decide) (by decide) (by decide)) (by decide)
theorem a1C:Pr 64817:=R9 (r:=255) (by decide) (by decide) (by decide+kernel)
theorem a1D:ru 1815135269 64817 ((2:Nat):Int):=ru.by_pm (by decide) (by decide) (by decide) (by decide) (by decide) (by decide) (by decide) (by decide) (by decide) (by decide+kernel) (by decide+kernel)
theorem a1E:ru 487269091447081429 1815135269 ((2:Nat):Int):=ru.by_pm (by decide) (by decide) (by decide) (by decide) (by decide) (by decide) (by decide) (by decide) (by decide) (by decide+kernel) (by decide+kernel)
theorem a6t(b e m:Nat)(hb:b=54624333139524128)(he:e=1815135269)(hm:m=487269091447081429):b^e%m=1:=by rw[<-a4Y m 256 b e (by subst he;decide)];subst hb he hm;decide+kernel
theorem a1F:Px 3 aal (λi=>(EH i).2) 54624333139524128:=by
 refine⟨by decide,⟨by decide,by decide,by decide,by decide,a1C,rfl,λi hi=>?_⟩,by decide,by decide,by decide,a6t _ _ _ rfl rfl rfl⟩
 match i,hi with
 |0,_=>exact a1D
 |1,_=>exact a1E
theorem Xi:IV=some ((3,EH),LJ):=by rw[Nh];rfl
theorem a6u: ∃g,pI ((3,EH),LJ)=some (some g,0)/\cO g 487269091447081429 1815135269 54624333139524128/\g.2=LJ:=(Ih Vr a1B).1 a1F
section
variable {g:iY} {P Q G:Nat} {a b:Nat->Int} {x y:Nat}
theorem Xj(h:cO g P Q G)(ha:IsN a x):H6 (some g) a=some (decide (x<Q)):=by rw[QJ];unfold IW;obtain⟨r,r1,hr⟩:=lu h;simp only[r1,pU hr ha]
def Vs(A B:Nat->Nat):Nat->Nat|0=>0|n+1=>Vs A B n+A n*B n
theorem Vt(h:cO g P Q G)(ha:IsN a x)(hb:IsN b y): ∃z,Da (some g) a b=some z/\IsN z (x^y%P):=by rw[Nn];unfold En;obtain⟨r,r1,hr⟩:=yL h;obtain⟨z,z1,z2⟩:=qZ hr ha hb;simp only[r1,z1];exact⟨z,rfl,z2⟩
theorem Xk(h:cO g P Q G)(hb:IsN b y): ∃z,H8 (some g) b=some z/\IsN z (G^y%P):=by rw[QK];unfold IX;obtain⟨z,z1,z2⟩:=Vt h h.gen hb;simp only[ZO h,z1];exact⟨z,rfl,z2⟩
theorem Py(h:cO g P Q G){n:Nat}(hn:n<=64){bases exps:Nat->(Nat->Int)}{B E:Nat->Nat}(hB: ∀i,i<n->IsN (bases i) (B i))(hE: ∀i,i<n->IsN (exps i) (E i)):
  ∃z,Bo (some g) n bases n exps=some (z,0)/\IsN z (jk (λi=>B i^E i) n%P):=by
 rw[H7];unfold zn;obtain⟨r,r1,hr⟩:=yL h;obtain⟨z,z1,z2⟩:=Ig hr hn hB hE;simp only[r1,z1];exact⟨z,rfl,z2⟩
theorem Xl(h:cO g P Q G)(ha:IsN a x):Np (some g) a=some (decide (x≠0/\x<P/\x^Q%P=1)):=by
 rw[QL];unfold IY;obtain⟨r,r1,hr⟩:=yL h;obtain⟨q,q1,q2⟩:=ZN h;obtain⟨o,o1,o2⟩:=oL (n:=1) (by decide);have o2':IsN o 1:=o2;obtain⟨z,z1,z2⟩:=qZ hr ha q2;by_cases h0:x=0
 ·simp(disch:=omega) only[WW,ha.isZero,h0,ne_eq,ayk,false_and]
 ·by_cases h1:x<P
  ·simp(disch:=omega) only[WW,ha.isZero,r1,pU hr ha,q1,z1,o1,z2.eqb o2',h0,h1,ne_eq,not_false_eq_true,true_and]
  ·simp(disch:=omega) only[WW,ha.isZero,r1,pU hr ha,h1,false_and,and_false]
end
open Go Go.Den Go.Num
theorem a1G {a:Nat->Int}{x q:Nat}(ha:IsN a x)(hq:0<q)(hq2:q<9223372036854775808):Zj a (q:Int)=some ((x%q:Nat):Int):=by rw[XZ];unfold Zi;obtain⟨m,m1,m2⟩:=NT (n:=(q:Int)) (by omega);obtain⟨r,r1,r2⟩:=Xg ha m2 (by omega);rw[axE]at r2;have hlt:=axG x hq;simp only[m1,r1,zC r2,axp (show x%q<9223372036854775808 by omega)]
theorem ZP {a b q:Nat}(hq:0<q)(ha:a<4611686018427387904)(hb:b<4611686018427387904):Sq (a:Int) (b:Int) (q:Int)=some (((a+b)%q:Nat):Int):=by rw[Ur];unfold Uq;simp(disch:=omega) only[CC,WW]
theorem ZQ {a b q:Nat}(hq:0<q)(hq2:q<9223372036854775808):Nj (a:Int) (b:Int) (q:Int)=some ((a*b%q:Nat):Int):=by rw[Ut];unfold Us;simp only[Au hq hq2]
theorem a1H {k:Nat}{l:Nat->(Nat->Int)×Int}{ga:Nat->Int}{P Q G:Nat}(h:2<=k)(h2:k<=9223372036854775807)(hP:IsN (l (k-1)).1 P)(hQ:IsN (l (k-2)).1 Q)(hG:IsN ga G)(p63:P<9223372036854775808)(q63:Q<9223372036854775808)(g63:G<9223372036854775808):
  Lg ((k,l),ga)=some ((P:Int),(Q:Int),(G:Int)):=by
 rw[Y0];unfold Zk;simp only[a3S h h2,a3T h h2,zC hP,zC hQ,zC hG,axp p63,axp q63,axp g63]
section
variable {P Q G:Nat}
theorem ZR {a:Nat}{e:Nat->Int}{E:Nat}(he:IsN e E)(hP:0<P)(p63:P<9223372036854775808):Nl ((P:Int),(Q:Int),(G:Int)) (a:Int) e=some ((a^E%P:Nat):Int):=by rw[Uz];unfold Uy;simp only[Vp he hP p63]
end
open Go Go.Den Go.Num
structure a3V(k:Nat)(l:a3U)(ga:Nat->Int)(g:iY)(P Q G:Nat):Prop where
 made:pI ((k,l),ga)=some (some g,0)
 group:cO g P Q G
 k2:2<=k
 k8:k<=8
 p:IsN (l (k-1)).1 P
 q:IsN (l (k-2)).1 Q
 gen:IsN ga G
 gen2:g.2=ga
theorem Vu: ∃g,a3V 3 EG LH g 1055500680322183127 1966023127 316543771439780984:=by obtain⟨g,g1,g2,g3⟩:=a6s;exact⟨g,g1,g2,by decide,by decide,Vq 2 (by decide),Vq 1 (by decide),a1w,g3⟩
theorem a3W: ∃g,a3V 3 EH LJ g 487269091447081429 1815135269 54624333139524128:=by obtain⟨g,g1,g2,g3⟩:=a6u;exact⟨g,g1,g2,by decide,by decide,Vr 2 (by decide),Vr 1 (by decide),a1B,g3⟩
def BI(g:Option iY):Prop:=g=none\/ ∃a,g=some ((.nil,.nil),a)
theorem BI.Ring {g:Option iY}(h:BI g):bH g=some none:=by rw[qj];unfold jE;rcases h with rfl|⟨a,rfl⟩<;>rfl
theorem BI.Field {g:Option iY}(h:BI g):bZ g=some none:=by rw[jF];unfold je;rcases h with rfl|⟨a,rfl⟩<;>rfl
theorem Ra:LG none:=.inl rfl
theorem BI.P {g:Option iY}(h:BI g):JQ g=some λ_=>0:=by rw[OQ];unfold Ad;rcases g with _|g<;>simp only[h.Ring,Ra.M]
theorem BI.Q {g:Option iY}(h:BI g):dR g=some λ_=>0:=by rw[vU];unfold og;rcases g with _|g<;>simp only[h.Field,Ra.M]
section
variable {g:iY} {P Q G:Nat}
theorem cO.pow_in(h:cO g P Q G)(e:Nat):(G^e%P)≠0/\G^e%P<P/\(G^e%P)^Q%P=1:=by
 have hQ:0<Q:=h.qpos;have h1:(G^e%P)^Q%P=1:=by rw[<-Nat.pow_mod,<-azg,axH,azg,Nat.pow_mod,h.order,Nat.one_pow];exact axk h.pp.1
 refine⟨λh0=>?_,axG _ h.ppos,h1⟩;rw[h0,Nat.zero_pow hQ]at h1;simp at h1
end
end Go.Pl
