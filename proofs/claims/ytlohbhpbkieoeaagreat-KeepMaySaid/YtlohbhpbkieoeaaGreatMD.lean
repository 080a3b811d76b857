/-
 Primes, groups, the field.
-/
import Derived.Test.YtlohbhpbkieoeaaGreatMA
import Derived.Test.YtlohbhpbkieoeaaGreatMC
import Derived.Test.YtlohbhpbkieoeaaGreatPlA
set_option linter.unusedVariables false
namespace Go.Num
section
variable {q:Nat} [NeZero q]
def aio(f:Nat->Fin q):Nat->Fin q|0=>0|n+1=>aio f n+f n
def pw(x:Fin q):Nat->Fin q|0=>1|n+1=>pw x n*x
def ev(f:Nat->Fin q)(n:Nat)(x:Fin q):Fin q:=aio (λi=>f i*pw x i) n
def conv(f g:Nat->Fin q)(k:Nat):Fin q:=aio (λi=>f i*g (k-i)) (k+1)
def quo(f:Nat->Fin q)(x:Fin q):Nat->Nat->Fin q|0,_=>0|n+1,i=>quo f x n i+(if i<n then f n*pw x (n-1-i)else 0)
end
def pm(m:Nat):Nat->Nat->Nat->Nat|0,_,_=>1%m|k+1,b,e=>if e%2=1 then b*pm m k (b*b%m) (e/2)%m else pm m k (b*b%m) (e/2)
theorem a4x(m:Nat): ∀k b e,e<2^k->pm m k b e=b^e%m:=by
 intro k
 induction k with
 |zero=>
  intro b e h;obtain rfl:e=0:=by simpa using h
  rw[pm,ay8]
 |succ k ih=>
  intro b e h;have h2:e/2<2^k:=by rw[ay3]at h;omega
  have h3:(b*b%m)^(e/2)%m=b^(2*(e/2))%m:=by rw[<-Nat.pow_mod,ayM,Nat.pow_two]
  rw[pm,ih _ _ h2];split
  ·rename_i ho;rw[h3,Nat.mul_mod_mod]
   congr 1
   conv=>rhs;rw[show e=2*(e/2)+1 by omega]
   rw[ay3,awT]
  ·rename_i ho;rw[h3,show 2*(e/2)=e by omega]
section
variable {q:Nat} [NeZero q]
end
end Go.Num
set_option linter.unusedSimpArgs false
namespace Go.Pl
open Go Go.Den Go.Num
theorem Fq {n:Nat}(hn:2<=n):Pr n↔ ∀d,2<=d->d*d<=n->n%d≠0:=by
 constructor
 ·intro h d h2 hd;refine h.tried d h2 ?_;have:2*d<=d*d:=awP _ h2;omega
 ·exact I6 hn
theorem PG(n:Int): ∃b,AL n=some b/\(b=true↔2<=n/\n<65536/\Pr n.toNat):=by
 rw[Gh];unfold DR;by_cases h2:n<2
 ·refine⟨false,?_,by simp;omega⟩;simp(disch:=omega) only[WW]
 ·by_cases h3:65536<=n
  ·refine⟨false,?_,by simp;omega⟩;simp(disch:=omega) only[WW]
  ·simp(disch:=omega) only[WW];obtain⟨N,rfl⟩: ∃N:Nat,n=(N:Int):=⟨n.toNat,by omega⟩;generalize ho:au dD _=o;have hN2:2<=N:=by omega
   have goal: ∃y,au dD (EL (N:Int) true (N:Int) ((0:Nat):Int))=some y/\ ∃b,y=AJ b/\(b=true↔Pr N):=
    bH (R:=dD) (S:=Unit) (λd _=>EL (N:Int) true (N:Int) (d:Int)) (λd _=> ∀k,2<=k->k<d->N%k≠0)
     (λy=> ∃b,y=AJ b/\(b=true↔Pr N)) N
     (λd hd _ hP=>by
      by_cases c2:d<2
      ·left;refine⟨(),?_,λk h1 h2=>by omega⟩;unfold dD;simp(disch:=omega) only[CC,WW]
      ·have hdd:d*d<65536*65536:=Nat.mul_lt_mul'' (by omega) (by omega);by_cases c3:N<d*d
       ·right;have hp:Pr N:=(Fq hN2).2 λk h1 h2=>hP k h1 (by apply ax7;intro hc;have:d*d<=k*k:=ayL (by omega) (by omega);omega)
        refine⟨_,?_,true,rfl,by simp only[hp]⟩;unfold dD;simp(disch:=omega) only[CC,WW]
       ·by_cases c4:N%d=0
        ·right;refine⟨_,?_,false,rfl,?_⟩
         ·unfold dD;simp(disch:=omega) only[CC,WW,c4]
         ·simp only[axi,false_iff];exact λhp=>hp.tried d (by omega) hd c4
        ·left;refine⟨(),?_,λk h1 h2=>?_⟩
         ·unfold dD;generalize hm:N%d=m at c4;simp(disch:=omega) only[CC,WW,hm]
         ·by_cases e:k=d
          ·subst e;exact c4
          ·exact hP k h1 (by omega))
     (λ_ hP=>by
      have hp:Pr N:=(Fq hN2).2 λk h1 h2=>hP k h1 (by have:2*k<=k*k:=awP _ h1;omega)
      refine⟨_,?_,true,rfl,by simp only[hp]⟩;unfold dD;simp(disch:=omega) only[CC,WW]) () (λk h1 h2=>by omega)
   obtain⟨y,hy,b,rfl,hb⟩:=goal;obtain rfl:=ho.symm.trans hy;exact⟨b,rfl,by rw[hb,awz];exact⟨λh=>⟨by omega,by omega,h⟩,λh=>h.2.2⟩⟩
def qR(n f:Nat)(w:Int):Prop:=n%2=1/\n≠1/\2<=w/\w<65536/\f≠0/\(n-1)%f=0/\n<f*f/\(w.toNat^((n-1)/f)%n)^f%n=1/\Nat.gcd (w.toNat^((n-1)/f)%n+(n-1)) n=1
instance (n f:Nat) (w:Int):Decidable (qR n f w):=by unfold qR;exact inferInstance
theorem Zk(x n:Nat):Nat.gcd (x%n) n=Nat.gcd x n:=by rw[Nat.gcd_comm x n,Nat.gcd_rec n x]
theorem a1h {lo hi:Nat->Int}{n:Nat->Int}{N F:Nat}(h1:IsN lo (F*F%2^256))(h2:IsN hi (F*F/2^256))(hn:IsN n N):
  (F*F/2^256=0->(N<F*F↔ ¬Pt (F*F%2^256) N<=0))/\(F*F/2^256≠0->N<F*F):=by
 have hN:=hn.1;constructor
 ·intro h;have:F*F<2^256:=by
   rcases Nat.div_eq_zero_iff.1 h with h|h
   ·exact absurd h (by decide)
   ·exact h
  rw[awD this];unfold Pt;generalize F*F=Q at*;by_cases c1:Q<N
  ·rw[awQ c1];constructor
   ·intro h;omega
   ·intro h;exact absurd (by decide) h
  ·rw[awG c1];by_cases c2:N<Q
   ·rw[awQ c2];simp[c2]
   ·rw[awG c2];simp[c2]
 ·intro h;generalize F*F=Q at*;apply ax7;intro hc;exact h (axC (by omega))
theorem RF {n f:Nat->Int}{N F:Nat}(hn:IsN n N)(hf:IsN f F)(w:Int):DT n f w=some (decide (qR N F w)):=by
 rw[JJ];unfold Gi;have no: ¬qR N F w->some false=some (decide (qR N F w)):=λh=>by rw[aww h]
 by_cases h1:N%2=1/\N≠1
 ·obtain⟨r,r1,hr,_⟩:=(ni hn).2 h1.1 h1.2;have hN1:=hr.one;by_cases h2:w<2
  ·simp(disch:=omega) only[WW,r1];exact no (λh=>by have:=h.2.2.1;omega)
  ·by_cases h3:65536<=w
   ·simp(disch:=omega) only[WW,r1];exact no (λh=>by have:=h.2.2.2.1;omega)
   ·by_cases h4:F=0
    ·simp(disch:=omega) only[WW,r1,hf.isZero];exact no (λh=>h.2.2.2.2.1 h4)
    ·obtain⟨o,o1,o2⟩:=oZ (n:=1) (by decide);have o2':IsN o 1:=o2;obtain⟨l,l1,l2⟩:=uE hn o2';have hNl:=hn.1;have l3:IsN l (N-1):=l2.of_eq (by omega);obtain⟨k,q,d1,d2,d3⟩:=KF l3 hf (by omega);obtain⟨lo,hi,m1,m2,m3⟩:=KE hf hf;have sq:=a1h m2 m3 hn;by_cases h5:(N-1)%F=0
     ·obtain⟨W,hW1,hW2⟩:=oZ (n:=w) (by omega);obtain⟨p,p1,p2⟩:=qQ hr hW2 d2;obtain⟨e,e1,e2⟩:=qQ hr p2 hf;obtain⟨s,s1,s2⟩:=Pz p2 o2' hn hr.pos;obtain⟨g,g1,g2⟩:=WY s2 hn;rw[awD hN1,Zk]at g2;by_cases h6:N<F*F
      ·by_cases h7:(w.toNat^((N-1)/F)%N)^F%N=1
       ·have hfin:decide (Nat.gcd (w.toNat^((N-1)/F)%N+(N-1)) N=1)=decide (qR N F w):=by rw[axD];exact⟨λh=>⟨h1.1,h1.2,by omega,by omega,h4,h5,h6,h7,h⟩,λh=>h.2.2.2.2.2.2.2.2⟩
        by_cases h8:F*F/2^256=0
        ·have h9:=(sq.1 h8).1 h6;simp(disch:=first|omega|assumption) only[WW,r1,hf.isZero,o1,l1,d1,m1,d3.isZero,m3.isZero,fC m2 hn,ak h9,hW1,p1,e1,e2.eqb o2',s1,g1,g2.eqb o2',hfin]
        ·simp(disch:=first|omega|assumption) only[WW,r1,hf.isZero,o1,l1,d1,m1,d3.isZero,m3.isZero,hW1,p1,e1,e2.eqb o2',s1,g1,g2.eqb o2',hfin]
       ·have hno:=no (λh=>h7 h.2.2.2.2.2.2.2.1);by_cases h8:F*F/2^256=0
        ·have h9:=(sq.1 h8).1 h6;simp(disch:=first|omega|assumption) only[WW,r1,hf.isZero,o1,l1,d1,m1,d3.isZero,m3.isZero,fC m2 hn,ak h9,hW1,p1,e1,e2.eqb o2'];exact hno
        ·simp(disch:=first|omega|assumption) only[WW,r1,hf.isZero,o1,l1,d1,m1,d3.isZero,m3.isZero,hW1,p1,e1,e2.eqb o2'];exact hno
      ·have h8:F*F/2^256=0:=ax7 λh=>h6 (sq.2 h)
       have h9:Pt (F*F%2^256) N<=0:=ax7 λh=>h6 ((sq.1 h8).2 h)
       simp(disch:=first|omega|assumption) only[WW,r1,hf.isZero,o1,l1,d1,m1,d3.isZero,m3.isZero,fC m2 hn,aG h9];exact no (λh=>h6 h.2.2.2.2.2.2.1)
     ·simp(disch:=first|omega|assumption) only[WW,r1,hf.isZero,o1,l1,d1,m1,d3.isZero];exact no (λh=>h5 h.2.2.2.2.2.1)
 ·have r1:=(ni hn).1 (by omega);simp(disch:=omega) only[WW,r1];exact no (λh=>h1 ⟨h.1,h.2.1⟩)
def A9(k:Nat)(N:Nat->Nat)(A:Nat->Int):Prop:=1<=k/\k<=8/\2<=N 0/\N 0<65536/\Pr (N 0)/\A 0=0/\ ∀i,i+1<k->qR (N (i+1)) (N i) (A (i+1))
theorem qR.prime {n f:Nat}{w:Int}(h:qR n f w)(hf:Pr f):Pr n:=by
 obtain⟨h1,h2,h3,h4,h5,h6,h7,h8,h9⟩:=h;refine a15 (f:=f) (k:=(n-1)/f) (a:=w.toNat) (by omega) hf ?_ h7 h8 ?_
 ·have:=axn (n-1) f;rw[h6]at this;rw[awT];exact this
 ·rw[<-Nat.add_sub_assoc (by omega)]at h9;exact h9
theorem A9.prime {k:Nat}{N:Nat->Nat}{A:Nat->Int}(h:A9 k N A): ∀i,i<k->Pr (N i):=by
 intro i
 induction i with
 |zero=>intro _;exact h.2.2.2.2.1
 |succ i ih=>intro hi;exact(h.2.2.2.2.2.2 i hi).prime (ih (by omega))
theorem Dm {k:Nat}{l:Nat->(Nat->Int)×Int}{N:Nat->Nat}(hl: ∀i,i<k->IsN (l i).1 (N i)):
  (A9 k N (λi=>(l i).2)->sw k l=some 0)/\(¬A9 k N (λi=>(l i).2)->sw k l=some 4):=by
 suffices h: ∃b:Bool,sw k l=some (if b then 0 else 4)/\(b=true↔A9 k N (λi=>(l i).2))by
  obtain⟨b,h1,h2⟩:=h;rw[h1];constructor
  ·intro h;rw[h2.2 h];rfl
  ·intro h;cases b
   ·rfl
   ·exact absurd (h2.1 rfl) h
 rw[Gj];unfold DU;by_cases h1:k<1
 ·refine⟨false,?_,by simp only[axi,false_iff];exact λh=>by have:=h.1;omega⟩;simp(disch:=omega) only[WW];rfl
 ·by_cases h2:8<k
  ·refine⟨false,?_,by simp only[axi,false_iff];exact λh=>by have:=h.2.1;omega⟩;simp(disch:=omega) only[WW];rfl
  ·have h0:=hl 0 (by omega);by_cases h3:N 0<9223372036854775808
   ·obtain⟨b,hb1,hb2⟩:=PG ((N 0:Nat):Int);rw[awz]at hb2;cases b with
    |false=>
     refine⟨false,?_,by simp only[axi,false_iff];exact λh=>absurd (hb2.2 ⟨by have:=h.2.2.1;omega,by have:=h.2.2.2.1;omega,h.2.2.2.2.1⟩) (by decide)⟩;simp(disch:=omega) only[WW,uD h0,awQ h3,hb1];rfl
    |true=>
     have hb3:=hb2.1 rfl;by_cases h4:(l 0).2=0
     ·simp(disch:=omega) only[WW,uD h0,awQ h3,hb1];generalize ho:au fG _=o;have L: ∃y,au fG (EN k l ((1+0:Nat):Int))=some y/\((y=AO 4/\ ¬A9 k N (λi=>(l i).2))\/(y=AP/\A9 k N (λi=>(l i).2))):=
       bH (R:=fG) (S:=Unit) (λi _=>EN k l ((1+i:Nat):Int)) (λi _=> ∀j,j<i->qR (N (j+1)) (N j) ((l (j+1)).2))
        (λy=>(y=AO 4/\ ¬A9 k N (λi=>(l i).2))\/(y=AP/\A9 k N (λi=>(l i).2))) (k-1)
        (λi hi _ hP=>by
         have hs:=RF (hl (1+i) (by omega)) (hl i (by omega)) (l (1+i)).2;by_cases hst:qR (N (1+i)) (N i) (l (1+i)).2
         ·left;refine⟨(),?_,λj hj=>?_⟩
          ·unfold fG;simp(disch:=first|omega|assumption) only[CC,WW,ayU,hs,ayG]
          ·by_cases e:j=i
           ·subst e;rw[axP j 1];exact hst
           ·exact hP j (by omega)
         ·right;refine⟨_,?_,.inl ⟨rfl,λh=>hst ?_⟩⟩
          ·unfold fG;simp(disch:=first|omega|assumption) only[CC,WW,ayU,hs]
          ·have:=h.2.2.2.2.2.2 i (by omega);rw[axP 1 i];exact this)
        (λ_ hP=>by refine⟨_,?_,.inr ⟨rfl,by omega,by omega,by omega,by omega,hb3.2.2,h4,λi hi=>hP i (by omega)⟩⟩;unfold fG;simp(disch:=omega) only[CC,WW]) () (λj hj=>by omega)
      obtain⟨y,hy,hQ⟩:=L;obtain rfl:=ho.symm.trans hy;rcases hQ with⟨rfl,hQ⟩|⟨rfl,hQ⟩
      ·exact⟨false,rfl,by simp[hQ]⟩
      ·exact⟨true,rfl,by simp[hQ]⟩
     ·refine⟨false,?_,by simp only[axi,false_iff];exact λh=>h4 h.2.2.2.2.2.1⟩;simp(disch:=omega) only[WW,uD h0,awQ h3,hb1];rfl
   ·refine⟨false,?_,by simp only[axi,false_iff];exact λh=>by have:=h.2.2.2.1;omega⟩;simp(disch:=omega) only[WW,uD h0,awG h3];rfl
theorem a4y {α:Type}(x:α):dh.Te (.fz x)=false:=rfl
theorem a1i {α:Type}(x:α):dh.isNil (.fz x)=false:=rfl
theorem a9T {α:Type}(d x:α):dh.val d (.fz x)=x:=rfl
abbrev mh:=(dh sK×dh sK)×(Nat->Int)
structure dZ(g:mh)(P Q G:Nat):Prop where
 rings: ∃r f,g.1=(.fz r,.fz f)/\l9 r P/\l9 f Q
 gen:IsN g.2 G
 pp:Pr P
 pq:Pr Q
 big:512<=Q
 g1:1<G
 gP:G<P
 order:G^Q%P=1
def PI(k:Nat)(N:Nat->Nat)(A:Nat->Int)(G:Nat):Prop:=2<=k/\A9 k N A/\512<=N (k-2)/\1<G/\G<N (k-1)/\G^N (k-2)%N (k-1)=1
theorem XU {n:Nat} :iF n<10↔n<512:=by
 constructor
 ·intro h;have h1:=J9 n;have:2^iF n<=2^9:=ax1 (by decide) (by omega);omega
 ·intro h;have:=uz (n:=n) (L:=9) h;omega
theorem Ic {k:Nat}{l:Nat->(Nat->Int)×Int}{ga:Nat->Int}{N:Nat->Nat}{G:Nat}(hl: ∀i,i<k->IsN (l i).1 (N i))(hg:IsN ga G):
  (PI k N (λi=>(l i).2) G-> ∃g,pR ((k,l),ga)=some (some g,0)/\dZ g (N (k-1)) (N (k-2)) G/\g.2=ga)/\(¬PI k N (λi=>(l i).2) G->pR ((k,l),ga)=some (none,4)):=by
 rw[MR];unfold Lf;by_cases h1:k<2
 ·refine⟨λh=>by have:=h.1;omega,λ_=>?_⟩;simp(disch:=omega) only[WW]
 ·by_cases h2:A9 k N (λi=>(l i).2)
  ·have hk8:=h2.2.1;have hp:=h2.prime (k-1) (by omega);have hq:=h2.prime (k-2) (by omega);have hPN:=hl (k-1) (by omega);have hQN:=hl (k-2) (by omega);have hst:=h2.2.2.2.2.2.2 (k-2) (by omega);rw[show k-2+1=k-1 by omega]at hst;obtain⟨r,r1,hr,_⟩:=(ni hPN).2 hst.1 hst.2.1;have hc:=(Dm hl).1 h2;generalize hP:N (k-1)=P at*;generalize hQ:N (k-2)=Q at*;have no: ∀ {p:Prop},(PI k N (λi=>(l i).2) G->p)-> ¬p-> ¬PI k N (λi=>(l i).2) G:=λh1 h2 h3=>h2 (h1 h3)
   obtain⟨o,o1,o2⟩:=oZ (n:=1) (by decide);have o2':IsN o 1:=o2;by_cases h3:Q<512
   ·
    have hb:=XU.2 h3;refine⟨λh=>by have:=h.2.2.1;omega,λ_=>?_⟩;by_cases hodd:Q%2=1
    ·obtain⟨f,f1,hf,_⟩:=(ni hQN).2 hodd (by have:=hq.1;omega);simp(disch:=omega) only[CC,WW,hc,r1,f1,jS hQN]
    ·have f1:=(ni hQN).1 (.inl (by omega));simp(disch:=omega) only[CC,WW,hc,r1,f1]
   ·have hb: ¬iF Q<10:=λh=>h3 (XU.1 h)
    have hodd:Q%2=1:=by have:=hq.tried 2 (by decide) (by omega);omega
    obtain⟨f,f1,hf,_⟩:=(ni hQN).2 hodd (by omega);by_cases h4:G=0
    ·subst h4;refine⟨λh=>by have:=h.2.2.2.1;omega,λ_=>?_⟩;simp(disch:=omega) only[CC,WW,hc,r1,f1,jS hQN,hg.isZero]
    ·by_cases h5:G=1
     ·subst h5;refine⟨λh=>by have:=h.2.2.2.1;omega,λ_=>?_⟩;simp(disch:=omega) only[CC,WW,hc,r1,f1,jS hQN,hg.isZero,o1,hg.eqb o2']
     ·by_cases h6:G<P
      ·obtain⟨z,z1,z2⟩:=qQ hr hg hQN;by_cases h7:G^Q%P=1
       ·refine⟨λ_=>?_,λh=>absurd ⟨by omega,h2,by rw[hQ];omega,by omega,by rw[hP];exact h6,by rw[hP,hQ];exact h7⟩ h⟩;simp(disch:=first|omega|assumption) only[CC,WW,hc,r1,f1,jS hQN,hg.isZero,o1,hg.eqb o2',pY hr hg,z1,z2.eqb o2'];exact⟨_,rfl,⟨⟨r,f,rfl,hr,hf⟩,hg,hp,hq,by omega,by omega,h6,h7⟩,rfl⟩
       ·refine⟨λh=>absurd (by have:=h.2.2.2.2.2;rw[hP,hQ]at this;exact this) h7,λ_=>?_⟩;simp(disch:=first|omega|assumption) only[CC,WW,hc,r1,f1,jS hQN,hg.isZero,o1,hg.eqb o2',pY hr hg,z1,z2.eqb o2']
      ·refine⟨λh=>absurd (by have:=h.2.2.2.2.1;rw[hP]at this;exact this) h6,λ_=>?_⟩;simp(disch:=first|omega|assumption) only[CC,WW,hc,r1,f1,jS hQN,hg.isZero,o1,hg.eqb o2',pY hr hg]
  ·refine⟨λh=>absurd h.2.1 h2,λ_=>?_⟩;simp(disch:=omega) only[CC,WW,(Dm hl).2 h2]
section
variable {g:mh} {P Q G:Nat}
theorem xW(h:dZ g P Q G): ∃r,aT (some g)=some (some r)/\l9 r P:=by rw[qx];unfold jK;obtain⟨r,f,e,hr,hf⟩:=h.rings;simp only[e,a4y,a1i,a9T,WW];exact⟨r,rfl,hr⟩
theorem qb(h:dZ g P Q G): ∃r,bT (some g)=some (some r)/\l9 r Q:=by rw[oD];unfold jm;obtain⟨r,f,e,hr,hf⟩:=h.rings;simp only[e,a4y,a1i,a9T,WW];exact⟨f,rfl,hf⟩
theorem Zl(h:dZ g P Q G): ∃z,dF (some g)=some z/\IsN z Q:=by rw[vg];unfold oF;obtain⟨r,r1,hr⟩:=qb h;simp only[r1,a1f hr];exact⟨_,rfl,hr.m⟩
theorem Zm(h:dZ g P Q G):qH (some g)=some g.2:=by rw[CO];rfl
end
theorem a3x {k:Nat}{l:Nat->(Nat->Int)×Int}{ga:Nat->Int}(h:2<=k)(h2:k<=9223372036854775807):a4f ((k,l),ga)=some (l (k-1)).1:=by rw[a0v];unfold a2J;simp(disch:=omega) only[CC,WW]
theorem a3y {k:Nat}{l:Nat->(Nat->Int)×Int}{ga:Nat->Int}(h:2<=k)(h2:k<=9223372036854775807):a4g ((k,l),ga)=some (l (k-2)).1:=by rw[a0w];unfold a2K;simp(disch:=omega) only[CC,WW]
theorem qR.by_pm {n f w:Nat}(h1:n%2=1)(h2:n≠1)(h3:2<=w)(h4:w<65536)(h5:f≠0)(h6:(n-1)%f=0)(h7:n<f*f)(hn:n<2^256)(hf:f<2^256)(h8:pm n 256 (pm n 256 w ((n-1)/f)) f=1)(h9:Nat.gcd (pm n 256 w ((n-1)/f)+(n-1)) n=1):qR n f (w:Int):=by have e1:(n-1)/f<2^256:=awV (axe _ _) (by omega);rw[a4x n 256 w _ e1]at h8 h9;rw[a4x n 256 _ _ hf]at h8;exact⟨h1,h2,by omega,by omega,h5,h6,h7,h8,h9⟩
open Go Go.Den Go.Num
theorem R3 {n r:Nat}(hn:2<=n)(hr:n<(r+1)*(r+1))(h: ∀d,d<r+1->2<=d->n%d≠0):Pr n:=
 I6 hn λd h2 hd=>h d (by apply ax7;intro hc;have:(r+1)*(r+1)<=d*d:=ayL (by omega) (by omega);omega) h2
abbrev a3z:=Nat->(Nat->Int)×Int
def a9U:Nat->Nat|0=>65521|1=>1966023127|_=>1055500680322183127
def Eo:a3z:=λj=>(upd (upd (upd (λ_=>((λ_=>0),0)) 0 ((upd (λ_=>0) 0 65521),0)) 1 ((upd (λ_=>0) 0 1966023127),2)) 2 ((upd (λ_=>0) 0 1055500680322183127),2)) (0+j)
def LY:Nat->Int:=(upd (λ_=>0) 0 316543771439780984)
theorem Vk: ∀i,i<3->IsN (Eo i).1 (a9U i):=λi hi=>by
 match i,hi with
 |0,_=>exact IsN.of_eq (IsN.mk (a:=(Eo 0).1) (x0:=65521) (x1:=0) (x2:=0) (x3:=0) rfl rfl rfl rfl (by decide) (by decide) (by decide) (by decide)) (by decide)
 |1,_=>exact IsN.of_eq (IsN.mk (a:=(Eo 1).1) (x0:=1966023127) (x1:=0) (x2:=0) (x3:=0) rfl rfl rfl rfl (by decide) (by decide) (by decide) (by decide)) (by decide)
 |2,_=>exact IsN.of_eq (IsN.mk (a:=(Eo 2).1) (x0:=1055500680322183127) (x1:=0) (x2:=0) (x3:=0) rfl rfl rfl rfl (by decide) (by decide) (by decide) (by decide)) (by decide)
theorem a1j:IsN LY 316543771439780984:=IsN.of_eq (IsN.mk (a:=LY) (x0:=316543771439780984) (x1:=0) (x2:=0) (x3:=0) rfl rfl rfl rfl (by decide) (by decide) (by decide) (by decide)) (by decide)
theorem a1k:Pr 65521:=R3 (r:=255) (by decide) (by decide) (by decide+kernel)
theorem a1l:qR 1966023127 65521 ((2:Nat):Int):=qR.by_pm (by decide) (by decide) (by decide) (by decide) (by decide) (by decide) (by decide) (by decide) (by decide) (by decide+kernel) (by decide+kernel)
theorem a1m:qR 1055500680322183127 1966023127 ((2:Nat):Int):=qR.by_pm (by decide) (by decide) (by decide) (by decide) (by decide) (by decide) (by decide) (by decide) (by decide) (by decide+kernel) (by decide+kernel)
theorem a5L(b e m:Nat)(hb:b=316543771439780984)(he:e=1966023127)(hm:m=1055500680322183127):b^e%m=1:=by rw[<-a4x m 256 b e (by subst he;decide)];subst hb he hm;decide+kernel
theorem a1n:PI 3 a9U (λi=>(Eo i).2) 316543771439780984:=by
 refine⟨by decide,⟨by decide,by decide,by decide,by decide,a1k,rfl,λi hi=>?_⟩,by decide,by decide,by decide,a5L _ _ _ rfl rfl rfl⟩
 match i,hi with
 |0,_=>exact a1l
 |1,_=>exact a1m
theorem KG:CQ=some ((3,Eo),LY):=by rw[Nh];rfl
theorem a5M: ∃g,pR ((3,Eo),LY)=some (some g,0)/\dZ g 1055500680322183127 1966023127 316543771439780984/\g.2=LY:=(Ic Vk a1j).1 a1n
def a9V:Nat->Nat|0=>64817|1=>1815135269|_=>487269091447081429
def Ep:a3z:=λj=>(upd (upd (upd (λ_=>((λ_=>0),0)) 0 ((upd (λ_=>0) 0 64817),0)) 1 ((upd (λ_=>0) 0 1815135269),2)) 2 ((upd (λ_=>0) 0 487269091447081429),2)) (0+j)
def LZ:Nat->Int:=(upd (λ_=>0) 0 54624333139524128)
theorem Vl: ∀i,i<3->IsN (Ep i).1 (a9V i):=λi hi=>by
 match i,hi with
 |0,_=>exact IsN.of_eq (IsN.mk (a:=(Ep 0).1) (x0:=64817) (x1:=0) (x2:=0) (x3:=0) rfl rfl rfl rfl (by decide) (by decide) (by decide) (by decide)) (by decide)
 |1,_=>exact IsN.of_eq (IsN.mk (a:=(Ep 1).1) (x0:=1815135269) (x1:=0) (x2:=0) (x3:=0) rfl rfl rfl rfl (by decide) (by decide) (by decide) (by decide)) (by decide)
 |2,_=>exact IsN.of_eq (IsN.mk (a:=(Ep 2).1) (x0:=487269091447081429) (x1:=0) (x2:=0) (x3:=0) rfl rfl rfl rfl (by decide) (by decide) (by decide) (by decide)) (by decide)
theorem a1o:IsN LZ 54624333139524128:=IsN.of_eq (IsN.mk (a:=LZ) (x0:=54624333139524128) (x1:=0) (x2:=0) (x3:=0) rfl rfl rfl rfl (by decide) (by decide) (by decide) (by decide)) (by decide)
theorem a1p:Pr 64817:=R3 (r:=255) (by decide) (by decide) (by decide+kernel)
theorem a1q:qR 1815135269 64817 ((2:Nat):Int):=qR.by_pm (by decide) (by decide) (by decide) (by decide) (by decide) (by decide) (by decide) (by decide) (by decide) (by decide+kernel) (by decide+kernel)
theorem a1r:qR 487269091447081429 1815135269 ((2:Nat):Int):=qR.by_pm (by decide) (by decide) (by decide) (by decide) (by decide) (by decide) (by decide) (by decide) (by decide) (by decide+kernel) (by decide+kernel)
theorem a5N(b e m:Nat)(hb:b=54624333139524128)(he:e=1815135269)(hm:m=487269091447081429):b^e%m=1:=by rw[<-a4x m 256 b e (by subst he;decide)];subst hb he hm;decide+kernel
theorem a1s:PI 3 a9V (λi=>(Ep i).2) 54624333139524128:=by
 refine⟨by decide,⟨by decide,by decide,by decide,by decide,a1p,rfl,λi hi=>?_⟩,by decide,by decide,by decide,a5N _ _ _ rfl rfl rfl⟩
 match i,hi with
 |0,_=>exact a1q
 |1,_=>exact a1r
theorem X5:IV=some ((3,Ep),LZ):=by rw[Ni];rfl
theorem a5O: ∃g,pR ((3,Ep),LZ)=some (some g,0)/\dZ g 487269091447081429 1815135269 54624333139524128/\g.2=LZ:=(Ic Vl a1o).1 a1s
section
variable {g:mh} {P Q G:Nat} {a b:Nat->Int} {x y:Nat}
theorem X6(h:dZ g P Q G)(ha:IsN a x):Gl (some g) a=some (decide (x<Q)):=by rw[Qs];unfold IC;obtain⟨r,r1,hr⟩:=qb h;simp only[r1,pY hr ha]
theorem Vm(h:dZ g P Q G)(ha:IsN a x)(hb:IsN b y): ∃z,CP (some g) a b=some z/\IsN z (x^y%P):=by rw[MU];unfold DV;obtain⟨r,r1,hr⟩:=xW h;obtain⟨z,z1,z2⟩:=qQ hr ha hb;simp only[r1,z1];exact⟨z,rfl,z2⟩
theorem X7(h:dZ g P Q G)(hb:IsN b y): ∃z,Gn (some g) b=some z/\IsN z (G^y%P):=by rw[Qt];unfold IE;obtain⟨z,z1,z2⟩:=Vm h h.gen hb;simp only[Zm h,z1];exact⟨z,rfl,z2⟩
theorem PK(h:dZ g P Q G){n:Nat}(hn:n<=64){bases exps:Nat->(Nat->Int)}{B E:Nat->Nat}(hB: ∀i,i<n->IsN (bases i) (B i))(hE: ∀i,i<n->IsN (exps i) (E i)):
  ∃z,AQ (some g) n bases n exps=some (z,0)/\IsN z (jf (λi=>B i^E i) n%P):=by
 rw[Gm];unfold yJ;obtain⟨r,r1,hr⟩:=xW h;obtain⟨z,z1,z2⟩:=Ib hr hn hB hE;simp only[r1,z1];exact⟨z,rfl,z2⟩
theorem X8(h:dZ g P Q G)(ha:IsN a x):MV (some g) a=some (decide (x≠0/\x<P/\x^Q%P=1)):=by
 rw[Qu];unfold IG;obtain⟨r,r1,hr⟩:=xW h;obtain⟨q,q1,q2⟩:=Zl h;obtain⟨o,o1,o2⟩:=oZ (n:=1) (by decide);have o2':IsN o 1:=o2;obtain⟨z,z1,z2⟩:=qQ hr ha q2;by_cases h0:x=0
 ·simp(disch:=omega) only[WW,ha.isZero,h0,ne_eq,axu,false_and]
 ·by_cases h1:x<P
  ·simp(disch:=omega) only[WW,ha.isZero,r1,pY hr ha,q1,z1,o1,z2.eqb o2',h0,h1,ne_eq,not_false_eq_true,true_and]
  ·simp(disch:=omega) only[WW,ha.isZero,r1,pY hr ha,h1,false_and,and_false]
end
open Go Go.Den Go.Num
theorem a1t {a:Nat->Int}{x q:Nat}(ha:IsN a x)(hq:0<q)(hq2:q<9223372036854775808):YT a (q:Int)=some ((x%q:Nat):Int):=by rw[XJ];unfold YS;obtain⟨m,m1,m2⟩:=El (n:=(q:Int)) (by omega);obtain⟨r,r1,r2⟩:=X3 ha m2 (by omega);rw[awz]at r2;have hlt:=awZ x hq;simp only[m1,r1,j6 r2,awQ (show x%q<9223372036854775808 by omega)]
theorem a1u {k:Nat}{l:Nat->(Nat->Int)×Int}{ga:Nat->Int}{P Q G:Nat}(h:2<=k)(h2:k<=9223372036854775807)(hP:IsN (l (k-1)).1 P)(hQ:IsN (l (k-2)).1 Q)(hG:IsN ga G)(p63:P<9223372036854775808)(q63:Q<9223372036854775808)(g63:G<9223372036854775808):
  Ub ((k,l),ga)=some ((P:Int),(Q:Int),(G:Int)):=by
 rw[XK];unfold YU;simp only[a3x h h2,a3y h h2,j6 hP,j6 hQ,j6 hG,awQ p63,awQ q63,awQ g63]
section
variable {P Q G:Nat}
theorem Er {a:Nat}{e:Nat->Int}{E:Nat}(he:IsN e E)(hP:0<P)(p63:P<9223372036854775808):IW ((P:Int),(Q:Int),(G:Int)) (a:Int) e=some ((a^E%P:Nat):Int):=by rw[Ud];unfold Uc;simp only[Vj he hP p63]
theorem Zn {a b:Nat}(hP:0<P)(p63:P<9223372036854775808):RV ((P:Int),(Q:Int),(G:Int)) (a:Int) (b:Int)=some ((a*b%P:Nat):Int):=by rw[Uf];unfold Ue;simp only[A8 hP p63]
theorem a1v {a:Nat->Int}{x:Nat}(ha:IsN a x)(hP:0<P)(p63:P<9223372036854775808)(q63:Q<9223372036854775808):YW ((P:Int),(Q:Int),(G:Int)) a=some (decide (x≠0/\x<P/\x^Q%P=1)):=by
 rw[XL];unfold YV;obtain⟨m,m1,m2⟩:=El (n:=(Q:Int)) (by omega);rw[awz]at m2;by_cases h63:x<9223372036854775808
 ·by_cases h0:x=0
  ·subst h0;simp(disch:=omega) only[WW,j6 ha,awQ h63,ne_eq,axu,false_and]
  ·by_cases h1:x<P
   ·simp(disch:=omega) only[WW,j6 ha,awQ h63,m1,Er m2 hP p63];simp only[awr];rw[axg];simp only[ayD,awI,ne_eq,h0,not_false_eq_true,h1,true_and];omega
   ·simp(disch:=omega) only[WW,j6 ha,awQ h63,h1,false_and,and_false]
 ·simp(disch:=omega) only[WW,j6 ha,awG h63,show¬x<P by omega,false_and,and_false]
end
open Go Go.Den Go.Num
structure a3A(k:Nat)(l:a3z)(ga:Nat->Int)(g:mh)(P Q G:Nat):Prop where
 made:pR ((k,l),ga)=some (some g,0)
 group:dZ g P Q G
 k2:2<=k
 k8:k<=8
 p:IsN (l (k-1)).1 P
 q:IsN (l (k-2)).1 Q
 gen:IsN ga G
 gen2:g.2=ga
theorem Vn: ∃g,a3A 3 Eo LY g 1055500680322183127 1966023127 316543771439780984:=by obtain⟨g,g1,g2,g3⟩:=a5M;exact⟨g,g1,g2,by decide,by decide,Vk 2 (by decide),Vk 1 (by decide),a1j,g3⟩
theorem a3B: ∃g,a3A 3 Ep LZ g 487269091447081429 1815135269 54624333139524128:=by obtain⟨g,g1,g2,g3⟩:=a5O;exact⟨g,g1,g2,by decide,by decide,Vl 2 (by decide),Vl 1 (by decide),a1o,g3⟩
theorem X9(which:Int): ∃k l ga g P Q G,CR which=some ((k,l),ga)/\a3A k l ga g P Q G/\P<4611686018427387904/\Q<2147483648:=by
 rw[QB];unfold P9;have hm:ay .and .i64 which 1=which%(2^1:Nat):=a4r (k:=1) (by decide);by_cases h:which%2=1
 ·have h1:ay .and .i64 which 1=1:=by rw[hm];exact h
  simp(disch:=omega) only[WW,h1,X5];obtain⟨g,hg⟩:=a3B;exact⟨3,Ep,LZ,g,_,_,_,rfl,hg,by decide,by decide⟩
 ·have h1:ay .and .i64 which 1=0:=by rw[hm];omega
  simp(disch:=omega) only[WW,h1,KG];obtain⟨g,hg⟩:=Vn;exact⟨3,Eo,LY,g,_,_,_,rfl,hg,by decide,by decide⟩
def Bn(g:Option mh):Prop:=g=none\/ ∃a,g=some ((.nil,.nil),a)
theorem Bn.Ring {g:Option mh}(h:Bn g):aT g=some none:=by rw[qx];unfold jK;rcases h with rfl|⟨a,rfl⟩<;>rfl
theorem Bn.Field {g:Option mh}(h:Bn g):bT g=some none:=by rw[oD];unfold jm;rcases h with rfl|⟨a,rfl⟩<;>rfl
theorem R4:LX none:=.inl rfl
theorem Bn.P {g:Option mh}(h:Bn g):JK g=some λ_=>0:=by rw[OZ];unfold zD;rcases g with _|g<;>simp only[h.Ring,R4.M]
theorem Bn.Q {g:Option mh}(h:Bn g):dF g=some λ_=>0:=by rw[vg];unfold oF;rcases g with _|g<;>simp only[h.Field,R4.M]
section
variable {g:mh} {P Q G:Nat}
end
end Go.Pl
