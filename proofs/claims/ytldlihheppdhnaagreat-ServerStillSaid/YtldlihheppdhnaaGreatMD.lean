/-
 Primes, groups, the field.
-/
import Derived.Test.YtldlihheppdhnaaGreatMA
import Derived.Test.YtldlihheppdhnaaGreatMC
import Derived.Test.YtldlihheppdhnaaGreatPlA
set_option linter.unusedVariables false
namespace Go.Num
section
variable {q:Nat} [NeZero q]
def aiA(f:Nat→Fin q):Nat→Fin q
 |0=>0
 |n+1=>aiA f n+f n
def pw(x:Fin q):Nat→Fin q
 |0=>1
 |n+1=>pw x n*x
def ev(f:Nat→Fin q)(n:Nat)(x:Fin q):Fin q:=aiA (fun i=>f i*pw x i) n
def conv(f g:Nat→Fin q)(k:Nat):Fin q:=aiA (fun i=>f i*g (k-i)) (k+1)
def quo(f:Nat→Fin q)(x:Fin q):Nat→Nat→Fin q
 |0,_=>0
 |n+1,i=>quo f x n i+(if i<n then f n*pw x (n-1-i)else 0)
end
def pm(m:Nat):Nat→Nat→Nat→Nat
 |0,_,_=>1%m
 |k+1,b,e=>if e%2=1 then b*pm m k (b*b%m) (e/2)%m else pm m k (b*b%m) (e/2)
theorem a4v(m:Nat): ∀k b e,e<2^k→pm m k b e=b^e%m:=by
 intro k
 induction k with
 |zero=>
  intro b e h; obtain rfl:e=0:=by simpa using h
  rw[pm,ayt]
 |succ k ih=>
  intro b e h
  have h2:e/2<2^k:=by rw[ays]at h; omega
  have h3:(b*b%m)^(e/2)%m=b^(2*(e/2))%m:=by
   rw[←Nat.pow_mod,ayU,Nat.pow_two]
  rw[pm,ih _ _ h2]
  split
  ·rename_i ho
   rw[h3,Nat.mul_mod_mod]
   congr 1
   conv=>rhs; rw[show e=2*(e/2)+1 by omega]
   rw[ays,axi]
  ·rename_i ho
   rw[h3,show 2*(e/2)=e by omega]
theorem Kg {P Q G:Nat}(hP:2≤P)(h:G^Q%P=1)(a:Nat):G^a%P=G^(a%Q)%P:=by
 have h1:=axI a Q
 conv=>lhs; rw[←h1]
 rw[ayg,ayF,QG hP h,ayf,azy]
theorem a5P {P Q G:Nat}(hP:Pr P)(hQ:Pr Q)(h1:1<G)(h2:G<P)(h:G^Q%P=1)(a b:Nat):G^a%P=G^b%P↔a%Q=b%Q:=by
 constructor
 ·have key: ∀a b,a≤b→G^a%P=G^b%P→a%Q=b%Q:=by
   intro a b hab e
   have hc:Nat.Coprime P (G^a):=by
    apply Nat.Coprime.pow_right
    apply hP.coprime
    intro hd
    have:=azD (by omega) hd
    omega
   have e2:(G^a*1)%P=(G^a*G^(b-a))%P:=by
    rw[ayC,←ayg,show a+(b-a)=b by omega]; exact e
   have e3:=Ld hc e2
   rw[awX hP.1]at e3
   have e4:=XG hP.1 hQ h (by rw[awX h2]; omega) e3.symm
   exact(Ht e4 hab).symm
  intro e
  rcases Nat.le_total a b with hab|hab
  ·exact key a b hab e
  ·exact(key b a hab e.symm).symm
 ·intro e
  rw[Kg hP.1 h a,Kg hP.1 h b,e]
section
variable {q:Nat} [NeZero q]
end
end Go.Num
set_option linter.unusedSimpArgs false
namespace Go.Pl
open Go Go.Den Go.Num
theorem F9 {n:Nat}(hn:2≤n):Pr n↔ ∀d,2≤d→d*d≤n→n%d≠0:=by
 constructor
 ·intro h d h2 hd
  refine h.tried d h2 ?_
  have:2*d≤d*d:=axg _ h2
  omega
 ·exact Hu hn
theorem P7(n:Int): ∃b,AB n=some b∧(b=true↔2≤n∧n<65536∧Pr n.toNat):=by
 rw[Gn]; unfold DL
 by_cases h2:n<2
 ·refine⟨false,?_,by simp; omega⟩
  simp(disch:=omega) only[WW]
 ·by_cases h3:65536≤n
  ·refine⟨false,?_,by simp; omega⟩
   simp(disch:=omega) only[WW]
  ·simp(disch:=omega) only[WW]
   obtain⟨N,rfl⟩: ∃N:Nat,n=(N:Int):=⟨n.toNat,by omega⟩
   generalize ho:aB dN _=o
   have hN2:2≤N:=by omega
   have goal: ∃y,aB dN (EG (N:Int) true (N:Int) ((0:Nat):Int))=some y∧ ∃b,y=AA b∧(b=true↔Pr N):=
    kH (R:=dN) (S:=Unit) (fun d _=>EG (N:Int) true (N:Int) (d:Int)) (fun d _=> ∀k,2≤k→k<d→N%k≠0)
     (fun y=> ∃b,y=AA b∧(b=true↔Pr N)) N
     (fun d hd _ hP=>by
      by_cases c2:d<2
      ·left
       refine⟨(),?_,fun k h1 h2=>by omega⟩
       unfold dN
       simp(disch:=omega) only[CC,WW]
      ·have hdd:d*d<65536*65536:=Nat.mul_lt_mul'' (by omega) (by omega)
       by_cases c3:N<d*d
       ·right
        have hp:Pr N:=(F9 hN2).2 fun k h1 h2=>hP k h1 (by
         apply axp
         intro hc
         have:d*d≤k*k:=azg (by omega) (by omega)
         omega)
        refine⟨_,?_,true,rfl,by simp only[hp]⟩
        unfold dN
        simp(disch:=omega) only[CC,WW]
       ·by_cases c4:N%d=0
        ·right
         refine⟨_,?_,false,rfl,?_⟩
         ·unfold dN
          simp(disch:=omega) only[CC,WW,c4]
         ·simp only[axA,false_iff]
          exact fun hp=>hp.tried d (by omega) hd c4
        ·left
         refine⟨(),?_,fun k h1 h2=>?_⟩
         ·unfold dN
          generalize hm:N%d=m at c4
          simp(disch:=omega) only[CC,WW,hm]
         ·by_cases e:k=d
          ·subst e; exact c4
          ·exact hP k h1 (by omega))
     (fun _ hP=>by
      have hp:Pr N:=(F9 hN2).2 fun k h1 h2=>hP k h1 (by
       have:2*k≤k*k:=axg _ h1
       omega)
      refine⟨_,?_,true,rfl,by simp only[hp]⟩
      unfold dN
      simp(disch:=omega) only[CC,WW]) () (fun k h1 h2=>by omega)
   obtain⟨y,hy,b,rfl,hb⟩:=goal
   obtain rfl:=ho.symm.trans hy
   exact⟨b,rfl,by rw[hb,axd]; exact⟨fun h=>⟨by omega,by omega,h⟩,fun h=>h.2.2⟩⟩
def qA(n f:Nat)(w:Int):Prop:=n%2=1∧n≠1∧2≤w∧w<65536∧f≠0∧(n-1)%f=0∧n<f*f∧(w.toNat^((n-1)/f)%n)^f%n=1∧Nat.gcd (w.toNat^((n-1)/f)%n+(n-1)) n=1
instance (n f:Nat) (w:Int):Decidable (qA n f w):=by unfold qA; exact inferInstance
theorem Zn(x n:Nat):Nat.gcd (x%n) n=Nat.gcd x n:=by
 rw[Nat.gcd_comm x n,Nat.gcd_rec n x]
theorem a13 {lo hi:Nat→Int} {n:Nat→Int} {N F:Nat}(h1:IsN lo (F*F%2^256))(h2:IsN hi (F*F/2^256))(hn:IsN n N):
  (F*F/2^256=0→(N<F*F↔ ¬Db (F*F%2^256) N≤0))∧(F*F/2^256≠0→N<F*F):=by
 have hN:=hn.1
 constructor
 ·intro h
  have:F*F<2^256:=by
   rcases Nat.div_eq_zero_iff.1 h with h|h
   ·exact absurd h (by decide)
   ·exact h
  rw[awX this]
  unfold Db
  generalize F*F=Q at*
  by_cases c1:Q<N
  ·rw[ax1 c1]; constructor
   ·intro h; omega
   ·intro h; exact absurd (by decide) h
  ·rw[awU c1]
   by_cases c2:N<Q
   ·rw[ax1 c2]; simp[c2]
   ·rw[awU c2]; simp[c2]
 ·intro h
  generalize F*F=Q at*
  apply axp
  intro hc
  exact h (axX (by omega))
theorem Ro {n f:Nat→Int} {N F:Nat}(hn:IsN n N)(hf:IsN f F)(w:Int):DN n f w=some (decide (qA N F w)):=by
 rw[JB]; unfold Gp
 have no: ¬qA N F w→some false=some (decide (qA N F w)):=fun h=>by rw[ax9 h]
 by_cases h1:N%2=1∧N≠1
 ·obtain⟨r,r1,hr,_⟩:=(mo hn).2 h1.1 h1.2
  have hN1:=hr.one
  by_cases h2:w<2
  ·simp(disch:=omega) only[WW,r1]
   exact no (fun h=>by have:=h.2.2.1; omega)
  ·by_cases h3:65536≤w
   ·simp(disch:=omega) only[WW,r1]
    exact no (fun h=>by have:=h.2.2.2.1; omega)
   ·by_cases h4:F=0
    ·simp(disch:=omega) only[WW,r1,hf.isZero]
     exact no (fun h=>h.2.2.2.2.1 h4)
    ·obtain⟨o,o1,o2⟩:=nQ (n:=1) (by decide)
     have o2':IsN o 1:=o2
     obtain⟨l,l1,l2⟩:=tZ hn o2'
     have hNl:=hn.1
     have l3:IsN l (N-1):=l2.of_eq (by omega)
     obtain⟨k,q,d1,d2,d3⟩:=Ke l3 hf (by omega)
     obtain⟨lo,hi,m1,m2,m3⟩:=Kc hf hf
     have sq:=a13 m2 m3 hn
     by_cases h5:(N-1)%F=0
     ·obtain⟨W,hW1,hW2⟩:=nQ (n:=w) (by omega)
      obtain⟨p,p1,p2⟩:=qz hr hW2 d2
      obtain⟨e,e1,e2⟩:=qz hr p2 hf
      obtain⟨s,s1,s2⟩:=OZ p2 o2' hn hr.pos
      obtain⟨g,g1,g2⟩:=WK s2 hn
      rw[awX hN1,Zn]at g2
      by_cases h6:N<F*F
      ·by_cases h7:(w.toNat^((N-1)/F)%N)^F%N=1
       ·have hfin:decide (Nat.gcd (w.toNat^((N-1)/F)%N+(N-1)) N=1)=decide (qA N F w):=by
         rw[ay6]
         exact⟨fun h=>⟨h1.1,h1.2,by omega,by omega,h4,h5,h6,h7,h⟩,fun h=>h.2.2.2.2.2.2.2.2⟩
        by_cases h8:F*F/2^256=0
        ·have h9:=(sq.1 h8).1 h6
         simp(disch:=first|omega|assumption) only[WW,r1,hf.isZero,o1,l1,d1,m1,d3.isZero,m3.isZero,fJ m2 hn,bG h9,hW1,p1,e1,e2.eqb o2',s1,g1,g2.eqb o2',hfin]
        ·simp(disch:=first|omega|assumption) only[WW,r1,hf.isZero,o1,l1,d1,m1,d3.isZero,m3.isZero,hW1,p1,e1,e2.eqb o2',s1,g1,g2.eqb o2',hfin]
       ·have hno:=no (fun h=>h7 h.2.2.2.2.2.2.2.1)
        by_cases h8:F*F/2^256=0
        ·have h9:=(sq.1 h8).1 h6
         simp(disch:=first|omega|assumption) only[WW,r1,hf.isZero,o1,l1,d1,m1,d3.isZero,m3.isZero,fJ m2 hn,bG h9,hW1,p1,e1,e2.eqb o2']
         exact hno
        ·simp(disch:=first|omega|assumption) only[WW,r1,hf.isZero,o1,l1,d1,m1,d3.isZero,m3.isZero,hW1,p1,e1,e2.eqb o2']
         exact hno
      ·have h8:F*F/2^256=0:=axp fun h=>h6 (sq.2 h)
       have h9:Db (F*F%2^256) N≤0:=axp fun h=>h6 ((sq.1 h8).2 h)
       simp(disch:=first|omega|assumption) only[WW,r1,hf.isZero,o1,l1,d1,m1,d3.isZero,m3.isZero,fJ m2 hn,dM h9]
       exact no (fun h=>h6 h.2.2.2.2.2.2.1)
     ·simp(disch:=first|omega|assumption) only[WW,r1,hf.isZero,o1,l1,d1,m1,d3.isZero]
      exact no (fun h=>h5 h.2.2.2.2.2.1)
 ·have r1:=(mo hn).1 (by omega)
  simp(disch:=omega) only[WW,r1]
  exact no (fun h=>h1 ⟨h.1,h.2.1⟩)
def A8(k:Nat)(N:Nat→Nat)(A:Nat→Int):Prop:=1≤k∧k≤8∧2≤N 0∧N 0<65536∧Pr (N 0)∧A 0=0∧ ∀i,i+1<k→qA (N (i+1)) (N i) (A (i+1))
theorem qA.prime {n f:Nat} {w:Int}(h:qA n f w)(hf:Pr f):Pr n:=by
 obtain⟨h1,h2,h3,h4,h5,h6,h7,h8,h9⟩:=h
 refine a0R (f:=f) (k:=(n-1)/f) (a:=w.toNat) (by omega) hf ?_ h7 h8 ?_
 ·have:=axI (n-1) f
  rw[h6]at this
  rw[axi]; exact this
 ·rw[←Nat.add_sub_assoc (by omega)]at h9; exact h9
theorem A8.prime {k:Nat} {N:Nat→Nat} {A:Nat→Int}(h:A8 k N A): ∀i,i<k→Pr (N i):=by
 intro i
 induction i with
 |zero=>intro _; exact h.2.2.2.2.1
 |succ i ih=>intro hi; exact(h.2.2.2.2.2.2 i hi).prime (ih (by omega))
theorem Dc {k:Nat} {l:Nat→(Nat→Int)×Int} {N:Nat→Nat}(hl: ∀i,i<k→IsN (l i).1 (N i)):
  (A8 k N (fun i=>(l i).2)→rM k l=some 0)∧(¬A8 k N (fun i=>(l i).2)→rM k l=some 4):=by
 suffices h: ∃b:Bool,rM k l=some (if b then 0 else 4)∧(b=true↔A8 k N (fun i=>(l i).2))by
  obtain⟨b,h1,h2⟩:=h
  rw[h1]
  constructor
  ·intro h; rw[h2.2 h]; rfl
  ·intro h
   cases b
   ·rfl
   ·exact absurd (h2.1 rfl) h
 rw[Gq]; unfold DR
 by_cases h1:k<1
 ·refine⟨false,?_,by simp only[axA,false_iff]; exact fun h=>by have:=h.1; omega⟩
  simp(disch:=omega) only[WW]; rfl
 ·by_cases h2:8<k
  ·refine⟨false,?_,by simp only[axA,false_iff]; exact fun h=>by have:=h.2.1; omega⟩
   simp(disch:=omega) only[WW]; rfl
  ·have h0:=hl 0 (by omega)
   by_cases h3:N 0<9223372036854775808
   ·obtain⟨b,hb1,hb2⟩:=P7 ((N 0:Nat):Int)
    rw[axd]at hb2
    cases b with
    |false=>
     refine⟨false,?_,by simp only[axA,false_iff]; exact fun h=>absurd (hb2.2 ⟨by have:=h.2.2.1; omega,by have:=h.2.2.2.1; omega,h.2.2.2.2.1⟩) (by decide)⟩
     simp(disch:=omega) only[WW,tY h0,ax1 h3,hb1]; rfl
    |true=>
     have hb3:=hb2.1 rfl
     by_cases h4:(l 0).2=0
     ·simp(disch:=omega) only[WW,tY h0,ax1 h3,hb1]
      generalize ho:aB fP _=o
      have L: ∃y,aB fP (EI k l ((1+0:Nat):Int))=some y∧((y=AJ 4∧ ¬A8 k N (fun i=>(l i).2))∨(y=AL∧A8 k N (fun i=>(l i).2))):=
       kH (R:=fP) (S:=Unit) (fun i _=>EI k l ((1+i:Nat):Int)) (fun i _=> ∀j,j<i→qA (N (j+1)) (N j) ((l (j+1)).2))
        (fun y=>(y=AJ 4∧ ¬A8 k N (fun i=>(l i).2))∨(y=AL∧A8 k N (fun i=>(l i).2))) (k-1)
        (fun i hi _ hP=>by
         have hs:=Ro (hl (1+i) (by omega)) (hl i (by omega)) (l (1+i)).2
         by_cases hst:qA (N (1+i)) (N i) (l (1+i)).2
         ·left
          refine⟨(),?_,fun j hj=>?_⟩
          ·unfold fP
           simp(disch:=first|omega|assumption) only[CC,WW,azr,hs,azb]
          ·by_cases e:j=i
           ·subst e; rw[aym j 1]; exact hst
           ·exact hP j (by omega)
         ·right
          refine⟨_,?_,.inl ⟨rfl,fun h=>hst ?_⟩⟩
          ·unfold fP
           simp(disch:=first|omega|assumption) only[CC,WW,azr,hs]
          ·have:=h.2.2.2.2.2.2 i (by omega)
           rw[aym 1 i]; exact this)
        (fun _ hP=>by
         refine⟨_,?_,.inr ⟨rfl,by omega,by omega,by omega,by omega,hb3.2.2,h4,fun i hi=>hP i (by omega)⟩⟩
         unfold fP
         simp(disch:=omega) only[CC,WW]) () (fun j hj=>by omega)
      obtain⟨y,hy,hQ⟩:=L
      obtain rfl:=ho.symm.trans hy
      rcases hQ with⟨rfl,hQ⟩|⟨rfl,hQ⟩
      ·exact⟨false,rfl,by simp[hQ]⟩
      ·exact⟨true,rfl,by simp[hQ]⟩
     ·refine⟨false,?_,by simp only[axA,false_iff]; exact fun h=>h4 h.2.2.2.2.2.1⟩
      simp(disch:=omega) only[WW,tY h0,ax1 h3,hb1]; rfl
   ·refine⟨false,?_,by simp only[axA,false_iff]; exact fun h=>by have:=h.2.2.2.1; omega⟩
    simp(disch:=omega) only[WW,tY h0,awU h3]; rfl
theorem a4w {α:Type}(x:α):aM.uQ (.fz x)=false:=rfl
theorem a14 {α:Type}(x:α):aM.isNil (.fz x)=false:=rfl
theorem a9J {α:Type}(d x:α):aM.val d (.fz x)=x:=rfl
abbrev rA:=(aM yt×aM yt)×(Nat→Int)
structure dF(g:rA)(P Q G:Nat):Prop where
 rings: ∃r f,g.1=(.fz r,.fz f)∧kI r P∧kI f Q
 gen:IsN g.2 G
 pp:Pr P
 pq:Pr Q
 big:512≤Q
 g1:1<G
 gP:G<P
 order:G^Q%P=1
theorem dF.qpos {g:rA} {P Q G:Nat}(h:dF g P Q G):0<Q:=h.pq.pos
theorem dF.ppos {g:rA} {P Q G:Nat}(h:dF g P Q G):0<P:=h.pp.pos
def P8(k:Nat)(N:Nat→Nat)(A:Nat→Int)(G:Nat):Prop:=2≤k∧A8 k N A∧512≤N (k-2)∧1<G∧G<N (k-1)∧G^N (k-2)%N (k-1)=1
theorem XO {n:Nat} :iq n<10↔n<512:=by
 constructor
 ·intro h
  have h1:=IK n
  have:2^iq n≤2^9:=axo (by decide) (by omega)
  omega
 ·intro h
  have:=tX (n:=n) (L:=9) h
  omega
theorem HV {k:Nat} {l:Nat→(Nat→Int)×Int} {ga:Nat→Int} {N:Nat→Nat} {G:Nat}(hl: ∀i,i<k→IsN (l i).1 (N i))(hg:IsN ga G):
  (P8 k N (fun i=>(l i).2) G→ ∃g,rO ((k,l),ga)=some (some g,0)∧dF g (N (k-1)) (N (k-2)) G∧g.2=ga)∧(¬P8 k N (fun i=>(l i).2) G→rO ((k,l),ga)=some (none,4)):=by
 rw[Mw]; unfold KN
 by_cases h1:k<2
 ·refine⟨fun h=>by have:=h.1; omega,fun _=>?_⟩
  simp(disch:=omega) only[WW]
 ·by_cases h2:A8 k N (fun i=>(l i).2)
  ·have hk8:=h2.2.1
   have hp:=h2.prime (k-1) (by omega)
   have hq:=h2.prime (k-2) (by omega)
   have hPN:=hl (k-1) (by omega)
   have hQN:=hl (k-2) (by omega)
   have hst:=h2.2.2.2.2.2.2 (k-2) (by omega)
   rw[show k-2+1=k-1 by omega]at hst
   obtain⟨r,r1,hr,_⟩:=(mo hPN).2 hst.1 hst.2.1
   have hc:=(Dc hl).1 h2
   generalize hP:N (k-1)=P at*
   generalize hQ:N (k-2)=Q at*
   have no: ∀ {p:Prop},(P8 k N (fun i=>(l i).2) G→p)→ ¬p→ ¬P8 k N (fun i=>(l i).2) G:=fun h1 h2 h3=>h2 (h1 h3)
   obtain⟨o,o1,o2⟩:=nQ (n:=1) (by decide)
   have o2':IsN o 1:=o2
   by_cases h3:Q<512
   ·
    have hb:=XO.2 h3
    refine⟨fun h=>by have:=h.2.2.1; omega,fun _=>?_⟩
    by_cases hodd:Q%2=1
    ·obtain⟨f,f1,hf,_⟩:=(mo hQN).2 hodd (by have:=hq.1; omega)
     simp(disch:=omega) only[CC,WW,hc,r1,f1,jy hQN]
    ·have f1:=(mo hQN).1 (.inl (by omega))
     simp(disch:=omega) only[CC,WW,hc,r1,f1]
   ·have hb: ¬iq Q<10:=fun h=>h3 (XO.1 h)
    have hodd:Q%2=1:=by
     have:=hq.tried 2 (by decide) (by omega)
     omega
    obtain⟨f,f1,hf,_⟩:=(mo hQN).2 hodd (by omega)
    by_cases h4:G=0
    ·subst h4
     refine⟨fun h=>by have:=h.2.2.2.1; omega,fun _=>?_⟩
     simp(disch:=omega) only[CC,WW,hc,r1,f1,jy hQN,hg.isZero]
    ·by_cases h5:G=1
     ·subst h5
      refine⟨fun h=>by have:=h.2.2.2.1; omega,fun _=>?_⟩
      simp(disch:=omega) only[CC,WW,hc,r1,f1,jy hQN,hg.isZero,o1,hg.eqb o2']
     ·by_cases h6:G<P
      ·obtain⟨z,z1,z2⟩:=qz hr hg hQN
       by_cases h7:G^Q%P=1
       ·refine⟨fun _=>?_,fun h=>absurd ⟨by omega,h2,by rw[hQ]; omega,by omega,by rw[hP]; exact h6,by rw[hP,hQ]; exact h7⟩ h⟩
        simp(disch:=first|omega|assumption) only[CC,WW,hc,r1,f1,jy hQN,hg.isZero,o1,hg.eqb o2',oI hr hg,z1,z2.eqb o2']
        exact⟨_,rfl,⟨⟨r,f,rfl,hr,hf⟩,hg,hp,hq,by omega,by omega,h6,h7⟩,rfl⟩
       ·refine⟨fun h=>absurd (by have:=h.2.2.2.2.2; rw[hP,hQ]at this; exact this) h7,fun _=>?_⟩
        simp(disch:=first|omega|assumption) only[CC,WW,hc,r1,f1,jy hQN,hg.isZero,o1,hg.eqb o2',oI hr hg,z1,z2.eqb o2']
      ·refine⟨fun h=>absurd (by have:=h.2.2.2.2.1; rw[hP]at this; exact this) h6,fun _=>?_⟩
       simp(disch:=first|omega|assumption) only[CC,WW,hc,r1,f1,jy hQN,hg.isZero,o1,hg.eqb o2',oI hr hg]
  ·refine⟨fun h=>absurd h.2.1 h2,fun _=>?_⟩
   simp(disch:=omega) only[CC,WW,(Dc hl).2 h2]
section
variable {g:rA} {P Q G:Nat}
theorem xU(h:dF g P Q G): ∃r,bO (some g)=some (some r)∧kI r P:=by
 rw[xZ]; unfold mJ
 obtain⟨r,f,e,hr,hf⟩:=h.rings
 simp only[e,a4w,a14,a9J,WW]
 exact⟨r,rfl,hr⟩
theorem vK(h:dF g P Q G): ∃r,dB (some g)=some (some r)∧kI r Q:=by
 rw[wV]; unfold kZ
 obtain⟨r,f,e,hr,hf⟩:=h.rings
 simp only[e,a4w,a14,a9J,WW]
 exact⟨f,rfl,hf⟩
theorem Zo(h:dF g P Q G): ∃z,dW (some g)=some z∧IsN z Q:=by
 rw[Cz]; unfold sP
 obtain⟨r,r1,hr⟩:=vK h
 simp only[r1,a10 hr]
 exact⟨_,rfl,hr.m⟩
theorem Zp(h:dF g P Q G):qc (some g)=some g.2:=by
 rw[Cy]; rfl
end
theorem a3q {k:Nat} {l:Nat→(Nat→Int)×Int} {ga:Nat→Int}(h:2≤k)(h2:k≤9223372036854775807):a4i ((k,l),ga)=some (l (k-1)).1:=by
 rw[a0B]; unfold a2H
 simp(disch:=omega) only[CC,WW]
theorem a3r {k:Nat} {l:Nat→(Nat→Int)×Int} {ga:Nat→Int}(h:2≤k)(h2:k≤9223372036854775807):a4j ((k,l),ga)=some (l (k-2)).1:=by
 rw[a0C]; unfold a2I
 simp(disch:=omega) only[CC,WW]
theorem qA.by_pm {n f w:Nat}(h1:n%2=1)(h2:n≠1)(h3:2≤w)(h4:w<65536)(h5:f≠0)(h6:(n-1)%f=0)(h7:n<f*f)(hn:n<2^256)(hf:f<2^256)(h8:pm n 256 (pm n 256 w ((n-1)/f)) f=1)(h9:Nat.gcd (pm n 256 w ((n-1)/f)+(n-1)) n=1):qA n f (w:Int):=by
 have e1:(n-1)/f<2^256:=axb (axE _ _) (by omega)
 rw[a4v n 256 w _ e1]at h8 h9
 rw[a4v n 256 _ _ hf]at h8
 exact⟨h1,h2,by omega,by omega,h5,h6,h7,h8,h9⟩
open Go Go.Den Go.Num
theorem QL {n r:Nat}(hn:2≤n)(hr:n<(r+1)*(r+1))(h: ∀d,d<r+1→2≤d→n%d≠0):Pr n:=
 Hu hn fun d h2 hd=>h d (by
  apply axp
  intro hc
  have:(r+1)*(r+1)≤d*d:=azg (by omega) (by omega)
  omega) h2
abbrev a3s:=Nat→(Nat→Int)×Int
def a9K:Nat→Nat
 |0=>65521
 |1=>1966023127
 |_=>1055500680322183127
def Em:a3s:=fun j=>(upd (upd (upd (fun _=>((fun _=>0),0)) 0 ((upd (fun _=>0) 0 65521),0)) 1 ((upd (fun _=>0) 0 1966023127),2)) 2 ((upd (fun _=>0) 0 1055500680322183127),2)) (0+j)
def Lf:Nat→Int:=(upd (fun _=>0) 0 316543771439780984)
theorem UZ: ∀i,i<3→IsN (Em i).1 (a9K i):=fun i hi=>by
 match i,hi with
 |0,_=>exact IsN.of_eq (IsN.mk (a:=(Em 0).1) (x0:=65521) (x1:=0) (x2:=0) (x3:=0) rfl rfl rfl rfl (by decide) (by decide) (by decide) (by decide)) (by decide)
 |1,_=>exact IsN.of_eq (IsN.mk (a:=(Em 1).1) (x0:=1966023127) (x1:=0) (x2:=0) (x3:=0) rfl rfl rfl rfl (by decide) (by decide) (by decide) (by decide)) (by decide)
 |2,_=>exact IsN.of_eq (IsN.mk (a:=(Em 2).1) (x0:=1055500680322183127) (x1:=0) (x2:=0) (x3:=0) rfl rfl rfl rfl (by decide) (by decide) (by decide) (by decide)) (by decide)
theorem a15:IsN Lf 316543771439780984:=IsN.of_eq (IsN.mk (a:=Lf) (x0:=316543771439780984) (x1:=0) (x2:=0) (x3:=0) rfl rfl rfl rfl (by decide) (by decide) (by decide) (by decide)) (by decide)
theorem a18:Pr 65521:=QL (r:=255) (by decide) (by decide) (by decide+kernel)
theorem a19:qA 1966023127 65521 ((2:Nat):Int):=qA.by_pm (by decide) (by decide) (by decide) (by decide) (by decide) (by decide) (by decide) (by decide) (by decide) (by decide+kernel) (by decide+kernel)
theorem a1a:qA 1055500680322183127 1966023127 ((2:Nat):Int):=qA.by_pm (by decide) (by decide) (by decide) (by decide) (by decide) (by decide) (by decide) (by decide) (by decide) (by decide+kernel) (by decide+kernel)
theorem a5Q(b e m:Nat)(hb:b=316543771439780984)(he:e=1966023127)(hm:m=1055500680322183127):b^e%m=1:=by
 rw[←a4v m 256 b e (by subst he; decide)]
 subst hb he hm
 decide+kernel
theorem a1b:P8 3 a9K (fun i=>(Em i).2) 316543771439780984:=by
 refine⟨by decide,⟨by decide,by decide,by decide,by decide,a18,rfl,fun i hi=>?_⟩,by decide,by decide,by decide,a5Q _ _ _ rfl rfl rfl⟩
 match i,hi with
 |0,_=>exact a19
 |1,_=>exact a1a
theorem WR:Iu=some ((3,Em),Lf):=by
 rw[MO]; rfl
theorem a5R: ∃g,rO ((3,Em),Lf)=some (some g,0)∧dF g 1055500680322183127 1966023127 316543771439780984∧g.2=Lf:=(HV UZ a15).1 a1b
def a9L:Nat→Nat
 |0=>64817
 |1=>1815135269
 |_=>487269091447081429
def En:a3s:=fun j=>(upd (upd (upd (fun _=>((fun _=>0),0)) 0 ((upd (fun _=>0) 0 64817),0)) 1 ((upd (fun _=>0) 0 1815135269),2)) 2 ((upd (fun _=>0) 0 487269091447081429),2)) (0+j)
def Lg:Nat→Int:=(upd (fun _=>0) 0 54624333139524128)
theorem V5: ∀i,i<3→IsN (En i).1 (a9L i):=fun i hi=>by
 match i,hi with
 |0,_=>exact IsN.of_eq (IsN.mk (a:=(En 0).1) (x0:=64817) (x1:=0) (x2:=0) (x3:=0) rfl rfl rfl rfl (by decide) (by decide) (by decide) (by decide)) (by decide)
 |1,_=>exact IsN.of_eq (IsN.mk (a:=(En 1).1) (x0:=1815135269) (x1:=0) (x2:=0) (x3:=0) rfl rfl rfl rfl (by decide) (by decide) (by decide) (by decide)) (by decide)
 |2,_=>exact IsN.of_eq (IsN.mk (a:=(En 2).1) (x0:=487269091447081429) (x1:=0) (x2:=0) (x3:=0) rfl rfl rfl rfl (by decide) (by decide) (by decide) (by decide)) (by decide)
theorem a1c:IsN Lg 54624333139524128:=IsN.of_eq (IsN.mk (a:=Lg) (x0:=54624333139524128) (x1:=0) (x2:=0) (x3:=0) rfl rfl rfl rfl (by decide) (by decide) (by decide) (by decide)) (by decide)
theorem a1d:Pr 64817:=QL (r:=255) (by decide) (by decide) (by decide+kernel)
theorem a1e:qA 1815135269 64817 ((2:Nat):Int):=qA.by_pm (by decide) (by decide) (by decide) (by decide) (by decide) (by decide) (by decide) (by decide) (by decide) (by decide+kernel) (by decide+kernel)
theorem a1f:qA 487269091447081429 1815135269 ((2:Nat):Int):=qA.by_pm (by decide) (by decide) (by decide) (by decide) (by decide) (by decide) (by decide) (by decide) (by decide) (by decide+kernel) (by decide+kernel)
theorem a5S(b e m:Nat)(hb:b=54624333139524128)(he:e=1815135269)(hm:m=487269091447081429):b^e%m=1:=by
 rw[←a4v m 256 b e (by subst he; decide)]
 subst hb he hm
 decide+kernel
theorem a1g:P8 3 a9L (fun i=>(En i).2) 54624333139524128:=by
 refine⟨by decide,⟨by decide,by decide,by decide,by decide,a1d,rfl,fun i hi=>?_⟩,by decide,by decide,by decide,a5S _ _ _ rfl rfl rfl⟩
 match i,hi with
 |0,_=>exact a1e
 |1,_=>exact a1f
theorem WT:Iw=some ((3,En),Lg):=by
 rw[MP]; rfl
theorem a5T: ∃g,rO ((3,En),Lg)=some (some g,0)∧dF g 487269091447081429 1815135269 54624333139524128∧g.2=Lg:=(HV V5 a1c).1 a1g
section
variable {g:rA} {P Q G:Nat} {a b:Nat→Int} {x y:Nat}
theorem WU(h:dF g P Q G)(ha:IsN a x):Gy (some g) a=some (decide (x<Q)):=by
 rw[Qr]; unfold Iy
 obtain⟨r,r1,hr⟩:=vK h
 simp only[r1,oI hr ha]
def Df(A B:Nat→Nat):Nat→Nat
 |0=>0
 |n+1=>Df A B n+A n*B n
theorem V6(h:dF g P Q G)(ha:IsN a x)(hb:IsN b y): ∃z,CB (some g) a b=some z∧IsN z (x^y%P):=by
 rw[MW]; unfold DW
 obtain⟨r,r1,hr⟩:=xU h
 obtain⟨z,z1,z2⟩:=qz hr ha hb
 simp only[r1,z1]
 exact⟨z,rfl,z2⟩
theorem WV(h:dF g P Q G)(hb:IsN b y): ∃z,GD (some g) b=some z∧IsN z (G^y%P):=by
 rw[Qs]; unfold Iz
 obtain⟨z,z1,z2⟩:=V6 h h.gen hb
 simp only[Zp h,z1]
 exact⟨z,rfl,z2⟩
theorem P9(h:dF g P Q G) {n:Nat}(hn:n≤64) {bases exps:Nat→(Nat→Int)} {B E:Nat→Nat}(hB: ∀i,i<n→IsN (bases i) (B i))(hE: ∀i,i<n→IsN (exps i) (E i)):
  ∃z,AO (some g) n bases n exps=some (z,0)∧IsN z (iY (fun i=>B i^E i) n%P):=by
 rw[Gz]; unfold yL
 obtain⟨r,r1,hr⟩:=xU h
 obtain⟨z,z1,z2⟩:=Hz hr hn hB hE
 simp only[r1,z1]
 exact⟨z,rfl,z2⟩
theorem WX(h:dF g P Q G)(ha:IsN a x):MX (some g) a=some (decide (x≠0∧x<P∧x^Q%P=1)):=by
 rw[Qt]; unfold IB
 obtain⟨r,r1,hr⟩:=xU h
 obtain⟨q,q1,q2⟩:=Zo h
 obtain⟨o,o1,o2⟩:=nQ (n:=1) (by decide)
 have o2':IsN o 1:=o2
 obtain⟨z,z1,z2⟩:=qz hr ha q2
 by_cases h0:x=0
 ·simp(disch:=omega) only[WW,ha.isZero,h0,ne_eq,axW,false_and]
 ·by_cases h1:x<P
  ·simp(disch:=omega) only[WW,ha.isZero,r1,oI hr ha,q1,z1,o1,z2.eqb o2',h0,h1,ne_eq,not_false_eq_true,true_and]
  ·simp(disch:=omega) only[WW,ha.isZero,r1,oI hr ha,h1,false_and,and_false]
end
open Go Go.Den Go.Num
theorem a1h {a:Nat→Int} {x q:Nat}(ha:IsN a x)(hq:0<q)(hq2:q<9223372036854775808):YS a (q:Int)=some ((x%q:Nat):Int):=by
 rw[XB]; unfold YR
 obtain⟨m,m1,m2⟩:=Nv (n:=(q:Int)) (by omega)
 obtain⟨r,r1,r2⟩:=WO ha m2 (by omega)
 rw[axd]at r2
 have hlt:=axh x hq
 simp only[m1,r1,yT r2,ax1 (show x%q<9223372036854775808 by omega)]
theorem Zq {a b q:Nat}(hq:0<q)(ha:a<4611686018427387904)(hb:b<4611686018427387904):RL (a:Int) (b:Int) (q:Int)=some (((a+b)%q:Nat):Int):=by
 rw[U5]; unfold U4
 simp(disch:=omega) only[CC,WW]
theorem Zr {a b q:Nat}(hq:0<q)(hq2:q<9223372036854775808):MR (a:Int) (b:Int) (q:Int)=some ((a*b%q:Nat):Int):=by
 rw[U7]; unfold U6
 simp only[zZ hq hq2]
theorem a1i {k:Nat} {l:Nat→(Nat→Int)×Int} {ga:Nat→Int} {P Q G:Nat}(h:2≤k)(h2:k≤9223372036854775807)(hP:IsN (l (k-1)).1 P)(hQ:IsN (l (k-2)).1 Q)(hG:IsN ga G)(p63:P<9223372036854775808)(q63:Q<9223372036854775808)(g63:G<9223372036854775808):
  KT ((k,l),ga)=some ((P:Int),(Q:Int),(G:Int)):=by
 rw[XC]; unfold YT
 simp only[a3q h h2,a3r h h2,yT hP,yT hQ,yT hG,ax1 p63,ax1 q63,ax1 g63]
section
variable {P Q G:Nat}
theorem Zt {a:Nat} {e:Nat→Int} {E:Nat}(he:IsN e E)(hP:0<P)(p63:P<9223372036854775808):MV ((P:Int),(Q:Int),(G:Int)) (a:Int) e=some ((a^E%P:Nat):Int):=by
 rw[Ud]; unfold Uc
 simp only[UY he hP p63]
end
open Go Go.Den Go.Num
structure a3t(k:Nat)(l:a3s)(ga:Nat→Int)(g:rA)(P Q G:Nat):Prop where
 made:rO ((k,l),ga)=some (some g,0)
 group:dF g P Q G
 k2:2≤k
 k8:k≤8
 p:IsN (l (k-1)).1 P
 q:IsN (l (k-2)).1 Q
 gen:IsN ga G
 gen2:g.2=ga
theorem a3u: ∃g,a3t 3 Em Lf g 1055500680322183127 1966023127 316543771439780984:=by
 obtain⟨g,g1,g2,g3⟩:=a5R
 exact⟨g,g1,g2,by decide,by decide,UZ 2 (by decide),UZ 1 (by decide),a15,g3⟩
theorem a3v: ∃g,a3t 3 En Lg g 487269091447081429 1815135269 54624333139524128:=by
 obtain⟨g,g1,g2,g3⟩:=a5T
 exact⟨g,g1,g2,by decide,by decide,V5 2 (by decide),V5 1 (by decide),a1c,g3⟩
section
variable {g:rA} {P Q G:Nat}
theorem dF.pow_in(h:dF g P Q G)(e:Nat):(G^e%P)≠0∧G^e%P<P∧(G^e%P)^Q%P=1:=by
 have hQ:0<Q:=h.qpos
 have h1:(G^e%P)^Q%P=1:=by
  rw[←Nat.pow_mod,←ayU,axi,ayU,Nat.pow_mod,h.order,Nat.one_pow]
  exact awX h.pp.1
 refine⟨fun h0=>?_,axh _ h.ppos,h1⟩
 rw[h0,Nat.zero_pow hQ]at h1
 simp at h1
end
end Go.Pl
