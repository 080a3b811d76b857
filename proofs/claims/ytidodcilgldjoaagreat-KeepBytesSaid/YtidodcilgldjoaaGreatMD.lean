/-
 Primes, groups, the field.
-/
import Derived.Test.YtidodcilgldjoaaGreatMA
import Derived.Test.YtidodcilgldjoaaGreatMC
import Derived.Test.YtidodcilgldjoaaGreatPlA
set_option linter.unusedVariables false
namespace Go.Num
section
variable {q:Nat} [NeZero q]
def ah6(f:Nat→Fin q):Nat→Fin q
 |0=>0
 |n+1=>ah6 f n+f n
def pw(x:Fin q):Nat→Fin q
 |0=>1
 |n+1=>pw x n*x
def ev(f:Nat→Fin q)(n:Nat)(x:Fin q):Fin q:=ah6 (fun i=>f i*pw x i) n
def conv(f g:Nat→Fin q)(k:Nat):Fin q:=ah6 (fun i=>f i*g (k-i)) (k+1)
def quo(f:Nat→Fin q)(x:Fin q):Nat→Nat→Fin q
 |0,_=>0
 |n+1,i=>quo f x n i+(if i<n then f n*pw x (n-1-i)else 0)
end
end Go.Num
namespace Go.Num
def pm(m:Nat):Nat→Nat→Nat→Nat
 |0,_,_=>1%m
 |k+1,b,e=>if e%2=1 then b*pm m k (b*b%m) (e/2)%m else pm m k (b*b%m) (e/2)
theorem a9i(m:Nat): ∀k b e,e<2^k→pm m k b e=b^e%m:=by
 intro k
 induction k with
 |zero=>
  intro b e h; obtain rfl:e=0:=by simpa using h
  rw[pm,Nat.pow_zero]
 |succ k ih=>
  intro b e h
  have h2:e/2<2^k:=by rw[Nat.pow_succ]at h; omega
  have h3:(b*b%m)^(e/2)%m=b^(2*(e/2))%m:=by
   rw[←Nat.pow_mod,Nat.pow_mul,Nat.pow_two]
  rw[pm,ih _ _ h2]
  split
  ·rename_i ho
   rw[h3,Nat.mul_mod_mod]
   congr 1
   conv=>rhs; rw[show e=2*(e/2)+1 by omega]
   rw[Nat.pow_succ,Nat.mul_comm]
  ·rename_i ho
   rw[h3,show 2*(e/2)=e by omega]
section
variable {q:Nat} [NeZero q]
end
end Go.Num
set_option linter.unusedSimpArgs false
namespace Go.Pl
open Go Go.Den Go.Num
theorem EU {n:Nat}(hn:2≤n):Pr n↔ ∀d,2≤d→d*d≤n→n%d≠0:=by
 constructor
 ·intro h d h2 hd
  refine h.tried d h2 ?_
  have:2*d≤d*d:=Nat.mul_le_mul_right _ h2
  omega
 ·exact Gy hn
theorem Nh(n:Int): ∃b,AO n=some b∧(b=true↔2≤n∧n<65536∧Pr n.toNat):=by
 rw[FL]; unfold yG
 by_cases h2:n<2
 ·refine⟨false,?_,by simp; omega⟩
  simp(disch:=omega) only[WW]
 ·by_cases h3:65536≤n
  ·refine⟨false,?_,by simp; omega⟩
   simp(disch:=omega) only[WW]
  ·simp(disch:=omega) only[WW]
   obtain⟨N,rfl⟩: ∃N:Nat,n=(N:Int):=⟨n.toNat,by omega⟩
   generalize ho:aj cZ _=o
   have hN2:2≤N:=by omega
   have goal: ∃y,aj cZ (ED (N:Int) true (N:Int) ((0:Nat):Int))=some y∧ ∃b,y=AL b∧(b=true↔Pr N):=
    gK (R:=cZ) (S:=Unit) (fun d _=>ED (N:Int) true (N:Int) (d:Int)) (fun d _=> ∀k,2≤k→k<d→N%k≠0)
     (fun y=> ∃b,y=AL b∧(b=true↔Pr N)) N
     (fun d hd _ hP=>by
      by_cases c2:d<2
      ·left
       refine⟨(),?_,fun k h1 h2=>by omega⟩
       unfold cZ
       simp(disch:=omega) only[CC,WW]
      ·have hdd:d*d<65536*65536:=Nat.mul_lt_mul'' (by omega) (by omega)
       by_cases c3:N<d*d
       ·right
        have hp:Pr N:=(EU hN2).2 fun k h1 h2=>hP k h1 (by
         apply Classical.byContradiction
         intro hc
         have:d*d≤k*k:=Nat.mul_le_mul (by omega) (by omega)
         omega)
        refine⟨_,?_,true,rfl,by simp only[hp]⟩
        unfold cZ
        simp(disch:=omega) only[CC,WW]
       ·by_cases c4:N%d=0
        ·right
         refine⟨_,?_,false,rfl,?_⟩
         ·unfold cZ
          simp(disch:=omega) only[CC,WW,c4]
         ·simp only[Bool.false_eq_true,false_iff]
          exact fun hp=>hp.tried d (by omega) hd c4
        ·left
         refine⟨(),?_,fun k h1 h2=>?_⟩
         ·unfold cZ
          generalize hm:N%d=m at c4
          simp(disch:=omega) only[CC,WW,hm]
         ·by_cases e:k=d
          ·subst e; exact c4
          ·exact hP k h1 (by omega))
     (fun _ hP=>by
      have hp:Pr N:=(EU hN2).2 fun k h1 h2=>hP k h1 (by
       have:2*k≤k*k:=Nat.mul_le_mul_right _ h1
       omega)
      refine⟨_,?_,true,rfl,by simp only[hp]⟩
      unfold cZ
      simp(disch:=omega) only[CC,WW]) () (fun k h1 h2=>by omega)
   obtain⟨y,hy,b,rfl,hb⟩:=goal
   obtain rfl:=ho.symm.trans hy
   exact⟨b,rfl,by rw[hb,Int.toNat_natCast]; exact⟨fun h=>⟨by omega,by omega,h⟩,fun h=>h.2.2⟩⟩
def wY(n f:Nat)(w:Int):Prop:=n%2=1∧n≠1∧2≤w∧w<65536∧f≠0∧(n-1)%f=0∧n<f*f∧(w.toNat^((n-1)/f)%n)^f%n=1∧Nat.gcd (w.toNat^((n-1)/f)%n+(n-1)) n=1
instance (n f:Nat) (w:Int):Decidable (wY n f w):=by unfold wY; exact inferInstance
theorem Vt(x n:Nat):Nat.gcd (x%n) n=Nat.gcd x n:=by
 rw[Nat.gcd_comm x n,Nat.gcd_rec n x]
theorem YM {lo hi:Nat→Int} {n:Nat→Int} {N F:Nat}(h1:IsN lo (F*F%2^256))(h2:IsN hi (F*F/2^256))(hn:IsN n N):
  (F*F/2^256=0→(N<F*F↔ ¬N8 (F*F%2^256) N≤0))∧(F*F/2^256≠0→N<F*F):=by
 have hN:=hn.1
 constructor
 ·intro h
  have:F*F<2^256:=by
   rcases Nat.div_eq_zero_iff.1 h with h|h
   ·exact absurd h (by decide)
   ·exact h
  rw[Nat.mod_eq_of_lt this]
  unfold N8
  generalize F*F=Q at*
  by_cases c1:Q<N
  ·rw[if_pos c1]; constructor
   ·intro h; omega
   ·intro h; exact absurd (by decide) h
  ·rw[if_neg c1]
   by_cases c2:N<Q
   ·rw[if_pos c2]; simp[c2]
   ·rw[if_neg c2]; simp[c2]
 ·intro h
  generalize F*F=Q at*
  apply Classical.byContradiction
  intro hc
  exact h (Nat.div_eq_of_lt (by omega))
theorem OY {n f:Nat→Int} {N F:Nat}(hn:IsN n N)(hf:IsN f F)(w:Int):DC n f w=some (decide (wY N F w)):=by
 rw[IV]; unfold AP
 have no: ¬wY N F w→some false=some (decide (wY N F w)):=fun h=>by rw[decide_eq_false h]
 by_cases h1:N%2=1∧N≠1
 ·obtain⟨r,r1,hr,_⟩:=(nU hn).2 h1.1 h1.2
  have hN1:=hr.one
  by_cases h2:w<2
  ·simp(disch:=omega) only[WW,r1]
   exact no (fun h=>by have:=h.2.2.1; omega)
  ·by_cases h3:65536≤w
   ·simp(disch:=omega) only[WW,r1]
    exact no (fun h=>by have:=h.2.2.2.1; omega)
   ·by_cases h4:F=0
    ·simp(disch:=omega) only[WW,r1,hf.isZero]
     exact no (fun h=>h.2.2.2.2.1 h4)
    ·obtain⟨o,o1,o2⟩:=wX (n:=1) (by decide)
     have o2':IsN o 1:=o2
     obtain⟨l,l1,l2⟩:=uF hn o2'
     have hNl:=hn.1
     have l3:IsN l (N-1):=l2.of_eq (by omega)
     obtain⟨k,q,d1,d2,d3⟩:=Jp l3 hf (by omega)
     obtain⟨lo,hi,m1,m2,m3⟩:=Jo hf hf
     have sq:=YM m2 m3 hn
     by_cases h5:(N-1)%F=0
     ·obtain⟨W,hW1,hW2⟩:=wX (n:=w) (by omega)
      obtain⟨p,p1,p2⟩:=BP hr hW2 d2
      obtain⟨e,e1,e2⟩:=BP hr p2 hf
      obtain⟨s,s1,s2⟩:=Nf p2 o2' hn hr.pos
      obtain⟨g,g1,g2⟩:=Tn s2 hn
      rw[Nat.mod_eq_of_lt hN1,Vt]at g2
      by_cases h6:N<F*F
      ·by_cases h7:(w.toNat^((N-1)/F)%N)^F%N=1
       ·have hfin:decide (Nat.gcd (w.toNat^((N-1)/F)%N+(N-1)) N=1)=decide (wY N F w):=by
         rw[decide_eq_decide]
         exact⟨fun h=>⟨h1.1,h1.2,by omega,by omega,h4,h5,h6,h7,h⟩,fun h=>h.2.2.2.2.2.2.2.2⟩
        by_cases h8:F*F/2^256=0
        ·have h9:=(sq.1 h8).1 h6
         simp(disch:=first|omega|assumption) only[WW,r1,hf.isZero,o1,l1,d1,m1,d3.isZero,m3.isZero,gI m2 hn,aM h9,hW1,p1,e1,e2.eqb o2',s1,g1,g2.eqb o2',hfin]
        ·simp(disch:=first|omega|assumption) only[WW,r1,hf.isZero,o1,l1,d1,m1,d3.isZero,m3.isZero,hW1,p1,e1,e2.eqb o2',s1,g1,g2.eqb o2',hfin]
       ·have hno:=no (fun h=>h7 h.2.2.2.2.2.2.2.1)
        by_cases h8:F*F/2^256=0
        ·have h9:=(sq.1 h8).1 h6
         simp(disch:=first|omega|assumption) only[WW,r1,hf.isZero,o1,l1,d1,m1,d3.isZero,m3.isZero,gI m2 hn,aM h9,hW1,p1,e1,e2.eqb o2']
         exact hno
        ·simp(disch:=first|omega|assumption) only[WW,r1,hf.isZero,o1,l1,d1,m1,d3.isZero,m3.isZero,hW1,p1,e1,e2.eqb o2']
         exact hno
      ·have h8:F*F/2^256=0:=Classical.byContradiction fun h=>h6 (sq.2 h)
       have h9:N8 (F*F%2^256) N≤0:=Classical.byContradiction fun h=>h6 ((sq.1 h8).2 h)
       simp(disch:=first|omega|assumption) only[WW,r1,hf.isZero,o1,l1,d1,m1,d3.isZero,m3.isZero,gI m2 hn,bB h9]
       exact no (fun h=>h6 h.2.2.2.2.2.2.1)
     ·simp(disch:=first|omega|assumption) only[WW,r1,hf.isZero,o1,l1,d1,m1,d3.isZero]
      exact no (fun h=>h5 h.2.2.2.2.2.1)
 ·have r1:=(nU hn).1 (by omega)
  simp(disch:=omega) only[WW,r1]
  exact no (fun h=>h1 ⟨h.1,h.2.1⟩)
end Go.Pl
namespace Go.Pl
open Go Go.Den Go.Num
def zX(k:Nat)(N:Nat→Nat)(A:Nat→Int):Prop:=1≤k∧k≤8∧2≤N 0∧N 0<65536∧Pr (N 0)∧A 0=0∧ ∀i,i+1<k→wY (N (i+1)) (N i) (A (i+1))
theorem wY.prime {n f:Nat} {w:Int}(h:wY n f w)(hf:Pr f):Pr n:=by
 obtain⟨h1,h2,h3,h4,h5,h6,h7,h8,h9⟩:=h
 refine YF (f:=f) (k:=(n-1)/f) (a:=w.toNat) (by omega) hf ?_ h7 h8 ?_
 ·have:=Nat.div_add_mod (n-1) f
  rw[h6]at this
  rw[Nat.mul_comm]; exact this
 ·rw[←Nat.add_sub_assoc (by omega)]at h9; exact h9
theorem zX.prime {k:Nat} {N:Nat→Nat} {A:Nat→Int}(h:zX k N A): ∀i,i<k→Pr (N i):=by
 intro i
 induction i with
 |zero=>intro _; exact h.2.2.2.2.1
 |succ i ih=>intro hi; exact(h.2.2.2.2.2.2 i hi).prime (ih (by omega))
theorem CX {k:Nat} {l:Nat→(Nat→Int)×Int} {N:Nat→Nat}(hl: ∀i,i<k→IsN (l i).1 (N i)):
  (zX k N (fun i=>(l i).2)→rW k l=some 0)∧(¬zX k N (fun i=>(l i).2)→rW k l=some 4):=by
 suffices h: ∃b:Bool,rW k l=some (if b then 0 else 4)∧(b=true↔zX k N (fun i=>(l i).2))by
  obtain⟨b,h1,h2⟩:=h
  rw[h1]
  constructor
  ·intro h; rw[h2.2 h]; rfl
  ·intro h
   cases b
   ·rfl
   ·exact absurd (h2.1 rfl) h
 rw[FM]; unfold yH
 by_cases h1:k<1
 ·refine⟨false,?_,by simp only[Bool.false_eq_true,false_iff]; exact fun h=>by have:=h.1; omega⟩
  simp(disch:=omega) only[WW]; rfl
 ·by_cases h2:8<k
  ·refine⟨false,?_,by simp only[Bool.false_eq_true,false_iff]; exact fun h=>by have:=h.2.1; omega⟩
   simp(disch:=omega) only[WW]; rfl
  ·have h0:=hl 0 (by omega)
   by_cases h3:N 0<9223372036854775808
   ·obtain⟨b,hb1,hb2⟩:=Nh ((N 0:Nat):Int)
    rw[Int.toNat_natCast]at hb2
    cases b with
    |false=>
     refine⟨false,?_,by simp only[Bool.false_eq_true,false_iff]; exact fun h=>absurd (hb2.2 ⟨by have:=h.2.2.1; omega,by have:=h.2.2.2.1; omega,h.2.2.2.2.1⟩) (by decide)⟩
     simp(disch:=omega) only[WW,uE h0,if_pos h3,hb1]; rfl
    |true=>
     have hb3:=hb2.1 rfl
     by_cases h4:(l 0).2=0
     ·simp(disch:=omega) only[WW,uE h0,if_pos h3,hb1]
      generalize ho:aj eu _=o
      have L: ∃y,aj eu (EG k l ((1+0:Nat):Int))=some y∧((y=AQ 4∧ ¬zX k N (fun i=>(l i).2))∨(y=AR∧zX k N (fun i=>(l i).2))):=
       gK (R:=eu) (S:=Unit) (fun i _=>EG k l ((1+i:Nat):Int)) (fun i _=> ∀j,j<i→wY (N (j+1)) (N j) ((l (j+1)).2))
        (fun y=>(y=AQ 4∧ ¬zX k N (fun i=>(l i).2))∨(y=AR∧zX k N (fun i=>(l i).2))) (k-1)
        (fun i hi _ hP=>by
         have hs:=OY (hl (1+i) (by omega)) (hl i (by omega)) (l (1+i)).2
         by_cases hst:wY (N (1+i)) (N i) (l (1+i)).2
         ·left
          refine⟨(),?_,fun j hj=>?_⟩
          ·unfold eu
           simp(disch:=first|omega|assumption) only[CC,WW,Nat.add_sub_cancel_left,hs,Nat.add_assoc]
          ·by_cases e:j=i
           ·subst e; rw[Nat.add_comm j 1]; exact hst
           ·exact hP j (by omega)
         ·right
          refine⟨_,?_,.inl ⟨rfl,fun h=>hst ?_⟩⟩
          ·unfold eu
           simp(disch:=first|omega|assumption) only[CC,WW,Nat.add_sub_cancel_left,hs]
          ·have:=h.2.2.2.2.2.2 i (by omega)
           rw[Nat.add_comm 1 i]; exact this)
        (fun _ hP=>by
         refine⟨_,?_,.inr ⟨rfl,by omega,by omega,by omega,by omega,hb3.2.2,h4,fun i hi=>hP i (by omega)⟩⟩
         unfold eu
         simp(disch:=omega) only[CC,WW]) () (fun j hj=>by omega)
      obtain⟨y,hy,hQ⟩:=L
      obtain rfl:=ho.symm.trans hy
      rcases hQ with⟨rfl,hQ⟩|⟨rfl,hQ⟩
      ·exact⟨false,rfl,by simp[hQ]⟩
      ·exact⟨true,rfl,by simp[hQ]⟩
     ·refine⟨false,?_,by simp only[Bool.false_eq_true,false_iff]; exact fun h=>h4 h.2.2.2.2.2.1⟩
      simp(disch:=omega) only[WW,uE h0,if_pos h3,hb1]; rfl
   ·refine⟨false,?_,by simp only[Bool.false_eq_true,false_iff]; exact fun h=>by have:=h.2.2.2.1; omega⟩
    simp(disch:=omega) only[WW,uE h0,if_neg h3]; rfl
end Go.Pl
namespace Go.Pl
open Go Go.Den Go.Num
end Go.Pl
namespace Go.Pl
open Go Go.Den Go.Num
theorem aap {α:Type}(x:α):sJ.a3W (.fz x)=false:=rfl
theorem a9j {α:Type}(x:α):sJ.isNil (.fz x)=false:=rfl
theorem ah7 {α:Type}(d x:α):sJ.val d (.fz x)=x:=rfl
abbrev Ej:=(sJ uG×sJ uG)×(Nat→Int)
structure PK(g:Ej)(P Q G:Nat):Prop where
 rings: ∃r f,g.1=(.fz r,.fz f)∧om r P∧om f Q
 gen:IsN g.2 G
 pp:Pr P
 pq:Pr Q
 big:512≤Q
 g1:1<G
 gP:G<P
 order:G^Q%P=1
def Rx(k:Nat)(N:Nat→Nat)(A:Nat→Int)(G:Nat):Prop:=2≤k∧zX k N A∧512≤N (k-2)∧1<G∧G<N (k-1)∧G^N (k-2)%N (k-1)=1
theorem Ub {n:Nat} :j4 n<10↔n<512:=by
 constructor
 ·intro h
  have h1:=I9 n
  have:2^j4 n≤2^9:=Nat.pow_le_pow_right (by decide) (by omega)
  omega
 ·intro h
  have:=uD (n:=n) (L:=9) h
  omega
theorem Ry {k:Nat} {l:Nat→(Nat→Int)×Int} {ga:Nat→Int} {N:Nat→Nat} {G:Nat}(hl: ∀i,i<k→IsN (l i).1 (N i))(hg:IsN ga G):
  (Rx k N (fun i=>(l i).2) G→ ∃g,vD ((k,l),ga)=some (some g,0)∧PK g (N (k-1)) (N (k-2)) G∧g.2=ga)∧(¬Rx k N (fun i=>(l i).2) G→vD ((k,l),ga)=some (none,4)):=by
 rw[KP]; unfold DF
 by_cases h1:k<2
 ·refine⟨fun h=>by have:=h.1; omega,fun _=>?_⟩
  simp(disch:=omega) only[WW]
 ·by_cases h2:zX k N (fun i=>(l i).2)
  ·have hk8:=h2.2.1
   have hp:=h2.prime (k-1) (by omega)
   have hq:=h2.prime (k-2) (by omega)
   have hPN:=hl (k-1) (by omega)
   have hQN:=hl (k-2) (by omega)
   have hst:=h2.2.2.2.2.2.2 (k-2) (by omega)
   rw[show k-2+1=k-1 by omega]at hst
   obtain⟨r,r1,hr,_⟩:=(nU hPN).2 hst.1 hst.2.1
   have hc:=(CX hl).1 h2
   generalize hP:N (k-1)=P at*
   generalize hQ:N (k-2)=Q at*
   have no: ∀ {p:Prop},(Rx k N (fun i=>(l i).2) G→p)→ ¬p→ ¬Rx k N (fun i=>(l i).2) G:=fun h1 h2 h3=>h2 (h1 h3)
   obtain⟨o,o1,o2⟩:=wX (n:=1) (by decide)
   have o2':IsN o 1:=o2
   by_cases h3:Q<512
   ·
    have hb:=Ub.2 h3
    refine⟨fun h=>by have:=h.2.2.1; omega,fun _=>?_⟩
    by_cases hodd:Q%2=1
    ·obtain⟨f,f1,hf,_⟩:=(nU hQN).2 hodd (by have:=hq.1; omega)
     simp(disch:=omega) only[CC,WW,hc,r1,f1,kR hQN]
    ·have f1:=(nU hQN).1 (.inl (by omega))
     simp(disch:=omega) only[CC,WW,hc,r1,f1]
   ·have hb: ¬j4 Q<10:=fun h=>h3 (Ub.1 h)
    have hodd:Q%2=1:=by
     have:=hq.tried 2 (by decide) (by omega)
     omega
    obtain⟨f,f1,hf,_⟩:=(nU hQN).2 hodd (by omega)
    by_cases h4:G=0
    ·subst h4
     refine⟨fun h=>by have:=h.2.2.2.1; omega,fun _=>?_⟩
     simp(disch:=omega) only[CC,WW,hc,r1,f1,kR hQN,hg.isZero]
    ·by_cases h5:G=1
     ·subst h5
      refine⟨fun h=>by have:=h.2.2.2.1; omega,fun _=>?_⟩
      simp(disch:=omega) only[CC,WW,hc,r1,f1,kR hQN,hg.isZero,o1,hg.eqb o2']
     ·by_cases h6:G<P
      ·obtain⟨z,z1,z2⟩:=BP hr hg hQN
       by_cases h7:G^Q%P=1
       ·refine⟨fun _=>?_,fun h=>absurd ⟨by omega,h2,by rw[hQ]; omega,by omega,by rw[hP]; exact h6,by rw[hP,hQ]; exact h7⟩ h⟩
        simp(disch:=first|omega|assumption) only[CC,WW,hc,r1,f1,kR hQN,hg.isZero,o1,hg.eqb o2',Ei hr hg,z1,z2.eqb o2']
        exact⟨_,rfl,⟨⟨r,f,rfl,hr,hf⟩,hg,hp,hq,by omega,by omega,h6,h7⟩,rfl⟩
       ·refine⟨fun h=>absurd (by have:=h.2.2.2.2.2; rw[hP,hQ]at this; exact this) h7,fun _=>?_⟩
        simp(disch:=first|omega|assumption) only[CC,WW,hc,r1,f1,kR hQN,hg.isZero,o1,hg.eqb o2',Ei hr hg,z1,z2.eqb o2']
      ·refine⟨fun h=>absurd (by have:=h.2.2.2.2.1; rw[hP]at this; exact this) h6,fun _=>?_⟩
       simp(disch:=first|omega|assumption) only[CC,WW,hc,r1,f1,kR hQN,hg.isZero,o1,hg.eqb o2',Ei hr hg]
  ·refine⟨fun h=>absurd h.2.1 h2,fun _=>?_⟩
   simp(disch:=omega) only[CC,WW,(CX hl).2 h2]
section
variable {g:Ej} {P Q G:Nat}
theorem Ni(h:PK g P Q G): ∃r,eU (some g)=some (some r)∧om r Q:=by
 rw[oP]; unfold jC
 obtain⟨r,f,e,hr,hf⟩:=h.rings
 simp only[e,aap,a9j,ah7,WW]
 exact⟨f,rfl,hf⟩
end
theorem wY.by_pm {n f w:Nat}(h1:n%2=1)(h2:n≠1)(h3:2≤w)(h4:w<65536)(h5:f≠0)(h6:(n-1)%f=0)(h7:n<f*f)(hn:n<2^256)(hf:f<2^256)(h8:pm n 256 (pm n 256 w ((n-1)/f)) f=1)(h9:Nat.gcd (pm n 256 w ((n-1)/f)+(n-1)) n=1):wY n f (w:Int):=by
 have e1:(n-1)/f<2^256:=Nat.lt_of_le_of_lt (Nat.div_le_self _ _) (by omega)
 rw[a9i n 256 w _ e1]at h8 h9
 rw[a9i n 256 _ _ hf]at h8
 exact⟨h1,h2,by omega,by omega,h5,h6,h7,h8,h9⟩
end Go.Pl
namespace Go.Pl
open Go Go.Den Go.Num
theorem YN {n r:Nat}(hn:2≤n)(hr:n<(r+1)*(r+1))(h: ∀d,d<r+1→2≤d→n%d≠0):Pr n:=
 Gy hn fun d h2 hd=>h d (by
  apply Classical.byContradiction
  intro hc
  have:(r+1)*(r+1)≤d*d:=Nat.mul_le_mul (by omega) (by omega)
  omega) h2
abbrev a9k:=Nat→(Nat→Int)×Int
def a9l:Nat→Nat
 |0=>65521
 |1=>1966023127
 |_=>1055500680322183127
def GH:a9k:=fun j=>(upd (upd (upd (fun _=>((fun _=>0),0)) 0 ((upd (fun _=>0) 0 65521),0)) 1 ((upd (fun _=>0) 0 1966023127),2)) 2 ((upd (fun _=>0) 0 1055500680322183127),2)) (0+j)
def Nj:Nat→Int:=(upd (fun _=>0) 0 316543771439780984)
theorem Rz: ∀i,i<3→IsN (GH i).1 (a9l i):=fun i hi=>by
 match i,hi with
 |0,_=>exact IsN.of_eq (IsN.mk (a:=(GH 0).1) (x0:=65521) (x1:=0) (x2:=0) (x3:=0) rfl rfl rfl rfl (by decide) (by decide) (by decide) (by decide)) (by decide)
 |1,_=>exact IsN.of_eq (IsN.mk (a:=(GH 1).1) (x0:=1966023127) (x1:=0) (x2:=0) (x3:=0) rfl rfl rfl rfl (by decide) (by decide) (by decide) (by decide)) (by decide)
 |2,_=>exact IsN.of_eq (IsN.mk (a:=(GH 2).1) (x0:=1055500680322183127) (x1:=0) (x2:=0) (x3:=0) rfl rfl rfl rfl (by decide) (by decide) (by decide) (by decide)) (by decide)
theorem YO:IsN Nj 316543771439780984:=IsN.of_eq (IsN.mk (a:=Nj) (x0:=316543771439780984) (x1:=0) (x2:=0) (x3:=0) rfl rfl rfl rfl (by decide) (by decide) (by decide) (by decide)) (by decide)
theorem YP:Pr 65521:=YN (r:=255) (by decide) (by decide) (by decide+kernel)
theorem YQ:wY 1966023127 65521 ((2:Nat):Int):=wY.by_pm (by decide) (by decide) (by decide) (by decide) (by decide) (by decide) (by decide) (by decide) (by decide) (by decide+kernel) (by decide+kernel)
theorem YR:wY 1055500680322183127 1966023127 ((2:Nat):Int):=wY.by_pm (by decide) (by decide) (by decide) (by decide) (by decide) (by decide) (by decide) (by decide) (by decide) (by decide+kernel) (by decide+kernel)
theorem a3d(b e m:Nat)(hb:b=316543771439780984)(he:e=1966023127)(hm:m=1055500680322183127):b^e%m=1:=by
 rw[←a9i m 256 b e (by subst he; decide)]
 subst hb he hm
 decide+kernel
theorem YS:Rx 3 a9l (fun i=>(GH i).2) 316543771439780984:=by
 refine⟨by decide,⟨by decide,by decide,by decide,by decide,YP,rfl,fun i hi=>?_⟩,by decide,by decide,by decide,a3d _ _ _ rfl rfl rfl⟩
 match i,hi with
 |0,_=>exact YQ
 |1,_=>exact YR
theorem Tq:Hu=some ((3,GH),Nj):=by
 rw[KY]; rfl
theorem a3e: ∃g,vD ((3,GH),Nj)=some (some g,0)∧PK g 1055500680322183127 1966023127 316543771439780984∧g.2=Nj:=(Ry Rz YO).1 YS
end Go.Pl
namespace Go.Pl
open Go Go.Den Go.Num
section
variable {g:Ej} {P Q G:Nat} {a b:Nat→Int} {x y:Nat}
end
end Go.Pl
namespace Go.Pl
open Go Go.Den Go.Num
section
variable {P Q G:Nat}
end
end Go.Pl
namespace Go.Pl
open Go Go.Den Go.Num
structure ah8(k:Nat)(l:a9k)(ga:Nat→Int)(g:Ej)(P Q G:Nat):Prop where
 made:vD ((k,l),ga)=some (some g,0)
 group:PK g P Q G
 k2:2≤k
 k8:k≤8
 p:IsN (l (k-1)).1 P
 q:IsN (l (k-2)).1 Q
 gen:IsN ga G
 gen2:g.2=ga
theorem a0N: ∃g,ah8 3 GH Nj g 1055500680322183127 1966023127 316543771439780984:=by
 obtain⟨g,g1,g2,g3⟩:=a3e
 exact⟨g,g1,g2,by decide,by decide,Rz 2 (by decide),Rz 1 (by decide),YO,g3⟩
end Go.Pl
namespace Go.Pl
open Go Go.Den Go.Num
def Bj(g:Option Ej):Prop:=g=none∨ ∃a,g=some ((.nil,.nil),a)
theorem Bj.Ring {g:Option Ej}(h:Bj g):qb g=some none:=by
 rw[Iq]; unfold tF
 rcases h with rfl|⟨a,rfl⟩<;>rfl
theorem Bj.Field {g:Option Ej}(h:Bj g):eU g=some none:=by
 rw[oP]; unfold jC
 rcases h with rfl|⟨a,rfl⟩<;>rfl
theorem OC:JX none:=.inl rfl
theorem Bj.P {g:Option Ej}(h:Bj g):IX g=some fun _=>0:=by
 rw[MQ]; unfold zC
 rcases g with _|g<;>simp only[h.Ring,OC.M]
theorem Bj.Q {g:Option Ej}(h:Bj g):IW g=some fun _=>0:=by
 rw[MP]; unfold zB
 rcases g with _|g<;>simp only[h.Field,OC.M]
end Go.Pl
