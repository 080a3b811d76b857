/-
 States, as bytes.
-/
import Derived.Test.YtldlihheppdhnaaGreatMF
import Derived.Test.YtldlihheppdhnaaGreatMA
import Derived.Test.YtldlihheppdhnaaGreatPlA
import Derived.Test.YtldlihheppdhnaaGreatPlB
set_option linter.unusedVariables false
set_option linter.unusedSimpArgs false
namespace Go.Pl
open Go Go.Den Go.Num
open Go.IntKind (i64 u64 u32 u8)
def beN(k n:Nat):List UInt8:=(List.range k).map λi=>UInt8.ofNat (n/256^(k-1-i)%256)
def nbN(n:Nat):Nat:=(iG n+7)/8
def be(n:Nat):List UInt8:=beN (nbN n) n
theorem a4g(k n:Nat):(beN k n).length=k:=by simp[beN]
theorem Jb(n:Nat):(be n).length=nbN n:=a4g _ _
theorem VW {n:Nat}(h:n<2^256):nbN n<=32:=by have:=uP h;unfold nbN;omega
theorem VX {k n:Nat}{f:Nat->Int}(h: ∀i,i<k->f (k-1-i)=((n/256^i%256:Nat):Int)):bytesOf k f=⟨(beN k n).toArray⟩:=by
 apply LK;rw[wJ];show _=beN k n;unfold beN;refine az7 λi hi=>?_
 have hi:=azt.1 hi;have:=h (k-1-i) (by omega);rw[show k-1-(k-1-i)=i by omega]at this;rw[this,axE]
theorem a06(n:Nat){j:Nat}(hj:j<32):n/2^(64*(j/8))%2^64/2^(8*(j%8))%256=n/256^j%256:=by
 have e1:(2:Nat)^64=2^(8*(j%8))*2^(64-8*(j%8)):=by rw[<-ayF];congr 1;omega
 rw[e1,Nat.mod_mul_right_div_self,Nat.mod_mod_of_dvd _ (show 256∣2^(64-8*(j%8))from Nat.pow_dvd_pow 2 (m:=8) (by omega)),ayq,<-ayF]
 congr 2
 rw[show(256:Nat)=2^8 from rfl,<-azg]
 congr 1;omega
theorem a4h(m:Nat):u8.wrap ((m:Nat):Int)=((m%256:Nat):Int):=by rw[wrap_u8'];omega
theorem a6E {a:Nat->Int}{n:Nat}(h:IsN a n){j:Nat}(hj:j<32):(u8.wrap (bL .u64 (a (j/8)) ((8*(j%8):Nat):Int)))=((n/256^j%256:Nat):Int):=by rw[h.2 (j/8) (by omega),Pj (axG _ (by decide)),a4h,a06 n hj]
theorem a4i {j:Nat}(hj:j<9223372036854775808):i64.wrap (Int.tdiv (j:Int) 8)=((j/8:Nat):Int):=by have:Int.tdiv (j:Int) 8=((j/8:Nat):Int):=rfl;rw[this,eX (by omega)]
theorem aj9 {j:Nat} :i64.wrap (8*(Int.tmod (j:Int) 8))=((8*(j%8):Nat):Int):=by have:Int.tmod (j:Int) 8=((j%8:Nat):Int):=rfl;rw[this,show(8:Int)*((j%8:Nat):Int)=((8*(j%8):Nat):Int)by omega,eX (by omega)]
theorem VY {a:Nat->Int}{n:Nat}(h:IsN a n):II a=some ⟨(be n).toArray⟩:=by
 have hb:=VW h.1;obtain⟨out,h1,h2⟩:=aP (R:=mK) (S:=Nat->Int) (λj out=>Ca (nbN n:Int) (nbN n) out (nbN n:Int) (j:Int) a) (λout=>EY (nbN n) out)
  (λj out=> ∀i,i<j->out (nbN n-1-i)=((n/256^i%256:Nat):Int)) (nbN n)
  (λj hj out ho=>by
   refine⟨upd out (nbN n-1-j) ((n/256^j%256:Nat):Int),?_,λi hi=>?_⟩
   ·have e1:=a4i (j:=j) (by omega);have e2:=aj9 (j:=j);have e3:i64.wrap (i64.wrap ((nbN n:Int)-1)-(j:Int))=((nbN n-1-j:Nat):Int):=by rw[show(nbN n:Int)-1=((nbN n-1:Nat):Int)by omega,eX (by omega),show((nbN n-1:Nat):Int)-(j:Int)=((nbN n-1-j:Nat):Int)by omega,eX (by omega)]
    have e4:=a6E h (j:=j) (by omega);simp(disch:=omega) only[mK,Ca,WW,CC,e1,e2,e3,e4,axA]
   ·unfold upd;by_cases e:i=j
    ·subst e;rw[axp rfl]
    ·rw[axi (by omega)];exact ho i (by omega))
  (λout _=>by simp(disch:=omega) only[mK,Ca,WW]) (λ_=>0) (λi hi=>absurd hi (axS _))
 rw[ML];unfold KZ;have hl:=jM h;have hbl:iG n<=256:=uP h.1;have e0:i64.wrap (Int.tdiv (i64.wrap ((iG n:Int)+7)) 8)=(nbN n:Int):=by rw[show(iG n:Int)+7=((iG n+7:Nat):Int)by omega,eX (by omega),a4i (by omega)];rfl
 simp only[hl,e0];have d:((((decide ((0:Int)<=(nbN n:Int)))&&(decide ((nbN n:Int)<=(nbN n:Int))))&&(decide ((((1:Nat):Int)*(nbN n:Int))<=281474976710656)))&&(decide ((nbN n:Int)<=9223372036854775807)))=true:=by simp only[axh,axK];omega
 rw[d,bM];have h1':aD mK (((),((nbN n:Int),(((Int.toNat (nbN n:Int)),(λ_=>0)),((nbN n:Int),(0,()))))),(a,()))=some (EY (nbN n) out):=h1;rw[h1'];show some (bytesOf (nbN n) (λj=>out (0+j)))=_;rw[VX (n:=n) (λi hi=>by rw[axA];exact h2 i hi)];rfl
theorem Rj {α:Type}{n i:Nat}{f g:Nat->α}(h:i<n):glue n f g i=f i:=by unfold glue;rw[lI.2 h];rfl
theorem Rk {α:Type}{n i:Nat}{f g:Nat->α}(h:n<=i):glue n f g i=g (i-n):=by
 unfold glue;have:Nat.blt i n=false:=by cases hb:Nat.blt i n with|false=>rfl|true=>exact absurd (lI.1 hb) (by omega)
 rw[this];rfl
theorem KD(v k:Nat):v%2^(k+1)=v%2^k+2^k*(v.testBit k).toNat:=by
 rw[Nat.mod_pow_succ,azf];have:v/2^k%2<2:=axG _ (by decide);by_cases h:v/2^k%2=1
 ·rw[axw h,h];rfl
 ·rw[axz h,show v/2^k%2=0 by omega];rfl
theorem VZ {a:Nat->Int}{n:Nat}(h:IsN a n):IK a=some ⟨(be n).toArray⟩:=by
 have hb:=VW h.1;obtain⟨⟨m,out⟩,h1,h2,h3⟩:=aP (R:=jQ) (S:=Nat×(Nat->Int)) (λj s=>Cc s.1 s.2 ((nbN n:Int)-1-(j:Int)) a) (λs=>yx s.1 s.2)
  (λj s=>s.1=j/\ ∀i,i<j->s.2 i=((n/256^(nbN n-1-i)%256:Nat):Int)) (nbN n)
  (λj hj s ho=>by
   obtain⟨m,out⟩:=s;obtain⟨rfl,ho⟩:=ho;simp only at hj ho⊢;obtain⟨x,h5,h6⟩:=aP (R:=mM) (S:=Int) (λk x=>Cb m out ((nbN n:Int)-1-(m:Int)) x (k:Int) a) (λx=>F8 m out ((nbN n:Int)-1-(m:Int)) x a)
    (λk x=>x=((n/256^(nbN n-1-m)%2^k:Nat):Int)) 8
    (λk hk x hx=>by
     subst hx;have e1:i64.wrap (i64.wrap (8*((nbN n:Int)-1-(m:Int)))+(k:Int))=((8*(nbN n-1-m)+k:Nat):Int):=by rw[show(8:Int)*((nbN n:Int)-1-(m:Int))=((8*(nbN n-1-m):Nat):Int)by omega,eX (by omega),show((8*(nbN n-1-m):Nat):Int)+(k:Int)=((8*(nbN n-1-m)+k:Nat):Int)by omega,eX (by omega)]
     have e2:=NU h (((8*(nbN n-1-m)+k:Nat):Int));generalize hv:n/256^(nbN n-1-m)=v at*;have htb:n.testBit (8*(nbN n-1-m)+k)=v.testBit k:=by rw[<-hv,show(256:Nat)=2^8 from rfl,<-azg,ayi,ayK]
     rw[axE,htb]at e2;refine⟨av .or .i64 ((v%2^k:Nat):Int) (iF .i64 (if(0:Int)<=((8*(nbN n-1-m)+k:Nat):Int)/\v.testBit k=true then 1 else 0) (k:Int)),?_,?_⟩
     ·simp(disch:=omega) only[mM,Cb,WW,CC,e1,e2]
     ·have hk8:2^k<=128:=axM (by decide) (show k<=7 by omega);have hlt:v%2^k<2^k:=axG _ (azp (by decide));cases hbit:v.testBit k with
      |false=>
       rw[axi (λe=>by cases e.2)];have:iF .i64 0 (k:Int)=((0:Nat):Int):=by simp[iF];rfl
       rw[this,orS (by omega) (by omega),Nat.or_zero,KD,hbit];simp
      |true=>
       rw[axp ⟨by omega,rfl⟩];have:iF .i64 1 (k:Int)=((2^k:Nat):Int):=by
        have hk9:k<8:=hk
        match k,hk9 with
        |0,_=>rfl
        |1,_=>rfl
        |2,_=>rfl
        |3,_=>rfl
        |4,_=>rfl
        |5,_=>rfl
        |6,_=>rfl
        |7,_=>rfl
       rw[this,orS (by omega) (by omega),KD,hbit,Nat.or_comm]
       congr 1
       have:=ayG hlt 1;rw[az0]at this;rw[ayK];simpa using this.symm)
    (λx _=>by simp(disch:=omega) only[mM,Cb,WW]) 0 (by simp)
   subst h6;have h5':aD mM (((),((m,out),((nbN n:Int)-1-(m:Int),(0,(0,()))))),(a,()))=some _:=h5;have ea:av .and .i64 ((n/256^(nbN n-1-m)%2^8:Nat):Int) 255=((n/256^(nbN n-1-m)%256:Nat):Int):=by have:=a1l (a:=n/256^(nbN n-1-m)%2^8) (b:=255) (by omega) (by decide);rw[show((255:Nat):Int)=255 from rfl]at this;rw[this,show(255:Nat)=2^8-1 from rfl,ay8,azT]
   refine⟨(m+1,glue m out (λj=>(upd (λ_=>0) 0 (u8.wrap (((n/256^(nbN n-1-m)%256:Nat):Int)))) (0+j))),?_,rfl,λi hi=>?_⟩
   ·have e9:i64.wrap ((nbN n:Int)-1-(m:Int)-1)=(nbN n:Int)-1-((m+1:Nat):Int):=by rw[wrap_i64 (by omega)];omega
    have d1:decide ((nbN n:Int)-1-(m:Int)>=0)=true:=dJ (by omega);have d2:(Nat.ble ((m+1)*1) 140737488355328&&Nat.ble (m+1) 9223372036854775807)=true:=by rw[axh,Nat.ble_eq,Nat.ble_eq];omega
    simp only[jQ,Cc,d1,bM,h5',F8,d2,ea,e9]
   ·by_cases e:i<m
    ·dsimp only;rw[Rj e];exact ho i e
    ·obtain rfl:i=m:=by omega
     dsimp only;rw[Rk (axr _),ayu];show u8.wrap _=_;rw[a4h,azT])
  (λs hs=>by have d1:decide ((nbN n:Int)-1-(nbN n:Int)>=0)=false:=bF (by omega);simp only[jQ,Cc,d1,bO]) (0,λ_=>0) ⟨rfl,λi hi=>absurd hi (axS _)⟩
 have hbl:iG n<=256:=uP h.1;have e0:i64.wrap (i64.wrap (Int.tdiv (i64.wrap ((iG n:Int)+7)) 8)-1)=(nbN n:Int)-1-((0:Nat):Int):=by rw[show(iG n:Int)+7=((iG n+7:Nat):Int)by omega,eX (by omega),a4i (by omega)];show i64.wrap ((nbN n:Int)-1)=_;rw[wrap_i64 (by omega)];omega
 rw[MW];unfold Lb;have h1':aD jQ (((),((0,(λ_=>0)),((nbN n:Int)-1-((0:Nat):Int),()))),(a,()))=some (yx m out):=h1;simp only[ED h,e0,h1',yx];simp only at h2;subst h2;rw[VX (n:=n) (λi hi=>by have:out (nbN n-1-i)=_:=h3 (nbN n-1-i) (by omega);rw[axA,this,show nbN n-1-(nbN n-1-i)=i by omega])];rfl
open Go.IntKind (i64 u64 u32 u8)
theorem AP.app {n:Nat}{b:Nat->Int}{l:List UInt8}(h:AP n b l)(s:ByteArray):AP (n+s.size) (glue n b (λi=>(((s).data.toList.getD i 0).toNat:Int))) (l++bl s):=by
 refine⟨by rw[axq,h.1];rfl,λj hj=>?_⟩;by_cases e:j<n
 ·rw[Rj e,h.2 j e,axm,axm,axC (by have:=h.1;omega)]
 ·rw[Rk (by omega),axm (l:=l++bl s),ay5 (by have:=h.1;omega),<-h.1,<-axm]
theorem AP.bytes {n:Nat}{b:Nat->Int}{l:List UInt8}(h:AP n b l):bl (bytesOf n b)=l:=by
 rw[wJ];apply List.ext_getElem
 ·simp[h.1]
 ·intro i h1 h2;simp only[List.getElem_map,List.getElem_range];rw[h.2 i (by simpa using h1),axE,axm,axn h2];show UInt8.ofNat l[i].toNat=_;rw[UInt8.ofNat_toNat]
theorem DJ {n:Nat}(v:Int)(h:v=(n:Int)):u8.wrap v=((UInt8.ofNat n).toNat:Int):=by subst h;rw[a4h,UInt8.toNat_ofNat']
structure jm(n:Nat)(m:Nat->SlV (Nat->Int))(M:List (List Nat)):Prop where
 sz:n=M.length
 ms: ∀i,i<n->(m i).isMs=false
 len: ∀i,i<n->(m i).len=(M.getD i []).length
 is: ∀i,i<n-> ∀j,j<(m i).len->IsN (SlV.fn (λ_=>0) (m i) j) ((M.getD i []).getD j 0)
def xG(M:List (List Nat))(i:Nat):Prop:=(M.getD i []).length=(M.getD 0 []).length/\1<=(M.getD i []).length/\(M.getD i []).length<=7
def aaw(M:List (List Nat)):Prop:=(1<=M.length/\M.length<=25)/\ ∀i,i<M.length->xG M i
noncomputable instance evenD(M:List (List Nat)):Decidable (aaw M):=Classical.propDecidable _
noncomputable def AA(M:List (List Nat)):Bool:=decide (aaw M)
def a1Z(n:Nat):List UInt8:=UInt8.ofNat (nbN n)::be n
def Xq(r:List Nat):List UInt8:=r.flatMap a1Z
noncomputable def iQ(M:List (List Nat)):List UInt8:=if AA M then UInt8.ofNat M.length::UInt8.ofNat (M.getD 0 []).length::M.flatMap Xq else []
theorem PX {n:Nat}{m:Nat->SlV (Nat->Int)}{M:List (List Nat)}(h:jm n m M)(hn:n<9223372036854775808):Bt n m=some (AA M):=by
 obtain⟨y,h1,h2⟩:=l9 (R:=dz) (S:=Unit) (λi _=>gW n m (n:Int) (i:Int) n m) (λi _=> ∀k,k<i->xG M k)
  (λy=>(∃t:Int,0<=t/\y=jI t n m/\ ¬ ∀k,k<n->xG M k)\/(y=xU n m/\ ∀k,k<n->xG M k)) n
  (λi hi _ hp=>by
   have m1:=h.ms i hi;have m0:=h.ms 0 (by omega);have l1:=h.len i hi;have l0:=h.len 0 (by omega);have bad: ¬xG M i->(∃t:Int,0<=t/\jI (i:Int) n m=jI t n m/\ ¬ ∀k,k<n->xG M k):=λhb=>⟨i,by omega,rfl,λhg=>hb (hg i hi)⟩
   by_cases c1:(m i).len=(m 0).len
   case neg=>
    refine .inr ⟨_,?_,.inl (bad λg=>c1 (by rw[l1,l0];exact g.1))⟩;have e:((((m i).len:Nat):Int) !=(((m 0).len:Nat):Int))=true:=by rw[bne_iff_ne];omega
    simp(disch:=omega) only[dz,gW,WW,CC,m1,m0,e]
   have e:((((m i).len:Nat):Int) !=(((m 0).len:Nat):Int))=false:=by rw[c1];simp
   by_cases c2:(((m i).len:Nat):Int)<1
   ·refine .inr ⟨_,?_,.inl (bad λg=>by have:=g.2.1;omega)⟩;simp(disch:=omega) only[dz,gW,WW,CC,m1,m0,e,dJ c2]
   by_cases c3:(((m i).len:Nat):Int)>7
   ·refine .inr ⟨_,?_,.inl (bad λg=>by have:=g.2.2;omega)⟩;simp(disch:=omega) only[dz,gW,WW,CC,m1,m0,e,bF c2,dJ c3]
   ·refine .inl ⟨(),?_,λk hk=>?_⟩
    ·simp(disch:=omega) only[dz,gW,WW,CC,m1,m0,e,bF c2,bF c3]
    ·rcases azs k i with hlt|hge
     ·exact hp k hlt
     ·obtain rfl:k=i:=by omega
      exact⟨by rw[<-l1,<-l0];exact c1,by omega,by omega⟩)
  (λ_ hp=>⟨_,by simp(disch:=omega) only[dz,gW,WW],.inr ⟨rfl,hp⟩⟩) () (λk hk=>absurd hk (axS _))
 have h1':aD dz (((n,m),((),(((n:Nat):Int),(0,())))),((n,m),()))=some y:=h1;rw[HZ];unfold EA;rw[h1'];have hn':=h.sz;rcases h2 with⟨t,ht,rfl,hb⟩|⟨rfl,hg⟩
 ·have:AA M=false:=axz λg=>hb λk hk=>g.2 k (by omega)
  rw[this];simp only[jI,dJ (show t>=0 by omega),aym,bO]
 ·simp only[xU];unfold AA;by_cases c1:1<=n
  ·rw[dJ (show((n:Nat):Int)>=1 by omega),bM]
   congr 1
   apply az5.2;rw[axK,axK];exact⟨λg=>⟨⟨by omega,by omega⟩,λk hk=>hg k (by omega)⟩,λg=>by have:=g.1.2;omega⟩
  ·rw[bF (show¬((n:Nat):Int)>=1 by omega),bO]
   congr 1
   exact(axz λg=>by have:=g.1.1;omega).symm
theorem Xr {n:Nat}{m:Nat->SlV (Nat->Int)}{M:List (List Nat)}(h:jm n m M)(hn:n<9223372036854775808):Nz n m=some (AA M):=by
 obtain⟨y,h1,h2⟩:=l9 (R:=iT) (S:=Unit) (λi _=>pO n m (i:Int)) (λi _=> ∀k,k<i->xG M k)
  (λy=>(y=UQ false/\ ¬ ∀k,k<n->xG M k)\/(y=Hr n m/\ ∀k,k<n->xG M k)) n
  (λi hi _ hp=>by
   have m1:=h.ms i hi;have m0:=h.ms 0 (by omega);have l1:=h.len i hi;have l0:=h.len 0 (by omega);by_cases c1:(m i).len=(m 0).len
   case neg=>
    refine .inr ⟨_,?_,.inl ⟨rfl,λhg=>c1 (by rw[l1,l0];exact(hg i hi).1)⟩⟩;have e:((((m i).len:Nat):Int) !=(((m 0).len:Nat):Int))=true:=by rw[bne_iff_ne];omega
    simp(disch:=omega) only[iT,pO,WW,CC,m1,m0,e]
   have e:((((m i).len:Nat):Int) !=(((m 0).len:Nat):Int))=false:=by rw[c1];simp
   by_cases c2:(((m i).len:Nat):Int)<1
   ·refine .inr ⟨_,?_,.inl ⟨rfl,λhg=>by have:=(hg i hi).2.1;omega⟩⟩;simp(disch:=omega) only[iT,pO,WW,CC,m1,m0,e,dJ c2]
   by_cases c3:(((m i).len:Nat):Int)>7
   ·refine .inr ⟨_,?_,.inl ⟨rfl,λhg=>by have:=(hg i hi).2.2;omega⟩⟩;simp(disch:=omega) only[iT,pO,WW,CC,m1,m0,e,bF c2,dJ c3]
   ·refine .inl ⟨(),?_,λk hk=>?_⟩
    ·simp(disch:=omega) only[iT,pO,WW,CC,m1,m0,e,bF c2,bF c3]
    ·rcases azs k i with hlt|hge
     ·exact hp k hlt
     ·obtain rfl:k=i:=by omega
      exact⟨by rw[<-l1,<-l0];exact c1,by omega,by omega⟩)
  (λ_ hp=>⟨_,by simp(disch:=omega) only[iT,pO,WW],.inr ⟨rfl,hp⟩⟩) () (λk hk=>absurd hk (axS _))
 have h1':aD iT (((n,m),(0,())),())=some y:=h1;rw[QV];unfold P9;rw[h1'];have hn':=h.sz;rcases h2 with⟨rfl,hb⟩|⟨rfl,hg⟩
 ·have:AA M=false:=axz λg=>hb λk hk=>g.2 k (by omega)
  rw[this]
 ·simp only[Hr];unfold AA;by_cases c1:1<=n
  ·rw[dJ (show((n:Nat):Int)>=1 by omega),bM]
   congr 1
   apply az5.2;rw[axK,axK];exact⟨λg=>⟨⟨by omega,by omega⟩,λk hk=>hg k (by omega)⟩,λg=>by have:=g.1.2;omega⟩
  ·rw[bF (show¬((n:Nat):Int)>=1 by omega),bO]
   congr 1
   exact(axz λg=>by have:=g.1.1;omega).symm
theorem Jc {α β:Type}(f:α->List β)(l:List α)(k:Nat)(d:α)(h:k<l.length):(l.take (k+1)).flatMap f=(l.take k).flatMap f++f (l.getD k d):=by rw[List.take_add_one,axn h,List.flatMap_append,axm,axn h];simp
theorem aax {nb:Nat}{b:Nat->Int}{l:List UInt8}(h:AP nb b l){a:Nat->Int}{n:Nat}(ha:IsN a n):
  AP (nb+1+(ByteArray.mk (be n).toArray).size) (glue (nb+1) (glue nb b (λj=>(upd (λ_=>0) 0 (u8.wrap (((ByteArray.mk (be n).toArray).size:Nat):Int))) (0+j))) (λi=>((((ByteArray.mk (be n).toArray)).data.toList.getD i 0).toNat:Int))) (l++a1Z n):=by
 have h1:=h.push (DJ (n:=nbN n) (((ByteArray.mk (be n).toArray).size:Nat):Int) (by congr 1;exact Jb n));have h2:=h1.app (ByteArray.mk (be n).toArray);rw[ay9]at h2;exact h2
theorem jm.small {n:Nat}{m:Nat->SlV (Nat->Int)}{M:List (List Nat)}(h:jm n m M)(he:AA M=true):(1<=n/\n<=25)/\ ∀i,i<n->(m i).len<=7:=by obtain⟨⟨g1,g2⟩,g3⟩:aaw M:=of_decide_eq_true he;have:=h.sz;exact⟨⟨by omega,by omega⟩,λi hi=>by rw[h.len i hi];exact(g3 i (by omega)).2.2⟩
theorem BN {n:Nat}{m:Nat->SlV (Nat->Int)}{M:List (List Nat)}(h:jm n m M)(hn:n<9223372036854775808):uy n m=some ⟨(iQ M).toArray⟩:=by
 rw[Fq];unfold Co;rw[PX h hn];cases he:AA M with
 |false=>simp only[az9,bM,iQ,he];rfl
 |true=>
  obtain⟨⟨hn1,hn2⟩,hl7⟩:=h.small he;have h0:=h.ms 0 (by omega);obtain⟨⟨nb,b⟩,h1,h2,h3⟩:=aP (R:=gX) (S:=Nat×(Nat->Int)) (λi s=>wz n m (n:Int) (i:Int) () s.1 s.2) (λs=>Ai () s.1 s.2)
   (λi s=>AP s.1 s.2 ((UInt8.ofNat n::UInt8.ofNat (m 0).len::[])++(M.take i).flatMap Xq)/\s.1<=2+i*300) n
   (λi hi s hs=>by
    obtain⟨nb,b⟩:=s;obtain⟨hs,hs2⟩:=hs;simp only at hs hs2⊢;have hms:=h.ms i hi;have hl:=h.len i hi;have h7:=hl7 i hi;obtain⟨⟨nc,c⟩,g1,g2,g3⟩:=aP (R:=jd) (S:=Nat×(Nat->Int)) (λk s=>wu n m (n:Int) (i:Int) (m i).len (SlV.fn (λ_=>0) (m i)) (((m i).len:Nat):Int) (k:Int) () s.1 s.2) (λs=>Ah n m (n:Int) (i:Int) () s.1 s.2)
     (λk s=>AP s.1 s.2 ((UInt8.ofNat n::UInt8.ofNat (m 0).len::[])++(M.take i).flatMap Xq++((M.getD i []).take k).flatMap a1Z)/\s.1<=nb+k*33) (m i).len
     (λk hk s hs=>by
      obtain⟨nc,c⟩:=s;obtain⟨hc,hc2⟩:=hs;simp only at hc hc2⊢;have hx:=h.is i hi k hk;have hb:=VY hx;have hnb:=VW hx.1;have hsz:(ByteArray.mk (be ((M.getD i []).getD k 0)).toArray).size=nbN ((M.getD i []).getD k 0):=Jb _;have hp:=aax hc hx;rw[ay9,<-Jc a1Z _ k 0 (by omega)]at hp;refine⟨(_,_),?_,hp,by simp only;omega⟩;have d1:(Nat.ble ((nc+1)*1) 140737488355328&&Nat.ble (nc+1) 9223372036854775807)=true:=by rw[axh,Nat.ble_eq,Nat.ble_eq];omega
      have d2:(Nat.ble (((nc+1)+(ByteArray.mk (be ((M.getD i []).getD k 0)).toArray).size)*1) 140737488355328&&Nat.ble ((nc+1)+(ByteArray.mk (be ((M.getD i []).getD k 0)).toArray).size) 9223372036854775807)=true:=by rw[axh,Nat.ble_eq,Nat.ble_eq];omega
      simp(disch:=omega) only[jd,wu,WW,CC,hb,d1,d2];rfl)
     (λs _=>by simp(disch:=omega) only[jd,wu,WW]) (nb,b) ⟨by simpa using hs,by simp⟩
    have g1':aD jd (((),((n,m),((n:Int),((i:Int),(((m i).len,SlV.fn (λ_=>0) (m i)),((((m i).len:Nat):Int),(0,()))))))),(((),(nb,b)),()))=some _:=g1;refine⟨(nc,c),?_,?_,by simp only at g3⊢;omega⟩
    ·simp(disch:=omega) only[gX,wz,WW,CC,hms,g1',Ah]
    ·simp only at g2⊢;rw[hl,List.take_length,ay9]at g2;rw[Jc Xq M i [] (by have:=h.sz;omega)];exact g2)
   (λs _=>by simp(disch:=omega) only[gX,wz,WW]) (2,(glue 1 (glue 0 (λ_=>0) (λj=>(upd (λ_=>0) 0 (u8.wrap ((n:Nat):Int))) (0+j))) (λj=>(upd (λ_=>0) 0 (u8.wrap (((SlV.len (m 0)):Nat):Int))) (0+j))))
   ⟨by
    have e0:AP 0 (λ_=>0) []:=⟨rfl,λj hj=>absurd hj (axS _)⟩;have e1:=e0.push (DJ (n:=n) ((n:Nat):Int) rfl);have e2:=e1.push (DJ (n:=(m 0).len) (((m 0).len:Nat):Int) rfl);simpa using e2,by simp⟩
  have h1':aD gX (((),((n,m),(((n:Nat):Int),(0,())))),(((),(2,(glue 1 (glue 0 (λ_=>0) (λj=>(upd (λ_=>0) 0 (u8.wrap ((n:Nat):Int))) (0+j))) (λj=>(upd (λ_=>0) 0 (u8.wrap (((SlV.len (m 0)):Nat):Int))) (0+j))))),()))=some _:=h1;have hi:inb 0 n=true:=by simp only[inb,axh,axK];omega
  simp only at h2 h3;have d:Nat.ble nb 9223372036854775807=true:=by rw[Nat.ble_eq];omega
  simp only[aym,bO,hi,bM,h0,h1',Ai,d,aA1,axV]
  congr 1
  apply LK;rw[h2.bytes,h.sz,List.take_length,<-h.sz,h.len 0 (by omega),h.sz];show _=iQ M;unfold iQ;rw[he];rfl
theorem Ym(a b:ByteArray):bl (a++b)=bl a++bl b:=by simp[bl]
theorem aay(s:ByteArray)(v:Int){n:Nat}(h:v=(n:Int)):bl (s++bytesOf 1 (λj=>upd (λ_=>0) 0 (u8.wrap v) (0+j)))=bl s++[UInt8.ofNat n]:=by
 rw[Ym,wJ]
 congr 1
 show [UInt8.ofNat (u8.wrap v).toNat]=_;rw[DJ v h,axE,UInt8.ofNat_toNat]
theorem W9 {n:Nat}{m:Nat->SlV (Nat->Int)}{M:List (List Nat)}(h:jm n m M)(hn:n<9223372036854775808):J3 n m=some ⟨(iQ M).toArray⟩:=by
 rw[NA];unfold Lj;rw[Xr h hn];cases he:AA M with
 |false=>simp only[az9,bM,iQ,he];rfl
 |true=>
  obtain⟨⟨hn1,hn2⟩,hl7⟩:=h.small he;have h0:=h.ms 0 (by omega);generalize ht:bytesOf 2 (λj=>(upd (upd (λ_=>0) 0 (u8.wrap ((n:Nat):Int))) 1 (u8.wrap (((SlV.len (m 0)):Nat):Int))) (0+j))=t;have htl:bl t=UInt8.ofNat n::UInt8.ofNat (m 0).len::[]:=by rw[<-ht,wJ];show [UInt8.ofNat (u8.wrap _).toNat,UInt8.ofNat (u8.wrap _).toNat]=_;rw[DJ (n:=n) _ rfl,DJ (n:=(m 0).len) _ rfl,axE,axE,UInt8.ofNat_toNat,UInt8.ofNat_toNat]
  obtain⟨s,h1,h2,h3⟩:=aP (R:=jV) (S:=ByteArray) (λi s=>Cj n m s (i:Int)) (λs=>Fb s)
   (λi s=>bl s=bl t++(M.take i).flatMap Xq/\s.size<=2+i*300) n
   (λi hi s hs=>by
    obtain⟨hs,hs2⟩:=hs;have hms:=h.ms i hi;have hl:=h.len i hi;have h7:=hl7 i hi;have hii:inb (i:Int) n=true:=by simp only[inb,axh,axK];omega
    obtain⟨z,g1,g2,g3⟩:=aP (R:=mQ) (S:=ByteArray) (λk s=>Ci n m s (i:Int) (k:Int)) (λs=>Fa n m s (i:Int))
     (λk z=>bl z=bl t++(M.take i).flatMap Xq++((M.getD i []).take k).flatMap a1Z/\z.size<=s.size+k*33) (m i).len
     (λk hk z hz=>by
      obtain⟨hc,hc2⟩:=hz;have hx:=h.is i hi k hk;have hb:=VZ hx;have hnb:=VW hx.1;generalize hr:ByteArray.mk (be ((M.getD i []).getD k 0)).toArray=r at*;have hsz:r.size=nbN ((M.getD i []).getD k 0):=by rw[<-hr];exact Jb _
      have hbr:bl r=be ((M.getD i []).getD k 0):=by rw[<-hr]
      have hp:=aay z ((r.size:Nat):Int) (n:=nbN ((M.getD i []).getD k 0)) (by rw[hsz]);generalize hq:bytesOf 1 (λj=>upd (λ_=>0) 0 (u8.wrap ((r.size:Nat):Int)) (0+j))=q at*;have hq1:q.size=1:=by rw[<-hq,pV,wJ,azF,azG]
      refine⟨z++q++r,?_,?_,?_⟩
      ·have d1:decide ((((z.size+q.size:Nat):Int))>IntKind.i64.max)=false:=bF (by show¬_>(9223372036854775807:Int);omega);have d2:decide (((((z++q).size+r.size:Nat):Int))>IntKind.i64.max)=false:=bF (by have:(z++q).size=z.size+q.size:=ByteArray.size_append;show¬_>(9223372036854775807:Int);omega);have d3:decide ((k:Int)<(((m i).len:Nat):Int))=true:=dJ (by omega);have d4:inb (k:Int) (m i).len=true:=by simp only[inb,axh,axK];omega
       have d5:i64.wrap ((k:Int)+1)=((k+1:Nat):Int):=by rw[wrap_i64 (by omega)];omega
       simp only[mQ,Ci,hii,hms,d3,d4,bM,bO,axE,hb,hq,d5];rw[d1,bO,d2,bO]
      ·rw[Ym,hp,hc,Jc a1Z _ k 0 (by omega),hbr];simp[a1Z]
      ·rw[ByteArray.size_append,ByteArray.size_append];omega)
     (λz _=>by simp(disch:=omega) only[mQ,Ci,WW,hii,hms]) s ⟨by simpa using hs,by omega⟩
    have g1':aD mQ (((n,m),(s,((i:Int),(0,())))),())=some _:=g1;refine⟨z,?_,?_,by omega⟩
    ·simp(disch:=omega) only[jV,Cj,WW,CC,g1',Fa]
    ·rw[hl,List.take_length,ay9]at g2;rw[Jc Xq M i [] (by have:=h.sz;omega)];exact g2)
   (λs _=>by simp(disch:=omega) only[jV,Cj,WW]) t ⟨by simp,by have:=congrArg List.length htl;rw[<-pV]at this;rw[this];exact axr 2⟩
  have h1':aD jV (((n,m),(t,(0,()))),())=some _:=h1;have hi:inb 0 n=true:=by simp only[inb,axh,axK];omega
  simp only[aym,bO,hi,bM,h0,h1',Fb]
  congr 1
  apply LK;rw[h2,htl,h.sz,List.take_length,<-h.sz,h.len 0 (by omega),h.sz];show _=iQ M;unfold iQ;rw[he];rfl
open Go.IntKind (i64 u64 u32 u8)
open Go.IntKind (i64 u64 u32 u8)
def tK(k:Nat)(row:Nat->Nat->Int)(R:List Nat):Prop:=R.length=k/\ ∀j,j<k->IsN (row j) (R.getD j 0)
theorem tK.push {k:Nat}{row:Nat->Nat->Int}{R:List Nat}(h:tK k row R){a:Nat->Int}{n:Nat}(ha:IsN a n):tK (k+1) (glue k row (λj=>(upd (λ_=>(λ_=>0)) 0 a) (0+j))) (R++[n]):=by
 refine⟨by rw[axq,h.1];rfl,λj hj=>?_⟩;by_cases e:j<k
 ·rw[Rj e,axm,axC (by have:=h.1;omega),<-axm];exact h.2 j e
 ·obtain rfl:j=k:=by omega
  rw[Rk (axr _),ayu,axm,ay5 (by have:=h.1;omega),h.1,ayu];exact ha
structure Wd(k b:Nat)(out:Nat->SlV (Nat->Int))(M:List (List Nat)):Prop where
 sz:M.length=k
 ok: ∀i,i<k-> ∃row,out i= .fz b row/\tK b (λj=>row j) (M.getD i [])
theorem Wd.push {k b:Nat}{out:Nat->SlV (Nat->Int)}{M:List (List Nat)}(h:Wd k b out M){row:Nat->Nat->Int}{R:List Nat}(hr:tK b row R):
  Wd (k+1) b (glue k out (λj=>(upd (λ_=>.nil) 0 (.fz b (λj=>row (0+j)))) (0+j))) (M++[R]):=by
 refine⟨by rw[axq,h.sz];rfl,λi hi=>?_⟩;by_cases e:i<k
 ·rw[Rj e,axm,axC (by have:=h.sz;omega),<-axm];exact h.ok i e
 ·obtain rfl:i=k:=by omega
  rw[Rk (axr _),ayu,axm,ay5 (by have:=h.sz;omega),h.sz,ayu];exact⟨_,rfl,hr.1,λj hj=>by show IsN (row (0+j)) _;rw[axA];exact hr.2 j hj⟩
theorem Wd.mat {k b:Nat}{out:Nat->SlV (Nat->Int)}{M:List (List Nat)}(h:Wd k b out M):jm k (λj=>out (0+j)) M:=by
 refine⟨h.sz.symm,λi hi=>?_,λi hi=>?_,λi hi j hj=>?_⟩
 ·obtain⟨row,e,_⟩:=h.ok i hi;rw[axA,e];rfl
 ·obtain⟨row,e,hr⟩:=h.ok i hi;rw[axA,e];exact hr.1.symm
 ·obtain⟨row,e,hr⟩:=h.ok i hi;rw[axA,e]at hj⊢;exact hr.2 j hj
open Go.IntKind (i64 u64 u32 u8)
open Go.IntKind (i64 u64 u32 u8)
abbrev WS:Type:=List UInt8×Bool
structure WOk(nw:Nat)(w1:Nat->Int)(w2:Bool)(st:WS):Prop where
 row:AP nw w1 st.1
 bad:w2=st.2
open Go.IntKind (i64 u64 u32 u8)
structure a2a where
 seq:Int
 cli:Int
 dig:List UInt8
 mat:List (List Nat)
 ys:List Nat
 op:Int
 deriving DecidableEq
structure a5i where
 srv:Int
 seq:Int
 cli:Int
 dig:List UInt8
 deriving DecidableEq
noncomputable instance:Inhabited a2a:=⟨⟨0,0,[],[],[],0⟩⟩
structure ax7(x:GA)(X:a2a):Prop where
 seq:x.1.1=X.seq
 cli:x.1.2=X.cli
 dig:bl x.2.1=X.dig
 mat:jm x.2.2.1.1 x.2.2.1.2 X.mat
 ys:tK x.2.2.2.1.1 x.2.2.2.1.2 X.ys
 op:x.2.2.2.2=X.op
 m63:x.2.2.1.1<9223372036854775808
 y63:x.2.2.2.1.1<9223372036854775808
structure aso(x:VO)(X:a5i):Prop where
 srv:x.1=X.srv
 seq:x.2.1.1=X.seq
 cli:x.2.1.2=X.cli
 dig:bl x.2.2=X.dig
open Go.IntKind (i64 u64 u32 u8)
abbrev v0:a5i:=⟨0,0,0,[]⟩
abbrev g0:a2a:=⟨0,0,[],[],[],0⟩
structure aaz where
 e:a2a
 o:a2a
 w:a2a
 op:Int
 left:Int
 deriving DecidableEq
abbrev t0:aaz:=⟨g0,g0,g0,0,0⟩
structure aja where
 key:List UInt8
 held:a2a
 ech:List a5i
 rdy:List a5i
 cls:List aaz
 deriving DecidableEq
abbrev r0:aja:=⟨[],g0,[],[],[]⟩
structure ax8 where
 t:Int
 num:Int
 cls:Int
 used:List Int
 recs:List aja
 deriving DecidableEq
def ax9(x:GI):GA:=(x.1,(x.2.1,((x.2.2.1.len,SlV.fn .nil x.2.2.1),((x.2.2.2.1.len,SlV.fn (λ_=>0) x.2.2.2.1),x.2.2.2.2))))
structure abH(x:GI)(X:a2a):Prop where
 m0:x.2.2.1.isMs=false
 y0:x.2.2.2.1.isMs=false
 ga:ax7 (ax9 x) X
structure axa(x:TO)(X:aaz):Prop where
 e:abH x.1 X.e
 o:abH x.2.1 X.o
 w:abH x.2.2.1 X.w
 op:x.2.2.2.1=X.op
 left:x.2.2.2.2=X.left
structure aaA {α β:Type}(R:α->β->Prop)(n:Nat)(f:Nat->α)(L:List β)(d:β):Prop where
 sz:n=L.length
 is: ∀i,i<n->R (f i) (L.getD i d)
 l63:L.length<9223372036854775808
structure axb(x:RE)(X:aja):Prop where
 key:bl x.1=X.key
 held:abH x.2.1 X.held
 e0:x.2.2.1.isMs=false
 d0:x.2.2.2.1.isMs=false
 c0:x.2.2.2.2.isMs=false
 e:aaA aso x.2.2.1.len (SlV.fn zV x.2.2.1) X.ech v0
 d:aaA aso x.2.2.2.1.len (SlV.fn zV x.2.2.2.1) X.rdy v0
 c:aaA axa x.2.2.2.2.len (SlV.fn zT x.2.2.2.2) X.cls t0
structure axd(x:IM)(X:ax8):Prop where
 t:x.1=X.t
 num:x.2.1=X.num
 cls:x.2.2.1=X.cls
 used:aaA (λa b=>a=b) x.2.2.2.1.1 x.2.2.2.1.2 X.used 0
 recs:aaA axb x.2.2.2.2.1 x.2.2.2.2.2 X.recs r0
open Go.IntKind (i64 u64 u32 u8)
open Go.IntKind (i64 u64 u32 u8)
open Go.IntKind (i64 u64 u32 u8)
abbrev Pr(α:Type):Type:=List UInt8->Option (α×List UInt8)
structure Inv {α:Type}(p:Pr α)(e:α->List UInt8)(g:α->Bool)(w:α->Prop):Prop where
 fwd: ∀a t,g a=true->w a->p (e a++t)=some (a,t)
 bwd: ∀ {l a t},p l=some (a,t)->l=e a++t/\g a=true/\w a
def ajb {α β:Type}(f:α->β)(p:Pr α):Pr β:=λl=>match p l with|none=>none|some (a,t)=>some (f a,t)
def ajc {α β:Type}(p:Pr α)(f:α->Option β):Pr β:=λl=>match p l with
 |none=>none
 |some (a,t)=>match f a with
  |none=>none
  |some b=>some (b,t)
def abI(k:Nat):Pr Int:=λl=>if l.length<k then none else some (((ax5 (l.take k):Nat):Int),l.drop k)
theorem Inv.mp {α β:Type}{p:Pr α}{e:α->List UInt8}{g:α->Bool}{w:α->Prop}(hp:Inv p e g w)(f:α->β)(b:β->α)(h1: ∀x,f (b x)=x)(h2: ∀x,b (f x)=x):
  Inv (ajb f p) (λx=>e (b x)) (λx=>g (b x)) (λx=>w (b x)) where
 fwd:=λa t hg hw=>by unfold ajb;rw[hp.fwd (b a) t hg hw];simp only[h1]
 bwd:=λ{l a t} h0=>by
  unfold ajb at h0;cases h:p l with
  |none=>rw[h]at h0;cases h0
  |some x=>
   obtain⟨x,l1⟩:=x;rw[h]at h0;cases h0;simp only[h2];exact hp.bwd h
theorem Inv.vi {α β:Type}{p:Pr α}{e:α->List UInt8}{g:α->Bool}{w:α->Prop}(hp:Inv p e g w){f:α->Option β}{c:β->α}{g':β->Bool}{w':β->Prop}
  (h1: ∀b,g' b=true->w' b->f (c b)=some b/\w (c b)) (h2: ∀a b,f a=some b->c b=a/\g' b=true/\w' b):
  Inv (ajc p f) (λx=>e (c x)) (λx=>g' x&&g (c x)) w' where
 fwd:=λa t hg hw=>by rw[axh]at hg;unfold ajc;obtain⟨k1,k2⟩:=h1 a hg.1 hw;rw[hp.fwd (c a) t hg.2 k2];simp only[k1]
 bwd:=λ{l a t} h0=>by
  unfold ajc at h0;cases h:p l with
  |none=>rw[h]at h0;cases h0
  |some x=>
   obtain⟨x,l1⟩:=x;rw[h]at h0;simp only at h0;cases h3:f x with
   |none=>rw[h3]at h0;cases h0
   |some y=>
    rw[h3]at h0;cases h0;obtain⟨a1,a2,a3⟩:=hp.bwd h;obtain⟨b1,b2,b3⟩:=h2 x _ h3;exact⟨by rw[a1,b1],by rw[b1,a2,b2];rfl,b3⟩
open Go.IntKind (i64 u64 u32 u8)
open Go.IntKind (i64 u64 u32 u8)
abbrev SL:Type:=Option (List UInt8)
def sn {α:Type}(r:Option (α×List UInt8)):SL:=match r with|none=>none|some x=>some x.2
def asq {α:Type}(k:Nat)(f:Int->Pr α):Pr α:=λl=>match abI k l with|none=>none|some (n,l1)=>f n l1
theorem dep {α:Type}{k:Nat}{S:SL}{f:Int->Pr α}{x:Int}(h: ∀V l,S.bind (abI k)=some (V,l)->x=V):S.bind (asq k f)=(sn (S.bind (abI k))).bind (f x):=by
 cases S with
 |none=>rfl
 |some l0=>
  simp only[ay4,asq]at h⊢;cases h1:abI k l0 with
  |none=>rfl
  |some y=>rw[h y.1 y.2 h1];rfl
structure LR {α β:Type}(Rel:α->β->Prop)(n:Nat)(f:Nat->α)(L:List β)(d:β):Prop where
 sz:n=L.length
 is: ∀i,i<n->Rel (f i) (L.getD i d)
theorem LR.push {α β:Type}{Rel:α->β->Prop}{n:Nat}{f:Nat->α}{L:List β}{d:β}(h:LR Rel n f L d){x:α}{y:β}(hx:Rel x y)(z:α):
  LR Rel (n+1) (glue n f (λj=>(upd (λ_=>z) 0 x) (0+j))) (L++[y]) d:=by
 have hs:=h.sz;refine⟨by rw[axq,<-hs];rfl,λi hi=>?_⟩;by_cases e:i<n
 ·rw[Rj e,axm,axC (by omega),<-axm];exact h.is i e
 ·obtain rfl:i=n:=by omega
  rw[Rk (axr _),ayu,axm,ay5 (by omega),<-hs,ayu];exact hx
open Go.IntKind (i64 u64 u32 u8)
structure KOk(o:ByteArray×Bool)(S:SL):Prop where
 sz:o.1.size<2^40
 bad:o.2=S.isNone
 is: ∀l,S=some l->bl o.1=l
open Go.IntKind (i64 u64 u32 u8)
open Go.IntKind (i64 u64 u32 u8)
open Go.IntKind (i64 u64 u32 u8)
open Go.IntKind (i64 u64 u32 u8)
structure DOk(s:ByteArray)(o:ByteArray×(Int×Bool))(S:SL):Prop where
 st:o.1=s
 at0:0<=o.2.1/\o.2.1<=((s.size:Nat):Int)
 bad:o.2.2=S.isNone
 is: ∀l,S=some l->(bl s).drop o.2.1.toNat=l
 sz:s.size<2^40
open Go.IntKind (i64 u64 u32 u8)
open Go.IntKind (i64 u64 u32 u8)
open Go.IntKind (i64 u64 u32 u8)
open Go.IntKind (i64 u64 u32 u8)
open Go.IntKind (i64 u64 u32 u8)
open Go.IntKind (i64 u64 u32 u8)
theorem a4j {γ:Type}(d:γ){L M:List γ}(h:L.length=M.length)(e: ∀i,i<L.length->L.getD i d=M.getD i d):L=M:=by apply List.ext_getElem h;intro i h1 h2;have:=e i h1;rw[axm,axm,axn h1,axn h2]at this;exact this
theorem Yn {X Y γ:Type}[DecidableEq γ]{R:X->Option (X⊕Y)}(st:Nat->X)(no yes:Y)(L M:List γ)(d:γ)(h:L.length=M.length)
  (hstep: ∀j,j<L.length->R (st j)=if L.getD j d=M.getD j d then some (.inl (st (j+1)))else some (.inr no)) (hend:R (st L.length)=some (.inr yes)):
  aD R (st 0)=some (if L=M then yes else no):=by
 obtain⟨y,h1,h2⟩:=l9 (R:=R) (S:=Unit) (λj _=>st j) (λj _=> ∀i,i<j->L.getD i d=M.getD i d) (λy=>y=if L=M then yes else no) L.length
  (λj hj _ hp=>by
   have hs:=hstep j hj;by_cases c:L.getD j d=M.getD j d
   ·rw[axp c]at hs;left;refine⟨(),hs,λi hi=>?_⟩;by_cases e:i=j
    ·subst e;exact c
    ·exact hp i (by omega)
   ·rw[axi c]at hs;right;refine⟨no,hs,?_⟩;rw[axi (λe=>c (by rw[e]))])
  (λ_ hp=>⟨yes,hend,by rw[axp (a4j d h hp)]⟩) () (λi hi=>absurd hi (axS _))
 rw[<-h2];exact h1
theorem KE {na nb:Nat}{a b:Nat->NI}{L M:List Nat}(ha:tK na a L)(hb:tK nb b M)(h63:na<9223372036854775808):GZ na a nb b=some (decide (L=M)):=by
 have la:=ha.1;have lb:=hb.1;rw[QH];unfold OY;by_cases c:na=nb
 ·subst c;have h1:=Yn (R:=lU) (λj=>zm na a na b (j:Int)) (Uu false) Uv L M 0 (by omega)
   (λj hj=>by
    have e:=(ha.2 j (by omega)).eqb (hb.2 j (by omega));by_cases c:L.getD j 0=M.getD j 0
    ·rw[axp c];rw[axw c]at e;simp(disch:=omega) only[lU,zm,WW,CC,e,aym]
    ·rw[axi c];rw[axz c]at e;simp(disch:=omega) only[lU,zm,WW,CC,e,az9])
   (by simp(disch:=omega) only[lU,zm,WW])
  have h1':aD lU (((na,a),((na,b),(0,()))),())=some _:=h1;simp only[ayJ,bO,h1'];by_cases e:L=M
  ·rw[axp e,axw e]
  ·rw[axi e,axz e]
 ·have e:L≠M:=λe=>c (by rw[<-la,<-lb,e])
  have d:(((na:Nat):Int) !=((nb:Nat):Int))=true:=by rw[bne_iff_ne];omega
  rw[d,bM,axz e]
open Go.IntKind (i64 u64 u32 u8)
theorem jm.row {n:Nat}{m:Nat->SlV (Nat->Int)}{M:List (List Nat)}(h:jm n m M){i:Nat}(hi:i<n):tK (m i).len (SlV.fn (λ_=>0) (m i)) (M.getD i []):=⟨(h.len i hi).symm,λj hj=>h.is i hi j hj⟩
theorem Xt {na nb:Nat}{a b:Nat->SlV (Nat->Int)}{L M:List (List Nat)}(ha:jm na a L)(hb:jm nb b M)(h63:na<9223372036854775808)(r63: ∀i,i<na->(a i).len<9223372036854775808):Nw na a nb b=some (decide (L=M)):=by
 have la:=ha.sz;have lb:=hb.sz;rw[QU];unfold P8;by_cases c:na=nb
 ·subst c;have h1:=Yn (R:=lV) (λj=>zq na a na b (j:Int)) (UN false) UO L M [] (by omega)
   (λj hj=>by
    have e:=KE (ha.row (i:=j) (by omega)) (hb.row (i:=j) (by omega)) (r63 j (by omega));have m1:=ha.ms j (by omega);have m2:=hb.ms j (by omega);by_cases c:L.getD j []=M.getD j []
    ·rw[axp c];rw[axw c]at e;simp(disch:=omega) only[lV,zq,WW,CC,m1,m2,e,aym]
    ·rw[axi c];rw[axz c]at e;simp(disch:=omega) only[lV,zq,WW,CC,m1,m2,e,az9])
   (by simp(disch:=omega) only[lV,zq,WW])
  have h1':aD lV (((na,a),((na,b),(0,()))),())=some _:=h1;simp only[ayJ,bO,h1'];by_cases e:L=M
  ·rw[axp e,axw e]
  ·rw[axi e,axz e]
 ·have e:L≠M:=λe=>c (by rw[la,lb,e])
  have d:(((na:Nat):Int) !=((nb:Nat):Int))=true:=by rw[bne_iff_ne];omega
  rw[d,bM,axz e]
end Go.Pl
