/-
 States, as bytes.
-/
import Derived.Test.YtlohbhpbkieoeaaGreatMF
import Derived.Test.YtlohbhpbkieoeaaGreatMA
import Derived.Test.YtlohbhpbkieoeaaGreatPlA
import Derived.Test.YtlohbhpbkieoeaaGreatPlB
set_option linter.unusedVariables false
set_option linter.unusedSimpArgs false
namespace Go.Pl
noncomputable section
open Go Go.Den Go.Num
open Go.IntKind (i64 u64 u32 u8)
def beN(k n:Nat):List UInt8:=(List.range k).map λi=>UInt8.ofNat (n/256^(k-1-i)%256)
def nbN(n:Nat):Nat:=(iF n+7)/8
def be(n:Nat):List UInt8:=beN (nbN n) n
theorem a3L(k n:Nat):(beN k n).length=k:=by simp[beN]
theorem Jg(n:Nat):(be n).length=nbN n:=a3L _ _
theorem VD {n:Nat}(h:n<2^256):nbN n<=32:=by have:=uz h;unfold nbN;omega
theorem VE {k n:Nat}{f:Nat->Int}(h: ∀i,i<k->f (k-1-i)=((n/256^i%256:Nat):Int)):bytesOf k f=⟨(beN k n).toArray⟩:=by
 apply Cg;rw[vV];show _=beN k n;unfold beN;refine ayf λi hi=>?_
 have hi:=ayo.1 hi;have:=h (k-1-i) (by omega);rw[show k-1-(k-1-i)=i by omega]at this;rw[this,awz]
theorem Zv(n:Nat){j:Nat}(hj:j<32):n/2^(64*(j/8))%2^64/2^(8*(j%8))%256=n/256^j%256:=by
 have e1:(2:Nat)^64=2^(8*(j%8))*2^(64-8*(j%8)):=by rw[<-ay1];congr 1;omega
 rw[e1,Nat.mod_mul_right_div_self,Nat.mod_mod_of_dvd _ (show 256∣2^(64-8*(j%8))from Nat.pow_dvd_pow 2 (m:=8) (by omega)),axA,<-ay1]
 congr 2
 rw[show(256:Nat)=2^8 from rfl,<-ayM]
 congr 1;omega
theorem a3M(m:Nat):u8.wrap ((m:Nat):Int)=((m%256:Nat):Int):=by rw[wrap_u8'];omega
theorem a5W {a:Nat->Int}{n:Nat}(h:IsN a n){j:Nat}(hj:j<32):(u8.wrap (bO .u64 (a (j/8)) ((8*(j%8):Nat):Int)))=((n/256^j%256:Nat):Int):=by rw[h.2 (j/8) (by omega),Rv (awZ _ (by decide)),a3M,Zv n hj]
theorem a3N {j:Nat}(hj:j<9223372036854775808):i64.wrap (Int.tdiv (j:Int) 8)=((j/8:Nat):Int):=by have:Int.tdiv (j:Int) 8=((j/8:Nat):Int):=rfl;rw[this,eF (by omega)]
theorem aiu {j:Nat} :i64.wrap (8*(Int.tmod (j:Int) 8))=((8*(j%8):Nat):Int):=by have:Int.tmod (j:Int) 8=((j%8:Nat):Int):=rfl;rw[this,show(8:Int)*((j%8:Nat):Int)=((8*(j%8):Nat):Int)by omega,eF (by omega)]
theorem VF {a:Nat->Int}{n:Nat}(h:IsN a n):IB a=some ⟨(be n).toArray⟩:=by
 have hb:=VD h.1;obtain⟨out,h1,h2⟩:=aL (R:=mU) (S:=Nat->Int) (λj out=>BH (nbN n:Int) (nbN n) out (nbN n:Int) (j:Int) a) (λout=>EI (nbN n) out)
  (λj out=> ∀i,i<j->out (nbN n-1-i)=((n/256^i%256:Nat):Int)) (nbN n)
  (λj hj out ho=>by
   refine⟨upd out (nbN n-1-j) ((n/256^j%256:Nat):Int),?_,λi hi=>?_⟩
   ·have e1:=a3N (j:=j) (by omega);have e2:=aiu (j:=j);have e3:i64.wrap (i64.wrap ((nbN n:Int)-1)-(j:Int))=((nbN n-1-j:Nat):Int):=by rw[show(nbN n:Int)-1=((nbN n-1:Nat):Int)by omega,eF (by omega),show((nbN n-1:Nat):Int)-(j:Int)=((nbN n-1-j:Nat):Int)by omega,eF (by omega)]
    have e4:=a5W h (j:=j) (by omega);simp(disch:=omega) only[mU,BH,WW,CC,e1,e2,e3,e4,awR]
   ·unfold upd;by_cases e:i=j
    ·subst e;rw[awQ rfl]
    ·rw[awG (by omega)];exact ho i (by omega))
  (λout _=>by simp(disch:=omega) only[mU,BH,WW]) (λ_=>0) (λi hi=>absurd hi (awO _))
 rw[MK];unfold L9;have hl:=jS h;have hbl:iF n<=256:=uz h.1;have e0:i64.wrap (Int.tdiv (i64.wrap ((iF n:Int)+7)) 8)=(nbN n:Int):=by rw[show(iF n:Int)+7=((iF n+7:Nat):Int)by omega,eF (by omega),a3N (by omega)];rfl
 simp only[hl,e0];have d:((((decide ((0:Int)<=(nbN n:Int)))&&(decide ((nbN n:Int)<=(nbN n:Int))))&&(decide ((((1:Nat):Int)*(nbN n:Int))<=281474976710656)))&&(decide ((nbN n:Int)<=9223372036854775807)))=true:=by simp only[awu,awI];omega
 rw[d,aN];have h1':au mU (((),((nbN n:Int),(((Int.toNat (nbN n:Int)),(λ_=>0)),((nbN n:Int),(0,()))))),(a,()))=some (EI (nbN n) out):=h1;rw[h1'];show some (bytesOf (nbN n) (λj=>out (0+j)))=_;rw[VE (n:=n) (λi hi=>by rw[awR];exact h2 i hi)];rfl
theorem Oi {α:Type}{n i:Nat}{f g:Nat->α}(h:i<n):glue n f g i=f i:=by unfold glue;rw[iQ.2 h];rfl
theorem Oj {α:Type}{n i:Nat}{f g:Nat->α}(h:n<=i):glue n f g i=g (i-n):=by
 unfold glue;have:Nat.blt i n=false:=by cases hb:Nat.blt i n with|false=>rfl|true=>exact absurd (iQ.1 hb) (by omega)
 rw[this];rfl
theorem KJ(v k:Nat):v%2^(k+1)=v%2^k+2^k*(v.testBit k).toNat:=by
 rw[Nat.mod_pow_succ,ayk];have:v/2^k%2<2:=awZ _ (by decide);by_cases h:v/2^k%2=1
 ·rw[awv h,h];rfl
 ·rw[aww h,show v/2^k%2=0 by omega];rfl
theorem VG {a:Nat->Int}{n:Nat}(h:IsN a n):IK a=some ⟨(be n).toArray⟩:=by
 have hb:=VD h.1;obtain⟨⟨m,out⟩,h1,h2,h3⟩:=aL (R:=jZ) (S:=Nat×(Nat->Int)) (λj s=>BJ s.1 s.2 ((nbN n:Int)-1-(j:Int)) a) (λs=>xI s.1 s.2)
  (λj s=>s.1=j/\ ∀i,i<j->s.2 i=((n/256^(nbN n-1-i)%256:Nat):Int)) (nbN n)
  (λj hj s ho=>by
   obtain⟨m,out⟩:=s;obtain⟨rfl,ho⟩:=ho;simp only at hj ho⊢;obtain⟨x,h5,h6⟩:=aL (R:=mV) (S:=Int) (λk x=>BI m out ((nbN n:Int)-1-(m:Int)) x (k:Int) a) (λx=>EP m out ((nbN n:Int)-1-(m:Int)) x a)
    (λk x=>x=((n/256^(nbN n-1-m)%2^k:Nat):Int)) 8
    (λk hk x hx=>by
     subst hx;have e1:i64.wrap (i64.wrap (8*((nbN n:Int)-1-(m:Int)))+(k:Int))=((8*(nbN n-1-m)+k:Nat):Int):=by rw[show(8:Int)*((nbN n:Int)-1-(m:Int))=((8*(nbN n-1-m):Nat):Int)by omega,eF (by omega),show((8*(nbN n-1-m):Nat):Int)+(k:Int)=((8*(nbN n-1-m)+k:Nat):Int)by omega,eF (by omega)]
     have e2:=O3 h (((8*(nbN n-1-m)+k:Nat):Int));generalize hv:n/256^(nbN n-1-m)=v at*;have htb:n.testBit (8*(nbN n-1-m)+k)=v.testBit k:=by rw[<-hv,show(256:Nat)=2^8 from rfl,<-ayM,axt,axP]
     rw[awz,htb]at e2;refine⟨ay .or .i64 ((v%2^k:Nat):Int) (iE .i64 (if(0:Int)<=((8*(nbN n-1-m)+k:Nat):Int)/\v.testBit k=true then 1 else 0) (k:Int)),?_,?_⟩
     ·simp(disch:=omega) only[mV,BI,WW,CC,e1,e2]
     ·have hk8:2^k<=128:=ax1 (by decide) (show k<=7 by omega);have hlt:v%2^k<2^k:=awZ _ (ayz (by decide));cases hbit:v.testBit k with
      |false=>
       rw[awG (λe=>by cases e.2)];have:iE .i64 0 (k:Int)=((0:Nat):Int):=by simp[iE];rfl
       rw[this,orS (by omega) (by omega),Nat.or_zero,KJ,hbit];simp
      |true=>
       rw[awQ ⟨by omega,rfl⟩];have:iE .i64 1 (k:Int)=((2^k:Nat):Int):=by
        have hk9:k<8:=hk
        match k,hk9 with
        |0,_=>rfl
        |1,_=>rfl
        |2,_=>rfl
        |3,_=>rfl
        |4,_=>rfl
        |5,_=>rfl
        |6,_=>rfl
        |7,_=>rfl
       rw[this,orS (by omega) (by omega),KJ,hbit,Nat.or_comm]
       congr 1
       have:=axK hlt 1;rw[aye]at this;rw[axP];simpa using this.symm)
    (λx _=>by simp(disch:=omega) only[mV,BI,WW]) 0 (by simp)
   subst h6;have h5':au mV (((),((m,out),((nbN n:Int)-1-(m:Int),(0,(0,()))))),(a,()))=some _:=h5;have ea:ay .and .i64 ((n/256^(nbN n-1-m)%2^8:Nat):Int) 255=((n/256^(nbN n-1-m)%256:Nat):Int):=by have:=a18 (a:=n/256^(nbN n-1-m)%2^8) (b:=255) (by omega) (by decide);rw[show((255:Nat):Int)=255 from rfl]at this;rw[this,show(255:Nat)=2^8-1 from rfl,axj,Nat.mod_mod]
   refine⟨(m+1,glue m out (λj=>(upd (λ_=>0) 0 (u8.wrap (((n/256^(nbN n-1-m)%256:Nat):Int)))) (0+j))),?_,rfl,λi hi=>?_⟩
   ·have e9:i64.wrap ((nbN n:Int)-1-(m:Int)-1)=(nbN n:Int)-1-((m+1:Nat):Int):=by rw[wrap_i64 (by omega)];omega
    have d1:decide ((nbN n:Int)-1-(m:Int)>=0)=true:=aG (by omega);have d2:(Nat.ble ((m+1)*1) 140737488355328&&Nat.ble (m+1) 9223372036854775807)=true:=by rw[awu,Nat.ble_eq,Nat.ble_eq];omega
    simp only[jZ,BJ,d1,aN,h5',EP,d2,ea,e9]
   ·by_cases e:i<m
    ·dsimp only;rw[Oi e];exact ho i e
    ·obtain rfl:i=m:=by omega
     dsimp only;rw[Oj (ax2 _),axX];show u8.wrap _=_;rw[a3M,Nat.mod_mod])
  (λs hs=>by have d1:decide ((nbN n:Int)-1-(nbN n:Int)>=0)=false:=ak (by omega);simp only[jZ,BJ,d1,aM]) (0,λ_=>0) ⟨rfl,λi hi=>absurd hi (awO _)⟩
 have hbl:iF n<=256:=uz h.1;have e0:i64.wrap (i64.wrap (Int.tdiv (i64.wrap ((iF n:Int)+7)) 8)-1)=(nbN n:Int)-1-((0:Nat):Int):=by rw[show(iF n:Int)+7=((iF n+7:Nat):Int)by omega,eF (by omega),a3N (by omega)];show i64.wrap ((nbN n:Int)-1)=_;rw[wrap_i64 (by omega)];omega
 rw[MX];unfold Lg;have h1':au jZ (((),((0,(λ_=>0)),((nbN n:Int)-1-((0:Nat):Int),()))),(a,()))=some (xI m out):=h1;simp only[Em h,e0,h1',xI];simp only at h2;subst h2;rw[VE (n:=n) (λi hi=>by have:out (nbN n-1-i)=_:=h3 (nbN n-1-i) (by omega);rw[awR,this,show nbN n-1-(nbN n-1-i)=i by omega])];rfl
open Go.IntKind (i64 u64 u32 u8)
theorem Ag.app {n:Nat}{b:Nat->Int}{l:List UInt8}(h:Ag n b l)(s:ByteArray):Ag (n+s.size) (glue n b (λi=>(((s).data.toList.getD i 0).toNat:Int))) (l++bl s):=by
 refine⟨by rw[awS,h.1];rfl,λj hj=>?_⟩;by_cases e:j<n
 ·rw[Oi e,h.2 j e,awC,awC,awY (by have:=h.1;omega)]
 ·rw[Oj (by omega),awC (l:=l++bl s),axw (by have:=h.1;omega),<-h.1,<-awC]
theorem Ag.bytes {n:Nat}{b:Nat->Int}{l:List UInt8}(h:Ag n b l):bl (bytesOf n b)=l:=by
 rw[vV];apply List.ext_getElem
 ·simp[h.1]
 ·intro i h1 h2;simp only[List.getElem_map,List.getElem_range];rw[h.2 i (by simpa using h1),awz,awC,awy h2];show UInt8.ofNat l[i].toNat=_;rw[UInt8.ofNat_toNat]
theorem Dn {n:Nat}(v:Int)(h:v=(n:Int)):u8.wrap v=((UInt8.ofNat n).toNat:Int):=by subst h;rw[a3M,UInt8.toNat_ofNat']
structure uF(n:Nat)(m:Nat->SlV (Nat->Int))(M:List (List Nat)):Prop where
 sz:n=M.length
 ms: ∀i,i<n->(m i).isMs=false
 len: ∀i,i<n->(m i).len=(M.getD i []).length
 is: ∀i,i<n-> ∀j,j<(m i).len->IsN (SlV.fn (λ_=>0) (m i) j) ((M.getD i []).getD j 0)
def yY(M:List (List Nat))(i:Nat):Prop:=(M.getD i []).length=(M.getD 0 []).length/\1<=(M.getD i []).length/\(M.getD i []).length<=7
def aae(M:List (List Nat)):Prop:=(1<=M.length/\M.length<=25)/\ ∀i,i<M.length->yY M i
noncomputable instance evenD(M:List (List Nat)):Decidable (aae M):=Classical.propDecidable _
def Ii(M:List (List Nat)):Bool:=decide (aae M)
def VH(n:Nat):List UInt8:=UInt8.ofNat (nbN n)::be n
def Zw(r:List Nat):List UInt8:=r.flatMap VH
def yZ(M:List (List Nat)):List UInt8:=if Ii M then UInt8.ofNat M.length::UInt8.ofNat (M.getD 0 []).length::M.flatMap Zw else []
theorem PW {n:Nat}{m:Nat->SlV (Nat->Int)}{M:List (List Nat)}(h:uF n m M)(hn:n<9223372036854775808):AX n m=some (Ii M):=by
 obtain⟨y,h1,h2⟩:=bH (R:=bY) (S:=Unit) (λi _=>gH n m (n:Int) (i:Int) n m) (λi _=> ∀k,k<i->yY M k)
  (λy=>(∃t:Int,0<=t/\y=jL t n m/\ ¬ ∀k,k<n->yY M k)\/(y=wV n m/\ ∀k,k<n->yY M k)) n
  (λi hi _ hp=>by
   have m1:=h.ms i hi;have m0:=h.ms 0 (by omega);have l1:=h.len i hi;have l0:=h.len 0 (by omega);have bad: ¬yY M i->(∃t:Int,0<=t/\jL (i:Int) n m=jL t n m/\ ¬ ∀k,k<n->yY M k):=λhb=>⟨i,by omega,rfl,λhg=>hb (hg i hi)⟩
   by_cases c1:(m i).len=(m 0).len
   case neg=>
    refine .inr ⟨_,?_,.inl (bad λg=>c1 (by rw[l1,l0];exact g.1))⟩;have e:((((m i).len:Nat):Int) !=(((m 0).len:Nat):Int))=true:=by rw[azb];omega
    simp(disch:=omega) only[bY,gH,WW,CC,m1,m0,e]
   have e:((((m i).len:Nat):Int) !=(((m 0).len:Nat):Int))=false:=by rw[c1];simp
   by_cases c2:(((m i).len:Nat):Int)<1
   ·refine .inr ⟨_,?_,.inl (bad λg=>by have:=g.2.1;omega)⟩;simp(disch:=omega) only[bY,gH,WW,CC,m1,m0,e,aG c2]
   by_cases c3:(((m i).len:Nat):Int)>7
   ·refine .inr ⟨_,?_,.inl (bad λg=>by have:=g.2.2;omega)⟩;simp(disch:=omega) only[bY,gH,WW,CC,m1,m0,e,ak c2,aG c3]
   ·refine .inl ⟨(),?_,λk hk=>?_⟩
    ·simp(disch:=omega) only[bY,gH,WW,CC,m1,m0,e,ak c2,ak c3]
    ·rcases ayC k i with hlt|hge
     ·exact hp k hlt
     ·obtain rfl:k=i:=by omega
      exact⟨by rw[<-l1,<-l0];exact c1,by omega,by omega⟩)
  (λ_ hp=>⟨_,by simp(disch:=omega) only[bY,gH,WW],.inr ⟨rfl,hp⟩⟩) () (λk hk=>absurd hk (awO _))
 have h1':au bY (((n,m),((),(((n:Nat):Int),(0,())))),((n,m),()))=some y:=h1;rw[Gw];unfold E5;rw[h1'];have hn':=h.sz;rcases h2 with⟨t,ht,rfl,hb⟩|⟨rfl,hg⟩
 ·have:Ii M=false:=aww λg=>hb λk hk=>g.2 k (by omega)
  rw[this];simp only[jL,aG (show t>=0 by omega),axc,aM]
 ·simp only[wV];unfold Ii;by_cases c1:1<=n
  ·rw[aG (show((n:Nat):Int)>=1 by omega),aN]
   congr 1
   apply axg.2;rw[awI,awI];exact⟨λg=>⟨⟨by omega,by omega⟩,λk hk=>hg k (by omega)⟩,λg=>by have:=g.1.2;omega⟩
  ·rw[ak (show¬((n:Nat):Int)>=1 by omega),aM]
   congr 1
   exact(aww λg=>by have:=g.1.1;omega).symm
theorem Xe {n:Nat}{m:Nat->SlV (Nat->Int)}{M:List (List Nat)}(h:uF n m M)(hn:n<9223372036854775808):NA n m=some (Ii M):=by
 obtain⟨y,h1,h2⟩:=bH (R:=iT) (S:=Unit) (λi _=>pW n m (i:Int)) (λi _=> ∀k,k<i->yY M k)
  (λy=>(y=Uy false/\ ¬ ∀k,k<n->yY M k)\/(y=GQ n m/\ ∀k,k<n->yY M k)) n
  (λi hi _ hp=>by
   have m1:=h.ms i hi;have m0:=h.ms 0 (by omega);have l1:=h.len i hi;have l0:=h.len 0 (by omega);by_cases c1:(m i).len=(m 0).len
   case neg=>
    refine .inr ⟨_,?_,.inl ⟨rfl,λhg=>c1 (by rw[l1,l0];exact(hg i hi).1)⟩⟩;have e:((((m i).len:Nat):Int) !=(((m 0).len:Nat):Int))=true:=by rw[azb];omega
    simp(disch:=omega) only[iT,pW,WW,CC,m1,m0,e]
   have e:((((m i).len:Nat):Int) !=(((m 0).len:Nat):Int))=false:=by rw[c1];simp
   by_cases c2:(((m i).len:Nat):Int)<1
   ·refine .inr ⟨_,?_,.inl ⟨rfl,λhg=>by have:=(hg i hi).2.1;omega⟩⟩;simp(disch:=omega) only[iT,pW,WW,CC,m1,m0,e,aG c2]
   by_cases c3:(((m i).len:Nat):Int)>7
   ·refine .inr ⟨_,?_,.inl ⟨rfl,λhg=>by have:=(hg i hi).2.2;omega⟩⟩;simp(disch:=omega) only[iT,pW,WW,CC,m1,m0,e,ak c2,aG c3]
   ·refine .inl ⟨(),?_,λk hk=>?_⟩
    ·simp(disch:=omega) only[iT,pW,WW,CC,m1,m0,e,ak c2,ak c3]
    ·rcases ayC k i with hlt|hge
     ·exact hp k hlt
     ·obtain rfl:k=i:=by omega
      exact⟨by rw[<-l1,<-l0];exact c1,by omega,by omega⟩)
  (λ_ hp=>⟨_,by simp(disch:=omega) only[iT,pW,WW],.inr ⟨rfl,hp⟩⟩) () (λk hk=>absurd hk (awO _))
 have h1':au iT (((n,m),(0,())),())=some y:=h1;rw[QK];unfold Pk;rw[h1'];have hn':=h.sz;rcases h2 with⟨rfl,hb⟩|⟨rfl,hg⟩
 ·have:Ii M=false:=aww λg=>hb λk hk=>g.2 k (by omega)
  rw[this]
 ·simp only[GQ];unfold Ii;by_cases c1:1<=n
  ·rw[aG (show((n:Nat):Int)>=1 by omega),aN]
   congr 1
   apply axg.2;rw[awI,awI];exact⟨λg=>⟨⟨by omega,by omega⟩,λk hk=>hg k (by omega)⟩,λg=>by have:=g.1.2;omega⟩
  ·rw[ak (show¬((n:Nat):Int)>=1 by omega),aM]
   congr 1
   exact(aww λg=>by have:=g.1.1;omega).symm
theorem Jh {α β:Type}(f:α->List β)(l:List α)(k:Nat)(d:α)(h:k<l.length):(l.take (k+1)).flatMap f=(l.take k).flatMap f++f (l.getD k d):=by rw[List.take_add_one,awy h,List.flatMap_append,awC,awy h];simp
theorem a1O(n:Nat):(VH n).length=nbN n+1:=by simp[VH,Jg]
theorem aaf {nb:Nat}{b:Nat->Int}{l:List UInt8}(h:Ag nb b l){a:Nat->Int}{n:Nat}(ha:IsN a n):
  Ag (nb+1+(ByteArray.mk (be n).toArray).size) (glue (nb+1) (glue nb b (λj=>(upd (λ_=>0) 0 (u8.wrap (((ByteArray.mk (be n).toArray).size:Nat):Int))) (0+j))) (λi=>((((ByteArray.mk (be n).toArray)).data.toList.getD i 0).toNat:Int))) (l++VH n):=by
 have h1:=h.push (Dn (n:=nbN n) (((ByteArray.mk (be n).toArray).size:Nat):Int) (by congr 1;exact Jg n));have h2:=h1.app (ByteArray.mk (be n).toArray);rw[axx]at h2;exact h2
theorem uF.small {n:Nat}{m:Nat->SlV (Nat->Int)}{M:List (List Nat)}(h:uF n m M)(he:Ii M=true):(1<=n/\n<=25)/\ ∀i,i<n->(m i).len<=7:=by obtain⟨⟨g1,g2⟩,g3⟩:aae M:=az4 he;have:=h.sz;exact⟨⟨by omega,by omega⟩,λi hi=>by rw[h.len i hi];exact(g3 i (by omega)).2.2⟩
theorem Ol {n:Nat}{m:Nat->SlV (Nat->Int)}{M:List (List Nat)}(h:uF n m M)(hn:n<9223372036854775808):yP n m=some ⟨(yZ M).toArray⟩:=by
 rw[EU];unfold BN;rw[PW h hn];cases he:Ii M with
 |false=>simp only[axz,aN,yZ,he];rfl
 |true=>
  obtain⟨⟨hn1,hn2⟩,hl7⟩:=h.small he;have h0:=h.ms 0 (by omega);obtain⟨⟨nb,b⟩,h1,h2,h3⟩:=aL (R:=gI) (S:=Nat×(Nat->Int)) (λi s=>vF n m (n:Int) (i:Int) () s.1 s.2) (λs=>zK () s.1 s.2)
   (λi s=>Ag s.1 s.2 ((UInt8.ofNat n::UInt8.ofNat (m 0).len::[])++(M.take i).flatMap Zw)/\s.1<=2+i*300) n
   (λi hi s hs=>by
    obtain⟨nb,b⟩:=s;obtain⟨hs,hs2⟩:=hs;simp only at hs hs2⊢;have hms:=h.ms i hi;have hl:=h.len i hi;have h7:=hl7 i hi;obtain⟨⟨nc,c⟩,g1,g2,g3⟩:=aL (R:=jk) (S:=Nat×(Nat->Int)) (λk s=>vE n m (n:Int) (i:Int) (m i).len (SlV.fn (λ_=>0) (m i)) (((m i).len:Nat):Int) (k:Int) () s.1 s.2) (λs=>zJ n m (n:Int) (i:Int) () s.1 s.2)
     (λk s=>Ag s.1 s.2 ((UInt8.ofNat n::UInt8.ofNat (m 0).len::[])++(M.take i).flatMap Zw++((M.getD i []).take k).flatMap VH)/\s.1<=nb+k*33) (m i).len
     (λk hk s hs=>by
      obtain⟨nc,c⟩:=s;obtain⟨hc,hc2⟩:=hs;simp only at hc hc2⊢;have hx:=h.is i hi k hk;have hb:=VF hx;have hnb:=VD hx.1;have hsz:(ByteArray.mk (be ((M.getD i []).getD k 0)).toArray).size=nbN ((M.getD i []).getD k 0):=Jg _;have hp:=aaf hc hx;rw[axx,<-Jh VH _ k 0 (by omega)]at hp;refine⟨(_,_),?_,hp,by simp only;omega⟩;have d1:(Nat.ble ((nc+1)*1) 140737488355328&&Nat.ble (nc+1) 9223372036854775807)=true:=by rw[awu,Nat.ble_eq,Nat.ble_eq];omega
      have d2:(Nat.ble (((nc+1)+(ByteArray.mk (be ((M.getD i []).getD k 0)).toArray).size)*1) 140737488355328&&Nat.ble ((nc+1)+(ByteArray.mk (be ((M.getD i []).getD k 0)).toArray).size) 9223372036854775807)=true:=by rw[awu,Nat.ble_eq,Nat.ble_eq];omega
      simp(disch:=omega) only[jk,vE,WW,CC,hb,d1,d2];rfl)
     (λs _=>by simp(disch:=omega) only[jk,vE,WW]) (nb,b) ⟨by simpa using hs,by simp⟩
    have g1':au jk (((),((n,m),((n:Int),((i:Int),(((m i).len,SlV.fn (λ_=>0) (m i)),((((m i).len:Nat):Int),(0,()))))))),(((),(nb,b)),()))=some _:=g1;refine⟨(nc,c),?_,?_,by simp only at g3⊢;omega⟩
    ·simp(disch:=omega) only[gI,vF,WW,CC,hms,g1',zJ]
    ·simp only at g2⊢;rw[hl,List.take_length,axx]at g2;rw[Jh Zw M i [] (by have:=h.sz;omega)];exact g2)
   (λs _=>by simp(disch:=omega) only[gI,vF,WW]) (2,(glue 1 (glue 0 (λ_=>0) (λj=>(upd (λ_=>0) 0 (u8.wrap ((n:Nat):Int))) (0+j))) (λj=>(upd (λ_=>0) 0 (u8.wrap (((SlV.len (m 0)):Nat):Int))) (0+j))))
   ⟨by
    have e0:Ag 0 (λ_=>0) []:=⟨rfl,λj hj=>absurd hj (awO _)⟩;have e1:=e0.push (Dn (n:=n) ((n:Nat):Int) rfl);have e2:=e1.push (Dn (n:=(m 0).len) (((m 0).len:Nat):Int) rfl);simpa using e2,by simp⟩
  have h1':au gI (((),((n,m),(((n:Nat):Int),(0,())))),(((),(2,(glue 1 (glue 0 (λ_=>0) (λj=>(upd (λ_=>0) 0 (u8.wrap ((n:Nat):Int))) (0+j))) (λj=>(upd (λ_=>0) 0 (u8.wrap (((SlV.len (m 0)):Nat):Int))) (0+j))))),()))=some _:=h1;have hi:inb 0 n=true:=by simp only[inb,awu,awI];omega
  simp only at h2 h3;have d:Nat.ble nb 9223372036854775807=true:=by rw[Nat.ble_eq];omega
  simp only[axc,aM,hi,aN,h0,h1',zK,d,aza,ax4]
  congr 1
  apply Cg;rw[h2.bytes,h.sz,List.take_length,<-h.sz,h.len 0 (by omega),h.sz];show _=yZ M;unfold yZ;rw[he];rfl
theorem Y5(a b:ByteArray):bl (a++b)=bl a++bl b:=by simp[bl]
theorem aag(s:ByteArray)(v:Int){n:Nat}(h:v=(n:Int)):bl (s++bytesOf 1 (λj=>upd (λ_=>0) 0 (u8.wrap v) (0+j)))=bl s++[UInt8.ofNat n]:=by
 rw[Y5,vV]
 congr 1
 show [UInt8.ofNat (u8.wrap v).toNat]=_;rw[Dn v h,awz,UInt8.ofNat_toNat]
theorem VI {n:Nat}{m:Nat->SlV (Nat->Int)}{M:List (List Nat)}(h:uF n m M)(hn:n<9223372036854775808):J3 n m=some ⟨(yZ M).toArray⟩:=by
 rw[NC];unfold LD;rw[Xe h hn];cases he:Ii M with
 |false=>simp only[axz,aN,yZ,he];rfl
 |true=>
  obtain⟨⟨hn1,hn2⟩,hl7⟩:=h.small he;have h0:=h.ms 0 (by omega);generalize ht:bytesOf 2 (λj=>(upd (upd (λ_=>0) 0 (u8.wrap ((n:Nat):Int))) 1 (u8.wrap (((SlV.len (m 0)):Nat):Int))) (0+j))=t;have htl:bl t=UInt8.ofNat n::UInt8.ofNat (m 0).len::[]:=by rw[<-ht,vV];show [UInt8.ofNat (u8.wrap _).toNat,UInt8.ofNat (u8.wrap _).toNat]=_;rw[Dn (n:=n) _ rfl,Dn (n:=(m 0).len) _ rfl,awz,awz,UInt8.ofNat_toNat,UInt8.ofNat_toNat]
  obtain⟨s,h1,h2,h3⟩:=aL (R:=kE) (S:=ByteArray) (λi s=>BR n m s (i:Int)) (λs=>F3 s)
   (λi s=>bl s=bl t++(M.take i).flatMap Zw/\s.size<=2+i*300) n
   (λi hi s hs=>by
    obtain⟨hs,hs2⟩:=hs;have hms:=h.ms i hi;have hl:=h.len i hi;have h7:=hl7 i hi;have hii:inb (i:Int) n=true:=by simp only[inb,awu,awI];omega
    obtain⟨z,g1,g2,g3⟩:=aL (R:=ng) (S:=ByteArray) (λk s=>BQ n m s (i:Int) (k:Int)) (λs=>EZ n m s (i:Int))
     (λk z=>bl z=bl t++(M.take i).flatMap Zw++((M.getD i []).take k).flatMap VH/\z.size<=s.size+k*33) (m i).len
     (λk hk z hz=>by
      obtain⟨hc,hc2⟩:=hz;have hx:=h.is i hi k hk;have hb:=VG hx;have hnb:=VD hx.1;generalize hr:ByteArray.mk (be ((M.getD i []).getD k 0)).toArray=r at*;have hsz:r.size=nbN ((M.getD i []).getD k 0):=by rw[<-hr];exact Jg _
      have hbr:bl r=be ((M.getD i []).getD k 0):=by rw[<-hr]
      have hp:=aag z ((r.size:Nat):Int) (n:=nbN ((M.getD i []).getD k 0)) (by rw[hsz]);generalize hq:bytesOf 1 (λj=>upd (λ_=>0) 0 (u8.wrap ((r.size:Nat):Int)) (0+j))=q at*;have hq1:q.size=1:=by rw[<-hq,iI,vV,List.length_map,List.length_range]
      refine⟨z++q++r,?_,?_,?_⟩
      ·have d1:decide ((((z.size+q.size:Nat):Int))>IntKind.i64.max)=false:=ak (by show¬_>(9223372036854775807:Int);omega);have d2:decide (((((z++q).size+r.size:Nat):Int))>IntKind.i64.max)=false:=ak (by have:(z++q).size=z.size+q.size:=ByteArray.size_append;show¬_>(9223372036854775807:Int);omega);have d3:decide ((k:Int)<(((m i).len:Nat):Int))=true:=aG (by omega);have d4:inb (k:Int) (m i).len=true:=by simp only[inb,awu,awI];omega
       have d5:i64.wrap ((k:Int)+1)=((k+1:Nat):Int):=by rw[wrap_i64 (by omega)];omega
       simp only[ng,BQ,hii,hms,d3,d4,aN,aM,awz,hb,hq,d5];rw[d1,aM,d2,aM]
      ·rw[Y5,hp,hc,Jh VH _ k 0 (by omega),hbr];simp[VH]
      ·rw[ByteArray.size_append,ByteArray.size_append];omega)
     (λz _=>by simp(disch:=omega) only[ng,BQ,WW,hii,hms]) s ⟨by simpa using hs,by omega⟩
    have g1':au ng (((n,m),(s,((i:Int),(0,())))),())=some _:=g1;refine⟨z,?_,?_,by omega⟩
    ·simp(disch:=omega) only[kE,BR,WW,CC,g1',EZ]
    ·rw[hl,List.take_length,axx]at g2;rw[Jh Zw M i [] (by have:=h.sz;omega)];exact g2)
   (λs _=>by simp(disch:=omega) only[kE,BR,WW]) t ⟨by simp,by have:=congrArg List.length htl;rw[<-iI]at this;rw[this];exact ax2 2⟩
  have h1':au kE (((n,m),(t,(0,()))),())=some _:=h1;have hi:inb 0 n=true:=by simp only[inb,awu,awI];omega
  simp only[axc,aM,hi,aN,h0,h1',F3]
  congr 1
  apply Cg;rw[h2,htl,h.sz,List.take_length,<-h.sz,h.len 0 (by omega),h.sz];show _=yZ M;unfold yZ;rw[he];rfl
open Go.IntKind (i64 u64 u32 u8)
open Go.IntKind (i64 u64 u32 u8)
def Fv(k:Nat)(row:Nat->Nat->Int)(R:List Nat):Prop:=R.length=k/\ ∀j,j<k->IsN (row j) (R.getD j 0)
theorem Fv.push {k:Nat}{row:Nat->Nat->Int}{R:List Nat}(h:Fv k row R){a:Nat->Int}{n:Nat}(ha:IsN a n):Fv (k+1) (glue k row (λj=>(upd (λ_=>(λ_=>0)) 0 a) (0+j))) (R++[n]):=by
 refine⟨by rw[awS,h.1];rfl,λj hj=>?_⟩;by_cases e:j<k
 ·rw[Oi e,awC,awY (by have:=h.1;omega),<-awC];exact h.2 j e
 ·obtain rfl:j=k:=by omega
  rw[Oj (ax2 _),axX,awC,axw (by have:=h.1;omega),h.1,axX];exact ha
structure VJ(k b:Nat)(out:Nat->SlV (Nat->Int))(M:List (List Nat)):Prop where
 sz:M.length=k
 ok: ∀i,i<k-> ∃row,out i= .fz b row/\Fv b (λj=>row j) (M.getD i [])
theorem VJ.push {k b:Nat}{out:Nat->SlV (Nat->Int)}{M:List (List Nat)}(h:VJ k b out M){row:Nat->Nat->Int}{R:List Nat}(hr:Fv b row R):
  VJ (k+1) b (glue k out (λj=>(upd (λ_=>.nil) 0 (.fz b (λj=>row (0+j)))) (0+j))) (M++[R]):=by
 refine⟨by rw[awS,h.sz];rfl,λi hi=>?_⟩;by_cases e:i<k
 ·rw[Oi e,awC,awY (by have:=h.sz;omega),<-awC];exact h.ok i e
 ·obtain rfl:i=k:=by omega
  rw[Oj (ax2 _),axX,awC,axw (by have:=h.sz;omega),h.sz,axX];exact⟨_,rfl,hr.1,λj hj=>by show IsN (row (0+j)) _;rw[awR];exact hr.2 j hj⟩
theorem VJ.mat {k b:Nat}{out:Nat->SlV (Nat->Int)}{M:List (List Nat)}(h:VJ k b out M):uF k (λj=>out (0+j)) M:=by
 refine⟨h.sz.symm,λi hi=>?_,λi hi=>?_,λi hi j hj=>?_⟩
 ·obtain⟨row,e,_⟩:=h.ok i hi;rw[awR,e];rfl
 ·obtain⟨row,e,hr⟩:=h.ok i hi;rw[awR,e];exact hr.1.symm
 ·obtain⟨row,e,hr⟩:=h.ok i hi;rw[awR,e]at hj⊢;exact hr.2 j hj
open Go.IntKind (i64 u64 u32 u8)
open Go.IntKind (i64 u64 u32 u8)
abbrev WS:Type:=List UInt8×Bool
structure WOk(nw:Nat)(w1:Nat->Int)(w2:Bool)(st:WS):Prop where
 row:Ag nw w1 st.1
 bad:w2=st.2
open Go.IntKind (i64 u64 u32 u8)
structure sN where
 seq:Int
 cli:Int
 dig:List UInt8
 mat:List (List Nat)
 ys:List Nat
 op:Int
 deriving DecidableEq
structure Om where
 srv:Int
 seq:Int
 cli:Int
 dig:List UInt8
 deriving DecidableEq
noncomputable instance:Inhabited sN:=⟨⟨0,0,[],[],[],0⟩⟩
structure a1P(x:GA)(X:sN):Prop where
 seq:x.1.1=X.seq
 cli:x.1.2=X.cli
 dig:bl x.2.1=X.dig
 mat:uF x.2.2.1.1 x.2.2.1.2 X.mat
 ys:Fv x.2.2.2.1.1 x.2.2.2.1.2 X.ys
 op:x.2.2.2.2=X.op
 m63:x.2.2.1.1<9223372036854775808
 y63:x.2.2.2.1.1<9223372036854775808
structure VK(x:VO)(X:Om):Prop where
 srv:x.1=X.srv
 seq:x.2.1.1=X.seq
 cli:x.2.1.2=X.cli
 dig:bl x.2.2=X.dig
open Go.IntKind (i64 u64 u32 u8)
abbrev v0:Om:=⟨0,0,0,[]⟩
abbrev g0:sN:=⟨0,0,[],[],[],0⟩
structure yw where
 e:sN
 o:sN
 w:sN
 op:Int
 left:Int
 deriving DecidableEq
abbrev t0:yw:=⟨g0,g0,g0,0,0⟩
structure PX where
 key:List UInt8
 held:sN
 ech:List Om
 rdy:List Om
 cls:List yw
 deriving DecidableEq
abbrev r0:PX:=⟨[],g0,[],[],[]⟩
structure VL where
 t:Int
 num:Int
 cls:Int
 used:List Int
 recs:List PX
 deriving DecidableEq
def Ij(x:GI):GA:=(x.1,(x.2.1,((x.2.2.1.len,SlV.fn .nil x.2.2.1),((x.2.2.2.1.len,SlV.fn (λ_=>0) x.2.2.2.1),x.2.2.2.2))))
structure a1Q(x:GI)(X:sN):Prop where
 m0:x.2.2.1.isMs=false
 y0:x.2.2.2.1.isMs=false
 ga:a1P (Ij x) X
structure abp(x:TO)(X:yw):Prop where
 e:a1Q x.1 X.e
 o:a1Q x.2.1 X.o
 w:a1Q x.2.2.1 X.w
 op:x.2.2.2.1=X.op
 left:x.2.2.2.2=X.left
structure RL {α β:Type}(R:α->β->Prop)(n:Nat)(f:Nat->α)(L:List β)(d:β):Prop where
 sz:n=L.length
 is: ∀i,i<n->R (f i) (L.getD i d)
 l63:L.length<9223372036854775808
structure a5X(x:RE)(X:PX):Prop where
 key:bl x.1=X.key
 held:a1Q x.2.1 X.held
 e0:x.2.2.1.isMs=false
 d0:x.2.2.2.1.isMs=false
 c0:x.2.2.2.2.isMs=false
 e:RL VK x.2.2.1.len (SlV.fn zV x.2.2.1) X.ech v0
 d:RL VK x.2.2.2.1.len (SlV.fn zV x.2.2.2.1) X.rdy v0
 c:RL abp x.2.2.2.2.len (SlV.fn zT x.2.2.2.2) X.cls t0
structure a5Y(x:IM)(X:VL):Prop where
 t:x.1=X.t
 num:x.2.1=X.num
 cls:x.2.2.1=X.cls
 used:RL (λa b=>a=b) x.2.2.2.1.1 x.2.2.2.1.2 X.used 0
 recs:RL a5X x.2.2.2.2.1 x.2.2.2.2.2 X.recs r0
open Go.IntKind (i64 u64 u32 u8)
open Go.IntKind (i64 u64 u32 u8)
open Go.IntKind (i64 u64 u32 u8)
abbrev Pr(α:Type):Type:=List UInt8->Option (α×List UInt8)
structure Inv {α:Type}(p:Pr α)(e:α->List UInt8)(g:α->Bool)(w:α->Prop):Prop where
 fwd: ∀a t,g a=true->w a->p (e a++t)=some (a,t)
 bwd: ∀ {l a t},p l=some (a,t)->l=e a++t/\g a=true/\w a
def aiv {α β:Type}(f:α->β)(p:Pr α):Pr β:=λl=>match p l with|none=>none|some (a,t)=>some (f a,t)
def aiw {α β:Type}(p:Pr α)(f:α->Option β):Pr β:=λl=>match p l with
 |none=>none
 |some (a,t)=>match f a with
  |none=>none
  |some b=>some (b,t)
theorem Inv.mp {α β:Type}{p:Pr α}{e:α->List UInt8}{g:α->Bool}{w:α->Prop}(hp:Inv p e g w)(f:α->β)(b:β->α)(h1: ∀x,f (b x)=x)(h2: ∀x,b (f x)=x):
  Inv (aiv f p) (λx=>e (b x)) (λx=>g (b x)) (λx=>w (b x)) where
 fwd:=λa t hg hw=>by unfold aiv;rw[hp.fwd (b a) t hg hw];simp only[h1]
 bwd:=λ{l a t} h0=>by
  unfold aiv at h0;cases h:p l with
  |none=>rw[h]at h0;cases h0
  |some x=>
   obtain⟨x,l1⟩:=x;rw[h]at h0;cases h0;simp only[h2];exact hp.bwd h
theorem Inv.vi {α β:Type}{p:Pr α}{e:α->List UInt8}{g:α->Bool}{w:α->Prop}(hp:Inv p e g w){f:α->Option β}{c:β->α}{g':β->Bool}{w':β->Prop}
  (h1: ∀b,g' b=true->w' b->f (c b)=some b/\w (c b)) (h2: ∀a b,f a=some b->c b=a/\g' b=true/\w' b):
  Inv (aiw p f) (λx=>e (c x)) (λx=>g' x&&g (c x)) w' where
 fwd:=λa t hg hw=>by rw[awu]at hg;unfold aiw;obtain⟨k1,k2⟩:=h1 a hg.1 hw;rw[hp.fwd (c a) t hg.2 k2];simp only[k1]
 bwd:=λ{l a t} h0=>by
  unfold aiw at h0;cases h:p l with
  |none=>rw[h]at h0;cases h0
  |some x=>
   obtain⟨x,l1⟩:=x;rw[h]at h0;simp only at h0;cases h3:f x with
   |none=>rw[h3]at h0;cases h0
   |some y=>
    rw[h3]at h0;cases h0;obtain⟨a1,a2,a3⟩:=hp.bwd h;obtain⟨b1,b2,b3⟩:=h2 x _ h3;exact⟨by rw[a1,b1],by rw[b1,a2,b2];rfl,b3⟩
open Go.IntKind (i64 u64 u32 u8)
def a4H(M:List (List Nat)):Prop:= ∀R∈M,∀n∈R,n<2^256
def Oo(X:sN):Prop:=True/\True/\True/\a4H X.mat/\(∀y∈X.ys,y<2^256)/\True
def aah(X:yw):Prop:=Oo X.e/\Oo X.o/\Oo X.w/\True/\True
def adu(X:PX):Prop:=True/\Oo X.held/\(∀v∈X.ech,True/\True/\True/\True)/\(∀v∈X.rdy,True/\True/\True/\True)/\ ∀c∈X.cls,aah c
def as6(X:VL):Prop:=True/\True/\True/\(∀v∈X.used,True)/\ ∀r∈X.recs,adu r
open Go.IntKind (i64 u64 u32 u8)
theorem a3O {γ:Type}(d:γ){L M:List γ}(h:L.length=M.length)(e: ∀i,i<L.length->L.getD i d=M.getD i d):L=M:=by apply List.ext_getElem h;intro i h1 h2;have:=e i h1;rw[awC,awC,awy h1,awy h2]at this;exact this
theorem zf {X Y γ:Type}[DecidableEq γ]{R:X->Option (X⊕Y)}(st:Nat->X)(no yes:Y)(L M:List γ)(d:γ)(h:L.length=M.length)
  (hstep: ∀j,j<L.length->R (st j)=if L.getD j d=M.getD j d then some (.inl (st (j+1)))else some (.inr no)) (hend:R (st L.length)=some (.inr yes)):
  au R (st 0)=some (if L=M then yes else no):=by
 obtain⟨y,h1,h2⟩:=bH (R:=R) (S:=Unit) (λj _=>st j) (λj _=> ∀i,i<j->L.getD i d=M.getD i d) (λy=>y=if L=M then yes else no) L.length
  (λj hj _ hp=>by
   have hs:=hstep j hj;by_cases c:L.getD j d=M.getD j d
   ·rw[awQ c]at hs;left;refine⟨(),hs,λi hi=>?_⟩;by_cases e:i=j
    ·subst e;exact c
    ·exact hp i (by omega)
   ·rw[awG c]at hs;right;refine⟨no,hs,?_⟩;rw[awG (λe=>c (by rw[e]))])
  (λ_ hp=>⟨yes,hend,by rw[awQ (a3O d h hp)]⟩) () (λi hi=>absurd hi (awO _))
 rw[<-h2];exact h1
theorem KL {na nb:Nat}{a b:Nat->NI}{L M:List Nat}(ha:Fv na a L)(hb:Fv nb b M)(h63:na<9223372036854775808):Gs na a nb b=some (decide (L=M)):=by
 have la:=ha.1;have lb:=hb.1;rw[QC];unfold Pb;by_cases c:na=nb
 ·subst c;have h1:=zf (R:=lQ) (λj=>yL na a na b (j:Int)) (U9 false) Ua L M 0 (by omega)
   (λj hj=>by
    have e:=(ha.2 j (by omega)).eqb (hb.2 j (by omega));by_cases c:L.getD j 0=M.getD j 0
    ·rw[awQ c];rw[awv c]at e;simp(disch:=omega) only[lQ,yL,WW,CC,e,axc]
    ·rw[awG c];rw[aww c]at e;simp(disch:=omega) only[lQ,yL,WW,CC,e,axz])
   (by simp(disch:=omega) only[lQ,yL,WW])
  have h1':au lQ (((na,a),((na,b),(0,()))),())=some _:=h1;simp only[axG,aM,h1'];by_cases e:L=M
  ·rw[awQ e,awv e]
  ·rw[awG e,aww e]
 ·have e:L≠M:=λe=>c (by rw[<-la,<-lb,e])
  have d:(((na:Nat):Int) !=((nb:Nat):Int))=true:=by rw[azb];omega
  rw[d,aN,aww e]
open Go.IntKind (i64 u64 u32 u8)
theorem uF.row {n:Nat}{m:Nat->SlV (Nat->Int)}{M:List (List Nat)}(h:uF n m M){i:Nat}(hi:i<n):Fv (m i).len (SlV.fn (λ_=>0) (m i)) (M.getD i []):=⟨(h.len i hi).symm,λj hj=>h.is i hi j hj⟩
theorem Xf {na nb:Nat}{a b:Nat->SlV (Nat->Int)}{L M:List (List Nat)}(ha:uF na a L)(hb:uF nb b M)(h63:na<9223372036854775808)(r63: ∀i,i<na->(a i).len<9223372036854775808):Nw na a nb b=some (decide (L=M)):=by
 have la:=ha.sz;have lb:=hb.sz;rw[QI];unfold Pj;by_cases c:na=nb
 ·subst c;have h1:=zf (R:=lS) (λj=>yS na a na b (j:Int)) (Uu false) Uv L M [] (by omega)
   (λj hj=>by
    have e:=KL (ha.row (i:=j) (by omega)) (hb.row (i:=j) (by omega)) (r63 j (by omega));have m1:=ha.ms j (by omega);have m2:=hb.ms j (by omega);by_cases c:L.getD j []=M.getD j []
    ·rw[awQ c];rw[awv c]at e;simp(disch:=omega) only[lS,yS,WW,CC,m1,m2,e,axc]
    ·rw[awG c];rw[aww c]at e;simp(disch:=omega) only[lS,yS,WW,CC,m1,m2,e,axz])
   (by simp(disch:=omega) only[lS,yS,WW])
  have h1':au lS (((na,a),((na,b),(0,()))),())=some _:=h1;simp only[axG,aM,h1'];by_cases e:L=M
  ·rw[awQ e,awv e]
  ·rw[awG e,aww e]
 ·have e:L≠M:=λe=>c (by rw[la,lb,e])
  have d:(((na:Nat):Int) !=((nb:Nat):Int))=true:=by rw[azb];omega
  rw[d,aN,aww e]
theorem PY(s t:ByteArray):sEq s t=decide (bl s=bl t):=by
 by_cases h:bl s=bl t
 ·rw[awv h];exact a9Z h
 ·rw[aww h,<-Bool.not_eq_true,Et];exact h
theorem aai(X Y:sN):(bif decide (X.seq=Y.seq/\X.cli=Y.cli)then bif decide (X.dig=Y.dig)then bif decide (X.mat=Y.mat)then bif decide (X.ys=Y.ys)then some (decide (X.op=Y.op))else some false else some false else some false else some false)=some (decide (X=Y)):=by obtain⟨a,b,c,d,e,f⟩:=X;obtain⟨a',b',c',d',e',f'⟩:=Y;simp only[sN.mk.injEq];by_cases h1:a=a'<;>by_cases h2:b=b'<;>by_cases h3:c=c'<;>by_cases h4:d=d'<;>by_cases h5:e=e'<;>simp[h1,h2,h3,h4,h5]
theorem abq {x y:VO}{X Y:Om}(hx:VK x X)(hy:VK y Y):eqF (.pair (.int .i64) (.pair (.pair (.int .i64) (.int .i64)) .str)) x y=decide (X=Y):=by show((x.1==y.1)&&(((x.2.1.1==y.2.1.1)&&(x.2.1.2==y.2.1.2))&&sEq x.2.2 y.2.2))=_;rw[hx.srv,hx.seq,hx.cli,PY,hx.dig,hy.srv,hy.seq,hy.cli,hy.dig];obtain⟨a,b,c,d⟩:=X;obtain⟨a',b',c',d'⟩:=Y;simp only[Om.mk.injEq];by_cases h1:a=a'<;>by_cases h2:b=b'<;>by_cases h3:c=c'<;>by_cases h4:d=d'<;>simp[h1,h2,h3,h4]
def as7(x:GA):Prop:= ∀i,i<x.2.2.1.1->(x.2.2.1.2 i).len<9223372036854775808
theorem VN {x y:GA}{X Y:sN}(hx:a1P x X)(hy:a1P y Y)(h:as7 x):je x y=some (decide (X=Y)):=by
 have e0:eqF (.pair (.int .i64) (.int .i64)) x.1 y.1=decide (X.seq=Y.seq/\X.cli=Y.cli):=by show((x.1.1==y.1.1)&&(x.1.2==y.1.2))=_;rw[hx.seq,hx.cli,hy.seq,hy.cli];by_cases a:X.seq=Y.seq<;>by_cases b:X.cli=Y.cli<;>simp[a,b]
 have e1:sEq x.2.1 y.2.1=decide (X.dig=Y.dig):=by rw[PY,hx.dig,hy.dig]
 have e2:=Xf hx.mat hy.mat hx.m63 h;have e3:=KL hx.ys hy.ys hx.y63;have e4:(x.2.2.2.2==y.2.2.2.2)=decide (X.op=Y.op):=by rw[hx.op,hy.op];by_cases a:X.op=Y.op<;>simp[a]
 rw[Df];unfold zN;simp only[e0,e1,e2,e3,e4];exact aai X Y
theorem Ik {na nb:Nat}{a b:Nat->VO}{L M:List Om}(ha:RL VK na a L v0)(hb:RL VK nb b M v0):qL na a nb b=some (decide (L=M)):=by
 have la:=ha.sz;have lb:=hb.sz;have l63:=ha.l63;rw[Dg];unfold zO;by_cases c:na=nb
 ·subst c;have h1:=zf (R:=fu) (λj=>nM na a na b (j:Int)) (Jl false) Jm L M v0 (by omega)
   (λj hj=>by
    have e:=abq (ha.is j (by omega)) (hb.is j (by omega));by_cases c:L.getD j v0=M.getD j v0
    ·rw[awQ c];rw[awv c]at e;simp(disch:=omega) only[fu,nM,WW,CC,e,axc]
    ·rw[awG c];rw[aww c]at e;simp(disch:=omega) only[fu,nM,WW,CC,e,axz])
   (by rw[<-la];simp(disch:=omega) only[fu,nM,WW])
  have h1':au fu (((na,a),((na,b),(0,()))),())=some _:=h1;simp only[axG,aM,h1'];by_cases e:L=M
  ·rw[awQ e,awv e]
  ·rw[awG e,aww e]
 ·have e:L≠M:=λe=>c (by rw[la,lb,e])
  have d:(((na:Nat):Int) !=((nb:Nat):Int))=true:=by rw[azb];omega
  rw[d,aN,aww e]
open Go.IntKind (i64 u64 u32 u8)
def abr(x:RE):RA:=(x.1,(Ij x.2.1,((x.2.2.1.len,SlV.fn zV x.2.2.1),((x.2.2.2.1.len,SlV.fn zV x.2.2.2.1),(x.2.2.2.2.len,SlV.fn zT x.2.2.2.2)))))
theorem abt(X Y:yw):X=Y↔X.e=Y.e/\X.o=Y.o/\X.w=Y.w/\X.op=Y.op/\X.left=Y.left:=by cases X;cases Y;simp only[yw.mk.injEq]
theorem uG(a b:Int):(a !=b)= !decide (a=b):=by by_cases h:a=b<;>simp[h]
open Go.IntKind (i64 u64 u32 u8)
def nv(a:Nat->Int):Nat:=by
 classical exact if h: ∃n,IsN a n then h.choose else 0
theorem adv {a:Nat->Int}(h:Go.Den.Good (.arr 4 (.int .u64)) a):IsN a (nv a):=by have e:=a9P h;unfold nv;rw[dif_pos e];exact e.choose_spec
def lst {α β:Type}(n:Nat)(f:Nat->α)(g:α->β):List β:=(List.range n).map λi=>g (f i)
theorem Ji {α β:Type}(n:Nat)(f:Nat->α)(g:α->β):(lst n f g).length=n:=by simp[lst]
theorem Br {α β:Type}{n:Nat}(f:Nat->α)(g:α->β){i:Nat}(hi:i<n)(d:β):(lst n f g).getD i d=g (f i):=by simp[lst,awC,awy,hi]
theorem Sc {α β:Type}{n:Nat}{f:Nat->α}{g:α->β}{y:β}(h:y∈lst n f g): ∃i,i<n/\y=g (f i):=by simp only[lst,ayP,ayo]at h;obtain⟨i,hi,rfl⟩:=h;exact⟨i,hi,rfl⟩
def aaj(r:SlV (Nat->Int)):List Nat:=lst r.len (SlV.fn (λ_=>0) r) nv
def a3P(m:SlV (SlV (Nat->Int))):List (List Nat):=lst m.len (SlV.fn .nil m) aaj
def gvS(x:GI):sN:=⟨x.1.1,x.1.2,bl x.2.1,a3P x.2.2.1,aaj x.2.2.2.1,x.2.2.2.2⟩
def voS(x:VO):Om:=⟨x.1,x.2.1.1,x.2.1.2,bl x.2.2⟩
def toS(x:TO):yw:=⟨gvS x.1,gvS x.2.1,gvS x.2.2.1,x.2.2.2.1,x.2.2.2.2⟩
def reS(x:RE):PX:=⟨bl x.1,gvS x.2.1,lst x.2.2.1.len (SlV.fn zV x.2.2.1) voS,lst x.2.2.2.1.len (SlV.fn zV x.2.2.2.1) voS,lst x.2.2.2.2.len (SlV.fn zT x.2.2.2.2) toS⟩
def imS(x:IM):VL:=⟨x.1,x.2.1,x.2.2.1,lst x.2.2.2.1.1 x.2.2.2.1.2 id,lst x.2.2.2.2.1 x.2.2.2.2.2 reS⟩
theorem Ew {r:SlV (Nat->Int)}(h:Go.Den.Good (.sl (.arr 4 (.int .u64))) r):r.isMs=false/\r.len<9223372036854775808/\Fv r.len (SlV.fn (λ_=>0) r) (aaj r)/\ ∀y∈aaj r,y<2^256:=by
 obtain⟨a,b,c⟩:=jT (t:=.arr 4 (.int .u64)) h (λ_=>(0:Int));refine⟨a,b,⟨Ji _ _ _,λj hj=>?_⟩,λn hn=>?_⟩
 ·rw[aaj,Br _ _ hj];exact adv (c j hj)
 ·obtain⟨j,hj,rfl⟩:=Sc hn;exact(adv (c j hj)).lt
theorem a4I {m:SlV (SlV (Nat->Int))}(h:Go.Den.Good (.sl (.sl (.arr 4 (.int .u64)))) m):m.isMs=false/\m.len<9223372036854775808/\uF m.len (SlV.fn .nil m) (a3P m)/\a4H (a3P m):=by
 obtain⟨a,b,c⟩:=jT (t:=.sl (.arr 4 (.int .u64))) h .nil;refine⟨a,b,⟨(Ji _ _ _).symm,λi hi=>(Ew (c i hi)).1,λi hi=>?_,λi hi j hj=>?_⟩,λR hR=>?_⟩
 ·rw[a3P,Br _ _ hi];exact(Ew (c i hi)).2.2.1.1.symm
 ·rw[a3P,Br _ _ hi];exact(Ew (c i hi)).2.2.1.2 j hj
 ·obtain⟨i,hi,rfl⟩:=Sc hR;exact(Ew (c i hi)).2.2.2
theorem Ey {x:GI}(h:Go.Den.Good a1x x):a1Q x (gvS x)/\Oo (gvS x):=by obtain⟨_,_,h1,h2,_⟩:=h;obtain⟨a,b,c,d⟩:=a4I h1;obtain⟨a',b',c',d'⟩:=Ew h2;exact⟨⟨a,a',rfl,rfl,rfl,c,c',rfl,b,b'⟩,trivial,trivial,trivial,d,d',trivial⟩
theorem aak {x:TO}(h:Go.Den.Good Vo x):abp x (toS x)/\aah (toS x):=
 ⟨⟨(Ey h.1).1,(Ey h.2.1).1,(Ey h.2.2.1).1,rfl,rfl⟩,(Ey h.1).2,(Ey h.2.1).2,(Ey h.2.2.1).2,trivial,trivial⟩
theorem a1R {α β:Type}{R:α->β->Prop}{n:Nat}{f:Nat->α}{g:α->β}{d:β}(hn:n<9223372036854775808)(h: ∀i,i<n->R (f i) (g (f i))):RL R n f (lst n f g) d:=
 ⟨(Ji _ _ _).symm,λi hi=>by rw[Br _ _ hi];exact h i hi,by rw[Ji];exact hn⟩
theorem a3Q {x:RE}(h:Go.Den.Good a1y x):a5X x (reS x)/\adu (reS x):=by obtain⟨_,h0,h1,h2,h3⟩:=h;obtain⟨a,b,_⟩:=jT (t:=R5) h1 zV;obtain⟨a',b',_⟩:=jT (t:=R5) h2 zV;obtain⟨a2,b2,c2⟩:=jT (t:=Vo) h3 zT;refine⟨⟨rfl,(Ey h0).1,a,a',a2,a1R b λi hi=>⟨rfl,rfl,rfl,rfl⟩,a1R b' λi hi=>⟨rfl,rfl,rfl,rfl⟩,a1R b2 λi hi=>(aak (c2 i hi)).1⟩,trivial,(Ey h0).2,λ_ _=>⟨trivial,trivial,trivial,trivial⟩,λ_ _=>⟨trivial,trivial,trivial,trivial⟩,?_⟩;intro c hc;obtain⟨i,hi,rfl⟩:=Sc hc;exact(aak (c2 i hi)).2
theorem aix {x:IM}(h1:x.2.2.2.1.1<9223372036854775808)(h2:x.2.2.2.2.1<9223372036854775808)(h: ∀i,i<x.2.2.2.2.1->Go.Den.Good a1y (x.2.2.2.2.2 i)):a5Y x (imS x)/\as6 (imS x):=by refine⟨⟨rfl,rfl,rfl,a1R h1 λi hi=>rfl,a1R h2 λi hi=>(a3Q (h i hi)).1⟩,trivial,trivial,trivial,λ_ _=>trivial,?_⟩;intro r hr;obtain⟨i,hi,rfl⟩:=Sc hr;exact(a3Q (h i hi)).2
theorem Zx {α:Type}(f:α->List UInt8)(b:Nat): ∀(L:List α),(∀x∈L,(f x).length<=b)->(L.flatMap f).length<=L.length*b
 | [],_=>by simp
 |x::L,h=>by
  have h1:=h x (ax9 ..);have h2:=Zx f b L λy hy=>h y (ax8 _ hy)
  rw[az3,awS,axH,ax3];omega
theorem a4J {M:List (List Nat)}(h:a4H M):(yZ M).length<=5777:=by
 unfold yZ;by_cases c:Ii M=true
 ·rw[awQ c];obtain⟨⟨_,g2⟩,g3⟩:=az4 c;have h1:=Zx Zw 231 M λR hR=>by
   obtain⟨i,hi,rfl⟩:=List.getElem_of_mem hR;have g:=(g3 i hi).2.2;rw[awC,awy hi]at g;have:=Zx VH 33 M[i] λn hn=>by rw[a1O];have:=VD (h _ hR n hn);omega
   have e:Zw M[i]=M[i].flatMap VH:=rfl;simp only[Option.getD_some]at g;rw[e];omega
  simp only[axH];omega
 ·rw[awG c];simp
end
end Go.Pl
