/-
 States, as bytes.
-/
import Derived.Test.YtldlihheppdhnaaGreatMF
import Derived.Test.YtldlihheppdhnaaGreatMA
import Derived.Test.YtldlihheppdhnaaGreatPlA
import Derived.Test.YtldlihheppdhnaaGreatPlB
set_option linter.unusedVariables false
set_option linter.unusedSimpArgs false
namespace Go.Pl
open Go Go.Den Go.Num
open Go.IntKind (i64 u64 u32 u8)
def beN(k n:Nat):List UInt8:=(List.range k).map λi=>UInt8.ofNat (n/256^(k-1-i)%256)
def nbN(n:Nat):Nat:=(iM n+7)/8
def be(n:Nat):List UInt8:=beN (nbN n) n
theorem a4P(k n:Nat):(beN k n).length=k:=by simp[beN]
theorem JN(n:Nat):(be n).length=nbN n:=a4P _ _
theorem WG {n:Nat}(h:n<2^256):nbN n<=32:=by have:=uR h;unfold nbN;omega
theorem WH {k n:Nat}{f:Nat->Int}(h: ∀i,i<k->f (k-1-i)=((n/256^i%256:Nat):Int)):bytesOf k f=⟨(beN k n).toArray⟩:=by
 apply Mi;rw[wO];show _=beN k n;unfold beN;refine azO λi hi=>?_
 have hi:=aAa.1 hi;have:=h (k-1-i) (by omega);rw[show k-1-(k-1-i)=i by omega]at this;rw[this,ay8]
theorem a0z(n:Nat){j:Nat}(hj:j<32):n/2^(64*(j/8))%2^64/2^(8*(j%8))%256=n/256^j%256:=by
 have e1:(2:Nat)^64=2^(8*(j%8))*2^(64-8*(j%8)):=by rw[<-azk];congr 1;omega
 rw[e1,Nat.mod_mul_right_div_self,Nat.mod_mod_of_dvd _ (show 256∣2^(64-8*(j%8))from Nat.pow_dvd_pow 2 (m:=8) (by omega)),az9,<-azk]
 congr 2
 rw[show(256:Nat)=2^8 from rfl,<-azX]
 congr 1;omega
theorem a4Q(m:Nat):u8.wrap ((m:Nat):Int)=((m%256:Nat):Int):=by rw[wrap_u8'];omega
theorem a7q {a:Nat->Int}{n:Nat}(h:IsN a n){j:Nat}(hj:j<32):(u8.wrap (bG .u64 (a (j/8)) ((8*(j%8):Nat):Int)))=((n/256^j%256:Nat):Int):=by rw[h.2 (j/8) (by omega),Q7 (ayk _ (by decide)),a4Q,a0z n hj]
theorem a4R {j:Nat}(hj:j<9223372036854775808):i64.wrap (Int.tdiv (j:Int) 8)=((j/8:Nat):Int):=by have:Int.tdiv (j:Int) 8=((j/8:Nat):Int):=rfl;rw[this,fB (by omega)]
theorem ajX {j:Nat} :i64.wrap (8*(Int.tmod (j:Int) 8))=((8*(j%8):Nat):Int):=by have:Int.tmod (j:Int) 8=((j%8:Nat):Int):=rfl;rw[this,show(8:Int)*((j%8:Nat):Int)=((8*(j%8):Nat):Int)by omega,fB (by omega)]
theorem WI {a:Nat->Int}{n:Nat}(h:IsN a n):Jr a=some ⟨(be n).toArray⟩:=by
 have hb:=WG h.1;obtain⟨out,h1,h2⟩:=aO (R:=mO) (S:=Nat->Int) (λj out=>Cv (nbN n:Int) (nbN n) out (nbN n:Int) (j:Int) a) (λout=>Fy (nbN n) out)
  (λj out=> ∀i,i<j->out (nbN n-1-i)=((n/256^i%256:Nat):Int)) (nbN n)
  (λj hj out ho=>by
   refine⟨upd out (nbN n-1-j) ((n/256^j%256:Nat):Int),?_,λi hi=>?_⟩
   ·have e1:=a4R (j:=j) (by omega);have e2:=ajX (j:=j);have e3:i64.wrap (i64.wrap ((nbN n:Int)-1)-(j:Int))=((nbN n-1-j:Nat):Int):=by rw[show(nbN n:Int)-1=((nbN n-1:Nat):Int)by omega,fB (by omega),show((nbN n-1:Nat):Int)-(j:Int)=((nbN n-1-j:Nat):Int)by omega,fB (by omega)]
    have e4:=a7q h (j:=j) (by omega);simp(disch:=omega) only[mO,Cv,WW,CC,e1,e2,e3,e4,aye]
   ·unfold upd;by_cases e:i=j
    ·subst e;rw[ay5 rfl]
    ·rw[axY (by omega)];exact ho i (by omega))
  (λout _=>by simp(disch:=omega) only[mO,Cv,WW]) (λ_=>0) (λi hi=>absurd hi (ayz _))
 rw[Nw];unfold LD;have hl:=jQ h;have hbl:iM n<=256:=uR h.1;have e0:i64.wrap (Int.tdiv (i64.wrap ((iM n:Int)+7)) 8)=(nbN n:Int):=by rw[show(iM n:Int)+7=((iM n+7:Nat):Int)by omega,fB (by omega),a4R (by omega)];rfl
 simp only[hl,e0];have d:((((decide ((0:Int)<=(nbN n:Int)))&&(decide ((nbN n:Int)<=(nbN n:Int))))&&(decide ((((1:Nat):Int)*(nbN n:Int))<=281474976710656)))&&(decide ((nbN n:Int)<=9223372036854775807)))=true:=by simp only[axZ,ayq];omega
 rw[d,bA];have h1':aB mO (((),((nbN n:Int),(((Int.toNat (nbN n:Int)),(λ_=>0)),((nbN n:Int),(0,()))))),(a,()))=some (Fy (nbN n) out):=h1;rw[h1'];show some (bytesOf (nbN n) (λj=>out (0+j)))=_;rw[WH (n:=n) (λi hi=>by rw[aye];exact h2 i hi)];rfl
theorem YN {α:Type}{n i:Nat}{f g:Nat->α}(h:i<n):glue n f g i=f i:=by unfold glue;rw[lM.2 h];rfl
theorem YO {α:Type}{n i:Nat}{f g:Nat->α}(h:n<=i):glue n f g i=g (i-n):=by
 unfold glue;have:Nat.blt i n=false:=by cases hb:Nat.blt i n with|false=>rfl|true=>exact absurd (lM.1 hb) (by omega)
 rw[this];rfl
theorem L9(v k:Nat):v%2^(k+1)=v%2^k+2^k*(v.testBit k).toNat:=by
 rw[Nat.mod_pow_succ,azV];have:v/2^k%2<2:=ayk _ (by decide);by_cases h:v/2^k%2=1
 ·rw[ayf h,h];rfl
 ·rw[ayj h,show v/2^k%2=0 by omega];rfl
theorem WJ {a:Nat->Int}{n:Nat}(h:IsN a n):Jt a=some ⟨(be n).toArray⟩:=by
 have hb:=WG h.1;obtain⟨⟨m,out⟩,h1,h2,h3⟩:=aO (R:=jW) (S:=Nat×(Nat->Int)) (λj s=>Cy s.1 s.2 ((nbN n:Int)-1-(j:Int)) a) (λs=>yF s.1 s.2)
  (λj s=>s.1=j/\ ∀i,i<j->s.2 i=((n/256^(nbN n-1-i)%256:Nat):Int)) (nbN n)
  (λj hj s ho=>by
   obtain⟨m,out⟩:=s;obtain⟨rfl,ho⟩:=ho;simp only at hj ho⊢;obtain⟨x,h5,h6⟩:=aO (R:=mP) (S:=Int) (λk x=>Cw m out ((nbN n:Int)-1-(m:Int)) x (k:Int) a) (λx=>FJ m out ((nbN n:Int)-1-(m:Int)) x a)
    (λk x=>x=((n/256^(nbN n-1-m)%2^k:Nat):Int)) 8
    (λk hk x hx=>by
     subst hx;have e1:i64.wrap (i64.wrap (8*((nbN n:Int)-1-(m:Int)))+(k:Int))=((8*(nbN n-1-m)+k:Nat):Int):=by rw[show(8:Int)*((nbN n:Int)-1-(m:Int))=((8*(nbN n-1-m):Nat):Int)by omega,fB (by omega),show((8*(nbN n-1-m):Nat):Int)+(k:Int)=((8*(nbN n-1-m)+k:Nat):Int)by omega,fB (by omega)]
     have e2:=Ow h (((8*(nbN n-1-m)+k:Nat):Int));generalize hv:n/256^(nbN n-1-m)=v at*;have htb:n.testBit (8*(nbN n-1-m)+k)=v.testBit k:=by rw[<-hv,show(256:Nat)=2^8 from rfl,<-azX,az2,azp]
     rw[ay8,htb]at e2;refine⟨ak .or .i64 ((v%2^k:Nat):Int) (iL .i64 (if(0:Int)<=((8*(nbN n-1-m)+k:Nat):Int)/\v.testBit k=true then 1 else 0) (k:Int)),?_,?_⟩
     ·simp(disch:=omega) only[mP,Cw,WW,CC,e1,e2]
     ·have hk8:2^k<=128:=ayt (by decide) (show k<=7 by omega);have hlt:v%2^k<2^k:=ayk _ (aA6 (by decide));cases hbit:v.testBit k with
      |false=>
       rw[axY (λe=>by cases e.2)];have:iL .i64 0 (k:Int)=((0:Nat):Int):=by simp[iL];rfl
       rw[this,orS (by omega) (by omega),Nat.or_zero,L9,hbit];simp
      |true=>
       rw[ay5 ⟨by omega,rfl⟩];have:iL .i64 1 (k:Int)=((2^k:Nat):Int):=by
        have hk9:k<8:=hk
        match k,hk9 with
        |0,_=>rfl
        |1,_=>rfl
        |2,_=>rfl
        |3,_=>rfl
        |4,_=>rfl
        |5,_=>rfl
        |6,_=>rfl
        |7,_=>rfl
       rw[this,orS (by omega) (by omega),L9,hbit,Nat.or_comm]
       congr 1
       have:=azl hlt 1;rw[azG]at this;rw[azp];simpa using this.symm)
    (λx _=>by simp(disch:=omega) only[mP,Cw,WW]) 0 (by simp)
   subst h6;have h5':aB mP (((),((m,out),((nbN n:Int)-1-(m:Int),(0,(0,()))))),(a,()))=some _:=h5;have ea:ak .and .i64 ((n/256^(nbN n-1-m)%2^8:Nat):Int) 255=((n/256^(nbN n-1-m)%256:Nat):Int):=by have:=a1R (a:=n/256^(nbN n-1-m)%2^8) (b:=255) (by omega) (by decide);rw[show((255:Nat):Int)=255 from rfl]at this;rw[this,show(255:Nat)=2^8-1 from rfl,ayP,aAB]
   refine⟨(m+1,glue m out (λj=>(upd (λ_=>0) 0 (u8.wrap (((n/256^(nbN n-1-m)%256:Nat):Int)))) (0+j))),?_,rfl,λi hi=>?_⟩
   ·have e9:i64.wrap ((nbN n:Int)-1-(m:Int)-1)=(nbN n:Int)-1-((m+1:Nat):Int):=by rw[wrap_i64 (by omega)];omega
    have d1:decide ((nbN n:Int)-1-(m:Int)>=0)=true:=dH (by omega);have d2:(Nat.ble ((m+1)*1) 140737488355328&&Nat.ble (m+1) 9223372036854775807)=true:=by rw[axZ,Nat.ble_eq,Nat.ble_eq];omega
    simp only[jW,Cy,d1,bA,h5',FJ,d2,ea,e9]
   ·by_cases e:i<m
    ·dsimp only;rw[YN e];exact ho i e
    ·obtain rfl:i=m:=by omega
     dsimp only;rw[YO (ay7 _),azz];show u8.wrap _=_;rw[a4Q,aAB])
  (λs hs=>by have d1:decide ((nbN n:Int)-1-(nbN n:Int)>=0)=false:=bq (by omega);simp only[jW,Cy,d1,bH]) (0,λ_=>0) ⟨rfl,λi hi=>absurd hi (ayz _)⟩
 have hbl:iM n<=256:=uR h.1;have e0:i64.wrap (i64.wrap (Int.tdiv (i64.wrap ((iM n:Int)+7)) 8)-1)=(nbN n:Int)-1-((0:Nat):Int):=by rw[show(iM n:Int)+7=((iM n+7:Nat):Int)by omega,fB (by omega),a4R (by omega)];show i64.wrap ((nbN n:Int)-1)=_;rw[wrap_i64 (by omega)];omega
 rw[NH];unfold LM;have h1':aB jW (((),((0,(λ_=>0)),((nbN n:Int)-1-((0:Nat):Int),()))),(a,()))=some (yF m out):=h1;simp only[F3 h,e0,h1',yF];simp only at h2;subst h2;rw[WH (n:=n) (λi hi=>by have:out (nbN n-1-i)=_:=h3 (nbN n-1-i) (by omega);rw[aye,this,show nbN n-1-(nbN n-1-i)=i by omega])];rfl
open Go.IntKind (i64 u64 u32 u8)
theorem Bo.app {n:Nat}{b:Nat->Int}{l:List UInt8}(h:Bo n b l)(s:ByteArray):Bo (n+s.size) (glue n b (λi=>(((s).data.toList.getD i 0).toNat:Int))) (l++bl s):=by
 refine⟨by rw[ayd,h.1];rfl,λj hj=>?_⟩;by_cases e:j<n
 ·rw[YN e,h.2 j e,ayo,ayo,aym (by have:=h.1;omega)]
 ·rw[YO (by omega),ayo (l:=l++bl s),azc (by have:=h.1;omega),<-h.1,<-ayo]
theorem Bo.bytes {n:Nat}{b:Nat->Int}{l:List UInt8}(h:Bo n b l):bl (bytesOf n b)=l:=by
 rw[wO];apply List.ext_getElem
 ·simp[h.1]
 ·intro i h1 h2;simp only[List.getElem_map,List.getElem_range];rw[h.2 i (by simpa using h1),ay8,ayo,ay3 h2];show UInt8.ofNat l[i].toNat=_;rw[UInt8.ofNat_toNat]
theorem Eb {n:Nat}(v:Int)(h:v=(n:Int)):u8.wrap v=((UInt8.ofNat n).toNat:Int):=by subst h;rw[a4Q,UInt8.toNat_ofNat']
structure lD(n:Nat)(m:Nat->SlV (Nat->Int))(M:List (List Nat)):Prop where
 sz:n=M.length
 ms: ∀i,i<n->(m i).isMs=false
 len: ∀i,i<n->(m i).len=(M.getD i []).length
 is: ∀i,i<n-> ∀j,j<(m i).len->IsN (SlV.fn (λ_=>0) (m i) j) ((M.getD i []).getD j 0)
def xH(M:List (List Nat))(i:Nat):Prop:=(M.getD i []).length=(M.getD 0 []).length/\1<=(M.getD i []).length/\(M.getD i []).length<=7
def a5R(M:List (List Nat)):Prop:=(1<=M.length/\M.length<=25)/\ ∀i,i<M.length->xH M i
noncomputable instance evenD(M:List (List Nat)):Decidable (a5R M):=Classical.propDecidable _
noncomputable def zk(M:List (List Nat)):Bool:=decide (a5R M)
def a2F(n:Nat):List UInt8:=UInt8.ofNat (nbN n)::be n
def XV(r:List Nat):List UInt8:=r.flatMap a2F
noncomputable def gT(M:List (List Nat)):List UInt8:=if zk M then UInt8.ofNat M.length::UInt8.ofNat (M.getD 0 []).length::M.flatMap XV else []
theorem Qx {n:Nat}{m:Nat->SlV (Nat->Int)}{M:List (List Nat)}(h:lD n m M)(hn:n<9223372036854775808):BR n m=some (zk M):=by
 obtain⟨y,h1,h2⟩:=mX (R:=dh) (S:=Unit) (λi _=>iA n m (n:Int) (i:Int) n m) (λi _=> ∀k,k<i->xH M k)
  (λy=>(∃t:Int,0<=t/\y=jM t n m/\ ¬ ∀k,k<n->xH M k)\/(y=xX n m/\ ∀k,k<n->xH M k)) n
  (λi hi _ hp=>by
   have m1:=h.ms i hi;have m0:=h.ms 0 (by omega);have l1:=h.len i hi;have l0:=h.len 0 (by omega);have bad: ¬xH M i->(∃t:Int,0<=t/\jM (i:Int) n m=jM t n m/\ ¬ ∀k,k<n->xH M k):=λhb=>⟨i,by omega,rfl,λhg=>hb (hg i hi)⟩
   by_cases c1:(m i).len=(m 0).len
   case neg=>
    refine .inr ⟨_,?_,.inl (bad λg=>c1 (by rw[l1,l0];exact g.1))⟩;have e:((((m i).len:Nat):Int) !=(((m 0).len:Nat):Int))=true:=by rw[bne_iff_ne];omega
    simp(disch:=omega) only[dh,iA,WW,CC,m1,m0,e]
   have e:((((m i).len:Nat):Int) !=(((m 0).len:Nat):Int))=false:=by rw[c1];simp
   by_cases c2:(((m i).len:Nat):Int)<1
   ·refine .inr ⟨_,?_,.inl (bad λg=>by have:=g.2.1;omega)⟩;simp(disch:=omega) only[dh,iA,WW,CC,m1,m0,e,dH c2]
   by_cases c3:(((m i).len:Nat):Int)>7
   ·refine .inr ⟨_,?_,.inl (bad λg=>by have:=g.2.2;omega)⟩;simp(disch:=omega) only[dh,iA,WW,CC,m1,m0,e,bq c2,dH c3]
   ·refine .inl ⟨(),?_,λk hk=>?_⟩
    ·simp(disch:=omega) only[dh,iA,WW,CC,m1,m0,e,bq c2,bq c3]
    ·rcases aA9 k i with hlt|hge
     ·exact hp k hlt
     ·obtain rfl:k=i:=by omega
      exact⟨by rw[<-l1,<-l0];exact c1,by omega,by omega⟩)
  (λ_ hp=>⟨_,by simp(disch:=omega) only[dh,iA,WW],.inr ⟨rfl,hp⟩⟩) () (λk hk=>absurd hk (ayz _))
 have h1':aB dh (((n,m),((),(((n:Nat):Int),(0,())))),((n,m),()))=some y:=h1;rw[IJ];unfold EU;rw[h1'];have hn':=h.sz;rcases h2 with⟨t,ht,rfl,hb⟩|⟨rfl,hg⟩
 ·have:zk M=false:=ayj λg=>hb λk hk=>g.2 k (by omega)
  rw[this];simp only[jM,dH (show t>=0 by omega),ayK,bH]
 ·simp only[xX];unfold zk;by_cases c1:1<=n
  ·rw[dH (show((n:Nat):Int)>=1 by omega),bA]
   congr 1
   apply azL.2;rw[ayq,ayq];exact⟨λg=>⟨⟨by omega,by omega⟩,λk hk=>hg k (by omega)⟩,λg=>by have:=g.1.2;omega⟩
  ·rw[bq (show¬((n:Nat):Int)>=1 by omega),bH]
   congr 1
   exact(ayj λg=>by have:=g.1.1;omega).symm
theorem XW {n:Nat}{m:Nat->SlV (Nat->Int)}{M:List (List Nat)}(h:lD n m M)(hn:n<9223372036854775808):O9 n m=some (zk M):=by
 obtain⟨y,h1,h2⟩:=mX (R:=iW) (S:=Unit) (λi _=>pJ n m (i:Int)) (λi _=> ∀k,k<i->xH M k)
  (λy=>(y=Vo false/\ ¬ ∀k,k<n->xH M k)\/(y=Iu n m/\ ∀k,k<n->xH M k)) n
  (λi hi _ hp=>by
   have m1:=h.ms i hi;have m0:=h.ms 0 (by omega);have l1:=h.len i hi;have l0:=h.len 0 (by omega);by_cases c1:(m i).len=(m 0).len
   case neg=>
    refine .inr ⟨_,?_,.inl ⟨rfl,λhg=>c1 (by rw[l1,l0];exact(hg i hi).1)⟩⟩;have e:((((m i).len:Nat):Int) !=(((m 0).len:Nat):Int))=true:=by rw[bne_iff_ne];omega
    simp(disch:=omega) only[iW,pJ,WW,CC,m1,m0,e]
   have e:((((m i).len:Nat):Int) !=(((m 0).len:Nat):Int))=false:=by rw[c1];simp
   by_cases c2:(((m i).len:Nat):Int)<1
   ·refine .inr ⟨_,?_,.inl ⟨rfl,λhg=>by have:=(hg i hi).2.1;omega⟩⟩;simp(disch:=omega) only[iW,pJ,WW,CC,m1,m0,e,dH c2]
   by_cases c3:(((m i).len:Nat):Int)>7
   ·refine .inr ⟨_,?_,.inl ⟨rfl,λhg=>by have:=(hg i hi).2.2;omega⟩⟩;simp(disch:=omega) only[iW,pJ,WW,CC,m1,m0,e,bq c2,dH c3]
   ·refine .inl ⟨(),?_,λk hk=>?_⟩
    ·simp(disch:=omega) only[iW,pJ,WW,CC,m1,m0,e,bq c2,bq c3]
    ·rcases aA9 k i with hlt|hge
     ·exact hp k hlt
     ·obtain rfl:k=i:=by omega
      exact⟨by rw[<-l1,<-l0];exact c1,by omega,by omega⟩)
  (λ_ hp=>⟨_,by simp(disch:=omega) only[iW,pJ,WW],.inr ⟨rfl,hp⟩⟩) () (λk hk=>absurd hk (ayz _))
 have h1':aB iW (((n,m),(0,())),())=some y:=h1;rw[RA];unfold PX;rw[h1'];have hn':=h.sz;rcases h2 with⟨rfl,hb⟩|⟨rfl,hg⟩
 ·have:zk M=false:=ayj λg=>hb λk hk=>g.2 k (by omega)
  rw[this]
 ·simp only[Iu];unfold zk;by_cases c1:1<=n
  ·rw[dH (show((n:Nat):Int)>=1 by omega),bA]
   congr 1
   apply azL.2;rw[ayq,ayq];exact⟨λg=>⟨⟨by omega,by omega⟩,λk hk=>hg k (by omega)⟩,λg=>by have:=g.1.2;omega⟩
  ·rw[bq (show¬((n:Nat):Int)>=1 by omega),bH]
   congr 1
   exact(ayj λg=>by have:=g.1.1;omega).symm
theorem JO {α β:Type}(f:α->List β)(l:List α)(k:Nat)(d:α)(h:k<l.length):(l.take (k+1)).flatMap f=(l.take k).flatMap f++f (l.getD k d):=by rw[List.take_add_one,ay3 h,List.flatMap_append,ayo,ay3 h];simp
theorem ab6 {nb:Nat}{b:Nat->Int}{l:List UInt8}(h:Bo nb b l){a:Nat->Int}{n:Nat}(ha:IsN a n):
  Bo (nb+1+(ByteArray.mk (be n).toArray).size) (glue (nb+1) (glue nb b (λj=>(upd (λ_=>0) 0 (u8.wrap (((ByteArray.mk (be n).toArray).size:Nat):Int))) (0+j))) (λi=>((((ByteArray.mk (be n).toArray)).data.toList.getD i 0).toNat:Int))) (l++a2F n):=by
 have h1:=h.push (Eb (n:=nbN n) (((ByteArray.mk (be n).toArray).size:Nat):Int) (by congr 1;exact JN n));have h2:=h1.app (ByteArray.mk (be n).toArray);rw[ayQ]at h2;exact h2
theorem lD.small {n:Nat}{m:Nat->SlV (Nat->Int)}{M:List (List Nat)}(h:lD n m M)(he:zk M=true):(1<=n/\n<=25)/\ ∀i,i<n->(m i).len<=7:=by obtain⟨⟨g1,g2⟩,g3⟩:a5R M:=of_decide_eq_true he;have:=h.sz;exact⟨⟨by omega,by omega⟩,λi hi=>by rw[h.len i hi];exact(g3 i (by omega)).2.2⟩
theorem Ch {n:Nat}{m:Nat->SlV (Nat->Int)}{M:List (List Nat)}(h:lD n m M)(hn:n<9223372036854775808):uz n m=some ⟨(gT M).toArray⟩:=by
 rw[FR];unfold CO;rw[Qx h hn];cases he:zk M with
 |false=>simp only[azB,bA,gT,he];rfl
 |true=>
  obtain⟨⟨hn1,hn2⟩,hl7⟩:=h.small he;have h0:=h.ms 0 (by omega);obtain⟨⟨nb,b⟩,h1,h2,h3⟩:=aO (R:=iB) (S:=Nat×(Nat->Int)) (λi s=>wD n m (n:Int) (i:Int) () s.1 s.2) (λs=>Ar () s.1 s.2)
   (λi s=>Bo s.1 s.2 ((UInt8.ofNat n::UInt8.ofNat (m 0).len::[])++(M.take i).flatMap XV)/\s.1<=2+i*300) n
   (λi hi s hs=>by
    obtain⟨nb,b⟩:=s;obtain⟨hs,hs2⟩:=hs;simp only at hs hs2⊢;have hms:=h.ms i hi;have hl:=h.len i hi;have h7:=hl7 i hi;obtain⟨⟨nc,c⟩,g1,g2,g3⟩:=aO (R:=jf) (S:=Nat×(Nat->Int)) (λk s=>wC n m (n:Int) (i:Int) (m i).len (SlV.fn (λ_=>0) (m i)) (((m i).len:Nat):Int) (k:Int) () s.1 s.2) (λs=>Aq n m (n:Int) (i:Int) () s.1 s.2)
     (λk s=>Bo s.1 s.2 ((UInt8.ofNat n::UInt8.ofNat (m 0).len::[])++(M.take i).flatMap XV++((M.getD i []).take k).flatMap a2F)/\s.1<=nb+k*33) (m i).len
     (λk hk s hs=>by
      obtain⟨nc,c⟩:=s;obtain⟨hc,hc2⟩:=hs;simp only at hc hc2⊢;have hx:=h.is i hi k hk;have hb:=WI hx;have hnb:=WG hx.1;have hsz:(ByteArray.mk (be ((M.getD i []).getD k 0)).toArray).size=nbN ((M.getD i []).getD k 0):=JN _;have hp:=ab6 hc hx;rw[ayQ,<-JO a2F _ k 0 (by omega)]at hp;refine⟨(_,_),?_,hp,by simp only;omega⟩;have d1:(Nat.ble ((nc+1)*1) 140737488355328&&Nat.ble (nc+1) 9223372036854775807)=true:=by rw[axZ,Nat.ble_eq,Nat.ble_eq];omega
      have d2:(Nat.ble (((nc+1)+(ByteArray.mk (be ((M.getD i []).getD k 0)).toArray).size)*1) 140737488355328&&Nat.ble ((nc+1)+(ByteArray.mk (be ((M.getD i []).getD k 0)).toArray).size) 9223372036854775807)=true:=by rw[axZ,Nat.ble_eq,Nat.ble_eq];omega
      simp(disch:=omega) only[jf,wC,WW,CC,hb,d1,d2];rfl)
     (λs _=>by simp(disch:=omega) only[jf,wC,WW]) (nb,b) ⟨by simpa using hs,by simp⟩
    have g1':aB jf (((),((n,m),((n:Int),((i:Int),(((m i).len,SlV.fn (λ_=>0) (m i)),((((m i).len:Nat):Int),(0,()))))))),(((),(nb,b)),()))=some _:=g1;refine⟨(nc,c),?_,?_,by simp only at g3⊢;omega⟩
    ·simp(disch:=omega) only[iB,wD,WW,CC,hms,g1',Aq]
    ·simp only at g2⊢;rw[hl,List.take_length,ayQ]at g2;rw[JO XV M i [] (by have:=h.sz;omega)];exact g2)
   (λs _=>by simp(disch:=omega) only[iB,wD,WW]) (2,(glue 1 (glue 0 (λ_=>0) (λj=>(upd (λ_=>0) 0 (u8.wrap ((n:Nat):Int))) (0+j))) (λj=>(upd (λ_=>0) 0 (u8.wrap (((SlV.len (m 0)):Nat):Int))) (0+j))))
   ⟨by
    have e0:Bo 0 (λ_=>0) []:=⟨rfl,λj hj=>absurd hj (ayz _)⟩;have e1:=e0.push (Eb (n:=n) ((n:Nat):Int) rfl);have e2:=e1.push (Eb (n:=(m 0).len) (((m 0).len:Nat):Int) rfl);simpa using e2,by simp⟩
  have h1':aB iB (((),((n,m),(((n:Nat):Int),(0,())))),(((),(2,(glue 1 (glue 0 (λ_=>0) (λj=>(upd (λ_=>0) 0 (u8.wrap ((n:Nat):Int))) (0+j))) (λj=>(upd (λ_=>0) 0 (u8.wrap (((SlV.len (m 0)):Nat):Int))) (0+j))))),()))=some _:=h1;have hi:inb 0 n=true:=by simp only[inb,axZ,ayq];omega
  simp only at h2 h3;have d:Nat.ble nb 9223372036854775807=true:=by rw[Nat.ble_eq];omega
  simp only[ayK,bH,hi,bA,h0,h1',Ar,d,aAK,ayC]
  congr 1
  apply Mi;rw[h2.bytes,h.sz,List.take_length,<-h.sz,h.len 0 (by omega),h.sz];show _=gT M;unfold gT;rw[he];rfl
theorem YP(a b:ByteArray):bl (a++b)=bl a++bl b:=by simp[bl]
theorem ab7(s:ByteArray)(v:Int){n:Nat}(h:v=(n:Int)):bl (s++bytesOf 1 (λj=>upd (λ_=>0) 0 (u8.wrap v) (0+j)))=bl s++[UInt8.ofNat n]:=by
 rw[YP,wO]
 congr 1
 show [UInt8.ofNat (u8.wrap v).toNat]=_;rw[Eb v h,ay8,UInt8.ofNat_toNat]
theorem Jb {n:Nat}{m:Nat->SlV (Nat->Int)}{M:List (List Nat)}(h:lD n m M)(hn:n<9223372036854775808):Dw n m=some ⟨(gT M).toArray⟩:=by
 rw[Oa];unfold LZ;rw[XW h hn];cases he:zk M with
 |false=>simp only[azB,bA,gT,he];rfl
 |true=>
  obtain⟨⟨hn1,hn2⟩,hl7⟩:=h.small he;have h0:=h.ms 0 (by omega);generalize ht:bytesOf 2 (λj=>(upd (upd (λ_=>0) 0 (u8.wrap ((n:Nat):Int))) 1 (u8.wrap (((SlV.len (m 0)):Nat):Int))) (0+j))=t;have htl:bl t=UInt8.ofNat n::UInt8.ofNat (m 0).len::[]:=by rw[<-ht,wO];show [UInt8.ofNat (u8.wrap _).toNat,UInt8.ofNat (u8.wrap _).toNat]=_;rw[Eb (n:=n) _ rfl,Eb (n:=(m 0).len) _ rfl,ay8,ay8,UInt8.ofNat_toNat,UInt8.ofNat_toNat]
  obtain⟨s,h1,h2,h3⟩:=aO (R:=ko) (S:=ByteArray) (λi s=>CG n m s (i:Int)) (λs=>FM s)
   (λi s=>bl s=bl t++(M.take i).flatMap XV/\s.size<=2+i*300) n
   (λi hi s hs=>by
    obtain⟨hs,hs2⟩:=hs;have hms:=h.ms i hi;have hl:=h.len i hi;have h7:=hl7 i hi;have hii:inb (i:Int) n=true:=by simp only[inb,axZ,ayq];omega
    obtain⟨z,g1,g2,g3⟩:=aO (R:=mU) (S:=ByteArray) (λk s=>CF n m s (i:Int) (k:Int)) (λs=>FL n m s (i:Int))
     (λk z=>bl z=bl t++(M.take i).flatMap XV++((M.getD i []).take k).flatMap a2F/\z.size<=s.size+k*33) (m i).len
     (λk hk z hz=>by
      obtain⟨hc,hc2⟩:=hz;have hx:=h.is i hi k hk;have hb:=WJ hx;have hnb:=WG hx.1;generalize hr:ByteArray.mk (be ((M.getD i []).getD k 0)).toArray=r at*;have hsz:r.size=nbN ((M.getD i []).getD k 0):=by rw[<-hr];exact JN _
      have hbr:bl r=be ((M.getD i []).getD k 0):=by rw[<-hr]
      have hp:=ab7 z ((r.size:Nat):Int) (n:=nbN ((M.getD i []).getD k 0)) (by rw[hsz]);generalize hq:bytesOf 1 (λj=>upd (λ_=>0) 0 (u8.wrap ((r.size:Nat):Int)) (0+j))=q at*;have hq1:q.size=1:=by rw[<-hq,pU,wO,aAn,aAo]
      refine⟨z++q++r,?_,?_,?_⟩
      ·have d1:decide ((((z.size+q.size:Nat):Int))>IntKind.i64.max)=false:=bq (by show¬_>(9223372036854775807:Int);omega);have d2:decide (((((z++q).size+r.size:Nat):Int))>IntKind.i64.max)=false:=bq (by have:(z++q).size=z.size+q.size:=ByteArray.size_append;show¬_>(9223372036854775807:Int);omega);have d3:decide ((k:Int)<(((m i).len:Nat):Int))=true:=dH (by omega);have d4:inb (k:Int) (m i).len=true:=by simp only[inb,axZ,ayq];omega
       have d5:i64.wrap ((k:Int)+1)=((k+1:Nat):Int):=by rw[wrap_i64 (by omega)];omega
       simp only[mU,CF,hii,hms,d3,d4,bA,bH,ay8,hb,hq,d5];rw[d1,bH,d2,bH]
      ·rw[YP,hp,hc,JO a2F _ k 0 (by omega),hbr];simp[a2F]
      ·rw[ByteArray.size_append,ByteArray.size_append];omega)
     (λz _=>by simp(disch:=omega) only[mU,CF,WW,hii,hms]) s ⟨by simpa using hs,by omega⟩
    have g1':aB mU (((n,m),(s,((i:Int),(0,())))),())=some _:=g1;refine⟨z,?_,?_,by omega⟩
    ·simp(disch:=omega) only[ko,CG,WW,CC,g1',FL]
    ·rw[hl,List.take_length,ayQ]at g2;rw[JO XV M i [] (by have:=h.sz;omega)];exact g2)
   (λs _=>by simp(disch:=omega) only[ko,CG,WW]) t ⟨by simp,by have:=congrArg List.length htl;rw[<-pU]at this;rw[this];exact ay7 2⟩
  have h1':aB ko (((n,m),(t,(0,()))),())=some _:=h1;have hi:inb 0 n=true:=by simp only[inb,axZ,ayq];omega
  simp only[ayK,bH,hi,bA,h0,h1',FM]
  congr 1
  apply Mi;rw[h2,htl,h.sz,List.take_length,<-h.sz,h.len 0 (by omega),h.sz];show _=gT M;unfold gT;rw[he];rfl
open Go.IntKind (i64 u64 u32 u8)
open Go.IntKind (i64 u64 u32 u8)
def Ci(k:Nat)(row:Nat->Nat->Int)(R:List Nat):Prop:=R.length=k/\ ∀j,j<k->IsN (row j) (R.getD j 0)
structure axN(k b:Nat)(out:Nat->SlV (Nat->Int))(M:List (List Nat)):Prop where
 sz:M.length=k
 ok: ∀i,i<k-> ∃row,out i= .fz b row/\Ci b (λj=>row j) (M.getD i [])
open Go.IntKind (i64 u64 u32 u8)
open Go.IntKind (i64 u64 u32 u8)
abbrev WS:Type:=List UInt8×Bool
structure WOk(nw:Nat)(w1:Nat->Int)(w2:Bool)(st:WS):Prop where
 row:Bo nw w1 st.1
 bad:w2=st.2
open Go.IntKind (i64 u64 u32 u8)
structure a2G where
 seq:Int
 cli:Int
 dig:List UInt8
 mat:List (List Nat)
 ys:List Nat
 op:Int
 deriving DecidableEq
structure a5S where
 srv:Int
 seq:Int
 cli:Int
 dig:List UInt8
 deriving DecidableEq
noncomputable instance:Inhabited a2G:=⟨⟨0,0,[],[],[],0⟩⟩
structure axO(x:GA)(X:a2G):Prop where
 seq:x.1.1=X.seq
 cli:x.1.2=X.cli
 dig:bl x.2.1=X.dig
 mat:lD x.2.2.1.1 x.2.2.1.2 X.mat
 ys:Ci x.2.2.2.1.1 x.2.2.2.1.2 X.ys
 op:x.2.2.2.2=X.op
 m63:x.2.2.1.1<9223372036854775808
 y63:x.2.2.2.1.1<9223372036854775808
structure ata(x:VO)(X:a5S):Prop where
 srv:x.1=X.srv
 seq:x.2.1.1=X.seq
 cli:x.2.1.2=X.cli
 dig:bl x.2.2=X.dig
open Go.IntKind (i64 u64 u32 u8)
abbrev v0:a5S:=⟨0,0,0,[]⟩
abbrev g0:a2G:=⟨0,0,[],[],[],0⟩
structure ab8 where
 e:a2G
 o:a2G
 w:a2G
 op:Int
 left:Int
 deriving DecidableEq
abbrev t0:ab8:=⟨g0,g0,g0,0,0⟩
structure ajY where
 key:List UInt8
 held:a2G
 ech:List a5S
 rdy:List a5S
 cls:List ab8
 deriving DecidableEq
abbrev r0:ajY:=⟨[],g0,[],[],[]⟩
structure axP where
 t:Int
 num:Int
 cls:Int
 used:List Int
 recs:List ajY
 deriving DecidableEq
def axQ(x:GI):GA:=(x.1,(x.2.1,((x.2.2.1.len,SlV.fn .nil x.2.2.1),((x.2.2.2.1.len,SlV.fn (λ_=>0) x.2.2.2.1),x.2.2.2.2))))
structure acy(x:GI)(X:a2G):Prop where
 m0:x.2.2.1.isMs=false
 y0:x.2.2.2.1.isMs=false
 ga:axO (axQ x) X
structure axR(x:TO)(X:ab8):Prop where
 e:acy x.1 X.e
 o:acy x.2.1 X.o
 w:acy x.2.2.1 X.w
 op:x.2.2.2.1=X.op
 left:x.2.2.2.2=X.left
structure ab9 {α β:Type}(R:α->β->Prop)(n:Nat)(f:Nat->α)(L:List β)(d:β):Prop where
 sz:n=L.length
 is: ∀i,i<n->R (f i) (L.getD i d)
 l63:L.length<9223372036854775808
structure axS(x:RE)(X:ajY):Prop where
 key:bl x.1=X.key
 held:acy x.2.1 X.held
 e0:x.2.2.1.isMs=false
 d0:x.2.2.2.1.isMs=false
 c0:x.2.2.2.2.isMs=false
 e:ab9 ata x.2.2.1.len (SlV.fn zV x.2.2.1) X.ech v0
 d:ab9 ata x.2.2.2.1.len (SlV.fn zV x.2.2.2.1) X.rdy v0
 c:ab9 axR x.2.2.2.2.len (SlV.fn zT x.2.2.2.2) X.cls t0
structure axU(x:IM)(X:axP):Prop where
 t:x.1=X.t
 num:x.2.1=X.num
 cls:x.2.2.1=X.cls
 used:ab9 (λa b=>a=b) x.2.2.2.1.1 x.2.2.2.1.2 X.used 0
 recs:ab9 axS x.2.2.2.2.1 x.2.2.2.2.2 X.recs r0
open Go.IntKind (i64 u64 u32 u8)
open Go.IntKind (i64 u64 u32 u8)
open Go.IntKind (i64 u64 u32 u8)
abbrev Pr(α:Type):Type:=List UInt8->Option (α×List UInt8)
structure Inv {α:Type}(p:Pr α)(e:α->List UInt8)(g:α->Bool)(w:α->Prop):Prop where
 fwd: ∀a t,g a=true->w a->p (e a++t)=some (a,t)
 bwd: ∀ {l a t},p l=some (a,t)->l=e a++t/\g a=true/\w a
def acz(k:Nat):Pr Int:=λl=>if l.length<k then none else some (((axL (l.take k):Nat):Int),l.drop k)
open Go.IntKind (i64 u64 u32 u8)
open Go.IntKind (i64 u64 u32 u8)
abbrev SL:Type:=Option (List UInt8)
def sn {α:Type}(r:Option (α×List UInt8)):SL:=match r with|none=>none|some x=>some x.2
def atb {α:Type}(k:Nat)(f:Int->Pr α):Pr α:=λl=>match acz k l with|none=>none|some (n,l1)=>f n l1
theorem dep {α:Type}{k:Nat}{S:SL}{f:Int->Pr α}{x:Int}(h: ∀V l,S.bind (acz k)=some (V,l)->x=V):S.bind (atb k f)=(sn (S.bind (acz k))).bind (f x):=by
 cases S with
 |none=>rfl
 |some l0=>
  simp only[ayJ,atb]at h⊢;cases h1:acz k l0 with
  |none=>rfl
  |some y=>rw[h y.1 y.2 h1];rfl
structure LR {α β:Type}(Rel:α->β->Prop)(n:Nat)(f:Nat->α)(L:List β)(d:β):Prop where
 sz:n=L.length
 is: ∀i,i<n->Rel (f i) (L.getD i d)
open Go.IntKind (i64 u64 u32 u8)
structure KOk(o:ByteArray×Bool)(S:SL):Prop where
 sz:o.1.size<2^40
 bad:o.2=S.isNone
 is: ∀l,S=some l->bl o.1=l
open Go.IntKind (i64 u64 u32 u8)
open Go.IntKind (i64 u64 u32 u8)
open Go.IntKind (i64 u64 u32 u8)
open Go.IntKind (i64 u64 u32 u8)
structure DOk(s:ByteArray)(o:ByteArray×(Int×Bool))(S:SL):Prop where
 st:o.1=s
 at0:0<=o.2.1/\o.2.1<=((s.size:Nat):Int)
 bad:o.2.2=S.isNone
 is: ∀l,S=some l->(bl s).drop o.2.1.toNat=l
 sz:s.size<2^40
open Go.IntKind (i64 u64 u32 u8)
open Go.IntKind (i64 u64 u32 u8)
open Go.IntKind (i64 u64 u32 u8)
open Go.IntKind (i64 u64 u32 u8)
open Go.IntKind (i64 u64 u32 u8)
open Go.IntKind (i64 u64 u32 u8)
open Go.IntKind (i64 u64 u32 u8)
end Go.Pl
