/-
 Bytes, and their digests.
-/
import Derived.Test.YtldlihheppdhnaaGreatMD
import Derived.Test.YtldlihheppdhnaaGreatPlB
import Derived.Test.YtldlihheppdhnaaGreatMA
set_option linter.unusedVariables false
set_option linter.unusedSimpArgs false
set_option maxRecDepth 4000
namespace Go.Pl
open Go Go.Den Go.Num
def ash(c:Nat->Int):Nat->Int|0=>0|n+1=>ash c n+c n
def ev(c:Nat->Int)(n:Nat)(x:Int):Int:=ash (λi=>c i*x^i) n
theorem adq {α:Type}{n:Nat}{f g:Nat->α}{j:Nat}(h:j<n):glue n f g j=f j:=by have:Nat.blt j n=true:=lI.2 h;simp[glue,this]
theorem adr {α:Type}{n:Nat}{f g:Nat->α} :glue n f g n=g 0:=by
 have:Nat.blt n n=false:=by
  cases hb:Nat.blt n n with
  |false=>rfl
  |true=>exact absurd (lI.1 hb) (Nat.lt_irrefl _)
 simp[glue,this]
theorem aam {n:Nat}{f:Nat->(Nat->Int)}{A:Nat->Nat}{z:Nat->Int}(hf: ∀i,i<n->IsN (f i) (A i))(hz:IsN z (A n)): ∀i,i<n+1->IsN (glue n f (λj=>upd (λ_=>λ_=>0) 0 z (0+j)) i) (A i):=by
 intro i hi;by_cases e:i=n
 ·subst e;rw[adr,ayo,upd_same];exact hz
 ·rw[adq (by omega)];exact hf i (by omega)
structure Vv(Q n:Nat)(f:Nat->(Nat->Int))(c:Nat->Nat):Prop where
 is: ∀i,i<n->IsN (f i) (c i)
 zero: ∀k,n<=k->c k=0
 lt: ∀k,c k<Q
 top:n=0\/c (n-1)≠0
theorem Vv.size {Q n m:Nat}{f h:Nat->(Nat->Int)}{c:Nat->Nat}(a:Vv Q n f c)(b:Vv Q m h c):n=m:=by
 rcases Nat.lt_trichotomy n m with h1|h1|h1
 ·rcases b.top with h2|h2
  ·omega
  ·exact absurd (a.zero _ (by omega)) h2
 ·exact h1
 ·rcases a.top with h2|h2
  ·omega
  ·exact absurd (b.zero _ (by omega)) h2
theorem Vv.congr {Q n:Nat}{f:Nat->(Nat->Int)}{c d:Nat->Nat}(a:Vv Q n f c)(h: ∀k,c k=d k):Vv Q n f d:=by have:c=d:=funext h;exact this▸a
section
variable {g:iY} {P Q G:Nat}
end
open Go Go.Den Go.Num
def Cg(Q:Nat)(a b:Int):Prop:=(Q:Int)∣a-b
theorem Cg.refl(Q:Nat)(a:Int):Cg Q a a:=⟨0,by omega⟩
theorem Cg.of_eq {Q:Nat}{a b:Int}(h:a=b):Cg Q a b:=h▸Cg.refl Q a
theorem Cg.symm {Q:Nat}{a b:Int}(h:Cg Q a b):Cg Q b a:=by
 have:=Int.dvd_neg.2 h;unfold Cg
 rwa [show b-a= -(a-b)by omega]
theorem Cg.trans {Q:Nat}{a b c:Int}(h:Cg Q a b)(h':Cg Q b c):Cg Q a c:=by
 have:=Int.dvd_add h h';unfold Cg
 rwa [show a-c=a-b+(b-c)by omega]
theorem Cg.add {Q:Nat}{a b c d:Int}(h:Cg Q a b)(h':Cg Q c d):Cg Q (a+c) (b+d):=by
 have:=Int.dvd_add h h';unfold Cg
 rwa [show a+c-(b+d)=a-b+(c-d)by omega]
theorem Cg.sub {Q:Nat}{a b c d:Int}(h:Cg Q a b)(h':Cg Q c d):Cg Q (a-c) (b-d):=by
 have:=Int.dvd_sub h h';unfold Cg
 rwa [show a-c-(b-d)=a-b-(c-d)by omega]
theorem Cg.mul {Q:Nat}{a b c d:Int}(h:Cg Q a b)(h':Cg Q c d):Cg Q (a*c) (b*d):=by
 have:=Int.dvd_add (Int.dvd_mul_of_dvd_left (c:=c) h) (Int.dvd_mul_of_dvd_right (b:=b) h');unfold Cg
 rwa [show a*c-b*d=(a-b)*c+b*(c-d)by rw[Int.sub_mul,Int.mul_sub];omega]
theorem Cg.nat(Q a:Nat):Cg Q ((a%Q:Nat):Int) (a:Int):=by
 refine⟨-((a/Q:Nat):Int),?_⟩;have:=ay3 a Q;have e:(a:Int)=(Q:Int)*((a/Q:Nat):Int)+((a%Q:Nat):Int):=by rw[<-Int.natCast_mul,<-Int.natCast_add,this]
 rw[Int.mul_neg];omega
theorem Cg.eq {Q a b:Nat}(h:Cg Q (a:Int) (b:Int))(ha:a<Q)(hb:b<Q):a=b:=by
 obtain⟨k,hk⟩:=h;by_cases h0:k=0
 ·subst h0;omega
 ·rcases Int.lt_or_gt_of_ne h0 with h1|h1
  ·have:(Q:Int)*k<=(Q:Int)*(-1):=Int.mul_le_mul_of_nonneg_left (by omega) (by omega);omega
  ·have:(Q:Int)*1<=(Q:Int)*k:=Int.mul_le_mul_of_nonneg_left (by omega) (by omega);omega
theorem Cg.zero {Q a:Nat}(ha:a<Q):Cg Q (a:Int) 0↔a=0:=⟨λh=>Cg.eq (b:=0) h ha (by omega),λh=>by subst h;exact Cg.refl _ _⟩
def cI(c:Nat->Nat):Nat->Int:=λk=>(c k:Int)
def E(c:Nat->Nat)(x:Int):Int:=ev (cI c) 1000 x
section
variable {g:iY} {P Q G:Nat}
end
open Go Go.Den Go.Num
def ads(X:Nat->Nat)(x:Int):Nat->Int|0=>1|k+1=>ads X x k*(x-X k)
section
variable {g:iY} {P Q G:Nat}
structure Thr(Q:Nat)(X Y:Nat->Nat)(k nout:Nat)(out:Nat->(Nat->Int))(nn:Nat)(none_:Nat->(Nat->Int))(c d:Nat->Nat):Prop where
 pol:Vv Q nout out c
 size:nout<=k
 is: ∀i,i<nn->IsN (none_ i) (d i)
 zero: ∀i,nn<=i->d i=0
 size2:nn<=k+1
 at': ∀j,j<k->Cg Q (E c (X j)) (Y j)
 none': ∀x,Cg Q (E d x) (ads X x k)
 apart: ∀i j,i<j->j<k-> ¬Cg Q (X j) (X i)
end
open Go Go.Den Go.Num
section
variable {g:iY} {P Q G:Nat}
end
open Go Go.Den Go.Num
def IsR(n:Nat)(f:Nat->Int)(c:Nat->Nat):Prop:= ∀i,i<n->f i=(c i:Int)
theorem a6v {n:Nat}{f:Nat->Int}{c:Nat->Nat}{z:Int}(hf:IsR n f c)(hz:z=(c n:Int)):IsR (n+1) (glue n f (λj=>upd (λ_=>0) 0 z (0+j))) c:=by
 intro i hi;by_cases e:i=n
 ·subst e;rw[adr,ayo,upd_same];exact hz
 ·rw[adq (by omega)];exact hf i (by omega)
structure ax4(n:Nat)(f:Nat->Int)(c:Nat->Nat):Prop where
 is:IsR n f c
 zero: ∀k,n<=k->c k=0
 top:n=0\/c (n-1)≠0
theorem ZT {n:Nat}(hn:n<=100000){l:Nat->(Nat->Int)}{A:Nat->Nat}(hl: ∀i,i<n->IsN (l i) (A i)){q:Nat}(hq:0<q)(hq2:q<9223372036854775808): ∃f,wZ n l (q:Int)=some (n,f)/\IsR n f (λi=>A i%q):=by
 rw[Ux];unfold Uw;obtain⟨z,hy,hP⟩:=aP (R:=sP) (λi (out:Nat->Int)=>a13 n l (q:Int) i out (i:Int)) (λout=>K4 n out) (λi out=>IsR i out (λi=>A i%q)) n
  (λi hi out hP=>by have b1:Nat.ble ((i+1)*8) 140737488355328=true:=axu (by omega);have b2:Nat.ble (i+1) 9223372036854775807=true:=axu (by omega);refine⟨_,?_,a6v hP rfl⟩;unfold sP;simp(disch:=omega) only[CC,WW,a1G (hl i hi) hq hq2,b1,b2,Bool.and_self])
  (λout hP=>by unfold sP;simp(disch:=omega) only[CC,WW]) (λ_=>0) (λi hi=>absurd hi (axS i))
 have hy':aD sP (((n,l),((q:Int),((0,λ_=>0),(0,())))),())=some (K4 n z):=hy;exact⟨λj=>z (0+j),by simp only[hy'],λi hi=>by have:=hP i hi;simpa only[axA]using this⟩
section
variable {q:Nat}
theorem Xm(hq:1<q)(hq2:q<2147483648){n:Nat}(hn:n<=100000){f:Nat->Int}{c:Nat->Nat}(hf:IsR n f c){X:Nat} :bE n f (X:Int) (q:Int)=some ((Vs c (λi=>X^i) n%q:Nat):Int):=by
 rw[QT];unfold P7;obtain⟨z,hy,hP⟩:=aP (R:=pK) (λi (s:Nat×Nat)=>Zr n f (X:Int) (q:Int) (s.1:Int) (s.2:Int) (i:Int)) (λs=>Hq (s.1:Int)) (λi s=>s.1=Vs c (λi=>X^i) i%q/\s.2=X^i%q) n
  (λi hi s hP=>by
   obtain⟨h1,h2⟩:=hP;have l1:s.1<q:=by rw[h1];exact axG _ (by omega)
   have l2:c i*s.2%q<q:=axG _ (by omega);refine⟨((s.1+c i*s.2%q)%q,s.2*X%q),?_,?_,?_⟩
   ·unfold pK;simp(disch:=omega) only[CC,WW,hf i hi,ZQ (show 0<q by omega) (show q<9223372036854775808 by omega),ZP (show 0<q by omega) (show s.1<4611686018427387904 by omega) (show c i*s.2%q<4611686018427387904 by omega)]
   ·simp only[Vs];rw[h1,h2,azC (Vs c (λi=>X^i) i),ayW (c i) (X^i),ayW (c i) (X^i%q),azT]
   ·simp only;rw[h2,ayQ,ayW,azT,<-ayW])
  (λs hP=>by unfold pK;simp(disch:=omega) only[CC,WW]) (0,1) ⟨by simp only[Vs,Nat.zero_mod],by rw[ayV,axk hq]⟩
 have hy':aD pK (((n,f),((X:Int),((q:Int),(0,(1,(0,())))))),())=some (Hq (z.1:Int)):=hy;simp only[hy',hP.1]
end
open Go Go.Den Go.Num
def InP(P Q x:Nat):Prop:=x≠0/\x<P/\x^Q%P=1
instance (P Q x:Nat):Decidable (InP P Q x):=by unfold InP;infer_instance
def Pz(P Q n:Nat)(c:Nat->Nat):Prop:=1<=n/\n<=7/\ ∀j,j<n->InP P Q (c j)
def atN(P n:Nat)(c:Nat->Nat)(i:Nat):Nat:=jk (λj=>c j^i^j) n%P
theorem asi {i j:Nat}(hi:i<=7)(hj:j<=7):i^j<=823543:=az3 (Nat.pow_le_pow_left hi j) (az3 (axM (by decide) hj) (by decide))
section
variable {g:iY} {P Q G:Nat}
open Classical in
theorem FK(h:cO g P Q G){n:Nat}{f:Nat->(Nat->Int)}{c:Nat->Nat}(hf: ∀j,j<n->IsN (f j) (c j)):wm (some g) n f=some (decide (Pz P Q n c)):=by
 rw[Kh];unfold Bq;by_cases h1:1<=n
 ·by_cases h2:n<=7
  ·obtain⟨y,y1,y2⟩:=l9 (R:=fD) (S:=Unit) (λk _=>nJ n f (n:Int) (k:Int) g) (λk _=> ∀j,j<k->InP P Q (c j))
    (λy=>(∃(t:Nat) (z:Nat->Int),y=qm (t:Int) g z/\ ¬Pz P Q n c)\/(y=qo g/\Pz P Q n c)) n
    (λk hk _ hP=>by
     have hI:=Xl h (hf k hk);by_cases hin:c k≠0/\c k<P/\c k^Q%P=1
     ·rw[dJ hin]at hI;refine .inl ⟨(),?_,λj hj=>?_⟩
      ·simp(disch:=omega) only[fD,nJ,WW,CC,hI]
      ·by_cases e:j=k
       ·subst e;exact hin
       ·exact hP j (by omega)
     ·rw[bF hin]at hI;refine .inr ⟨qm (k:Int) g (f k),?_,.inl ⟨k,f k,rfl,λhm=>hin (hm.2.2 k hk)⟩⟩;simp(disch:=omega) only[fD,nJ,WW,CC,hI])
    (λ_ hP=>by refine⟨qo g,?_,.inr ⟨rfl,h1,h2,hP⟩⟩;simp(disch:=omega) only[fD,nJ,WW,CC]) () (λj hj=>absurd hj (axS _))
   have y1':aD fD (((n,f),((),((n:Int),(0,())))),(g,()))=some y:=y1;rcases y2 with⟨t,z,rfl,hm⟩|⟨rfl,hm⟩
   ·simp(disch:=omega) only[WW,y1',bF hm,qm]
   ·simp(disch:=omega) only[WW,y1',dJ hm,qo]
  ·have hm: ¬Pz P Q n c:=λhm=>h2 hm.2.1
   simp(disch:=omega) only[WW,bF hm]
 ·have hm: ¬Pz P Q n c:=λhm=>h1 hm.1
  simp(disch:=omega) only[WW,bF hm]
theorem Vw(h:cO g P Q G){n:Nat}(hn:n<=7){f:Nat->(Nat->Int)}{c:Nat->Nat}(hf: ∀j,j<n->IsN (f j) (c j)){i:Nat}(hi:i<=7):
  ∃z,Di (some g) n f (i:Int)=some z/\IsN z (atN P n c i):=by
 rw[NG];unfold Ey;obtain⟨e,y1,y2⟩:=aP (R:=mR) (S:=Nat->(Nat->Int)) (λk e=>Cm g n f (i:Int) k e ((i^k:Nat):Int) (n:Int) (k:Int) (λ_=>0)) (λe=>yC g n f n e (λ_=>0))
  (λk e=> ∀j,j<k->IsN (e j) (i^j)) n
  (λk hk e hP=>by
   have hp:=asi hi (j:=k) (by omega);have hp1:=asi hi (j:=k+1) (by omega);obtain⟨z,z1,z2⟩:=oL (n:=((i^k:Nat):Int)) (by omega);rw[axE]at z2;refine⟨glue k e (λj=>upd (λ_=>λ_=>0) 0 z (0+j)),?_,aam (A:=λj=>i^j) hP z2⟩;have hble: ∀a b:Nat,a<=b->Nat.ble a b=true:=λa b h=>axu h
   have hpm:i^k*i=i^(k+1):=rfl;simp(disch:=omega) only[mR,Cm,WW,CC,z1,hble,azq,hpm])
  (λe _=>by simp(disch:=omega) only[mR,Cm,WW,CC]) (λ_=>λ_=>0) (λj hj=>absurd hj (axS _))
 have y1':aD mR ((g,((n,f),((i:Int),((),((0,(λ_=>(λ_=>0))),(1,((n:Int),(0,())))))))),((λ_=>0),()))=some (yC g n f n e (λ_=>0)):=by have:=y1;simp only[ayV]at this;exact this
 obtain⟨z,z1,z2⟩:=Py h (n:=n) (by omega) hf (exps:=λj=>e (0+j)) (E:=λj=>i^j) (λj hj=>by rw[axA];exact y2 j hj);simp(disch:=omega) only[WW,y1',yC,z1];exact⟨z,rfl,z2⟩
end
structure abx(x:SlV (Nat->Int)×(Int×(Nat->Int)))(n:Nat)(c:Nat->Nat)(i:Int)(y:Nat):Prop where
 ms:SlV.isMs x.1=false
 len:SlV.len x.1=n
 nats: ∀j,j<n->IsN (SlV.fn (λ_=>0) x.1 j) (c j)
 ii:x.2.1=i
 yy:IsN x.2.2 y
structure Cl where
 n:Nat->Nat
 c:Nat->Nat->Nat
 i:Nat->Int
 y:Nat->Nat
def Cl.Is(C:Cl)(m:Nat)(l:Nat->SlV (Nat->Int)×(Int×(Nat->Int))):Prop:= ∀k,k<m->abx (l k) (C.n k) (C.c k) (C.i k) (C.y k)
def Cl.from(C:Cl)(a:Nat):Cl:=⟨λk=>C.n (a+k),λk=>C.c (a+k),λk=>C.i (a+k),λk=>C.y (a+k)⟩
theorem Cl.Is.from {C:Cl}{m a b:Nat}{l:Nat->SlV (Nat->Int)×(Int×(Nat->Int))}(h:C.Is m l)(hb:b<=m):(C.from a).Is (b-a) (λj=>l (a+j)):=λk hk=>h (a+k) (by omega)
section
variable {g:iY} {P Q G:Nat}
open Classical in
open Classical in
end
open Go Go.Den
abbrev bl(s:ByteArray):List UInt8:=s.data.toList
theorem pV(s:ByteArray):s.size=(bl s).length:=rfl
theorem LK {s t:ByteArray}(h:bl s=bl t):s=t:=by cases s;cases t;simp only[bl]at h;rw[azk h]
theorem a3X(s:ByteArray)(a b:Nat):bl (s.extract a b)=((bl s).drop a).take (b-a):=by simp only[bl,ByteArray.data_extract,Array.toList_extract,List.extract_eq_take_drop]
theorem a5a(s:ByteArray)(n:Nat):bl (s.extract n s.size)=(bl s).drop n:=by rw[a3X,ayg];rw[ayy,pV];exact axr _
theorem Vx(s:ByteArray):sEq s s=true:=by simp[sEq]
theorem aj4 {s t:ByteArray}(h:bl s=bl t):sEq s t=true:=by rw[LK h];exact Vx t
theorem wJ(n:Nat)(f:Nat->Int):bl (bytesOf n f)=(List.range n).map λi=>UInt8.ofNat (f i).toNat:=rfl
def asj:List UInt8->Nat| []=>0|b::l=>b.toNat+256*asj l
def ax5(l:List UInt8):Nat:=asj l.reverse
theorem a6w {l:List UInt8}{k:Nat}(h:k<l.length):l.take (k+1)=l.take k++[l.getD k 0]:=by rw[List.take_add_one,axn h,axm,axn h];rfl
theorem tJ(n:Nat):IntKind.u32.wrap (n:Int)=((n%4294967296:Nat):Int):=by rw[wrap_u32'];rfl
theorem Vy(n:Nat):IntKind.u8.wrap (n:Int)=((n%256:Nat):Int):=by rw[wrap_u8'];rfl
theorem mW(a:Nat):(BitVec.ofInt 32 (a:Int)).toNat=a%4294967296:=by simp[BitVec.toNat_ofInt]
theorem ax6 {a b:Nat}(ha:a<4294967296)(hb:b<4294967296):av .and .u32 (a:Int) (b:Int)=((a&&& b:Nat):Int):=by have:av .and .u32 (a:Int) (b:Int)=IntKind.u32.wrap ((BitVec.ofInt 32 a&&& BitVec.ofInt 32 b).toNat:Int):=rfl;rw[this,BitVec.toNat_and,mW,mW,axk ha,axk hb,tJ,axk];exact axB az6 ha
theorem orW {a b:Nat}(ha:a<4294967296)(hb:b<4294967296):av .or .u32 (a:Int) (b:Int)=((a||| b:Nat):Int):=by have:av .or .u32 (a:Int) (b:Int)=IntKind.u32.wrap ((BitVec.ofInt 32 a||| BitVec.ofInt 32 b).toNat:Int):=rfl;rw[this,BitVec.toNat_or,mW,mW,axk ha,axk hb,tJ,axk];exact ayf (n:=32) ha hb
theorem asl {a b:Nat}(ha:a<4294967296)(hb:b<4294967296):av .xor .u32 (a:Int) (b:Int)=((a^^^ b:Nat):Int):=by have:av .xor .u32 (a:Int) (b:Int)=IntKind.u32.wrap ((BitVec.ofInt 32 a^^^ BitVec.ofInt 32 b).toNat:Int):=rfl;rw[this,BitVec.toNat_xor,mW,mW,axk ha,axk hb,tJ,axk];exact Nat.xor_lt_two_pow (n:=32) ha hb
theorem aj5 {a b:Nat}(ha:a<9223372036854775808)(hb:b<9223372036854775808):av .xor .i64 (a:Int) (b:Int)=((a^^^ b:Nat):Int):=by have:av .xor .i64 (a:Int) (b:Int)=IntKind.i64.wrap ((BitVec.ofInt 64 a^^^ BitVec.ofInt 64 b).toNat:Int):=rfl;have hlt:a^^^ b<9223372036854775808:=Nat.xor_lt_two_pow (n:=63) ha hb;rw[this,BitVec.toNat_xor,dZ,dZ,axk (by omega),axk (by omega),wrap_i64];omega
theorem asn {a s:Nat}(h:a<4294967296):bL .u32 (a:Int) (s:Int)=((a/2^s:Nat):Int):=Vb (k:=.u32) h
theorem aby {a s:Nat}(hs:s<=32):iF .u32 (a:Int) (s:Int)=((a*2^s%4294967296:Nat):Int):=by unfold iF;rw[axE,show((a:Int)*2^min s IntKind.u32.bits)=((a*2^min s 32:Nat):Int)by simp[IntKind.bits],tJ,ayT hs]
theorem a5b {a s:Nat}(hs:s<63)(h:a*2^s<9223372036854775808):iF .i64 (a:Int) (s:Int)=((a*2^s:Nat):Int):=by unfold iF;rw[axE,show min s IntKind.i64.bits=s from ayT (by show s<=64;omega),show((a:Int)*2^s)=((a*2^s:Nat):Int)by simp,wrap_i64];omega
def LM(x n:Nat):Nat:=x/2^n||| x*2^(32-n)%4294967296
theorem eZ {x n:Nat}(h:x<4294967296):LM x n<4294967296:=
 ayf (n:=32) (axB (ay1 _ _) h) (axG _ (by decide))
theorem RQ {x n:Nat}(h:x<4294967296)(h1:0<n)(h2:n<32):fE (x:Int) (n:Int)=some (LM x n:Int):=by
 have e1:IntKind.i64.wrap (0-(n:Int))= -(n:Int):=by rw[wrap_i64 (by omega)];omega
 have e2:IntKind.u64.wrap (-(n:Int))=((18446744073709551616-n:Nat):Int):=by rw[J4];omega
 have e3:av .and .u64 ((18446744073709551616-n:Nat):Int) 31=((32-n:Nat):Int):=by
  rw[show(31:Int)=((31:Nat):Int)from rfl,abr (by omega) (by decide),show(31:Nat)=2^5-1 from rfl,ay8]
  congr 1;omega
 have e4:(32:Int)-((32-n:Nat):Int)=((n:Nat):Int):=by omega
 rw[Kj,HY,xP,rM];rw[e1,e2,e3,e4,Cw (by omega),bF (by omega),bF (by omega),aby (by omega),asn h];simp only[axL];rw[orW (axG _ (by decide)) (axB (ay1 _ _) h),Nat.or_comm];rfl
theorem Xn {x n:Nat}(h:x<4294967296)(h1:2<=n)(h2:n<32):jH (x:Int) (n:Int)=some (LM x n:Int):=by
 have hp:(2:Nat)^(32-n)<=2^30:=axM (by decide) (by omega);have hm:x*2^(32-n)<=4294967295*2^30:=azD (by omega) hp;have e4:(32:Int)-(n:Int)=((32-n:Nat):Int):=by omega
 have hd:x/2^n<4294967296:=axB (ay1 _ _) h;have ho:(x/2^n||| x*2^(32-n))<9223372036854775808:=ayf (n:=63) (by omega) (by omega);rw[QN,P6,bF (by omega),e4,eX (by omega),bF (by omega),ZE (by omega),a5b (by omega) (by omega),orS (by omega) (by omega)];simp only[axL];rw[show(4294967295:Int)=((4294967295:Nat):Int)from rfl,a1l ho (by decide),show(4294967295:Nat)=2^32-1 from rfl,ay8,Nat.or_mod_two_pow,axk (show x/2^n<2^32 from hd)];rfl
theorem O3 {x:Nat}(h:x<4294967296)(n:Nat)(h1:0<(OfNat.ofNat n:Nat))(h2:(OfNat.ofNat n:Nat)<32):fE (x:Int) (no_index (OfNat.ofNat n:Int))=some (LM x (OfNat.ofNat n):Int):=RQ h h1 h2
theorem Vz {x:Nat}(h:x<4294967296)(n:Nat)(h1:2<=(OfNat.ofNat n:Nat))(h2:(OfNat.ofNat n:Nat)<32):jH (x:Int) (no_index (OfNat.ofNat n:Int))=some (LM x (OfNat.ofNat n):Int):=Xn h h1 h2
theorem aan {a:Nat}(n:Nat)(h:a<4294967296):bL .u32 (a:Int) (no_index (OfNat.ofNat n:Int))=((a/2^(OfNat.ofNat n:Nat):Nat):Int):=asn (s:=OfNat.ofNat n) h
theorem aao {a:Nat}(n:Nat)(h:a<9223372036854775808):bL .i64 (a:Int) (no_index (OfNat.ofNat n:Int))=((a/2^(OfNat.ofNat n:Nat):Nat):Int):=ZE (s:=OfNat.ofNat n) h
def chN(e f g:Nat):Nat:=g^^^(e&&&(f^^^ g))
def abz(a b c:Nat):Nat:=(a&&& b)|||(c&&&(a||| b))
theorem abA {e f g:Nat}(he:e<4294967296)(hg:g<4294967296):(e&&& f)^^^((4294967295^^^ e)&&& g)=chN e f g:=by
 apply ayU;intro i;simp only[chN,Nat.testBit_xor,Nat.testBit_and];by_cases hi:i<32
 ·rw[show(4294967295:Nat)=2^32-1 from rfl,Nat.testBit_two_pow_sub_one,axw hi];cases e.testBit i<;>cases f.testBit i<;>cases g.testBit i<;>rfl
 ·have hp:2^32<=2^i:=axM (by decide) (by omega);have hp:(4294967296:Nat)<=2^i:=hp;rw[aya (axJ he hp),aya (axJ hg hp)];simp
theorem aap(a b c:Nat):((a&&& b)^^^(a&&& c))^^^(b&&& c)=abz a b c:=by apply ayU;intro i;simp only[abz,Nat.testBit_xor,Nat.testBit_and,azi];cases a.testBit i<;>cases b.testBit i<;>cases c.testBit i<;>rfl
theorem kr {a b:Nat}(ha:a<4294967296)(hb:b<4294967296):a^^^ b<4294967296:=Nat.xor_lt_two_pow (n:=32) ha hb
def S1N(e:Nat):Nat:=LM e 6^^^ LM e 11^^^ LM e 25
def S0N(a:Nat):Nat:=LM a 2^^^ LM a 13^^^ LM a 22
def s0N(x:Nat):Nat:=LM x 7^^^ LM x 18^^^ x/2^3
def s1N(x:Nat):Nat:=LM x 17^^^ LM x 19^^^ x/2^10
theorem aj6 {x:Nat}(h:x<4294967296):s0N x<4294967296:=kr (kr (eZ h) (eZ h)) (axB (ay1 _ _) h)
theorem aj7 {x:Nat}(h:x<4294967296):s1N x<4294967296:=kr (kr (eZ h) (eZ h)) (axB (ay1 _ _) h)
def a3Y(f:Nat->Nat)(i v:Nat):Nat->Nat:=λj=>if j=i then v else f j
def Yc(w:Nat->Nat)(k:Nat):Nat:=(w (k-16)+s0N (w (k-15))+w (k-7)+s1N (w (k-2)))%4294967296
def EI(b:Nat->Nat)(t:Nat):Nat:=b (4*t)*16777216+b (4*t+1)*65536+b (4*t+2)*256+b (4*t+3)
def CB(b:Nat->Nat):Nat->Nat->Nat|0=>EI b|k+1=>a3Y (CB b k) (16+k) (Yc (CB b k) (16+k))
def BJ(k w:Nat)(x:Nat->Nat):Nat->Nat|0=>(x 7+S1N (x 4)+chN (x 4) (x 5) (x 6)+k+w+(S0N (x 0)+abz (x 0) (x 1) (x 2)))%4294967296|1=>x 0|2=>x 1|3=>x 2|4=>(x 3+(x 7+S1N (x 4)+chN (x 4) (x 5) (x 6)+k+w))%4294967296|5=>x 4|6=>x 5|_=>x 6
def aaq(k w:Nat->Nat)(v:Nat->Nat):Nat->Nat->Nat|0=>v|t+1=>BJ (k t) (w t) (aaq k w v t)
def kN:Nat->Nat:=λi=>[1116352408,1899447441,3049323471,3921009573,961987163,1508970993,2453635748,2870763221,3624381080,310598401,607225278,1426881987,1925078388,2162078206,2614888103,3248222580,3835390401,4022224774,264347078,604807628,770255983,1249150122,1555081692,1996064986,2554220882,2821834349,2952996808,3210313671,3336571891,3584528711,113926993,338241895,666307205,773529912,1294757372,1396182291,1695183700,1986661051,2177026350,2456956037,2730485921,2820302411,3259730800,3345764771,3516065817,3600352804,4094571909,275423344,430227734,506948616,659060556,883997877,958139571,1322822218,1537002063,1747873779,1955562222,2024104815,2227730452,2361852424,2428436474,2756734187,3204031479,3329325298].getD i 0
def PD(v b:Nat->Nat):Nat->Nat:=λi=>(aaq kN (CB b 48) v 64 i+v i)%4294967296
def Ws(n:Nat)(x:Nat->Int)(y:Nat->Nat):Prop:= ∀i,i<n->x i=(y i:Int)/\y i<4294967296
def Bs(n:Nat)(x:Nat->Int)(y:Nat->Nat):Prop:= ∀i,i<n->x i=(y i:Int)/\y i<256
theorem a1I: ∃r,qN=some r/\Ws 64 r kN:=by
 refine⟨_,by rw[wo];rfl,?_⟩;intro i hi;have: ∀i,i<64->kN i<4294967296:=by decide
 refine⟨?_,this i hi⟩;have h2: ∀i:Fin 64,(upd (upd (upd (upd (upd (upd (upd (upd (upd (upd (upd (upd (upd (upd (upd (upd (upd (upd (upd (upd (upd (upd (upd (upd (upd (upd (upd (upd (upd (upd (upd (upd (upd (upd (upd (upd (upd (upd (upd (upd (upd (upd (upd (upd (upd (upd (upd (upd (upd (upd (upd (upd (upd (upd (upd (upd (upd (upd (upd (upd (upd (upd (upd (upd (λ_=>0) 0 1116352408) 1 1899447441) 2 3049323471) 3 3921009573) 4 961987163) 5 1508970993) 6 2453635748) 7 2870763221) 8 3624381080) 9 310598401) 10 607225278) 11 1426881987) 12 1925078388) 13 2162078206) 14 2614888103) 15 3248222580) 16 3835390401) 17 4022224774) 18 264347078) 19 604807628) 20 770255983) 21 1249150122) 22 1555081692) 23 1996064986) 24 2554220882) 25 2821834349) 26 2952996808) 27 3210313671) 28 3336571891) 29 3584528711) 30 113926993) 31 338241895) 32 666307205) 33 773529912) 34 1294757372) 35 1396182291) 36 1695183700) 37 1986661051) 38 2177026350) 39 2456956037) 40 2730485921) 41 2820302411) 42 3259730800) 43 3345764771) 44 3516065817) 45 3600352804) 46 4094571909) 47 275423344) 48 430227734) 49 506948616) 50 659060556) 51 883997877) 52 958139571) 53 1322822218) 54 1537002063) 55 1747873779) 56 1955562222) 57 2024104815) 58 2227730452) 59 2361852424) 60 2428436474) 61 2756734187) 62 3204031479) 63 3329325298:Nat->Int) i.val=(kN i.val:Int):=by decide
 exact h2 ⟨i,hi⟩
theorem LP:xg=qN:=by rw[Df,wo];rfl
theorem Ws.upd {n:Nat}{x:Nat->Int}{y:Nat->Nat}(h:Ws n x y){v:Nat}(hv:v<4294967296)(k:Nat):Ws n (upd x k (v:Int)) (a3Y y k v):=by
 intro i hi;by_cases hk:i=k
 ·subst hk;simp only[Den.upd,a3Y,ayB];exact⟨trivial,hv⟩
 ·simp only[Den.upd,a3Y,axi hk];exact h i hi
theorem Ws.push {n:Nat}{x:Nat->Int}{y:Nat->Nat}(h:Ws n x y){v:Nat}(hv:v<4294967296):Ws (n+1) (Den.upd x n (v:Int)) (a3Y y n v):=by
 intro i hi;by_cases hk:i=n
 ·subst hk;simp only[Den.upd,a3Y,ayB];exact⟨trivial,hv⟩
 ·simp only[Den.upd,a3Y,axi hk];exact h i (by omega)
theorem a1J {w:Nat->Nat}{k:Nat} :Yc w k<4294967296:=axG _ (by decide)
theorem a5c {a b c d:Nat}(ha:a<256)(hb:b<256)(hc:c<256)(hd:d<256):(((a*2^24||| b*2^16)||| c*2^8)||| d)=a*16777216+b*65536+c*256+d:=by
 have h1:a*2^24||| b*2^16=(a*256+b)*2^16:=by have:=ayG (i:=24) (b:=b*2^16) (by omega) a;rw[axH a,<-this];omega
 have h2:(a*256+b)*2^16||| c*2^8=((a*256+b)*256+c)*2^8:=by have:=ayG (i:=16) (b:=c*2^8) (by omega) (a*256+b);rw[axH (a*256+b),<-this];omega
 have h3:((a*256+b)*256+c)*2^8||| d=a*16777216+b*65536+c*256+d:=by have:=ayG (i:=8) (b:=d) (by omega) ((a*256+b)*256+c);rw[axH _ (2^8),<-this];omega
 rw[h1,h2,h3]
theorem Yd {b:Nat->Nat}{t:Nat}(h0:b (4*t)<256)(h1:b (4*t+1)<256)(h2:b (4*t+2)<256)(h3:b (4*t+3)<256):EI b t<4294967296:=by unfold EI;omega
theorem a1K {b w t1:Nat->Int}{B:Nat->Nat}(hb:Bs 64 b B)(t:Nat)(ht:t<16):
  gT (gQ (t:Int) b t1 w)=some (.inl (gQ ((t+1:Nat):Int) b t1 (upd w t (EI B t:Int)))):=by
 obtain⟨e0,l0⟩:=hb (4*t) (by omega);obtain⟨e1,l1⟩:=hb (4*t+1) (by omega);obtain⟨e2,l2⟩:=hb (4*t+2) (by omega);obtain⟨e3,l3⟩:=hb (4*t+3) (by omega);have w24: ∀ {x:Nat},x<256->iF .u32 (x:Int) 24=((x*2^24:Nat):Int):=λ{x} hx=>by rw[show(24:Int)=((24:Nat):Int)from rfl,aby (by decide),axk (by omega)]
 have w16: ∀ {x:Nat},x<256->iF .u32 (x:Int) 16=((x*2^16:Nat):Int):=λ{x} hx=>by rw[show(16:Int)=((16:Nat):Int)from rfl,aby (by decide),axk (by omega)]
 have w8: ∀ {x:Nat},x<256->iF .u32 (x:Int) 8=((x*2^8:Nat):Int):=λ{x} hx=>by rw[show(8:Int)=((8:Nat):Int)from rfl,aby (by decide),axk (by omega)]
 have o1:B (4*t)*2^24||| B (4*t+1)*2^16<4294967296:=ayf (n:=32) (by omega) (by omega);have o2:(B (4*t)*2^24||| B (4*t+1)*2^16)||| B (4*t+2)*2^8<4294967296:=ayf (n:=32) o1 (by omega);simp(disch:=omega) only[gT,gQ,WW,CC,e0,e1,e2,e3,tJ,axk,w24,w16,w8,orW,o1,o2];rw[a5c l0 l1 l2 l3];rfl
theorem a1L {w t1:Nat->Int}{W:Nat->Nat}(k:Nat)(hk:k<48)(hw:Ws (16+k) w W):
  gV (gU ((16+k:Nat):Int) t1 w)=some (.inl (gU ((16+(k+1):Nat):Int) t1 (upd w (16+k) (Yc W (16+k):Int)))):=by
 obtain⟨e0,l0⟩:=hw (16+k-15) (by omega);obtain⟨e1,l1⟩:=hw (16+k-2) (by omega);obtain⟨e2,l2⟩:=hw (16+k-16) (by omega);obtain⟨e3,l3⟩:=hw (16+k-7) (by omega);have b0:=aj6 l0;have b1:=aj7 l1;have r1:= @eZ (W (16+k-15)) 7 l0;have r2:= @eZ (W (16+k-15)) 18 l0;have r3:= @eZ (W (16+k-2)) 17 l1;have r4:= @eZ (W (16+k-2)) 19 l1;have x1:=kr r1 r2;have x2:=kr r3 r4;have d1:W (16+k-15)/2^3<4294967296:=axB (ay1 _ _) l0;have d2:W (16+k-2)/2^10<4294967296:=axB (ay1 _ _) l1;have c1:((16+k:Nat):Int)-15=((16+k-15:Nat):Int):=by omega
 have c2:((16+k:Nat):Int)-2=((16+k-2:Nat):Int):=by omega
 have c3:((16+k:Nat):Int)-16=((16+k-16:Nat):Int):=by omega
 have c4:((16+k:Nat):Int)-7=((16+k-7:Nat):Int):=by omega
 have c5:((16+k:Nat):Int)+1=((16+(k+1):Nat):Int):=by omega
 simp(disch:=omega) only[gV,gU,c1,c2,c3,c4,c5,WW,e0,e1,e2,e3,O3,aan,asl,NS,tJ];simp only[Yc,s0N,s1N,Nat.mod_add_mod]
theorem O4 {b:Nat->Int}{B:Nat->Nat}(hb:Bs 64 b B): ∃w,zw b=some w/\Ws 64 w (CB B 48):=by
 have s0lt: ∀t,t<16->EI B t<4294967296:=λt ht=>Yd (hb _ (by omega)).2 (hb _ (by omega)).2 (hb _ (by omega)).2 (hb _ (by omega)).2
 obtain⟨w1,h1,h2⟩:=aP (R:=gT) (λk (w:Nat->Int)=>gQ (k:Int) b (λ_=>0) w) (λw=>rU (λ_=>0) w)
  (λk w=>Ws k w (EI B)) 16
  (λk hk w hw=>⟨_,a1K hb k hk,λi hi=>by
   by_cases hik:i=k
   ·subst hik;simp only[upd,ayB];exact⟨trivial,s0lt _ hk⟩
   ·simp only[upd,axi hik];exact hw i (by omega)⟩)
  (λw hw=>by simp(disch:=omega) only[gT,gQ,WW]) (λ_=>0) (λi hi=>by omega)
 obtain⟨w2,h3,h4⟩:=aP (R:=gV) (λk (w:Nat->Int)=>gU ((16+k:Nat):Int) (λ_=>0) w) (λw=>rV (λ_=>0) w)
  (λk w=>Ws (16+k) w (CB B k)) 48
  (λk hk w hw=>⟨_,a1L k hk hw,by exact Ws.push hw a1J⟩)
  (λw hw=>by simp(disch:=omega) only[gV,gU,WW]) w1 h2
 refine⟨w2,?_,h4⟩;have e1:aD gT (gQ 0 b (λ_=>0) (λ_=>0))=some (rU (λ_=>0) w1):=h1;have e2:aD gV (gU 16 (λ_=>0) w1)=some (rV (λ_=>0) w2):=h3;rw[Fh,Cn];simp only[gQ,rU]at e1;simp only[gU,rV]at e2;rw[e1];simp only;rw[e2]
theorem a1M {k w:Nat}{x:Nat->Nat}(h: ∀i,i<8->x i<4294967296): ∀i,i<8->BJ k w x i<4294967296:=by
 intro i hi;have h0:=h 0 (by omega);have h1:=h 1 (by omega);have h2:=h 2 (by omega);have h4:=h 4 (by omega);have h5:=h 5 (by omega);have h6:=h 6 (by omega)
 match i,hi with
 |0,_=>exact axG _ (by decide)
 |1,_=>exact h0
 |2,_=>exact h1
 |3,_=>exact h2
 |4,_=>exact axG _ (by decide)
 |5,_=>exact h4
 |6,_=>exact h5
 |7,_=>exact h6
theorem a3Z {v t1 k w x:Nat->Int}{K W X:Nat->Nat}(hk:Ws 64 k K)(hw:Ws 64 w W)(t:Nat)(ht:t<64)(hx:Ws 8 x X):
  ∃y,jX (jW (t:Int) v t1 k w x)=some (.inl (jW ((t+1:Nat):Int) v t1 k w y))/\Ws 8 y (BJ (K t) (W t) X):=by
 obtain⟨e0,l0⟩:=hx 0 (by omega);obtain⟨e1,l1⟩:=hx 1 (by omega);obtain⟨e2,l2⟩:=hx 2 (by omega);obtain⟨e3,l3⟩:=hx 3 (by omega);obtain⟨e4,l4⟩:=hx 4 (by omega);obtain⟨e5,l5⟩:=hx 5 (by omega);obtain⟨e6,l6⟩:=hx 6 (by omega);obtain⟨e7,l7⟩:=hx 7 (by omega);obtain⟨ek,lk⟩:=hk t ht;obtain⟨ew,lw⟩:=hw t ht;have r1:= @eZ (X 4) 6 l4;have r2:= @eZ (X 4) 11 l4;have r3:= @eZ (X 4) 25 l4;have r4:= @eZ (X 0) 2 l0;have r5:= @eZ (X 0) 13 l0;have r6:= @eZ (X 0) 22 l0;have x1:=kr r1 r2;have x2:=kr r4 r5;have x3:=kr l5 l6;have x4:X 4&&&(X 5^^^ X 6)<4294967296:=axB az6 l4;have x5:X 0||| X 1<4294967296:=ayf (n:=32) l0 l1;have x6:X 0&&& X 1<4294967296:=axB az6 l0;have x7:X 2&&&(X 0||| X 1)<4294967296:=axB az6 l2;refine⟨_,by
  simp(disch:=omega) only[jX,jW,WW,e0,e1,e2,e3,e4,e5,e6,e7,ek,ew,O3,asl,ax6,orW,NS,Vd,tJ];rfl,?_⟩
 have hl:=a1M (k:=K t) (w:=W t) (x:=X) (λi hi=>(hx i hi).2);intro i hi;refine⟨?_,hl i hi⟩
 match i,hi with
 |0,_=>
  simp only[upd,ayB,BJ,S1N,S0N,chN,abz]
  congr 1;omega
 |4,_=>
  simp only[upd,ayB,axi (show¬(4=0)by decide),BJ,S1N,chN]
  congr 1;omega
 |1,_=>exact e0
 |2,_=>exact e1
 |3,_=>exact e2
 |5,_=>exact e4
 |6,_=>exact e5
 |7,_=>exact e6
theorem VB {v b:Nat->Int}{V B:Nat->Nat}(hv:Ws 8 v V)(hb:Bs 64 b B): ∃r,Dm v b=some r/\Ws 8 r (PD V B):=by
 obtain⟨k,hk1,hk2⟩:=a1I;obtain⟨w,hw1,hw2⟩:=O4 hb;obtain⟨x,h1,h2⟩:=aP (R:=jX) (λt (x:Nat->Int)=>jW (t:Int) v (λ_=>0) k w x) (λx=>yD v (λ_=>0) x)
  (λt x=>Ws 8 x (aaq kN (CB B 48) V t)) 64 (λt ht x hx=>a3Z hk2 hw2 t ht hx)
  (λx hx=>by simp(disch:=omega) only[jX,jW,WW]) v hv
 obtain⟨y,h3,h4⟩:=aP (R:=mU) (λt (x:Nat->Int)=>qO (t:Int) v (λ_=>0) x) (λx=>yE (λ_=>0) x)
  (λt x=> ∀i,i<8->(i<t->x i=(PD V B i:Int))/\(t<=i->x i=(aaq kN (CB B 48) V 64 i:Int))) 8
  (λt ht z hz=>by
   obtain⟨ev,lv⟩:=hv t ht;have ez:=(hz t ht).2 (axr _);have lm:=(h2 t ht).2;refine⟨_,by
    simp(disch:=omega) only[mU,qO,WW,ev,ez,NS,Vd,tJ];rfl,?_⟩
   intro i hi;by_cases hit:i=t
   ·subst hit;refine⟨λ_=>by simp only[upd,ayB];rfl,λh=>by omega⟩
   ·simp only[upd,axi hit];exact⟨λh=>(hz i hi).1 (by omega),λh=>(hz i hi).2 (by omega)⟩)
  (λx hx=>by simp(disch:=omega) only[mU,qO,WW]) x (λi hi=>⟨λh=>by omega,λ_=>(h2 i hi).1⟩)
 refine⟨y,?_,λi hi=>⟨(h4 i hi).1 hi,axG _ (by decide)⟩⟩;have e1:aD jX (jW 0 v (λ_=>0) k w v)=some (yD v (λ_=>0) x):=h1;have e2:aD mU (qO 0 v (λ_=>0) x)=some (yE (λ_=>0) y):=h3;rw[NJ,Lr,hk1,hw1];simp only[jW,yD]at e1;simp only[qO,yE]at e2;simp only;rw[e1];simp only;rw[e2]
theorem VD {s t:ByteArray} :sEq s t=true↔bl s=bl t:=by
 constructor
 ·intro h;have h2:s.toList=t.toList:=eq_of_beq h;rw[azL,azL]at h2;exact h2
 ·exact aj4
theorem J9 {s:ByteArray} :sEq s (ByteArray.mk #[])=decide (s.size=0):=by
 by_cases h:s.size=0
 ·rw[axw h,VD];exact azb.1 h
 ·rw[axz h];cases hb:sEq s (ByteArray.mk #[])
  ·rfl
  ·rw[VD]at hb;exact absurd (by rw[pV,hb];rfl) h
def bN(l:List UInt8)(k:Nat):Nat->Nat:=λi=>if i<64 then(l.getD (64*k+i) 0).toNat else 0
def aar:Nat->Nat:=λi=>[1779033703,3144134277,1013904242,2773480762,1359893119,2600822924,528734635,1541459225].getD i 0
def kI(l:List UInt8):Nat->Nat->Nat|0=>aar|k+1=>PD (kI l k) (bN l k)
theorem wK {l s:List UInt8}{i:Nat}(h:i<l.length):(l++s).getD i 0=l.getD i 0:=by rw[axm,axm,axC h]
theorem BK {l s:List UInt8}{i:Nat}(h:l.length<=i):(l++s).getD i 0=s.getD (i-l.length) 0:=by rw[axm,axm,ay5 h]
theorem a6x {l s:List UInt8}{k:Nat}(h:64*k+64<=l.length):bN (l++s) k=bN l k:=by
 funext i
 unfold bN;split
 ·rw[wK (by omega)]
 ·rfl
theorem Aw {l s:List UInt8} : ∀ {k:Nat},64*k<=l.length->kI (l++s) k=kI l k
 |0,_=>rfl
 |k+1,h=>by rw[kI,kI,Aw (k:=k) (by omega),a6x (by omega)]
theorem Ye: ∃r,Dj=some r/\Ws 8 r aar:=by
 refine⟨_,by rw[Ez];rfl,?_⟩;intro i hi
 match i,hi with
 |0,_=>exact⟨rfl,by decide⟩
 |1,_=>exact⟨rfl,by decide⟩
 |2,_=>exact⟨rfl,by decide⟩
 |3,_=>exact⟨rfl,by decide⟩
 |4,_=>exact⟨rfl,by decide⟩
 |5,_=>exact⟨rfl,by decide⟩
 |6,_=>exact⟨rfl,by decide⟩
 |7,_=>exact⟨rfl,by decide⟩
abbrev Rb:=Bool×((Nat->Int)×((Nat->Int)×Int))
structure Ay(h:Rb)(l:List UInt8):Prop where
 given:h.1=true
 n:h.2.2.2=(l.length:Int)
 words:Ws 8 h.2.1 (kI l (l.length/64))
 rest: ∀j,j<l.length%64->h.2.2.1 j=((l.getD (64*(l.length/64)+j) 0).toNat:Int)
theorem Xo {h:Rb}{l:List UInt8}{s:ByteArray}(hh:Ay h l)(hs:0<s.size)(hb:l.length+s.size<2^60):
  ∃h' m,0<m/\m<=s.size/\dO (dN s h)=some (.inl (dN (s.extract m s.size) h'))/\Ay h' (l++(bl s).take m):=by
 obtain⟨g,w,r,n⟩:=h;obtain⟨h1,h2,h3,h4⟩:=hh;simp only at h1 h2 h3 h4;subst h2;have hmod:l.length%64<64:=axG _ (by decide);have e64:64-(l.length%64)≠0:=by omega
 generalize hm:min s.size (64-l.length%64)=m;have hm1:0<m:=by omega
 have hm2:m<=s.size:=by omega
 have hm3:l.length%64+m<=64:=by omega
 have hsz:(bl s).length=s.size:=(pV s).symm;have c1:Nat.ble (64-l.length%64) 0=false:=by
  cases hb:Nat.ble (64-l.length%64) 0
  ·rfl
  ·exact absurd (axx hb) (by omega)
 have c2:Nat.ble s.size 0=false:=by
  cases hb:Nat.ble s.size 0
  ·rfl
  ·exact absurd (axx hb) (by omega)
 have hlen:(l++(bl s).take m).length=l.length+m:=by rw[axq,azW];omega
 have hget: ∀j,j<l.length%64+m->tO r (l.length%64) m (λi=>(((s.data.toList.getD i 0).toNat:Nat):Int)) j=(((l++(bl s).take m).getD (64*(l.length/64)+j) 0).toNat:Int):=by
  intro j hj;unfold tO;by_cases hjl:l.length%64<=j
  ·rw[axp ⟨hjl,hj⟩,BK (by omega),show 64*(l.length/64)+j-l.length=j-l.length%64 by omega];show(((s.data.toList.getD (j-l.length%64) 0).toNat:Nat):Int)=_;rw[axm,axm,axI (by omega)]
  ·rw[axi (by omega),wK (by omega)];exact h4 j (by omega)
 by_cases hfull:l.length%64+m=64
 ·obtain⟨r',hr1,hr2⟩:=VB (b:=tO r (l.length%64) m (λi=>(((s.data.toList.getD i 0).toNat:Nat):Int))) (B:=bN (l++(bl s).take m) (l.length/64)) h3 (by
   intro i hi;refine⟨?_,?_⟩
   ·rw[hget i (by omega)];unfold bN;rw[axp hi]
   ·unfold bN;rw[axp hi];exact UInt8.toNat_lt _)
  refine⟨(g,(r',(tO r (l.length%64) m (λi=>(((s.data.toList.getD i 0).toNat:Nat):Int)),((l.length+m:Nat):Int)))),m,hm1,hm2,?_,?_⟩
  ·simp(disch:=omega) only[dO,dN,J9,WW,CC,c1,c2,azh,hm,azq,axV,hr1]
  ·have hq:(l.length+m)/64=l.length/64+1:=by omega
   refine⟨h1,by simp only;rw[hlen],?_,?_⟩
   ·simp only;rw[hlen,hq,kI,Aw (by omega)];exact hr2
   ·intro j hj;rw[hlen]at hj;omega
 ·refine⟨(g,(w,(tO r (l.length%64) m (λi=>(((s.data.toList.getD i 0).toNat:Nat):Int)),((l.length+m:Nat):Int)))),m,hm1,hm2,?_,?_⟩
  ·simp(disch:=omega) only[dO,dN,J9,WW,CC,c1,c2,azh,hm,azq,axV]
  ·have hq:(l.length+m)/64=l.length/64:=by omega
   refine⟨h1,by simp only;rw[hlen],?_,?_⟩
   ·simp only;rw[hlen,hq,Aw (by omega)];exact h3
   ·intro j hj;rw[hlen]at hj;simp only;rw[hlen,hq];exact hget j (by omega)
theorem ZU: ∀(n:Nat) {h:Rb} {l:List UInt8} {s:ByteArray},s.size<=n->Ay h l->l.length+s.size<2^60->
  ∃h',aD dO (dN s h)=some (xS h')/\Ay h' (l++bl s):=by
 intro n
 induction n with
 |zero=>
  intro h l s hn hh hb;have h0:bl s=[]:=azb.1 (by rw[<-pV];omega);refine⟨h,dM ?_,by rw[h0,ayD];exact hh⟩;simp(disch:=omega) only[dO,dN,J9,WW]
 |succ n ih=>
  intro h l s hn hh hb;by_cases h0:s.size=0
  ·have h0':bl s=[]:=azb.1 (by rw[<-pV];omega);refine⟨h,dM ?_,by rw[h0',ayD];exact hh⟩;simp(disch:=omega) only[dO,dN,J9,WW]
  ·obtain⟨h',m,hm1,hm2,hr,hh'⟩:=Xo hh (Nat.pos_of_ne_zero h0) hb;have hsz:(s.extract m s.size).size=s.size-m:=by rw[pV,a5a,ayy,pV]
   have hlt:(bl s).length=s.size:=(pV s).symm;obtain⟨h'',h1,h2⟩:=ih (h:=h') (l:=l++(bl s).take m) (s:=s.extract m s.size) (by omega) hh' (by rw[axq,azW];omega);refine⟨h'',by rw[nT hr];exact h1,?_⟩;rw[a5a,ay9,ayx]at h2;exact h2
theorem zD {h:Rb}{l:List UInt8}{s:ByteArray}(hh:Ay h l)(hb:l.length+s.size<2^60):
  ∃h',jg s h=some (rW h')/\Ay h' (l++bl s):=by
 obtain⟨h',h1,h2⟩:=ZU s.size (axr _) hh hb;refine⟨h',?_,h2⟩;simp only[dN,xS]at h1;rw[Br,yF,hh.given,h1];rfl
def oM(n:Nat):Nat:=(119-n%64)%64
theorem PE(n:Nat):(n+1+oM n)%64=56:=by unfold oM;omega
theorem KC {n k:Nat}(h:k<oM n):(n+1+k)%64≠56:=by unfold oM at h;omega
def ZV(n:Nat):List UInt8:=(List.range 8).map λk=>UInt8.ofNat (8*n/2^(56-8*k)%256)
def Xp(l:List UInt8):List UInt8:=l++[128]++List.replicate (oM l.length) 0++ZV l.length
theorem a1N(l:List UInt8):(Xp l).length=l.length+1+oM l.length+8:=by simp[Xp,ZV];omega
theorem aas(l:List UInt8):(Xp l).length%64=0:=by rw[a1N];have:=PE l.length;omega
def PG(v:Nat->Nat)(j:Nat):Nat:=v (j/4)/2^(24-8*(j%4))%256
def Sz(v:Nat->Nat):ByteArray:=⟨((List.range 32).map λj=>UInt8.ofNat (PG v j)).toArray⟩
def zF(l:List UInt8):ByteArray:=Sz (kI (Xp l) ((Xp l).length/64))
theorem Yf(l:List UInt8):(zF l).size=32:=by simp[zF,Sz,ByteArray.size]
theorem Rf {out:Nat->Int}{v:Nat->Nat}(h: ∀j,j<32->out j=(PG v j:Int)):bytesOf 32 (λj=>out (0+j))=Sz v:=by
 unfold bytesOf Sz
 congr 1;congr 1
 apply az7;intro j hj;simp only[axA,h j (azt.1 hj),axE]
theorem a6y {h0 c:Rb}{l:List UInt8}(hc:Ay c (l++[128]))(hb:l.length<2^59):
  ∃c',aD j5 (kR h0 c)=some (rX h0 c')/\Ay c' (l++[128]++List.replicate (oM l.length) 0):=by
 have hz:oM l.length<64:=axG _ (by decide);have hlen: ∀k,(l++[128]++List.replicate k (0:UInt8)).length=l.length+1+k:=by intro k;simp;omega
 refine aP (R:=j5) (λk (c:Rb)=>kR h0 c) (λc=>rX h0 c) (λk c=>Ay c (l++[128]++List.replicate k 0)) (oM l.length) ?_ ?_ c (by simpa using hc)
 ·intro k hk c hc;obtain⟨c',h1,h2⟩:=zD (s:=ByteArray.mk #[0]) hc (by rw[hlen];show _+1<_;omega);have hn:=hc.n;rw[hlen]at hn;have hb2:=KC hk;refine⟨c',?_,?_⟩
  ·simp(disch:=omega) only[j5,kR,hn,WW,CC,h1]
  ·rw[List.replicate_succ',<-ay9];exact h2
 ·intro c hc;have hn:=hc.n;rw[hlen]at hn;have hb2:=PE l.length;simp(disch:=omega) only[j5,kR,hn,WW,CC]
theorem aat {h0 c:Rb}{l:List UInt8}(h0n:h0.2.2.2=(l.length:Int))(hb:l.length<2^59):
  ∃last,aD j6 (kS h0 0 c (λ_=>0))=some (rY c last)/\ ∀k,k<8->last k=((8*l.length/2^(56-8*k)%256:Nat):Int):=by
 refine aP (R:=j6) (λk (f:Nat->Int)=>kS h0 (k:Int) c f) (λf=>rY c f) (λk f=> ∀i,i<k->f i=((8*l.length/2^(56-8*i)%256:Nat):Int)) 8 ?_ ?_ (λ_=>0) (λi hi=>by omega)
 ·intro k hk f hf;refine⟨_,by
   simp(disch:=omega) only[j6,kS,h0n,WW,CC,ZE,Vy];rfl,?_⟩
  intro i hi;by_cases hik:i=k
  ·subst hik;simp only[upd,ayB]
  ·simp only[upd,axi hik];exact hf i (by omega)
 ·intro f hf;simp(disch:=omega) only[j6,kS,WW,CC]
theorem abB {w:Nat->Int}{v:Nat->Nat}(hw:Ws 8 w v):
  ∃out,aD jc (kU 0 (λ_=>0) w 0)=some (rZ 32 out)/\ ∀j,j<32->out j=(PG v j:Int):=by
 refine aP (R:=jc) (λk (f:Nat->Int)=>kU (4*k) f w (k:Int)) (λf=>rZ 32 f) (λk f=> ∀i,i<4*k->f i=(PG v i:Int)) 8 ?_ ?_ (λ_=>0) (λi hi=>by omega)
 ·intro k hk f hf;obtain⟨e,lt⟩:=hw k hk;have b1:Nat.ble ((4*k+4)*1) 140737488355328=true:=axu (by omega);have b2:Nat.ble (4*k+4) 9223372036854775807=true:=axu (by omega);refine⟨_,by
   simp(disch:=omega) only[jc,kU,e,WW,CC,aan,Vy,b1,b2,azq];rfl,?_⟩
  intro i hi;unfold glue;by_cases hik:i<4*k
  ·rw[show Nat.blt i (4*k)=true from axu hik,axy];exact hf i hik
  ·rw[show Nat.blt i (4*k)=false by
    cases hb:Nat.blt i (4*k)
    ·rfl
    ·exact absurd (axx hb) hik,axL]
   have hd:i/4=k:=by omega
   have h4:i-4*k=0\/i-4*k=1\/i-4*k=2\/i-4*k=3:=by omega
   rcases h4 with h4|h4|h4|h4
   ·have hm:i%4=0:=by omega
    rw[h4,PG,hd,hm];rfl
   ·have hm:i%4=1:=by omega
    rw[h4,PG,hd,hm];rfl
   ·have hm:i%4=2:=by omega
    rw[h4,PG,hd,hm];rfl
   ·have hm:i%4=3:=by omega
    rw[h4,PG,hd,hm,ayV,azY];rfl
 ·intro f hf;simp(disch:=omega) only[jc,kU,WW,CC]
theorem a4a {h0:Rb}{l:List UInt8}(hh:Ay h0 l)(hb:l.length<2^59):zx (some h0)=some (zF l):=by
 obtain⟨c1,h1,k1⟩:=zD (s:=ByteArray.mk #[128]) hh (by show _+1<_;omega);obtain⟨c2,h2,k2⟩:=a6y (h0:=h0) k1 hb;obtain⟨last,h3,k3⟩:=aat (c:=c2) hh.n hb;have hz:oM l.length<64:=axG _ (by decide);obtain⟨c3,h4,k4⟩:=zD (s:=bytesOf 8 (λj=>last (0+j))) k2 (by rw[show(bytesOf 8 (λj=>last (0+j))).size=8 by simp[bytesOf,ByteArray.size]];simp;omega);have e5:l++[128]++List.replicate (oM l.length) 0++bl (bytesOf 8 (λj=>last (0+j)))=Xp l:=by
  unfold Xp ZV
  congr 1
  rw[wJ];apply az7;intro j hj;simp only[axA,k3 j (azt.1 hj),axE]
 rw[e5]at k4;obtain⟨out,h6,k6⟩:=abB k4.words;simp only[kR,rX]at h2;simp only[kS,rY]at h3;simp only[kU,rZ]at h6;rw[Fj,xB];simp only[hh.given,aym,axL,h1,rW,h2,h3,h4,h6];rw[Rf k6];rfl
theorem ZW {s:ByteArray}(hb:s.size<2^59):NK s=some (zF (bl s)):=by obtain⟨f,h1,k1⟩:=Ye;have hh:Ay (true,(f,((λ_=>0),0))) []:=⟨rfl,rfl,k1,λj hj=>by simp at hj⟩;obtain⟨h',h2,k2⟩:=zD (s:=s) hh (by simp;omega);rw[aza]at k2;have h3:=a4a k2 (by rw[<-pV];exact hb);rw[V6,V5,NH,Lm,h1];simp only[h2,rW,h3]
def AP(n:Nat)(b:Nat->Int)(l:List UInt8):Prop:=n=l.length/\ ∀j,j<n->b j=((l.getD j 0).toNat:Int)
theorem AP.push {n:Nat}{b:Nat->Int}{l:List UInt8}(h:AP n b l){v:Int}{x:UInt8}(hv:v=(x.toNat:Int)):AP (n+1) (glue n b (λj=>upd (λ_=>0) 0 v (0+j))) (l++[x]):=by
 obtain⟨h1,h2⟩:=h;refine⟨by simp;omega,?_⟩;intro j hj;unfold glue;by_cases hc:j<n
 ·rw[show Nat.blt j n=true from axu hc,axy,wK (by omega)];exact h2 j hc
 ·obtain rfl:j=n:=by omega
  rw[show Nat.blt j j=false by
   cases hb:Nat.blt j j
   ·rfl
   ·exact absurd (axx hb) (by omega),axL,BK (by omega),h1,ayu]
  exact hv
theorem a6z {s:ByteArray}{l:List UInt8}{b:Nat->Int}(hl:l.length<2^40)(h:AP (l.length+1) b (l++[128])):
  ∃n b',aD kP (oz s (l.length+1) b)=some (vX s n b')/\AP n b' (l++[128]++List.replicate (oM l.length) 0):=by
 have hz:oM l.length<64:=axG _ (by decide);obtain⟨f,h1,h2⟩:=aP (R:=kP) (λk (f:Nat->Int)=>oz s (l.length+1+k) f) (λf=>vX s (l.length+1+oM l.length) f)
  (λk f=>AP (l.length+1+k) f (l++[128]++List.replicate k 0)) (oM l.length)
  (λk hk f hf=>by
   have hb2:=KC hk;have c1:Nat.ble ((l.length+1+k+1)*1) 140737488355328=true:=axu (by omega);have c2:Nat.ble (l.length+1+k+1) 9223372036854775807=true:=axu (by omega);refine⟨_,by
    simp(disch:=omega) only[kP,oz,WW,ZG,c1,c2,azq];rfl,?_⟩
   rw[List.replicate_succ',<-ay9];exact hf.push rfl)
  (λf hf=>by have hb2:=PE l.length;simp(disch:=omega) only[kP,oz,WW,ZG]) b (by simpa using h)
 exact⟨_,f,h1,h2⟩
theorem abC {s:ByteArray}{l m:List UInt8}{n:Nat}{b:Nat->Int}(hsl:s.size=l.length)(hl:l.length<2^40)(hm:m.length<2^41)(h:AP n b m):
  ∃n' b',aD kQ (oD s n b 7)=some (vY n' b')/\AP n' b' (m++ZV l.length):=by
 have hn:n=m.length:=h.1;obtain⟨f,h1,h2⟩:=aP (R:=kQ) (λk (f:Nat->Int)=>oD s (n+k) f (7-(k:Int))) (λf=>vY (n+8) f)
  (λk f=>AP (n+k) f (m++(ZV l.length).take k)) 8
  (λk hk f hf=>by
   have c1:Nat.ble ((n+k+1)*1) 140737488355328=true:=axu (by omega);have c2:Nat.ble (n+k+1) 9223372036854775807=true:=axu (by omega);have e1:IntKind.i64.wrap (8*(7-(k:Int)))=((56-8*k:Nat):Int):=by rw[wrap_i64 (by omega)];omega
   have e2:IntKind.i64.wrap (8*(s.size:Int))=((8*l.length:Nat):Int):=by rw[wrap_i64 (by omega)];omega
   have e3:IntKind.i64.wrap (7-(k:Int)-1)=7-((k+1:Nat):Int):=by rw[wrap_i64 (by omega)];omega
   have hd:8*l.length/2^(56-8*k)<9223372036854775808:=axB (ay1 _ _) (by omega);have e4:av .and .i64 ((8*l.length/2^(56-8*k):Nat):Int) 255=((8*l.length/2^(56-8*k)%256:Nat):Int):=by rw[show(255:Int)=((255:Nat):Int)from rfl,a1l hd (by decide),show(255:Nat)=2^8-1 from rfl,ay8]
   have hlt:8*l.length/2^(56-8*k)%256<256:=axG _ (by decide);refine⟨_,by
    simp(disch:=omega) only[kQ,oD,WW,e1,e2,e3,ZE,e4,c1,c2,azq];rfl,?_⟩
   have hll:(ZV l.length).length=8:=by simp[ZV]
   rw[a6w (by omega),<-ay9];refine hf.push ?_;rw[aa6 (by omega)];unfold ZV;rw[axm,axW,ayP hk];simp only[ayn,Option.getD_some,UInt8.toNat_ofNat'];rw[azT])
  (λf hf=>by simp(disch:=omega) only[kQ,oD,WW]) b (by simpa using h)
 refine⟨_,f,h1,?_⟩;rw[ayg (by simp[ZV])]at h2;exact h2
theorem RS {s:ByteArray}(hs:s.size<2^40): ∃n b,Eo s=some (n,b)/\AP n b (Xp (bl s)):=by
 have hsz:=pV s;have h0:AP s.size (λi=>((((s).data.toList.getD i 0).toNat:Nat):Int)) (bl s):=⟨hsz,λj hj=>rfl⟩;have h1:=h0.push (v:=128) (x:=128) rfl;obtain⟨n1,b1,z1,z2⟩:=a6z (s:=s) (l:=bl s) (by omega) (b:=glue s.size (λi=>((((s).data.toList.getD i 0).toNat:Nat):Int)) (λj=>upd (λ_=>0) 0 128 (0+j))) (by rw[<-hsz];exact h1);have hz:oM (bl s).length<64:=axG _ (by decide);obtain⟨n2,b2,y1,y2⟩:=abC (s:=s) (l:=bl s) hsz (by omega) (by rw[axq,axq,List.length_replicate];show _+1+_<_;omega) z2;have c1:Nat.ble s.size 9223372036854775807=true:=axu (by omega);have c2:Nat.ble ((s.size+1)*1) 140737488355328=true:=axu (by omega);have c3:Nat.ble (s.size+1) 9223372036854775807=true:=axu (by omega);rw[<-hsz]at z1;simp only[oz,vX]at z1;simp only[oD,vY]at y1;refine⟨n2,λj=>b2 (0+j),?_,?_⟩
 ·rw[K5,Hf];simp only[c1,c2,c3,azq,axy,z1,y1]
 ·have e0:(λj=>b2 (0+j))=b2:=by funext j;rw[axA]
  rw[e0];exact y2
theorem RU {nb:Nat}{b w t1:Nat->Int}{B:Nat->Nat}(hnb:64<=nb)(hnb2:nb<2^60)(hb:Bs 64 b B)(t:Nat)(ht:t<16):
  gL (gK nb b (t:Int) t1 w)=some (.inl (gK nb b ((t+1:Nat):Int) t1 (upd w t (EI B t:Int)))):=by
 obtain⟨e0,l0⟩:=hb (4*t) (by omega);obtain⟨e1,l1⟩:=hb (4*t+1) (by omega);obtain⟨e2,l2⟩:=hb (4*t+2) (by omega);obtain⟨e3,l3⟩:=hb (4*t+3) (by omega);have w24: ∀ {x:Nat},x<256->iF .i64 (x:Int) 24=((x*2^24:Nat):Int):=λ{x} hx=>a5b (s:=24) (by decide) (by omega)
 have w16: ∀ {x:Nat},x<256->iF .i64 (x:Int) 16=((x*2^16:Nat):Int):=λ{x} hx=>a5b (s:=16) (by decide) (by omega)
 have w8: ∀ {x:Nat},x<256->iF .i64 (x:Int) 8=((x*2^8:Nat):Int):=λ{x} hx=>a5b (s:=8) (by decide) (by omega)
 have o1:B (4*t)*2^24||| B (4*t+1)*2^16<4294967296:=ayf (n:=32) (by omega) (by omega);have o2:(B (4*t)*2^24||| B (4*t+1)*2^16)||| B (4*t+2)*2^8<4294967296:=ayf (n:=32) o1 (by omega);simp(disch:=omega) only[gL,gK,WW,CC,e0,e1,e2,e3,w24,w16,w8,orS];rw[a5c l0 l1 l2 l3];rfl
theorem a4b {x:Nat}(h:x<9223372036854775808):av .and .i64 (x:Int) 4294967295=((x%4294967296:Nat):Int):=by rw[show(4294967295:Int)=((4294967295:Nat):Int)from rfl,a1l h (by decide),show(4294967295:Nat)=2^32-1 from rfl,ay8]
theorem RV {w t1:Nat->Int}{W:Nat->Nat}(k:Nat)(hk:k<48)(hw:Ws (16+k) w W):
  gN (gM ((16+k:Nat):Int) t1 w)=some (.inl (gM ((16+(k+1):Nat):Int) t1 (upd w (16+k) (Yc W (16+k):Int)))):=by
 obtain⟨e0,l0⟩:=hw (16+k-15) (by omega);obtain⟨e1,l1⟩:=hw (16+k-2) (by omega);obtain⟨e2,l2⟩:=hw (16+k-16) (by omega);obtain⟨e3,l3⟩:=hw (16+k-7) (by omega);have r1:= @eZ (W (16+k-15)) 7 l0;have r2:= @eZ (W (16+k-15)) 18 l0;have r3:= @eZ (W (16+k-2)) 17 l1;have r4:= @eZ (W (16+k-2)) 19 l1;have x1:=kr r1 r2;have x2:=kr r3 r4;have d1:W (16+k-15)/2^3<4294967296:=axB (ay1 _ _) l0;have d2:W (16+k-2)/2^10<4294967296:=axB (ay1 _ _) l1;have x3:=kr x1 d1;have x4:=kr x2 d2;have c1:((16+k:Nat):Int)-15=((16+k-15:Nat):Int):=by omega
 have c2:((16+k:Nat):Int)-2=((16+k-2:Nat):Int):=by omega
 have c3:((16+k:Nat):Int)-16=((16+k-16:Nat):Int):=by omega
 have c4:((16+k:Nat):Int)-7=((16+k-7:Nat):Int):=by omega
 have c5:((16+k:Nat):Int)+1=((16+(k+1):Nat):Int):=by omega
 simp(disch:=omega) only[gN,gM,c1,c2,c3,c4,c5,WW,e0,e1,e2,e3,Vz,aao,aj5,NS,a4b];have hv: ∀a b c d:Nat,(a+b+c+d)%4294967296=(d+c+b+a)%4294967296:=λa b c d=>by congr 1;omega
 simp only[Yc,s0N,s1N];rw[hv]
theorem O5 {nb:Nat}{b:Nat->Int}{B:Nat->Nat}(hnb:64<=nb)(hnb2:nb<2^60)(hb:Bs 64 b B): ∃w,zo nb b=some w/\Ws 64 w (CB B 48):=by
 have s0lt: ∀t,t<16->EI B t<4294967296:=λt ht=>Yd (hb _ (by omega)).2 (hb _ (by omega)).2 (hb _ (by omega)).2 (hb _ (by omega)).2
 obtain⟨w1,h1,h2⟩:=aP (R:=gL) (λk (w:Nat->Int)=>gK nb b (k:Int) (λ_=>0) w) (λw=>rP (λ_=>0) w)
  (λk w=>Ws k w (EI B)) 16
  (λk hk w hw=>⟨_,RU hnb hnb2 hb k hk,λi hi=>by
   by_cases hik:i=k
   ·subst hik;simp only[upd,ayB];exact⟨trivial,s0lt _ hk⟩
   ·simp only[upd,axi hik];exact hw i (by omega)⟩)
  (λw hw=>by simp(disch:=omega) only[gL,gK,WW]) (λ_=>0) (λi hi=>by omega)
 obtain⟨w2,h3,h4⟩:=aP (R:=gN) (λk (w:Nat->Int)=>gM ((16+k:Nat):Int) (λ_=>0) w) (λw=>rQ (λ_=>0) w)
  (λk w=>Ws (16+k) w (CB B k)) 48
  (λk hk w hw=>⟨_,RV k hk hw,by exact Ws.push hw a1J⟩)
  (λw hw=>by simp(disch:=omega) only[gN,gM,WW]) w1 h2
 refine⟨w2,?_,h4⟩;have e1:aD gL (gK nb b 0 (λ_=>0) (λ_=>0))=some (rP (λ_=>0) w1):=h1;have e2:aD gN (gM 16 (λ_=>0) w1)=some (rQ (λ_=>0) w2):=h3;rw[F9,Ch];simp only[gK,rP]at e1;simp only[gM,rQ]at e2;rw[e1];simp only;rw[e2]
theorem VE {v t1 k w x:Nat->Int}{K W X:Nat->Nat}(hk:Ws 64 k K)(hw:Ws 64 w W)(t:Nat)(ht:t<64)(hx:Ws 8 x X):
  ∃y,jU (jT (t:Int) v t1 w k x)=some (.inl (jT ((t+1:Nat):Int) v t1 w k y))/\Ws 8 y (BJ (K t) (W t) X):=by
 obtain⟨e0,l0⟩:=hx 0 (by omega);obtain⟨e1,l1⟩:=hx 1 (by omega);obtain⟨e2,l2⟩:=hx 2 (by omega);obtain⟨e3,l3⟩:=hx 3 (by omega);obtain⟨e4,l4⟩:=hx 4 (by omega);obtain⟨e5,l5⟩:=hx 5 (by omega);obtain⟨e6,l6⟩:=hx 6 (by omega);obtain⟨e7,l7⟩:=hx 7 (by omega);obtain⟨ek,lk⟩:=hk t ht;obtain⟨ew,lw⟩:=hw t ht;have r1:= @eZ (X 4) 6 l4;have r2:= @eZ (X 4) 11 l4;have r3:= @eZ (X 4) 25 l4;have r4:= @eZ (X 0) 2 l0;have r5:= @eZ (X 0) 13 l0;have r6:= @eZ (X 0) 22 l0;have x1:=kr r1 r2;have x2:=kr r4 r5;have x3:=kr x1 r3;have x4:=kr x2 r6;have nx:4294967295^^^ X 4<4294967296:=kr (by decide) l4;have nn:av .xor .i64 4294967295 (X 4:Int)=((4294967295^^^ X 4:Nat):Int):=by rw[show(4294967295:Int)=((4294967295:Nat):Int)from rfl,aj5 (by decide) (by omega)]
 have a1:X 4&&& X 5<4294967296:=axB az6 l4;have a2:(4294967295^^^ X 4)&&& X 6<4294967296:=axB az6 nx;have a3:X 0&&& X 1<4294967296:=axB az6 l0;have a4:X 0&&& X 2<4294967296:=axB az6 l0;have a5:X 1&&& X 2<4294967296:=axB az6 l1;have a6:=kr a1 a2;have a7:=kr a3 a4;have a8:=kr a7 a5;refine⟨_,by
  simp(disch:=omega) only[jU,jT,WW,e0,e1,e2,e3,e4,e5,e6,e7,ek,ew,Vz,nn,aj5,a1l,NS,Vd,a4b];rfl,?_⟩
 have hl:=a1M (k:=K t) (w:=W t) (x:=X) (λi hi=>(hx i hi).2);have hch:=abA (f:=X 5) l4 l6;have hmj:=aap (X 0) (X 1) (X 2);intro i hi;refine⟨?_,hl i hi⟩
 match i,hi with
 |0,_=>
  simp only[upd,axi (show¬(0=1)by decide),axi (show¬(0=2)by decide),axi (show¬(0=3)by decide),axi (show¬(0=4)by decide),axi (show¬(0=5)by decide),axi (show¬(0=6)by decide),axi (show¬(0=7)by decide),ayB,BJ,S1N,S0N];rw[hch,hmj]
  congr 2;omega
 |4,_=>
  simp only[upd,axi (show¬(4=5)by decide),axi (show¬(4=6)by decide),axi (show¬(4=7)by decide),ayB,BJ,S1N];rw[hch]
 |1,_=>simp only[upd,axi (show¬(1=2)by decide),axi (show¬(1=3)by decide),axi (show¬(1=4)by decide),axi (show¬(1=5)by decide),axi (show¬(1=6)by decide),axi (show¬(1=7)by decide),ayB,BJ]
 |2,_=>simp only[upd,axi (show¬(2=3)by decide),axi (show¬(2=4)by decide),axi (show¬(2=5)by decide),axi (show¬(2=6)by decide),axi (show¬(2=7)by decide),ayB,BJ]
 |3,_=>simp only[upd,axi (show¬(3=4)by decide),axi (show¬(3=5)by decide),axi (show¬(3=6)by decide),axi (show¬(3=7)by decide),ayB,BJ]
 |5,_=>simp only[upd,axi (show¬(5=6)by decide),axi (show¬(5=7)by decide),ayB,BJ]
 |6,_=>simp only[upd,axi (show¬(6=7)by decide),ayB,BJ]
 |7,_=>simp only[upd,ayB,BJ]
theorem VF {v b:Nat->Int}{V B:Nat->Nat}{nb:Nat}(hnb:64<=nb)(hnb2:nb<2^60)(hv:Ws 8 v V)(hb:Bs 64 b B): ∃r,J2 v nb b=some r/\Ws 8 r (PD V B):=by
 obtain⟨k,hk1,hk2⟩:=a1I;obtain⟨w,hw1,hw2⟩:=O5 hnb hnb2 hb;obtain⟨x,h1,h2⟩:=aP (R:=jU) (λt (x:Nat->Int)=>jT (t:Int) v (λ_=>0) w k x) (λx=>yA v (λ_=>0) x)
  (λt x=>Ws 8 x (aaq kN (CB B 48) V t)) 64 (λt ht x hx=>VE hk2 hw2 t ht hx)
  (λx hx=>by simp(disch:=omega) only[jU,jT,WW]) v hv
 obtain⟨y,h3,h4⟩:=aP (R:=mP) (λt (o:Nat->Int)=>qM (t:Int) v (λ_=>0) x o) (λo=>yB (λ_=>0) o)
  (λt o=> ∀i,i<t->o i=(PD V B i:Int)) 8
  (λt ht z hz=>by
   obtain⟨ev,lv⟩:=hv t ht;obtain⟨ex,lx⟩:=h2 t ht;refine⟨_,by
    simp(disch:=omega) only[mP,qM,WW,ev,ex,NS,Vd,a4b];rfl,?_⟩
   intro i hi;by_cases hit:i=t
   ·subst hit;simp only[upd,ayB,PD];rw[ayK]
   ·simp only[upd,axi hit];exact hz i (by omega))
  (λx hx=>by simp(disch:=omega) only[mP,qM,WW]) (λ_=>0) (λi hi=>by omega)
 refine⟨y,?_,λi hi=>⟨h4 i hi,axG _ (by decide)⟩⟩;have e1:aD jU (jT 0 v (λ_=>0) w k v)=some (yA v (λ_=>0) x):=h1;have e2:aD mP (qM 0 v (λ_=>0) x (λ_=>0))=some (yB (λ_=>0) y):=h3;rw[Ns,Lh,hw1,LP,hk1];simp only[jT,yA]at e1;simp only[qM,yB]at e2;simp only;rw[e1];simp only;rw[e2]
theorem VG:IZ=Dj:=by rw[Nr,Ez];rfl
theorem ZX {s:ByteArray}(hs:s.size<2^40):Nt s=some (zF (bl s)):=by
 obtain⟨nb,b,p1,p2,p3⟩:=RS hs;obtain⟨f,f1,f2⟩:=Ye;have hlen:=a1N (bl s);have hmod:=aas (bl s);have hz:oM (bl s).length<64:=axG _ (by decide);have hsz:=pV s;have hnb:nb=64*((Xp (bl s)).length/64):=by omega
 generalize hP:Xp (bl s)=P at*;generalize hM:P.length/64=M at*;obtain⟨v,v1,v2⟩:=aP (R:=sQ) (λk (v:Nat->Int)=>Hl nb b ((64*k:Nat):Int) v) (λv=>K8 v) (λk v=>Ws 8 v (kI P k)) M
  (λk hk v hv=>by
   obtain⟨r,r1,r2⟩:=VF (nb:=64*k+64-64*k) (b:=λj=>b (64*k+j)) (B:=bN P k) (by omega) (by omega) hv (by intro i hi;unfold bN;rw[axp hi];exact⟨p3 _ (by omega),UInt8.toNat_lt _⟩);refine⟨r,?_,r2⟩;have e1:((64*k:Nat):Int)+64=((64*k+64:Nat):Int):=by omega
   simp(disch:=omega) only[sQ,Hl,WW,e1,azq,r1];rfl)
  (λv hv=>by simp(disch:=omega) only[sQ,Hl,WW]) f f2
 obtain⟨out,o1,o2⟩:=aP (R:=sS) (λk (g:Nat->Int)=>Ho (4*k) g (k:Int) v) (λg=>K9 32 g) (λk g=> ∀i,i<4*k->g i=(PG (kI P M) i:Int)) 8
  (λk hk g hg=>by
   obtain⟨e,lt⟩:=v2 k hk;have c1:Nat.ble ((4*k+1)*1) 140737488355328=true:=axu (by omega);have c2:Nat.ble (4*k+1) 9223372036854775807=true:=axu (by omega);have c3:Nat.ble ((4*k+1+1)*1) 140737488355328=true:=axu (by omega);have c4:Nat.ble (4*k+1+1) 9223372036854775807=true:=axu (by omega);have c5:Nat.ble ((4*k+1+1+1)*1) 140737488355328=true:=axu (by omega);have c6:Nat.ble (4*k+1+1+1) 9223372036854775807=true:=axu (by omega);have c7:Nat.ble ((4*k+1+1+1+1)*1) 140737488355328=true:=axu (by omega);have c8:Nat.ble (4*k+1+1+1+1) 9223372036854775807=true:=axu (by omega);have hd: ∀s:Nat,kI P M k/2^s<9223372036854775808:=λs=>axB (ay1 _ _) (by omega)
   have e255: ∀s:Nat,av .and .i64 ((kI P M k/2^s:Nat):Int) 255=((kI P M k/2^s%256:Nat):Int):=λs=>by rw[show(255:Int)=((255:Nat):Int)from rfl,a1l (hd s) (by decide),show(255:Nat)=2^8-1 from rfl,ay8]
   have e0:bL .i64 ((kI P M k:Nat):Int) 0=((kI P M k/2^0:Nat):Int):=ZE (s:=0) (by omega);refine⟨_,by
    simp(disch:=omega) only[sS,Ho,e,WW,CC,e0,aao,e255,Vy,azT,c1,c2,c3,c4,c5,c6,c7,c8,azq];rfl,?_⟩
   have ltb: ∀a b:Nat,a<b->Nat.blt a b=true:=λa b h=>axu h
   have geb: ∀a b:Nat,¬a<b->Nat.blt a b=false:=λa b h=>by
    cases hb:Nat.blt a b
    ·rfl
    ·exact absurd (axx hb) h
   intro i hi;unfold glue;by_cases hik:i<4*k
   ·rw[ltb i _ (by omega),ltb i _ (by omega),ltb i _ (by omega),ltb i _ hik];exact hg i hik
   ·have hdv:i/4=k:=by omega
    have h4:i=4*k\/i=4*k+1\/i=4*k+2\/i=4*k+3:=by omega
    rcases h4 with h4|h4|h4|h4
    ·have hm:i%4=0:=by omega
     rw[ltb i _ (by omega),ltb i _ (by omega),ltb i _ (by omega),geb i _ (by omega),PG,hdv,hm,h4];simp only[axy,axL,ayu];rfl
    ·have hm:i%4=1:=by omega
     rw[ltb i _ (by omega),ltb i _ (by omega),geb i _ (by omega),PG,hdv,hm,h4];simp only[axy,axL,ayu];rfl
    ·have hm:i%4=2:=by omega
     rw[ltb i _ (by omega),geb i _ (by omega),PG,hdv,hm,h4];simp only[axy,axL,ayu];rfl
    ·have hm:i%4=3:=by omega
     rw[geb i _ (by omega),PG,hdv,hm,h4];simp only[axL,ayu];rfl)
  (λg hg=>by simp(disch:=omega) only[sS,Ho,WW]) (λ_=>0) (λi hi=>by omega)
 have v1':aD sQ (((nb,b),((),(0,()))),(f,()))=some (K8 v):=v1;have o1':aD sS (((),((0,(λ_=>0)),(0,()))),(v,()))=some (K9 32 out):=o1;rw[UL,UK,p1,VG,f1];simp only[v1',o1'];rw[Rf (v:=kI P M) (λj hj=>o2 j (by omega))];unfold zF;rw[hP,hM]
open Go Go.Den Go.Num
section
variable {P Q G:Nat}
open Classical in
open Classical in
open Classical in
end
open Go Go.Den
def vcn(p:Nat->Bool):Nat->Nat|0=>0|n+1=>vcn p n+(if p n then 1 else 0)
theorem a4c(p:Nat->Bool): ∀n,vcn p n<=n
 |0=>axr _
 |n+1=>by have:=a4c p n;simp only[vcn];split<;>omega
theorem PI {p q:Nat->Bool} : ∀ {n:Nat},(∀k,k<n->p k=q k)->vcn p n=vcn q n
 |0,_=>rfl
 |n+1,h=>by rw[vcn,vcn,PI (n:=n) λk hk=>h k (by omega),h n (by omega)]
theorem a5d {p q:Nat->Bool}{j:Nat}(h: ∀k,k≠j->q k=p k): ∀ {n:Nat},j<n->vcn q n+(if p j then 1 else 0)=vcn p n+(if q j then 1 else 0)
 |0,hj=>by omega
 |n+1,hj=>by
  simp only[vcn];by_cases e:j=n
  ·subst e;rw[PI (p:=q) (q:=p) λk hk=>h k (by omega)];omega
  ·have:=a5d h (n:=n) (by omega);rw[h n (Ne.symm e)];omega
abbrev aH:=Int×Int
abbrev Rh:=aH×ByteArray
abbrev FU:=Nat->Nat->Nat->Rh
def mJ(s:aH):Prop:=1<=s.1/\s.1<=1099511627776/\1<=s.2/\s.2<=4
instance (s:aH):Decidable (mJ s):=by unfold mJ;infer_instance
theorem Ii(s:aH):wE s=some (decide (mJ s)):=by
 rw[NM];unfold Lv;rw[FD];unfold Cu mJ;by_cases h1:s.1>=1
 ·by_cases h2:s.1<=1099511627776
  ·by_cases h3:s.2>=1<;>simp[h1,h2,h3]
  ·simp[h1,h2]
 ·simp[h1]
theorem O6(x:Int):av .and .i64 x 1=x%2:=NR (k:=1) (by decide)
def hit(c:Rh)(s:aH)(d:ByteArray):Bool:=eqF (.pair (.int .i64) (.int .i64)) c.1 s&&sEq c.2 d
theorem a1O(s:aH)(d:ByteArray):hit (s,d) s d=true:=by simp[hit,eqF,sEq]
theorem Yg(s:aH):eqF (.pair (.int .i64) (.int .i64)) s s=true:=by simp[eqF]
def okV(N:Nat)(F:FU)(srv:Int)(s:aH):Prop:=mJ s/\1<=srv/\srv<=(N:Int)/\(F (srv-1).toNat (s.2-1).toNat (s.1%2).toNat).1.1<s.1
instance (N:Nat) (F:FU) (srv:Int) (s:aH):Decidable (okV N F srv s):=by unfold okV;infer_instance
def pW(F:FU)(srv:Int)(s:aH)(d:ByteArray):FU:=λa b c=>if a=(srv-1).toNat/\b=(s.2-1).toNat/\c=(s.1%2).toNat then(s,d)else F a b c
theorem abD(F:FU)(srv:Int)(s:aH)(d:ByteArray)(i j k:Nat)(hi:i=(srv-1).toNat)(hj:j=(s.2-1).toNat)(hk:k=(s.1%2).toNat):upd F i (upd (F i) j (upd (F i j) k (s,d)))=pW F srv s d:=by
 funext a b c
 simp only[pW,<-hi,<-hj,<-hk];by_cases h1:a=i
 ·subst h1;rw[upd_same];by_cases h2:b=j
  ·subst h2;rw[upd_same];by_cases h3:c=k
   ·subst h3;rw[upd_same,axp ⟨rfl,rfl,rfl⟩]
   ·rw[upd_ne h3,axi λh=>h3 h.2.2]
  ·rw[upd_ne h2,axi λh=>h2 h.2.1]
 ·rw[upd_ne h1,axi λh=>h1 h.1]
theorem pX {N:Nat}(hN:N<=7)(F:FU)(srv:Int)(hs:srv<9223372036854775808)(s:aH)(d:ByteArray):
  fF srv s d ((N:Int),F)=some ((decide (okV N F srv s),()),(((N:Int),if okV N F srv s then pW F srv s d else F),())):=by
 rw[xV];unfold su;simp only[Ii,O6];by_cases h1:mJ s
 ·obtain⟨m1,m2,m3,m4⟩:=id h1;by_cases h2:1<=srv
  ·by_cases h3:srv<=(N:Int)
   ·have e1:IntKind.i64.wrap (srv-1)=srv-1:=wrap_i64 (by omega);have e2:IntKind.i64.wrap (s.2-1)=s.2-1:=wrap_i64 (by omega);rw[e1,e2];by_cases h4:(F (srv-1).toNat (s.2-1).toNat (s.1%2).toNat).1.1<s.1
    ·have ho:okV N F srv s:=⟨h1,h2,h3,h4⟩;simp(disch:=omega) only[WW,h1,ho,abD F srv s d _ _ _ rfl rfl rfl,axp];rfl
    ·have ho: ¬okV N F srv s:=λh=>h4 h.2.2.2
     simp(disch:=omega) only[WW,h1,ho,ayH]
     try rfl
   ·have ho: ¬okV N F srv s:=λh=>h3 h.2.2.1
    simp(disch:=omega) only[WW,h1,ho,ayH]
  ·have ho: ¬okV N F srv s:=λh=>h2 h.2.1
   simp(disch:=omega) only[WW,h1,ho,ayH]
 ·have ho: ¬okV N F srv s:=λh=>h1 h.1
  simp(disch:=omega) only[WW,h1,ho,ayH]
def yM(N:Nat)(F:FU)(s:aH)(d:ByteArray):Nat:=if mJ s then vcn (λk=>hit (F k (s.2-1).toNat (s.1%2).toNat) s d) N else 0
theorem DF {N:Nat}(hN:N<=7)(F:FU)(s:aH)(d:ByteArray):iI (some ((N:Int),F)) s d=some ((yM N F s d:Nat):Int):=by
 rw[xW];unfold lY;simp only[Ii];unfold yM;by_cases h1:mJ s
 ·obtain⟨m1,m2,m3,m4⟩:=id h1;have e2:IntKind.i64.wrap (s.2-1)=s.2-1:=wrap_i64 (by omega);obtain⟨z,hy,hQ⟩:=aP (R:=dG) (λk (n:Nat)=>FR ((N:Int),F) d (n:Int) (N:Int) (k:Int) s) (λn=>sV (n:Int))
   (λk n=>n=vcn (λk=>hit (F k (s.2-1).toNat (s.1%2).toNat) s d) k) N
   (λk hk n hP=>by
    subst hP;have hle:=a4c (λk=>hit (F k (s.2-1).toNat (s.1%2).toNat) s d) k;have e:eqF (.pair (.pair (.int .i64) (.int .i64)) .str) (F k (s.2-1).toNat (s.1%2).toNat) (s,d)=hit (F k (s.2-1).toNat (s.1%2).toNat) s d:=rfl;cases hh:hit (F k (s.2-1).toNat (s.1%2).toNat) s d
    ·refine⟨_,?_,rfl⟩;unfold dG;simp(disch:=omega) only[CC,WW,O6,e2,e,hh,vcn,ayo,axX,ayH]
    ·refine⟨_,?_,rfl⟩;unfold dG;simp(disch:=omega) only[CC,WW,O6,e2,e,hh,vcn,ayB])
   (λn hP=>by unfold dG;simp(disch:=omega) only[CC,WW]) 0 rfl
  have hy':aD dG ((((N:Int),F),(d,((),(0,((N:Int),(0,())))))),(s,()))=some (sV (z:Int)):=hy;simp only[h1,aA1,aym,axL,hy',ayB,hQ]
 ·simp only[h1,decide_false,az9,axy,ayH];rfl
def atT(N:Nat)(F:FU)(srv cl odd:Int):Rh:=if 1<=srv/\srv<=(N:Int)/\1<=cl/\cl<=4/\0<=odd/\odd<=1 then F (srv-1).toNat (cl-1).toNat odd.toNat else((0,0),ByteArray.mk #[])
theorem xE {N:Nat}(hN:N<=7)(F:FU)(srv cl odd:Int):ji (some ((N:Int),F)) srv cl odd=some (atT N F srv cl odd):=by
 rw[BA];unfold rG atT;by_cases h1:1<=srv
 ·by_cases h2:srv<=(N:Int)
  ·by_cases h3:1<=cl
   ·by_cases h4:cl<=4
    ·by_cases h5:0<=odd
     ·by_cases h6:odd<=1
      ·have e1:IntKind.i64.wrap (srv-1)=srv-1:=wrap_i64 (by omega);have e2:IntKind.i64.wrap (cl-1)=cl-1:=wrap_i64 (by omega);rw[axp ⟨h1,h2,h3,h4,h5,h6⟩];simp(disch:=omega) only[WW,e1,e2]
      ·rw[axi (by omega)];simp(disch:=omega) only[WW]
     ·rw[axi (by omega)];simp(disch:=omega) only[WW]
    ·rw[axi (by omega)];simp(disch:=omega) only[WW]
   ·rw[axi (by omega)];simp(disch:=omega) only[WW]
  ·rw[axi (by omega)];simp(disch:=omega) only[WW]
 ·rw[axi (by omega)];simp(disch:=omega) only[WW]
def oN(p q:aH):Prop:=q.1<p.1\/(q.1=p.1/\q.2<p.2)
instance (p q:aH):Decidable (oN p q):=by unfold oN;infer_instance
def aj8(x y:Int):Int:=if x<y then-1 else if y<x then 1 else 0
theorem PK(x y:Int):kW x y=some (aj8 x y):=by
 rw[yU];unfold uL;rw[Bw];unfold yH aj8;by_cases h1:x<y
 ·simp[h1]
 ·by_cases h2:y<x<;>simp[h1,h2]
theorem a1P(a b:Int):Bz 2 (λj=>(upd (upd (λ_=>0) 0 a) 1 b) (0+j))=some (if a≠0 then a else b):=by
 rw[I5];unfold EB;have step: ∀i:Nat,i<2->eG (iM 0 2 (λj=>(upd (upd (λ_=>0) 0 a) 1 b) (0+j)) 2 (i:Int))=
   some (if(if i=0 then a else b)≠0 then .inr (nK (if i=0 then a else b))else .inl (iM 0 2 (λj=>(upd (upd (λ_=>0) 0 a) 1 b) (0+j)) 2 ((i+1:Nat):Int))):=by
  intro i hi;have hv:(upd (upd (λ_=>(0:Int)) 0 a) 1 b) (0+i)=if i=0 then a else b:=by rcases(by omega:i=0\/i=1)with rfl|rfl<;>rfl
  by_cases h:(if i=0 then a else b)=0
  ·simp(disch:=omega) only[eG,iM,WW,CC,hv,h,ayJ,ne_eq,ayk,ayH]
  ·simp(disch:=omega) only[eG,iM,WW,CC,hv,h,ne_eq,not_false_eq_true,ayB,Y6 h]
 have e:eG (iM 0 2 (λj=>(upd (upd (λ_=>0) 0 a) 1 b) (0+j)) 2 ((2:Nat):Int))=some (.inr (uM 0)):=by simp(disch:=omega) only[eG,iM,WW,CC]
 have L:aD eG (iM 0 2 (λj=>(upd (upd (λ_=>0) 0 a) 1 b) (0+j)) 2 0)=some (if a≠0 then nK a else if b≠0 then nK b else uM 0):=by
  have s0:=step 0 (by omega);have s1:=step 1 (by omega);rw[axp rfl]at s0;rw[axi (show¬(1=0)by decide)]at s1;by_cases ha:a≠0
  ·rw[axp ha]at s0⊢;exact dM s0
  ·rw[axi ha]at s0⊢;refine(nT s0).trans ?_;by_cases hb:b≠0
   ·rw[axp hb]at s1⊢;exact dM s1
   ·rw[axi hb]at s1⊢;exact(nT s1).trans (dM e)
 have L':aD eG ((0,((2,(λj=>(upd (upd (λ_=>0) 0 a) 1 b) (0+j))),((((2:Nat):Int)),(0,())))),())=_:=L;rw[L'];by_cases ha:a=0<;>by_cases hb:b=0<;>simp[ha,hb,nK,uM]
theorem LQ(p q:aH): ∃r,xD p q=some r/\(r>0↔oN p q):=by
 rw[Dw];unfold Al;refine⟨_,by simp only[PK,a1P];rfl,?_⟩;unfold aj8 oN;by_cases h1:p.1<q.1
 ·simp[h1];omega
 ·by_cases h2:q.1<p.1
  ·simp[h1,h2]
  ·have h3:p.1=q.1:=by omega
   by_cases h4:p.2<q.2
   ·simp[h1,h2,h3,h4];omega
   ·by_cases h5:q.2<p.2<;>simp[h1,h2,h3,h4,h5]
abbrev fO:=Nat×(Nat->OU)
def app(o:fO)(x:OU):fO:=(o.1+1,glue o.1 o.2 (λj=>(upd (λ_=>zOU) 0 x) (0+j)))
def apps(o:fO)(l:List OU):fO:=l.foldl app o
theorem eB(o:fO):apps o []=o:=rfl
theorem Ij(o:fO)(x:OU):app o x=apps o [x]:=rfl
theorem jl(o:fO)(l m:List OU):apps (apps o l) m=apps o (l++m):=by simp[apps,List.foldl_append]
theorem gF: ∀(l:List OU) (o:fO),(apps o l).1=o.1+l.length
 | [],o=>rfl
 |x::l,o=>by show(apps (app o x) l).1=_;rw[gF l];simp[app];omega
structure Rc where
 v:VA
 e:FU
 r:FU
 c:Nat->CL
structure Fr where
 T:Nat
 I:Nat
 N:Nat
 key:ByteArray
structure Fx where
 g:GR
 b:BG×Nat
 sp:SP
structure Fr.Ok(f:Fr):Prop where
 T:1<=f.T/\f.T<=2
 N:f.N=3*f.T+1
 I:1<=f.I/\f.I<=f.N
theorem Fr.Ok.n7 {f:Fr}(h:f.Ok):f.N<=7:=by have:=h.T;have:=h.N;omega
@[reducible] def Fr.so (f:Fr) (z:Fx) (o:fO):SO:=(z.g,((f.T:Int),((f.I:Int),((f.N:Int),((3:Int),((),(z.b,o)))))))
@[reducible] def Fr.rc (f:Fr) (x:Rc):RC:=(x.v,(f.key,((),((),x.c))))
@[reducible] def Fr.mk' (f:Fr) (z:Fx) (x:Rc) (o:fO):SR:=(f.so z o,(f.rc x,(((f.N:Int),x.e),(((f.N:Int),x.r),(z.sp,())))))
section
variable {f:Fr} {z:Fx}
theorem sF(hf:f.Ok)(x:Rc)(o:fO)(ho:o.1<1000000000)(to_ k op:Int)(key:ByteArray)(st:aH)(dg:ByteArray)(nm:Nat)(m:Nat->SlV (Nat->Int))(ny:Nat)(y:Nat->(Nat->Int)):
  bP to_ k op key st dg nm m ny y (f.mk' z x o)=some ((),f.mk' z x (app o (to_,(k,(op,(key,(st,(dg,((.fz nm m),(.fz ny y)))))))))):=by
 rw[qQ];unfold mg;have h1:Nat.ble ((o.1+1)*120) 140737488355328=true:=axu (by omega);have h2:Nat.ble (o.1+1) 9223372036854775807=true:=axu (by omega);simp only[Fr.mk',Fr.so,h1,h2,Bool.and_self,axy];rfl
def stP(f:Fr)(x:Rc)(c:Nat):OU:=(((f.N+(c+1):Nat):Int),(3,((x.c c).2.2.1,(f.key,(x.v.1,(x.v.2.1,((.fz x.v.2.2.1.1 x.v.2.2.1.2),(.fz x.v.2.2.2.1 x.v.2.2.2.2))))))))
def O7(f:Fr)(x:Rc)(c:Nat):List OU:=if 0<(x.c c).2.2.1 then [stP f x c]else []
def ZY(f:Fr)(x:Rc):Nat->List OU|0=>[]|n+1=>ZY f x n++O7 f x n
def RX(f:Fr)(x:Rc):List OU:=ZY f x 3
theorem Yh(x:Rc)(c:Nat):(O7 f x c).length<=1:=by unfold O7;split<;>simp
theorem yg(x:Rc): ∀n,(ZY f x n).length<=n
 |0=>axr _
 |n+1=>by have:=yg x n;have:=Yh (f:=f) x n;rw[ZY,axq];omega
theorem VH(hf:f.Ok)(x:Rc)(o:fO)(ho:o.1+3<1000000000):dD (f.mk' z x o)=some ((),f.mk' z x (apps o (RX f x))):=by
 rw[uO];unfold oI;have hn:=hf.n7;obtain⟨s,h1,rfl⟩:=aP (R:=bV) (S:=fO)
  (λi s=>fH 3 (i:Int) (f.so z s,(f.rc x,(((f.N:Int),x.e),(((f.N:Int),x.r),(z.sp,((),((),()))))))))
  (λs=>yJ (f.so z s,(f.rc x,(((f.N:Int),x.e),(((f.N:Int),x.r),(z.sp,((),((),()))))))))
  (λi s=>s=apps o (ZY f x i)) 3
  (λi hi s hs=>by
   subst hs;have hl:(apps o (ZY f x i)).1<1000000000:=by rw[gF];have:=yg (f:=f) x i;omega
   refine⟨_,?_,rfl⟩;have hs:=sF (z:=z) hf x (apps o (ZY f x i)) hl (((f.N+(i+1):Nat):Int)) 3 (x.c i).2.2.1 f.key x.v.1 x.v.2.1 x.v.2.2.1.1 x.v.2.2.1.2 x.v.2.2.2.1 x.v.2.2.2.2;simp only[Fr.mk']at hs;simp only[ZY,O7];by_cases hop:0<(x.c i).2.2.1
   ·rw[axp hop,<-jl,<-Ij];simp(disch:=omega) only[bV,fH,WW,CC,hs,stP]
   ·rw[axi hop,ayD];simp(disch:=omega) only[bV,fH,WW,CC])
  (λs hs=>by simp(disch:=omega) only[bV,fH,WW,CC]) o rfl
 have h1':aD bV (((),((),((3:Int),(0,())))),(f.so z o,(f.rc x,(((f.N:Int),x.e),(((f.N:Int),x.r),(z.sp,((),((),()))))))))=_:=h1;simp only[Fr.mk',h1'];rfl
def voP(f:Fr)(k:Int)(p:aH)(d:ByteArray)(i:Nat):OU:=(((i+1:Nat):Int),(k,(0,(f.key,(p,(d,((.fz 0 (λ_=>.nil)),(.fz 0 zNN))))))))
def a00(f:Fr)(k:Int)(p:aH)(d:ByteArray):Nat->List OU|0=>[]|n+1=>a00 f k p d n++if n+1=f.I then []else [voP f k p d n]
def EJ(f:Fr)(k:Int)(p:aH)(d:ByteArray):List OU:=a00 f k p d f.N
theorem VI(k:Int)(p:aH)(d:ByteArray): ∀n,(a00 f k p d n).length<=n
 |0=>axr _
 |n+1=>by have:=VI k p d n;rw[a00,axq];split<;>simp<;>omega
theorem EK(hf:f.Ok)(x:Rc)(o:fO)(ho:o.1+7<1000000000)(k:Int)(p:aH)(d:ByteArray):bJ k p d (f.mk' z x o)=some ((),f.mk' z x (apps o (EJ f k p d))):=by
 rw[oJ];unfold jZ;have hn:=hf.n7;obtain⟨s,h1,rfl⟩:=aP (R:=bR) (S:=fO)
  (λi s=>eY k d (f.N:Int) (i:Int) (f.so z s,(f.rc x,(((f.N:Int),x.e),(((f.N:Int),x.r),(z.sp,(p,())))))))
  (λs=>xY (f.mk' z x s))
  (λi s=>s=apps o (a00 f k p d i)) f.N
  (λi hi s hs=>by
   subst hs;have hl:(apps o (a00 f k p d i)).1<1000000000:=by rw[gF];have:=VI (f:=f) k p d i;omega
   refine⟨_,?_,rfl⟩;have hs:=sF (z:=z) hf x (apps o (a00 f k p d i)) hl (((i+1:Nat):Int)) k 0 f.key p d 0 (λ_=>.nil) 0 zNN;simp only[Fr.mk']at hs;simp only[a00];by_cases hop:i+1=f.I
   ·rw[axp hop,ayD];have e:(((i+1:Nat):Int) !=(f.I:Int))=false:=a1k (by omega);simp(disch:=omega) only[bR,eY,WW,CC,e]
   ·rw[axi hop,<-jl,<-Ij];have e:(((i+1:Nat):Int) !=(f.I:Int))=true:=Y6 (by omega);simp(disch:=omega) only[bR,eY,WW,CC,e,hs,voP])
  (λs hs=>by simp(disch:=omega) only[bR,eY,WW,CC]) o rfl
 have h1':aD bR (((),(k,((),(d,((),((f.N:Int),(0,()))))))),(f.so z o,(f.rc x,(((f.N:Int),x.e),(((f.N:Int),x.r),(z.sp,(p,())))))))=_:=h1;simp only[Fr.mk',h1'];rfl
theorem oO(p:aH)(o:CR):cK p o=some ((decide (oN p o.1.1.1),()),o):=by rw[qR];unfold mh;obtain⟨r,h1,h2⟩:=LQ p o.1.1.1;simp only[h1,h2]
def O8(p q:aH):Prop:=IntKind.i64.wrap (p.1-1)<=q.1
instance (p q:aH):Decidable (O8 p q):=by unfold O8;infer_instance
theorem PL(p:aH)(o:CR):iC p o=some ((decide (O8 p o.1.1.1),()),o):=by rw[sW];rfl
end
open Go Go.Den
abbrev RcW:=Rc×List OU
def gG(a:RcW)(F:Rc->RcW):RcW:=((F a.1).1,a.2++(F a.1).2)
abbrev FV:=aH->ByteArray->Rc->RcW
def Ik(f:Fr)(i:Nat)(q:PR):OU:=(((f.N+(i+1):Nat):Int),(7,(q.2,(f.key,(q.1.1,(ByteArray.empty,((.fz 0 (λ_=>.nil)),(.fz 0 zNN))))))))
def a1Q(q:PR)(p:aH):Prop:=0<q.2/\ ¬oN q.1.1 p
instance (q:PR) (p:aH):Decidable (a1Q q p):=by unfold a1Q;infer_instance
def FW(f:Fr)(i:Nat)(x:Rc):RcW:=if a1Q ((x.c i).1 0) x.v.1 then({ x with c:=upd x.c i ((upd (x.c i).1 0 (((x.c i).1 0).1,0)),(x.c i).2) },[Ik f i ((x.c i).1 0)])else(x,[])
def FX(f:Fr)(i:Nat)(x:Rc):RcW:=if a1Q ((x.c i).1 1) x.v.1 then({ x with c:=upd x.c i ((upd (x.c i).1 1 (((x.c i).1 1).1,0)),(x.c i).2) },[Ik f i ((x.c i).1 1)])else(x,[])
def Il(f:Fr)(i:Nat)(x:Rc):RcW:=if a1Q (x.c i).2.1 x.v.1 then({ x with c:=upd x.c i ((x.c i).1,(((x.c i).2.1.1,0),(x.c i).2.2)) },[Ik f i (x.c i).2.1])else(x,[])
def PN(f:Fr)(i:Nat)(x:Rc):RcW:=gG (gG (FW f i x) (FX f i)) (Il f i)
def BL(f:Fr)(x:Rc):Nat->RcW|0=>(x,[])|n+1=>gG (BL f x n) (PN f n)
def takeC(x:Rc)(p:PR):Nat->CL:=
 if((x.c (p.1.1.2-1).toNat).1 (p.1.1.1%2).toNat).1.1.1<p.1.1.1 then upd x.c (p.1.1.2-1).toNat ((upd (x.c (p.1.1.2-1).toNat).1 (p.1.1.1%2).toNat p),(x.c (p.1.1.2-1).toNat).2)else x.c
def uS(f:Fr)(p:aH)(d:ByteArray)(x:Rc):Prop:=2*f.T<yM f.N x.e p d\/f.T<yM f.N x.r p d
instance (f:Fr) (p:aH) (d:ByteArray) (x:Rc):Decidable (uS f p d x):=by unfold uS;infer_instance
def qC(f:Fr)(p:aH)(d:ByteArray)(x:Rc):RcW:=if uS f p d x/\okV f.N x.r f.I p then({ x with r:=pW x.r f.I p d },EJ f 6 p d)else(x,[])
def endP(f:Fr)(rec:FV)(p:aH)(d:ByteArray)(x:Rc):RcW:=if 2*f.T<yM f.N x.r p d/\oN p x.v.1 then rec p d x else(x,[])
def ku(f:Fr)(rec:FV)(p:aH)(d:ByteArray)(x:Rc):RcW:=gG (qC f p d x) (endP f rec p d)
def qD(f:Fr)(rec:FV)(p:PR)(x:Rc):RcW:=
 if okV f.N x.e f.I p.1.1 then gG ({ x with c:=takeC x p,e:=pW x.e f.I p.1.1 p.1.2.1 },EJ f 5 p.1.1 p.1.2.1) (ku f rec p.1.1 p.1.2.1)else({ x with c:=takeC x p },[])
def goP(q:PR)(p:aH):Prop:=0<q.2/\O8 q.1.1 p
instance (q:PR) (p:aH):Decidable (goP q p):=by unfold goP;infer_instance
def VJ(c:Nat->CL)(i:Nat):Nat->CL:=upd c i ((c i).1,(zPR,(c i).2.2))
def wL(f:Fr)(rec:FV)(i:Nat)(x:Rc):RcW:=if goP (x.c i).2.1 x.v.1 then qD f rec (x.c i).2.1 { x with c:=VJ x.c i } else(x,[])
def wM(f:Fr)(rec:FV)(x:Rc):Nat->RcW|0=>(x,[])|n+1=>gG (wM f rec x n) (wL f rec n)
def Az(v:VA)(p:aH)(d:ByteArray):Bool:=hit (v.1,v.2.1) p d
def BM(c:CL)(p:aH)(d:ByteArray):VA:=
 if Az (c.1 0).1 p d then(c.1 0).1 else if Az (c.1 1).1 p d then(c.1 1).1 else if Az c.2.1.1 p d then c.2.1.1 else(p,(d,((0,zSN),(0,zNN))))
def wN(f:Fr)(rec:FV)(p:aH)(d:ByteArray)(x:Rc):RcW:=
 gG (gG ({ x with v:=BM (x.c (p.2-1).toNat) p d },RX f { x with v:=BM (x.c (p.2-1).toNat) p d }) λy=>BL f y 3) λy=>wM f rec y 3
def eO(f:Fr):Nat->FV|0=>λ_ _ x=>(x,[])|n+1=>wN f (eO f n)
def WFc(c:Nat->CL):Prop:= ∀i,i<3->0<(c i).2.1.2->mJ (c i).2.1.1.1
def act(c:Nat->CL):Nat:=vcn (λi=>decide (0<(c i).2.1.2)) 3
def Lw(c c':Nat->CL):Prop:= ∀i,i<3->(c' i).2.1=(c i).2.1\/(c' i).2.1.2<=0
theorem Lw.refl(c:Nat->CL):Lw c c:=λ_ _=>.inl rfl
theorem Lw.trans {a b c:Nat->CL}(h:Lw a b)(g:Lw b c):Lw a c:=λi hi=>by
 rcases g i hi with e|e
 ·rcases h i hi with e1|e1
  ·exact .inl (e.trans e1)
  ·exact .inr (by rw[e];exact e1)
 ·exact .inr e
theorem Lw.wf {a b:Nat->CL}(h:Lw a b)(w:WFc a):WFc b:=λi hi hp=>by
 rcases h i hi with e|e
 ·rw[e]at hp⊢;exact w i hi hp
 ·omega
theorem a1R {p q:Nat->Bool} : ∀ {n},(∀k,k<n->p k=true->q k=true)->vcn p n<=vcn q n
 |0,_=>axr _
 |n+1,h=>by
  have:=a1R (n:=n) λk hk=>h k (by omega)
  have hn:=h n (by omega);simp only[vcn];cases hp:p n
  ·simp only[axX,ayH];omega
  ·rw[hn hp];simp only[ayB];omega
theorem Lw.act {a b:Nat->CL}(h:Lw a b):act b<=act a:=a1R λi hi hp=>by
 simp only[axK]at hp⊢;rcases h i hi with e|e
 ·rw[e]at hp;exact hp
 ·omega
theorem VK {c:Nat->CL}{i:Nat}{z:CL}(h:z.2.1=(c i).2.1\/z.2.1.2<=0):Lw c (upd c i z):=λk hk=>by
 by_cases e:k=i
 ·subst e;rw[upd_same];exact h
 ·rw[upd_ne e];exact .inl rfl
theorem aau(c:Nat->CL)(i:Nat):Lw c (VJ c i):=VK (.inr (Int.le_refl _))
theorem abE {c:Nat->CL}{i:Nat}(hi:i<3)(h:0<(c i).2.1.2):act (VJ c i)+1=act c:=by have hu:=a5d (p:=λk=>decide (0<(c k).2.1.2)) (q:=λk=>decide (0<(VJ c i k).2.1.2)) (j:=i) (λk hk=>by simp only[VJ,upd_ne hk]) hi;have e:VJ c i i=((c i).1,(zPR,(c i).2.2)):=upd_same _ _ _;simp only[e,h,aA1,ayB]at hu;simpa [act]using hu
def HB:Nat->Nat|0=>0|n+1=>54+3*HB n
structure Rec(f:Fr)(n:Nat)(rec_:aH->ByteArray->SR->Option (Unit×SR))(rec:FV):Prop where
 run: ∀z p d x o,mJ p->WFc x.c->act x.c<n->o.1+HB n<1000000000->rec_ p d (f.mk' z x o)=some ((),f.mk' z (rec p d x).1 (apps o (rec p d x).2))
 len: ∀p d x,(rec p d x).2.length<=HB n
 lw: ∀p d x,Lw x.c (rec p d x).1.c
theorem wO(a:RcW)(F:Rc->RcW):(gG a F).2.length=a.2.length+(F a.1).2.length:=axq
section
variable {f:Fr} {z:Fx}
theorem a5e(i:Nat)(x:Rc):Lw x.c (FW f i x).1.c/\(FW f i x).2.length<=1:=by
 unfold FW;split
 ·exact⟨VK (.inl rfl),axr _⟩
 ·exact⟨Lw.refl _,ays _⟩
theorem a01(i:Nat)(x:Rc):Lw x.c (FX f i x).1.c/\(FX f i x).2.length<=1:=by
 unfold FX;split
 ·exact⟨VK (.inl rfl),axr _⟩
 ·exact⟨Lw.refl _,ays _⟩
theorem a5f(i:Nat)(x:Rc):Lw x.c (Il f i x).1.c/\(Il f i x).2.length<=1:=by
 unfold Il;split
 ·exact⟨VK (.inr (Int.le_refl _)),axr _⟩
 ·exact⟨Lw.refl _,ays _⟩
theorem abF(i:Nat)(x:Rc):Lw x.c (PN f i x).1.c/\(PN f i x).2.length<=3:=by have h0:=a5e (f:=f) i x;have h1:=a01 (f:=f) i (FW f i x).1;have h2:=a5f (f:=f) i (FX f i (FW f i x).1).1;refine⟨(h0.1.trans h1.1).trans h2.1,?_⟩;simp only[PN,gG,axq];omega
theorem O9(x:Rc): ∀n,Lw x.c (BL f x n).1.c/\(BL f x n).2.length<=3*n
 |0=>⟨Lw.refl _,axr _⟩
 |n+1=>by have h:=O9 x n;have g:=abF (f:=f) n (BL f x n).1;exact⟨h.1.trans g.1,by rw[BL,wO];omega⟩
theorem VL(x:Rc)(p:PR):Lw x.c (takeC x p):=by
 unfold takeC;split
 ·exact VK (.inl rfl)
 ·exact Lw.refl _
variable {n:Nat} {rec_:aH->ByteArray->SR->Option (Unit×SR)} {rec:FV}
theorem Oa(hf:f.Ok)(k:Int)(p:aH)(d:ByteArray):(EJ f k p d).length<=7:=az3 (VI k p d _) hf.n7
theorem Yi(hf:f.Ok)(p:aH)(d:ByteArray)(x:Rc):(qC f p d x).1.c=x.c/\(qC f p d x).1.v=x.v/\(qC f p d x).1.e=x.e/\(qC f p d x).2.length<=7:=by
 unfold qC;split
 ·exact⟨rfl,rfl,rfl,Oa hf _ _ _⟩
 ·exact⟨rfl,rfl,rfl,ays _⟩
theorem abG(hr:Rec f n rec_ rec)(p:aH)(d:ByteArray)(x:Rc):Lw x.c (endP f rec p d x).1.c/\(endP f rec p d x).2.length<=HB n:=by
 unfold endP;split
 ·exact⟨hr.lw _ _ _,hr.len _ _ _⟩
 ·exact⟨Lw.refl _,ays _⟩
theorem PS(hf:f.Ok)(hr:Rec f n rec_ rec)(p:aH)(d:ByteArray)(x:Rc):Lw x.c (ku f rec p d x).1.c/\(ku f rec p d x).2.length<=7+HB n:=by have h:=Yi hf p d x;have g:=abG hr p d (qC f p d x).1;rw[h.1]at g;exact⟨g.1,by rw[ku,wO];omega⟩
theorem Yj(hf:f.Ok)(hr:Rec f n rec_ rec)(p:PR)(x:Rc):Lw x.c (qD f rec p x).1.c/\(qD f rec p x).2.length<=14+HB n:=by
 have h:=PS hf hr p.1.1 p.1.2.1 { x with c:=takeC x p,e:=pW x.e f.I p.1.1 p.1.2.1 };have hs:=Oa hf 5 p.1.1 p.1.2.1;unfold qD;split
 ·refine⟨(VL x p).trans h.1,?_⟩;simp only[gG,axq];omega
 ·exact⟨VL x p,ays _⟩
theorem a6A(hf:f.Ok)(hr:Rec f n rec_ rec)(i:Nat)(x:Rc):Lw x.c (wL f rec i x).1.c/\(wL f rec i x).2.length<=14+HB n:=by
 have h:=Yj hf hr (x.c i).2.1 { x with c:=VJ x.c i };unfold wL;split
 ·exact⟨(aau x.c i).trans h.1,h.2⟩
 ·exact⟨Lw.refl _,ays _⟩
theorem PU(hf:f.Ok)(hr:Rec f n rec_ rec)(x:Rc): ∀k,Lw x.c (wM f rec x k).1.c/\(wM f rec x k).2.length<=k*(14+HB n)
 |0=>⟨Lw.refl _,ays _⟩
 |k+1=>by have h:=PU hf hr x k;have g:=a6A hf hr k (wM f rec x k).1;exact⟨h.1.trans g.1,by rw[wM,wO,Nat.succ_mul];omega⟩
theorem Yk(hf:f.Ok)(hr:Rec f n rec_ rec)(p:aH)(d:ByteArray)(x:Rc):Lw x.c (wN f rec p d x).1.c/\(wN f rec p d x).2.length<=HB (n+1):=by have h:=O9 (f:=f) { x with v:=BM (x.c (p.2-1).toNat) p d } 3;have g:=PU hf hr (BL f { x with v:=BM (x.c (p.2-1).toNat) p d } 3).1 3;have ha:(RX f { x with v:=BM (x.c (p.2-1).toNat) p d }).length<=3:=yg _ 3;refine⟨h.1.trans g.1,?_⟩;simp only[wN,gG,axq,HB];omega
theorem LU(hf:f.Ok)(hr:Rec f n rec_ rec)(p:aH)(d:ByteArray)(x:Rc)(o:fO)(hw:WFc x.c)(ha:act x.c<n)(ho:o.1+(7+HB n)<1000000000):
  dW rec_ p d (f.mk' z x o)=some ((),f.mk' z (ku f rec p d x).1 (apps o (ku f rec p d x).2)):=by
 rw[qU];unfold iV;have hn:=hf.n7;have hT:=hf.T;extract_lets-underBinder k;have hk: ∀b:Bool,b=decide (uS f p d x)->k ((b,()),())=some ((),f.mk' z (ku f rec p d x).1 (apps o (ku f rec p d x).2)):=by
  intro b hb;unfold k;extract_lets-underBinder enough k2;have hk2: ∀y q,y.c=x.c->q.1+HB n<1000000000->k2 ((),f.mk' z y q)=some ((),f.mk' z (endP f rec p d y).1 (apps q (endP f rec p d y).2)):=by
   intro y q hy hq;unfold k2;simp only[DF hn,oO];by_cases h1:2*f.T<yM f.N y.r p d
   ·have hm:mJ p:=by apply axN;intro hm;rw[yM,axi hm]at h1;omega
    by_cases h2:oN p y.v.1
    ·have e:endP f rec p d y=rec p d y:=axp ⟨h1,h2⟩;have hrun:=hr.run z p d y q hm (by rw[hy];exact hw) (by rw[hy];exact ha) hq;simp(disch:=omega) only[WW,CC,h2,e,hrun]
    ·have e:endP f rec p d y=(y,[]):=axi λh=>h2 h.2
     simp(disch:=omega) only[WW,CC,h2,e,eB]
   ·have e:endP f rec p d y=(y,[]):=axi λh=>h1 h.1
    simp(disch:=omega) only[WW,CC,e,eB]
  have hput:=pX hn x.r (f.I:Int) (by have:=hf.I;omega) p d;have hrl:=Yi hf p d x;clear_value k2;subst hb;show(bif decide (uS f p d x)then _ else _)=_;have hfin: ∀y l,qC f p d x=(y,l)->k2 ((),f.mk' z y (apps o l))=some ((),f.mk' z (ku f rec p d x).1 (apps o (ku f rec p d x).2)):=by intro y l e;rw[e]at hrl;rw[hk2 y (apps o l) hrl.1 (by rw[gF];have:=hrl.2.2.2;simp only at this;omega),jl];simp only[ku,gG,e]
  by_cases h1:uS f p d x
  ·by_cases h2:okV f.N x.r f.I p
   ·have hs:=EK (z:=z) hf { x with r:=pW x.r f.I p d } o (by omega) 6 p d;simp only[Fr.mk',Fr.so,Fr.rc]at hs;rw[axp h2]at hput;simp(disch:=omega) only[WW,h1,h2,hput,hs];exact hfin { x with r:=pW x.r f.I p d } (EJ f 6 p d) (axp ⟨h1,h2⟩)
   ·rw[axi h2]at hput;simp(disch:=omega) only[WW,h1,h2,hput];exact hfin x [] (axi λh=>h2 h.2)
  ·simp(disch:=omega) only[WW,h1];exact hfin x [] (axi λh=>h1 h.1)
 clear_value k;simp only[DF hn];by_cases h1:2*f.T<yM f.N x.e p d
 ·simp(disch:=omega) only[WW,CC];exact hk true (by rw[dJ (p:=uS f p d x) (.inl h1)])
 ·by_cases h2:f.T<yM f.N x.r p d
  ·simp(disch:=omega) only[WW,CC];exact hk true (by rw[dJ (p:=uS f p d x) (.inr h2)])
  ·simp(disch:=omega) only[WW,CC];exact hk false (by rw[bF (p:=uS f p d x) (λh=>h.elim h1 h2)])
theorem VN(hf:f.Ok)(hr:Rec f n rec_ rec)(p:PR)(hp:mJ p.1.1)(x:Rc)(o:fO)(hw:WFc x.c)(ha:act x.c<n)(ho:o.1+(14+HB n)<1000000000):
  gq rec_ p (f.mk' z x o)=some ((),f.mk' z (qD f rec p x).1 (apps o (qD f rec p x).2)):=by
 rw[qV];unfold iW;have hn:=hf.n7;obtain⟨p1,p2,p3,p4⟩:=id hp;have e2:IntKind.i64.wrap (p.1.1.2-1)=p.1.1.2-1:=wrap_i64 (by omega);rw[e2,O6,Kr (by omega),Kr (by omega),bM,bM];extract_lets-underBinder k t;have hl:=VL x p;have hk:k ((),(f.rc { x with c:=takeC x p },()))=some ((),f.mk' z (qD f rec p x).1 (apps o (qD f rec p x).2)):=by
  unfold k;have hput:=pX hn x.e (f.I:Int) (by have:=hf.I;omega) p.1.1 p.1.2.1;by_cases h2:okV f.N x.e f.I p.1.1
  ·have hs:=EK (z:=z) hf { x with c:=takeC x p,e:=pW x.e f.I p.1.1 p.1.2.1 } o (by omega) 5 p.1.1 p.1.2.1;have hlk:=LU (z:=z) hf hr p.1.1 p.1.2.1 { x with c:=takeC x p,e:=pW x.e f.I p.1.1 p.1.2.1 } (apps o (EJ f 5 p.1.1 p.1.2.1)) (hl.wf hw) (axB hl.act ha) (by rw[gF];have:=Oa hf 5 p.1.1 p.1.2.1;omega);have e:qD f rec p x=gG ({ x with c:=takeC x p,e:=pW x.e f.I p.1.1 p.1.2.1 },EJ f 5 p.1.1 p.1.2.1) (ku f rec p.1.1 p.1.2.1):=axp h2;simp only[Fr.mk',Fr.so,Fr.rc]at hs hlk;rw[axp h2]at hput;simp(disch:=omega) only[WW,h2,hput,hs,hlk,e,gG,jl]
  ·have e:qD f rec p x=({ x with c:=takeC x p },[]):=axi h2;rw[axi h2]at hput;simp(disch:=omega) only[WW,h2,hput,e,eB]
 clear_value k;show(bif t then _ else _)=_;by_cases h:((x.c (p.1.1.2-1).toNat).1 (p.1.1.1%2).toNat).1.1.1<p.1.1.1
 ·have ht:t=true:=axw h;rw[ht];have ec:takeC x p=upd x.c (p.1.1.2-1).toNat ((upd (x.c (p.1.1.2-1).toNat).1 (p.1.1.1%2).toNat p),(x.c (p.1.1.2-1).toNat).2):=axp h;simp only[ec]at hk;exact hk
 ·have ht:t=false:=axz h;rw[ht];have ec:takeC x p=x.c:=axi h;rw[ec]at hk;exact hk
end
open Go Go.Den
section
variable {f:Fr} {z:Fx} {n:Nat} {rec_:aH->ByteArray->SR->Option (Unit×SR)} {rec:FV}
@[reducible] def Fr.lp (f:Fr) (z:Fx) (p:aH) (x:Rc) (o:fO):SO×(RC×(VT×(VT×(SP×(Unit×(Unit×(aH×Unit))))))):=(f.so z o,(f.rc x,(((f.N:Int),x.e),(((f.N:Int),x.r),(z.sp,((),((),(p,()))))))))
theorem a4d(hf:f.Ok)(p:aH)(x:Rc)(o:fO)(ho:o.1+3<1000000000){i:Nat}(hi:i<3):
  aS rec_ (aO 3 (i:Int) (f.lp z p x o))=some (.inl (aO 3 ((i+1:Nat):Int) (f.lp z p (PN f i x).1 (apps o (PN f i x).2)))):=by
 have hn:=hf.n7;have ei:IntKind.i64.wrap ((i:Int)+1)=((i+1:Nat):Int):=wrap_i64 (by omega);have eN:IntKind.i64.wrap ((f.N:Int)+((i+1:Nat):Int))=((f.N+(i+1):Nat):Int):=wrap_i64 (by omega);have b0:=a5e (f:=f) i x;have b1:=a01 (f:=f) i (FW f i x).1;have b2:=a5f (f:=f) i (FX f i (FW f i x).1).1;dsimp-zeta only[aS,aO,Fr.lp,Fr.so,Fr.rc];extract_lets-underBinder t t1 k1 k;rw[show decide (t1<t)=true from axw (show(i:Int)<3 by omega),show inb t1 4=true from Kr (by show(0:Int)<=i/\(i:Int)<((4:Nat):Int);omega),bM,bM];have hk1: ∀y q,q.1+2<1000000000->k1 ((),f.mk' z y q)=some (.inl (aO 3 ((i+1:Nat):Int) (f.lp z p (Il f i (FX f i y).1).1 (apps (apps q (FX f i y).2) (Il f i (FX f i y).1).2)))):=by
  intro y q hq;unfold k1;extract_lets-underBinder k3 k2;have hk3: ∀y q,q.1+1<1000000000->k3 ((),f.mk' z y q)=some (.inl (aO 3 ((i+1:Nat):Int) (f.lp z p (Il f i y).1 (apps q (Il f i y).2)))):=by
   intro y q hq;unfold k3;have hs:=sF (z:=z) hf y q (by omega) ((f.N+(i+1):Nat):Int) 7 (y.c i).2.1.2 f.key (y.c i).2.1.1.1 ByteArray.empty 0 (λ_=>.nil) 0 zNN;simp only[Fr.mk',Fr.so,Fr.rc]at hs;by_cases h1:0<(y.c i).2.1.2
   ·by_cases h2:oN (y.c i).2.1.1.1 y.v.1
    ·have e:Il f i y=(y,[]):=axi λh=>h.2 h2
     simp(disch:=omega) only[t,t1,ei,eN,WW,h1,h2,e,oO,eB,aO]
    ·have e:Il f i y=_:=axp (show a1Q (y.c i).2.1 y.v.1 from⟨h1,h2⟩);simp(disch:=omega) only[t,t1,ei,eN,WW,h1,h2,e,oO,hs,aO,<-Ij,Ik]
   ·have e:Il f i y=(y,[]):=axi λh=>h1 h.1
    simp(disch:=omega) only[t,t1,ei,eN,WW,h1,e,eB,aO]
  have hl:=a01 (f:=f) i y;have hs:=sF (z:=z) hf y q (by omega) ((f.N+(i+1):Nat):Int) 7 ((y.c i).1 1).2 f.key ((y.c i).1 1).1.1 ByteArray.empty 0 (λ_=>.nil) 0 zNN;simp only[Fr.mk',Fr.so,Fr.rc]at hs;clear_value k3;unfold k2;by_cases h1:0<((y.c i).1 1).2
  ·by_cases h2:oN ((y.c i).1 1).1.1 y.v.1
   ·have e:FX f i y=(y,[]):=axi λh=>h.2 h2
    simp(disch:=omega) only[t,t1,ei,eN,WW,h1,h2,e,oO,eB];exact hk3 y q (by omega)
   ·have e:FX f i y=_:=axp (show a1Q ((y.c i).1 1) y.v.1 from⟨h1,h2⟩);simp(disch:=omega) only[t,t1,ei,eN,WW,h1,h2,e,oO,hs];exact hk3 { y with c:=upd y.c i ((upd (y.c i).1 1 (((y.c i).1 1).1,0)),(y.c i).2) } (apps q [Ik f i ((y.c i).1 1)]) (by rw[gF];simp;omega)
  ·have e:FX f i y=(y,[]):=axi λh=>h1 h.1
   simp(disch:=omega) only[t,t1,ei,eN,WW,h1,e,eB];exact hk3 y q (by omega)
 have hs:=sF (z:=z) hf x o (by omega) ((f.N+(i+1):Nat):Int) 7 ((x.c i).1 0).2 f.key ((x.c i).1 0).1.1 ByteArray.empty 0 (λ_=>.nil) 0 zNN;simp only[Fr.mk',Fr.so,Fr.rc]at hs;clear_value k1;unfold k;have hfin: ∀y l,FW f i x=(y,l)->k1 ((),f.mk' z y (apps o l))=some (.inl (aO 3 ((i+1:Nat):Int) (f.lp z p (PN f i x).1 (apps o (PN f i x).2)))):=by intro y l e;rw[e]at b0;rw[hk1 y (apps o l) (by rw[gF];have:=b0.2;simp only at this;omega),jl,jl];simp only[PN,gG,e,ay9]
 show(bif decide (((x.c i).1 0).2>0)then _ else _)=_;by_cases h1:0<((x.c i).1 0).2
 ·by_cases h2:oN ((x.c i).1 0).1.1 x.v.1
  ·have e:FW f i x=(x,[]):=axi λh=>h.2 h2
   simp(disch:=omega) only[t,t1,ei,eN,WW,h1,h2,oO];exact hfin x [] e
  ·have e:FW f i x=_:=axp (show a1Q ((x.c i).1 0) x.v.1 from⟨h1,h2⟩);simp(disch:=omega) only[t,t1,ei,eN,WW,h1,h2,oO];simp only[hs];exact hfin _ _ e
 ·have e:FW f i x=(x,[]):=axi λh=>h1 h.1
  simp(disch:=omega) only[t,t1,ei,eN,WW,h1];exact hfin x [] e
theorem a1S(hf:f.Ok)(hr:Rec f n rec_ rec)(p:aH)(x:Rc)(o:fO)(hw:WFc x.c)(ha:act x.c<=n)(ho:o.1+(14+HB n)<1000000000){i:Nat}(hi:i<3):
  aN rec_ (cB 3 (i:Int) (f.lp z p x o))=some (.inl (cB 3 ((i+1:Nat):Int) (f.lp z p (wL f rec i x).1 (apps o (wL f rec i x).2)))):=by
 have ei:IntKind.i64.wrap ((i:Int)+1)=((i+1:Nat):Int):=wrap_i64 (by omega);dsimp-zeta only[aN,cB,Fr.lp,Fr.so,Fr.rc];extract_lets-underBinder t t1 k;rw[show decide (t1<t)=true from axw (show(i:Int)<3 by omega),show inb t1 4=true from Kr (by show(0:Int)<=i/\(i:Int)<((4:Nat):Int);omega),bM,bM];unfold k;by_cases h1:0<(x.c i).2.1.2
 ·by_cases h2:O8 (x.c i).2.1.1.1 x.v.1
  ·have e:wL f rec i x=qD f rec (x.c i).2.1 { x with c:=VJ x.c i } :=axp ⟨h1,h2⟩;have hc:=abE hi h1;have ht:=VN (z:=z) hf hr (x.c i).2.1 (hw i hi h1) { x with c:=VJ x.c i } o ((aau x.c i).wf hw) (by simp only;omega) ho;simp only[Fr.mk',Fr.so,Fr.rc,VJ]at ht;simp(disch:=omega) only[t,t1,ei,WW,h1,h2,e,PL,ht,VJ]
  ·have e:wL f rec i x=(x,[]):=axi λh=>h2 h.2
   simp(disch:=omega) only[t,t1,ei,WW,h1,h2,e,PL,eB]
 ·have e:wL f rec i x=(x,[]):=axi λh=>h1 h.1
  simp(disch:=omega) only[t,t1,ei,WW,h1,e,eB]
theorem Ri(v:VA)(p:aH)(d:ByteArray):fG v p d=some (Az v p d):=by rw[xX];unfold sD Az hit;cases eqF (.pair (.int .i64) (.int .i64)) v.1 p<;>rfl
theorem a1T(hf:f.Ok)(hr:Rec f n rec_ rec)(p:aH)(d:ByteArray)(x:Rc)(o:fO)(hp:mJ p)(hw:WFc x.c)(ha:act x.c<n+1)(ho:o.1+HB (n+1)<1000000000):
  fI rec_ p d (f.mk' z x o)=some ((),f.mk' z (wN f rec p d x).1 (apps o (wN f rec p d x).2)):=by
 obtain⟨p1,p2,p3,p4⟩:=id hp;unfold fI;have e2:IntKind.i64.wrap (p.2-1)=p.2-1:=wrap_i64 (by omega);rw[e2,Kr (by omega),bM];extract_lets-underBinder k t;have fin: ∀v,v=BM (x.c (p.2-1).toNat) p d->
   (match dD (f.so z o,(f.rc { x with v:=v },(((f.N:Int),x.e),(((f.N:Int),x.r),(z.sp,())))))with
   |none=>none
   |some y=>match aD (aS rec_) (((),((),(y.2.1.2.2.2.2.1,(0,())))),(y.2.1,(y.2.2.1,(y.2.2.2.1,(y.2.2.2.2.1,(y.2.2.2.2.2.1,((),((),(p,())))))))))with
    |none=>none
    |some y1=>match aD (aN rec_) (((),((),(y1.2.1.2.2.2.2.1,(0,())))),y1.2)with
     |none=>none
     |some y2=>some ((),(y2.2.1,(y2.2.2.1,(y2.2.2.2.1,(y2.2.2.2.2.1,(y2.2.2.2.2.2.1,())))))))=some ((),f.mk' z (wN f rec p d x).1 (apps o (wN f rec p d x).2)):=by
  intro v hv;have hB:HB (n+1)=54+3*HB n:=rfl;let x1:Rc:= { x with v:=v };have hal:(RX f x1).length<=3:=yg _ 3;have hak:=O9 (f:=f) x1 3;have h1:=VH (z:=z) hf x1 o (by omega);obtain⟨s,h2,rfl⟩:=aP (R:=aS rec_) (S:=RcW) (λi s=>aO 3 (i:Int) (f.lp z p s.1 (apps o s.2)))
   (λs=>((),f.lp z p s.1 (apps o s.2))) (λi s=>s=gG (x1,RX f x1) λy=>BL f y i) 3
   (λi hi s hs=>by have hl:=O9 (f:=f) x1 i;refine⟨_,?_,rfl⟩;rw[a4d hf p s.1 (apps o s.2) (by rw[gF,hs,wO];simp only;omega) hi,hs];simp only[gG,BL,jl,ay9])
   (λs hs=>by simp(disch:=omega) only[aS,aO,WW,CC]) (x1,RX f x1)
   (by simp only[gG,BL,ayD])
  generalize hy:(gG (x1,RX f x1) λy=>BL f y 3)=y at*;have hyl:y.2.length<=12:=by rw[<-hy,wO];simp only;omega
  have hyc:Lw x.c y.1.c:=by rw[<-hy];exact hak.1
  obtain⟨s,h3,rfl⟩:=aP (R:=aN rec_) (S:=RcW) (λi s=>cB 3 (i:Int) (f.lp z p s.1 (apps o s.2)))
   (λs=>((),f.lp z p s.1 (apps o s.2))) (λi s=>s=gG y λz=>wM f rec z i) 3
   (λi hi s hs=>by
    have hl:=PU hf hr y.1 i;have hc:Lw x.c s.1.c:=by rw[hs];exact hyc.trans hl.1
    have hm:i*(14+HB n)<=2*(14+HB n):=axF _ (by omega);refine⟨_,?_,rfl⟩;rw[a1S hf hr p s.1 (apps o s.2) (hc.wf hw) (az3 hc.act (by omega)) (by rw[gF,hs,wO];omega) hi,hs];simp only[gG,wM,jl,ay9])
   (λs hs=>by simp(disch:=omega) only[aN,cB,WW,CC]) y
   (by simp only[gG,wM,ayD])
  have h2':aD (aS rec_) (((),((),((3:Int),(0,())))),f.lp z p x1 (apps o (RX f x1)))=some ((),f.lp z p y.1 (apps o y.2)):=h2;have h3':aD (aN rec_) (((),((),((3:Int),(0,())))),f.lp z p y.1 (apps o y.2))=_:=h3;have e:wN f rec p d x=gG y λz=>wM f rec z 3:=by rw[<-hy];simp only[wN,x1,hv]
  simp only[Fr.mk',x1,Fr.so,Fr.rc,Fr.lp]at h1 h2' h3';simp only[Fr.so,Fr.rc,h1,h2',h3',e]
 unfold k;simp only[Ri];have c0:BM (x.c (p.2-1).toNat) p d=if Az ((x.c (p.2-1).toNat).1 0).1 p d then((x.c (p.2-1).toNat).1 0).1 else if Az ((x.c (p.2-1).toNat).1 1).1 p d then((x.c (p.2-1).toNat).1 1).1 else if Az (x.c (p.2-1).toNat).2.1.1 p d then(x.c (p.2-1).toNat).2.1.1 else(p,(d,((0,zSN),(0,zNN)))):=rfl;simp only[Fr.so,Fr.rc]at fin;cases hc:Az (x.c (p.2-1).toNat).2.1.1 p d<;>cases hb:Az ((x.c (p.2-1).toNat).1 1).1 p d<;>cases ha0:Az ((x.c (p.2-1).toNat).1 0).1 p d<;>
  simp only[ha0,hb,hc,ayB,ayH,axX]at c0<;>
  simp only[t,ha0,hb,hc,bM,bO]<;>exact fin _ c0.symm
theorem DI(hf:f.Ok): ∀n,Rec f n (aF n) (eO f n)
 |0=>⟨λ_ _ _ _ _ _ _ h=>absurd h (axS _),λ_ _ _=>axr _,λ_ _ _=>Lw.refl _⟩
 |n+1=>by have ih:=DI hf n;refine⟨λz p d x o hp hw ha ho=>?_,λp d x=>(Yk hf ih p d x).2,λp d x=>(Yk hf ih p d x).1⟩;rw[oK];exact a1T hf ih p d x o hp hw ha ho
end
open Go Go.Den
def qh(a b:ByteArray):Bool:=Op.bytesLess (bl a) (bl b)
theorem a1U: ∀l:List UInt8,Op.bytesLess l l=false
 | []=>rfl
 |a::l=>by have: ¬a<a:=UInt8.lt_irrefl a;simp[Op.bytesLess,a1U l]
theorem a5g: ∀ {a b c:List UInt8},Op.bytesLess a b=true->Op.bytesLess b c=true->Op.bytesLess a c=true
 |_,[],_,h,_=>by cases‹List UInt8› <;>simp[Op.bytesLess]at h
 |_,_::_,[],_,h=>by simp[Op.bytesLess]at h
 | [],_::_,_::_,_,_=>rfl
 |x::a,y::b,z::c,h1,h2=>by
  simp only[Op.bytesLess,ayN,axh,axK,azV]at h1 h2⊢;rcases h1 with h1|⟨rfl,h1⟩
  ·rcases h2 with h2|⟨rfl,h2⟩
   ·exact .inl (UInt8.lt_trans h1 h2)
   ·exact .inl h1
  ·rcases h2 with h2|⟨rfl,h2⟩
   ·exact .inl h2
   ·exact .inr ⟨rfl,a5g h1 h2⟩
theorem a1V: ∀(a b:List UInt8),(Lib.compareBytes a b<0↔Op.bytesLess a b=true)/\(Lib.compareBytes a b=0↔a=b)
 | [],[]=>by simp[Lib.compareBytes,Op.bytesLess]
 | [],_::_=>by simp[Lib.compareBytes,Op.bytesLess]
 |_::_,[]=>by simp[Lib.compareBytes,Op.bytesLess]
 |x::a,y::b=>by
  obtain⟨h1,h2⟩:=a1V a b;simp only[Lib.compareBytes,Op.bytesLess,ayN,axh,axK,azV,List.cons.injEq];by_cases hxy:x<y
  ·have hne:x≠y:=λe=>UInt8.lt_irrefl y (e▸hxy)
   simp[hxy,hne]
  ·by_cases hyx:y<x
   ·have hne:x≠y:=λe=>UInt8.lt_irrefl y (e▸hyx)
    simp[hxy,hyx,hne]
   ·have:x=y:=UInt8.le_antisymm (UInt8.not_lt.1 hyx) (UInt8.not_lt.1 hxy);subst this;simp[hxy,h1,h2]
theorem aav {a b:List UInt8}(h:Op.bytesLess a b=false)(hne:a≠b):Op.bytesLess b a=true:=by
 induction a generalizing b with
 |nil=>cases b with
  |nil=>exact absurd rfl hne
  |cons y b=>simp[Op.bytesLess]at h
 |cons x a ih=>cases b with
  |nil=>rfl
  |cons y b=>
   simp only[Op.bytesLess,Bool.or_eq_false_iff,Bool.and_eq_false_iff,decide_eq_false_iff_not,beq_eq_false_iff_ne]at h;simp only[Op.bytesLess,ayN,axh,axK,azV];by_cases hyx:y<x
   ·exact .inl hyx
   ·have:x=y:=UInt8.le_antisymm (UInt8.not_lt.1 hyx) (UInt8.not_lt.1 h.1);subst this;rcases h.2 with h|h
    ·exact absurd rfl h
    ·exact .inr ⟨rfl,ih h (λe=>hne (e▸rfl))⟩
theorem Yl(a:ByteArray):qh a a=false:=a1U _
theorem VQ {a b c:ByteArray}(h1:qh a b=true)(h2:qh b c=true):qh a c=true:=a5g h1 h2
theorem a6B {a b:ByteArray}(h:qh a b=false)(hne:a≠b):qh b a=true:=aav h (λe=>hne (LK e))
theorem uT(a b:ByteArray):sEq a b=true↔a=b:=by refine⟨λh=>?_,λh=>h▸Vx _⟩;simp only[sEq,azL,azV]at h;exact LK h
theorem VU(a b:ByteArray): ∃r,jh a b=some r/\(r<0↔qh a b=true)/\(r=0↔a=b):=by obtain⟨h1,h2⟩:=a1V (bl a) (bl b);refine⟨Lib.compareBytes (bl a) (bl b),by rw[vg,qp,JI];rfl,h1,h2.trans ⟨LK,λe=>e▸rfl⟩⟩
def cnt {α:Type}(p:α->Bool)(f:Nat->α):Nat->Nat|0=>0|n+1=>cnt p f n+if p (f n)then 1 else 0
theorem a02 {α:Type}(p:α->Bool)(f:Nat->α): ∀n,cnt p f n<=n
 |0=>axr _
 |n+1=>by have:=a02 p f n;simp only[cnt];split<;>omega
theorem Ja {α:Type}{p:α->Bool}{f:Nat->α}{k:Nat} : ∀ {n},k<=n->(∀i,i<k->p (f i)=true)->(∀i,k<=i->i<n->p (f i)=false)->cnt p f n=k
 |0,h,_,_=>by simp only[cnt];omega
 |n+1,h,h1,h2=>by
  simp only[cnt];by_cases hk:k<=n
  ·rw[Ja (n:=n) hk h1 (λi a b=>h2 i a (by omega)),h2 n hk (by omega)];rfl
  ·obtain rfl:k=n+1:=by omega
   rw[Ja (n:=n) (k:=n) (axr _) (λi a=>h1 i (by omega)) (λi a b=>by omega),h1 n (by omega)];rfl
theorem a5h {α:Type}{p:α->Bool}{f:Nat->α} : ∀ {n},0<cnt p f n↔ ∃i,i<n/\p (f i)=true
 |0=>by simp[cnt]
 |n+1=>by
  simp only[cnt];have ih:=a5h (p:=p) (f:=f) (n:=n);constructor
  ·intro h;by_cases hn:p (f n)=true
   ·exact⟨n,by omega,hn⟩
   ·rw[axi hn]at h;obtain⟨i,h1,h2⟩:=ih.1 (by omega);exact⟨i,by omega,h2⟩
  ·rintro ⟨i,h1,h2⟩;by_cases hi:i=n
   ·subst hi;rw[axp h2];omega
   ·have:=ih.2 ⟨i,by omega,h2⟩;omega
theorem a03(f:Nat->ByteArray)(i:Nat)(x:ByteArray)(j:Nat):AL f i x j=if j<i then f j else if j=i then x else f (j-1):=by
 unfold AL;by_cases h1:j<i
 ·have:Nat.blt j i=true:=axu h1;rw[this,axp h1];rfl
 ·have:Nat.blt j i=false:=by
   cases hb:Nat.blt j i with
   |false=>rfl
   |true=>exact absurd (axx hb) h1
  rw[this,axi h1];by_cases h2:j=i
  ·have:Nat.beq j i=true:=by rw[h2];exact Nat.beq_refl i
   rw[this,axp h2];rfl
  ·have:Nat.beq j i=false:=by
    cases hb:Nat.beq j i with
    |false=>rfl
    |true=>exact absurd (axO hb) h2
   rw[this,axi h2];rfl
def rH(n:Nat)(f:Nat->ByteArray):Prop:= ∀i j,i<j->j<n->qh (f i) (f j)=true
def before(n:Nat)(f:Nat->ByteArray)(x:ByteArray):Nat:=cnt (λy=>qh y x) f n
def there(n:Nat)(f:Nat->ByteArray)(x:ByteArray):Bool:=decide (0<cnt (λy=>sEq y x) f n)
theorem PW {n:Nat}{f:Nat->ByteArray}{x:ByteArray} :there n f x=true↔ ∃i,i<n/\f i=x:=by simp only[there,axK,a5h,uT]
theorem a4e {X Y:Type}{R:X->Option (X⊕Y)}{P:X->Prop}{Q:Y->Prop}(m:X->Nat)
  (h: ∀x,P x->(∃x',R x=some (.inl x')/\P x'/\m x'<m x)\/ ∃y,R x=some (.inr y)/\Q y): ∀x,P x-> ∃y,aD R x=some y/\Q y:=by
 have key: ∀n x,m x<=n->P x-> ∃y,aD R x=some y/\Q y:=by
  intro n
  induction n with
  |zero=>
   intro x hm hp;rcases h x hp with⟨x',_,_,h3⟩|⟨y,h1,h2⟩
   ·omega
   ·exact⟨y,dM h1,h2⟩
  |succ n ih=>
   intro x hm hp;rcases h x hp with⟨x',h1,h2,h3⟩|⟨y,h1,h2⟩
   ·rw[nT h1];exact ih x' (by omega) h2
   ·exact⟨y,dM h1,h2⟩
 exact λx hp=>key _ x (axr _) hp
theorem a04 {n:Nat}{f:Nat->ByteArray}(hs:rH n f)(hn:n<1000000)(x:ByteArray):
  bC n f x=some (((before n f x:Nat):Int),there n f x):=by
 obtain⟨y,h1,i,rfl,h2,h3,h4⟩:=a4e (R:=aK)
  (P:=λs=> ∃i j:Nat,s=aJ n f x (n:Int) (i:Int) (j:Int)/\i<=j/\j<=n/\(∀t,t<i->qh (f t) x=true)/\ ∀t,j<=t->t<n->qh (f t) x=false)
  (Q:=λy=> ∃i:Nat,y=aU n f x (n:Int) (i:Int)/\i<=n/\(∀t,t<i->qh (f t) x=true)/\ ∀t,i<=t->t<n->qh (f t) x=false)
  (λs=>(s.1.2.2.2.2.2.1-s.1.2.2.2.2.1).toNat) (by
   rintro s ⟨i,j,rfl,h1,h2,h3,h4⟩;by_cases hij:i<j
   ·obtain⟨r,r1,r2,r3⟩:=VU (f ((i+j)/2)) x;have hw:bL .u64 ((i+j:Nat):Int) 1=(((i+j)/2:Nat):Int):=Pj (s:=1) (by omega);refine .inl ?_;by_cases hr:r<0
    ·refine⟨aJ n f x (n:Int) (((i+j)/2+1:Nat):Int) (j:Int),?_,⟨_,_,rfl,by omega,h2,?_,h4⟩,?_⟩
     ·simp(disch:=omega) only[aK,aJ,hw,WW,CC,r1]
     ·intro t ht;by_cases htm:t=(i+j)/2
      ·subst htm;exact r2.1 hr
      ·exact VQ (hs t ((i+j)/2) (by omega) (by omega)) (r2.1 hr)
     ·show(((j:Int)-(((i+j)/2+1:Nat):Int)).toNat)<((j:Int)-(i:Int)).toNat;omega
    ·refine⟨aJ n f x (n:Int) (i:Int) (((i+j)/2:Nat):Int),?_,⟨_,_,rfl,by omega,by omega,h3,?_⟩,?_⟩
     ·simp(disch:=omega) only[aK,aJ,hw,WW,CC,r1]
     ·intro t ht htn;have hm:qh (f ((i+j)/2)) x=false:=by
       cases hb:qh (f ((i+j)/2)) x with
       |false=>rfl
       |true=>exact absurd (r2.2 hb) hr
      by_cases htm:t=(i+j)/2
      ·subst htm;exact hm
      ·cases hb:qh (f t) x with
       |false=>rfl
       |true=>rw[VQ (hs ((i+j)/2) t (by omega) htn) hb]at hm;exact absurd hm (by decide)
     ·show(((((i+j)/2:Nat):Int)-(i:Int)).toNat)<((j:Int)-(i:Int)).toNat;omega
   ·obtain rfl:i=j:=by omega
    refine .inr ⟨aU n f x (n:Int) (i:Int),?_,i,rfl,h2,h3,h4⟩;simp(disch:=omega) only[aK,aJ,WW])
  (aJ n f x (n:Int) ((0:Nat):Int) (n:Int)) ⟨0,n,rfl,ays _,axr _,λt ht=>absurd ht (axS _),λt a b=>by omega⟩
 have hb:before n f x=i:=Ja h2 h3 h4;have h1':aD aK (((n,f),(x,((),((n:Int),(0,((n:Int),())))))),())=some (aU n f x (n:Int) (i:Int)):=h1;rw[dP,bK,h1',hb];by_cases hin:i<n
 ·obtain⟨r,r1,r2,r3⟩:=VU (f i) x;simp(disch:=omega) only[aU,WW,r1]
  congr 2
  rw[az5,PW,azV,r3];refine⟨λh=>⟨i,hin,h⟩,?_⟩;rintro ⟨j,hj,e⟩;by_cases hji:j=i
  ·rw[<-hji];exact e
  ·by_cases hlt:j<i
   ·have:=h3 j hlt;rw[e,Yl]at this;exact absurd this (by decide)
   ·have:=hs i j (by omega) hj;rw[e,h4 i (axr _) hin]at this;exact absurd this (by decide)
 ·simp(disch:=omega) only[aU,WW]
  congr 2
  symm;cases hb:there n f x with
  |false=>rfl
  |true=>
   obtain⟨j,hj,e⟩:=PW.1 hb;have:=h3 j (by omega);rw[e,Yl]at this;exact absurd this (by decide)
abbrev mf(l:List (Int×Int))(x:Int):Int:=Option.getD (qH (.int .i64) (.int .i64) l x) (0:Int)
theorem a1W(s:ByteArray):bT s=some (decide (1<=s.size/\s.size<=8)):=by
 rw[QY,Pf];by_cases h:1<=s.size
 ·rw[dJ (by omega),bM]
  congr 1
  rw[ayt];omega
 ·rw[bF (by omega),bO,bF (by omega)]
theorem a1X {n:Nat}{f:Nat->ByteArray}(hs:rH n f)(hn:n<1000000)(x:ByteArray)(a b:Int)(u:List (Int×Int)):
  lW x a b n f u=some (((((before n f x:Nat):Int),(there n f x,())),((a,(b,((n,f),u))),()))):=by
 have e:(λj=>f (0+j))=f:=funext λj=>by rw[axA]
 rw[vk,qw,e,a04 hs hn]
abbrev R22:Type:=(Int×(Int×((Nat×(Nat->ByteArray))×(Nat×(Nat->Int)))))
theorem a6C {n:Nat}{f:Nat->ByteArray}(hs:rH n f)(x:ByteArray): ∀i,i<n->(i<before n f x↔qh (f i) x=true):=by
 intro i hi;have key: ∃k,k<=n/\(∀t,t<k->qh (f t) x=true)/\(∀t,k<=t->t<n->qh (f t) x=false):=by
  clear hi i
  induction n with
  |zero=>exact⟨0,axr _,λt h=>absurd h (axS _),λt a b=>absurd b (axS _)⟩
  |succ n ih=>
   obtain⟨k,h1,h2,h3⟩:=ih λi j a b=>hs i j a (by omega)
   cases hb:qh (f n) x with
   |true=>
    refine⟨n+1,axr _,λt ht=>?_,λt a b=>by omega⟩;by_cases htn:t=n
    ·rw[htn];exact hb
    ·exact VQ (hs t n (by omega) (by omega)) hb
   |false=>
    refine⟨k,by omega,h2,λt a b=>?_⟩;by_cases htn:t=n
    ·rw[htn];exact hb
    ·exact h3 t a (by omega)
 obtain⟨k,h1,h2,h3⟩:=key;have hb:before n f x=k:=Ja h1 h2 h3;rw[hb];refine⟨λh=>h2 i h,λh=>?_⟩;apply axN;intro hc;rw[h3 i (by omega) hi]at h;exact absurd h (by decide)
theorem a4f {n:Nat}{f:Nat->ByteArray}(hs:rH n f){x:ByteArray}(hx:there n f x=false):rH (n+1) (AL f (before n f x) x):=by
 have hle:before n f x<=n:=a02 _ _ _;have hlt:=a6C hs x;have hne: ∀i,i<n->f i≠x:=λi hi e=>by rw[PW.2 ⟨i,hi,e⟩]at hx;exact absurd hx (by decide)
 have hgt: ∀i,i<n->before n f x<=i->qh x (f i)=true:=λi hi h=>by
  cases hb:qh (f i) x with
  |false=>exact a6B hb (hne i hi)
  |true=>have:=(hlt i hi).2 hb;omega
 intro i j hij hj;rw[a03,a03];generalize before n f x=k at*;by_cases h1:j<k
 ·rw[axp h1,axp (by omega)];exact hs i j hij (by omega)
 ·rw[axi h1];by_cases h2:j=k
  ·subst h2;rw[axp rfl,axp hij];exact(hlt i (by omega)).1 hij
  ·rw[axi h2];by_cases h3:i<k
   ·rw[axp h3];exact hs i (j-1) (by omega) (by omega)
   ·rw[axi h3];by_cases h4:i=k
    ·rw[axp h4];exact hgt (j-1) (by omega) (by omega)
    ·rw[axi h4];exact hs (i-1) (j-1) (by omega) (by omega)
structure Agree(a b:Int)(n:Nat)(f:Nat->ByteArray)(u:List (Int×Int))(s:R22):Prop where
 e1:s.1=a
 e2:s.2.1=b
 sz:1<=a/\a<=7/\1<=b/\b<=4
 len:s.2.2.1.1=n
 len2:s.2.2.2.1=n
 sorted:rH n f
 same: ∀p:ByteArray->Bool,cnt p s.2.2.1.2 n=cnt p f n
 uses: ∀e,mf u e=((cnt (λy=>y==e) s.2.2.2.2 n:Nat):Int)
theorem Agree.before {a b:Int}{n:Nat}{f:Nat->ByteArray}{u:List (Int×Int)}{s:R22}(h:Agree a b n f u s)(x:ByteArray):Pl.before n s.2.2.1.2 x=Pl.before n f x:=h.same _
theorem Agree.there {a b:Int}{n:Nat}{f:Nat->ByteArray}{u:List (Int×Int)}{s:R22}(h:Agree a b n f u s)(x:ByteArray):Pl.there n s.2.2.1.2 x=Pl.there n f x:=by unfold Pl.there;rw[h.same]
theorem a6D {n:Nat}{f g:Nat->ByteArray}(hn:n<1000000)(h: ∀i,i<n->f i=g i):Hy n f n g=some true:=by
 obtain⟨q,h1,rfl⟩:=aP (R:=pQ) (S:=Unit) (λk _=>Ev n f n g (k:Int))
  (λ_=>Hw) (λk s=>s=()) n
  (λk hk _ _=>by
   refine⟨(),?_,rfl⟩;have e:sEq (f k) (g k)=true:=by rw[h k hk];exact Vx _
   simp(disch:=omega) only[pQ,Ev,WW,CC,e])
  (λ_ _=>by simp(disch:=omega) only[pQ,Ev,WW]) () rfl
 have h1':aD pQ (((n,f),((n,g),(0,()))),())=some Hw:=h1;rw[QW,Pb,a1k rfl,bO,h1']
def vC(x:ByteArray)(e a b:Int)(n:Nat)(f:Nat->ByteArray)(u:List (Int×Int)):(Int×(Bool×(Int×Unit)))×((Int×(Int×((Nat×(Nat->ByteArray))×(List (Int×Int)))))×Unit):=
 if¬(1<=x.size/\x.size<=8)\/lM a b e=0 then((0,(false,(1,()))),((a,(b,((n,f),u))),()))
 else if there n f x then((((before n f x:Nat):Int),(false,(0,()))),((a,(b,((n,f),u))),()))
 else if mf u e>=lM a b e then((0,(false,(7,()))),((a,(b,((n,f),u))),()))
 else((((before n f x:Nat):Int),(true,(0,()))),((a,(b,((n+1,AL f (before n f x) x),WB (.int .i64) (.int .i64) u e (IntKind.i64.wrap (mf u e+1))))),()))
theorem a1Y {n:Nat}{f:Nat->ByteArray}(hs:rH n f)(hn:n<1000)(x:ByteArray)(e a b:Int)(u:List (Int×Int)):
  lX x e a b n f u=some (vC x e a b n f u):=by
 have hM:=a1X hs (show n<1000000 by omega) x a b u;have hbl:before n f x<=n:=a02 _ _ _;have hble: ∀a b:Nat,a<=b->Nat.ble a b=true:=λa b h=>axu h
 rw[vo,qx,a1W,vC];by_cases hk:1<=x.size/\x.size<=8
 ·by_cases hz:lM a b e=0
  ·rw[axp (.inr hz),dJ hk];simp only[Y5 hz,WW]
  ·rw[axi (by intro h;rcases h with h|h;exact h hk;exact hz h),dJ hk];simp only[iP hz,WW,hM];cases ht:there n f x with
   |true=>rfl
   |false=>
    by_cases hge:mf u e>=lM a b e
    ·simp only[dJ hge,WW,axp hge];rfl
    ·have hge': ¬(Option.getD (qH (.int .i64) (.int .i64) u e) (0:Int)>=lM a b e):=hge;simp(disch:=omega) only[bF hge',WW,hble,azq,axi hge,ayH,axX]
 ·rw[axp (.inl hk),bF hk];rfl
theorem a05 {n:Nat}{f:Nat->ByteArray}(hs:rH n f)(x:ByteArray)(e a b:Int)(u:List (Int×Int)):
  rH (vC x e a b n f u).2.1.2.2.1.1 (vC x e a b n f u).2.1.2.2.1.2/\(vC x e a b n f u).2.1.2.2.1.1<=n+1/\(vC x e a b n f u).2.1.1=a/\(vC x e a b n f u).2.1.2.1=b:=by
 unfold vC;split
 ·exact⟨hs,Nat.le_succ _,rfl,rfl⟩
 ·split
  ·exact⟨hs,Nat.le_succ _,rfl,rfl⟩
  ·next ht=>
   split
   ·exact⟨hs,Nat.le_succ _,rfl,rfl⟩
   ·refine⟨a4f hs ?_,axr _,rfl,rfl⟩;cases h:there n f x with
    |false=>rfl
    |true=>exact absurd h ht
end Go.Pl
