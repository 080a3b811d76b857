/-
 Bytes, and their digests.
-/
import Derived.Test.YtldlihheppdhnaaGreatMD
import Derived.Test.YtldlihheppdhnaaGreatPlB
import Derived.Test.YtldlihheppdhnaaGreatMA
set_option linter.unusedVariables false
set_option linter.unusedSimpArgs false
set_option maxRecDepth 4000
namespace Go.Pl
open Go Go.Den Go.Num
def asZ(c:Nat->Int):Nat->Int|0=>0|n+1=>asZ c n+c n
def ev(c:Nat->Int)(n:Nat)(x:Int):Int:=asZ (λi=>c i*x^i) n
theorem ae7 {α:Type}{n:Nat}{f g:Nat->α}{j:Nat}(h:j<n):glue n f g j=f j:=by have:Nat.blt j n=true:=lM.2 h;simp[glue,this]
theorem ae8 {α:Type}{n:Nat}{f g:Nat->α} :glue n f g n=g 0:=by
 have:Nat.blt n n=false:=by
  cases hb:Nat.blt n n with
  |false=>rfl
  |true=>exact absurd (lM.1 hb) (Nat.lt_irrefl _)
 simp[glue,this]
theorem aaW {n:Nat}{f:Nat->(Nat->Int)}{A:Nat->Nat}{z:Nat->Int}(hf: ∀i,i<n->IsN (f i) (A i))(hz:IsN z (A n)): ∀i,i<n+1->IsN (glue n f (λj=>upd (λ_=>λ_=>0) 0 z (0+j)) i) (A i):=by
 intro i hi;by_cases e:i=n
 ·subst e;rw[ae8,az6,upd_same];exact hz
 ·rw[ae7 (by omega)];exact hf i (by omega)
structure a5I(Q n:Nat)(f:Nat->(Nat->Int))(c:Nat->Nat):Prop where
 is: ∀i,i<n->IsN (f i) (c i)
 zero: ∀k,n<=k->c k=0
 lt: ∀k,c k<Q
 top:n=0\/c (n-1)≠0
theorem a5I.size {Q n m:Nat}{f h:Nat->(Nat->Int)}{c:Nat->Nat}(a:a5I Q n f c)(b:a5I Q m h c):n=m:=by
 rcases Nat.lt_trichotomy n m with h1|h1|h1
 ·rcases b.top with h2|h2
  ·omega
  ·exact absurd (a.zero _ (by omega)) h2
 ·exact h1
 ·rcases a.top with h2|h2
  ·omega
  ·exact absurd (b.zero _ (by omega)) h2
section
variable {g:sj} {P Q G:Nat}
end
open Go Go.Den Go.Num
def Cg(Q:Nat)(a b:Int):Prop:=(Q:Int)∣a-b
theorem Cg.trans {Q:Nat}{a b c:Int}(h:Cg Q a b)(h':Cg Q b c):Cg Q a c:=by
 have:=Int.dvd_add h h';unfold Cg
 rwa [show a-c=a-b+(b-c)by omega]
def cI(c:Nat->Nat):Nat->Int:=λk=>(c k:Int)
def E(c:Nat->Nat)(x:Int):Int:=ev (cI c) 1000 x
section
variable {g:sj} {P Q G:Nat}
end
open Go Go.Den Go.Num
def ae9(X:Nat->Nat)(x:Int):Nat->Int|0=>1|k+1=>ae9 X x k*(x-X k)
section
variable {g:sj} {P Q G:Nat}
structure Thr(Q:Nat)(X Y:Nat->Nat)(k nout:Nat)(out:Nat->(Nat->Int))(nn:Nat)(none_:Nat->(Nat->Int))(c d:Nat->Nat):Prop where
 pol:a5I Q nout out c
 size:nout<=k
 is: ∀i,i<nn->IsN (none_ i) (d i)
 zero: ∀i,nn<=i->d i=0
 size2:nn<=k+1
 at': ∀j,j<k->Cg Q (E c (X j)) (Y j)
 none': ∀x,Cg Q (E d x) (ae9 X x k)
 apart: ∀i j,i<j->j<k-> ¬Cg Q (X j) (X i)
end
open Go Go.Den Go.Num
section
variable {g:sj} {P Q G:Nat}
end
open Go Go.Den Go.Num
def IsR(n:Nat)(f:Nat->Int)(c:Nat->Nat):Prop:= ∀i,i<n->f i=(c i:Int)
theorem a7h {n:Nat}{f:Nat->Int}{c:Nat->Nat}{z:Int}(hf:IsR n f c)(hz:z=(c n:Int)):IsR (n+1) (glue n f (λj=>upd (λ_=>0) 0 z (0+j))) c:=by
 intro i hi;by_cases e:i=n
 ·subst e;rw[ae8,az6,upd_same];exact hz
 ·rw[ae7 (by omega)];exact hf i (by omega)
structure axK(n:Nat)(f:Nat->Int)(c:Nat->Nat):Prop where
 is:IsR n f c
 zero: ∀k,n<=k->c k=0
 top:n=0\/c (n-1)≠0
theorem a0p {n:Nat}(hn:n<=100000){l:Nat->(Nat->Int)}{A:Nat->Nat}(hl: ∀i,i<n->IsN (l i) (A i)){q:Nat}(hq:0<q)(hq2:q<9223372036854775808): ∃f,x9 n l (q:Int)=some (n,f)/\IsR n f (λi=>A i%q):=by
 rw[V9];unfold V8;obtain⟨z,hy,hP⟩:=aO (R:=sZ) (λi (out:Nat->Int)=>a1B n l (q:Int) i out (i:Int)) (λout=>KC n out) (λi out=>IsR i out (λi=>A i%q)) n
  (λi hi out hP=>by have b1:Nat.ble ((i+1)*8) 140737488355328=true:=ay6 (by omega);have b2:Nat.ble (i+1) 9223372036854775807=true:=ay6 (by omega);refine⟨_,?_,a7h hP rfl⟩;unfold sZ;simp(disch:=omega) only[CC,WW,a2m (hl i hi) hq hq2,b1,b2,aAD])
  (λout hP=>by unfold sZ;simp(disch:=omega) only[CC,WW]) (λ_=>0) (λi hi=>absurd hi (ayz i))
 have hy':aB sZ (((n,l),((q:Int),((0,λ_=>0),(0,())))),())=some (KC n z):=hy;exact⟨λj=>z (0+j),by simp only[hy'],λi hi=>by have:=hP i hi;simpa only[aye]using this⟩
section
variable {q:Nat}
theorem XP(hq:1<q)(hq2:q<2147483648){n:Nat}(hn:n<=100000){f:Nat->Int}{c:Nat->Nat}(hf:IsR n f c){X:Nat} :bn n f (X:Int) (q:Int)=some ((Wj c (λi=>X^i) n%q:Nat):Int):=by
 rw[Rz];unfold PW;obtain⟨z,hy,hP⟩:=aO (R:=pI) (λi (s:Nat×Nat)=>a00 n f (X:Int) (q:Int) (s.1:Int) (s.2:Int) (i:Int)) (λs=>Ir (s.1:Int)) (λi s=>s.1=Wj c (λi=>X^i) i%q/\s.2=X^i%q) n
  (λi hi s hP=>by
   obtain⟨h1,h2⟩:=hP;have l1:s.1<q:=by rw[h1];exact ayk _ (by omega)
   have l2:c i*s.2%q<q:=ayk _ (by omega);refine⟨((s.1+c i*s.2%q)%q,s.2*X%q),?_,?_,?_⟩
   ·unfold pI;simp(disch:=omega) only[CC,WW,hf i hi,a0n (show 0<q by omega) (show q<9223372036854775808 by omega),a0m (show 0<q by omega) (show s.1<4611686018427387904 by omega) (show c i*s.2%q<4611686018427387904 by omega)]
   ·simp only[Wj];rw[h1,h2,aAj (Wj c (λi=>X^i) i),azI (c i) (X^i),azI (c i) (X^i%q),aAB]
   ·simp only;rw[h2,azv,azI,aAB,<-azI])
  (λs hP=>by unfold pI;simp(disch:=omega) only[CC,WW]) (0,1) ⟨by simp only[Wj,Nat.zero_mod],by rw[azD,ay1 hq]⟩
 have hy':aB pI (((n,f),((X:Int),((q:Int),(0,(1,(0,())))))),())=some (Ir (z.1:Int)):=hy;simp only[hy',hP.1]
end
open Go Go.Den Go.Num
def InP(P Q x:Nat):Prop:=x≠0/\x<P/\x^Q%P=1
instance (P Q x:Nat):Decidable (InP P Q x):=by unfold InP;infer_instance
def Qj(P Q n:Nat)(c:Nat->Nat):Prop:=1<=n/\n<=7/\ ∀j,j<n->InP P Q (c j)
def atN(P n:Nat)(c:Nat->Nat)(i:Nat):Nat:=jl (λj=>c j^i^j) n%P
theorem at1 {i j:Nat}(hi:i<=7)(hj:j<=7):i^j<=823543:=azJ (Nat.pow_le_pow_left hi j) (azJ (ayt (by decide) hj) (by decide))
section
variable {g:sj} {P Q G:Nat}
open Classical in
theorem Gb(h:dI g P Q G){n:Nat}{f:Nat->(Nat->Int)}{c:Nat->Nat}(hf: ∀j,j<n->IsN (f j) (c j)):wz (some g) n f=some (decide (Qj P Q n c)):=by
 rw[KN];unfold BP;by_cases h1:1<=n
 ·by_cases h2:n<=7
  ·obtain⟨y,y1,y2⟩:=mX (R:=fM) (S:=Unit) (λk _=>nI n f (n:Int) (k:Int) g) (λk _=> ∀j,j<k->InP P Q (c j))
    (λy=>(∃(t:Nat) (z:Nat->Int),y=qj (t:Int) g z/\ ¬Qj P Q n c)\/(y=ql g/\Qj P Q n c)) n
    (λk hk _ hP=>by
     have hI:=XO h (hf k hk);by_cases hin:c k≠0/\c k<P/\c k^Q%P=1
     ·rw[dH hin]at hI;refine .inl ⟨(),?_,λj hj=>?_⟩
      ·simp(disch:=omega) only[fM,nI,WW,CC,hI]
      ·by_cases e:j=k
       ·subst e;exact hin
       ·exact hP j (by omega)
     ·rw[bq hin]at hI;refine .inr ⟨qj (k:Int) g (f k),?_,.inl ⟨k,f k,rfl,λhm=>hin (hm.2.2 k hk)⟩⟩;simp(disch:=omega) only[fM,nI,WW,CC,hI])
    (λ_ hP=>by refine⟨ql g,?_,.inr ⟨rfl,h1,h2,hP⟩⟩;simp(disch:=omega) only[fM,nI,WW,CC]) () (λj hj=>absurd hj (ayz _))
   have y1':aB fM (((n,f),((),((n:Int),(0,())))),(g,()))=some y:=y1;rcases y2 with⟨t,z,rfl,hm⟩|⟨rfl,hm⟩
   ·simp(disch:=omega) only[WW,y1',bq hm,qj]
   ·simp(disch:=omega) only[WW,y1',dH hm,ql]
  ·have hm: ¬Qj P Q n c:=λhm=>h2 hm.2.1
   simp(disch:=omega) only[WW,bq hm]
 ·have hm: ¬Qj P Q n c:=λhm=>h1 hm.1
  simp(disch:=omega) only[WW,bq hm]
theorem Wm(h:dI g P Q G){n:Nat}(hn:n<=7){f:Nat->(Nat->Int)}{c:Nat->Nat}(hf: ∀j,j<n->IsN (f j) (c j)){i:Nat}(hi:i<=7):
  ∃z,Dx (some g) n f (i:Int)=some z/\IsN z (atN P n c i):=by
 rw[Og];unfold ES;obtain⟨e,y1,y2⟩:=aO (R:=mV) (S:=Nat->(Nat->Int)) (λk e=>CJ g n f (i:Int) k e ((i^k:Nat):Int) (n:Int) (k:Int) (λ_=>0)) (λe=>yI g n f n e (λ_=>0))
  (λk e=> ∀j,j<k->IsN (e j) (i^j)) n
  (λk hk e hP=>by
   have hp:=at1 hi (j:=k) (by omega);have hp1:=at1 hi (j:=k+1) (by omega);obtain⟨z,z1,z2⟩:=oL (n:=((i^k:Nat):Int)) (by omega);rw[ay8]at z2;refine⟨glue k e (λj=>upd (λ_=>λ_=>0) 0 z (0+j)),?_,aaW (A:=λj=>i^j) hP z2⟩;have hble: ∀a b:Nat,a<=b->Nat.ble a b=true:=λa b h=>ay6 h
   have hpm:i^k*i=i^(k+1):=rfl;simp(disch:=omega) only[mV,CJ,WW,CC,z1,hble,aA7,hpm])
  (λe _=>by simp(disch:=omega) only[mV,CJ,WW,CC]) (λ_=>λ_=>0) (λj hj=>absurd hj (ayz _))
 have y1':aB mV ((g,((n,f),((i:Int),((),((0,(λ_=>(λ_=>0))),(1,((n:Int),(0,())))))))),((λ_=>0),()))=some (yI g n f n e (λ_=>0)):=by have:=y1;simp only[azD]at this;exact this
 obtain⟨z,z1,z2⟩:=Qi h (n:=n) (by omega) hf (exps:=λj=>e (0+j)) (E:=λj=>i^j) (λj hj=>by rw[aye];exact y2 j hj);simp(disch:=omega) only[WW,y1',yI,z1];exact⟨z,rfl,z2⟩
end
structure atm(x:SlV (Nat->Int)×(Int×(Nat->Int)))(n:Nat)(c:Nat->Nat)(i:Int)(y:Nat):Prop where
 ms:SlV.isMs x.1=false
 len:SlV.len x.1=n
 nats: ∀j,j<n->IsN (SlV.fn (λ_=>0) x.1 j) (c j)
 ii:x.2.1=i
 yy:IsN x.2.2 y
structure Cl where
 n:Nat->Nat
 c:Nat->Nat->Nat
 i:Nat->Int
 y:Nat->Nat
section
variable {g:sj} {P Q G:Nat}
open Classical in
open Classical in
end
open Go Go.Den
abbrev bl(s:ByteArray):List UInt8:=s.data.toList
theorem pU(s:ByteArray):s.size=(bl s).length:=rfl
theorem Mi {s t:ByteArray}(h:bl s=bl t):s=t:=by cases s;cases t;simp only[bl]at h;rw[aA1 h]
theorem a4H(s:ByteArray)(a b:Nat):bl (s.extract a b)=((bl s).drop a).take (b-a):=by simp only[bl,ByteArray.data_extract,Array.toList_extract,List.extract_eq_take_drop]
theorem a5J(s:ByteArray)(n:Nat):bl (s.extract n s.size)=(bl s).drop n:=by rw[a4H,ayX];rw[azf,pU];exact ay7 _
theorem Wn(s:ByteArray):sEq s s=true:=by simp[sEq]
theorem ajS {s t:ByteArray}(h:bl s=bl t):sEq s t=true:=by rw[Mi h];exact Wn t
theorem wO(n:Nat)(f:Nat->Int):bl (bytesOf n f)=(List.range n).map λi=>UInt8.ofNat (f i).toNat:=rfl
def at5:List UInt8->Nat| []=>0|b::l=>b.toNat+256*at5 l
def axL(l:List UInt8):Nat:=at5 l.reverse
theorem a7i {l:List UInt8}{k:Nat}(h:k<l.length):l.take (k+1)=l.take k++[l.getD k 0]:=by rw[List.take_add_one,ay3 h,ayo,ay3 h];rfl
theorem tQ(n:Nat):IntKind.u32.wrap (n:Int)=((n%4294967296:Nat):Int):=by rw[wrap_u32'];rfl
theorem Wo(n:Nat):IntKind.u8.wrap (n:Int)=((n%256:Nat):Int):=by rw[wrap_u8'];rfl
theorem mZ(a:Nat):(BitVec.ofInt 32 (a:Int)).toNat=a%4294967296:=by simp[BitVec.toNat_ofInt]
theorem axM {a b:Nat}(ha:a<4294967296)(hb:b<4294967296):ak .and .u32 (a:Int) (b:Int)=((a&&& b:Nat):Int):=by have:ak .and .u32 (a:Int) (b:Int)=IntKind.u32.wrap ((BitVec.ofInt 32 a&&& BitVec.ofInt 32 b).toNat:Int):=rfl;rw[this,BitVec.toNat_and,mZ,mZ,ay1 ha,ay1 hb,tQ,ay1];exact ayh azM ha
theorem orW {a b:Nat}(ha:a<4294967296)(hb:b<4294967296):ak .or .u32 (a:Int) (b:Int)=((a||| b:Nat):Int):=by have:ak .or .u32 (a:Int) (b:Int)=IntKind.u32.wrap ((BitVec.ofInt 32 a||| BitVec.ofInt 32 b).toNat:Int):=rfl;rw[this,BitVec.toNat_or,mZ,mZ,ay1 ha,ay1 hb,tQ,ay1];exact ayW (n:=32) ha hb
theorem at6 {a b:Nat}(ha:a<4294967296)(hb:b<4294967296):ak .xor .u32 (a:Int) (b:Int)=((a^^^ b:Nat):Int):=by have:ak .xor .u32 (a:Int) (b:Int)=IntKind.u32.wrap ((BitVec.ofInt 32 a^^^ BitVec.ofInt 32 b).toNat:Int):=rfl;rw[this,BitVec.toNat_xor,mZ,mZ,ay1 ha,ay1 hb,tQ,ay1];exact Nat.xor_lt_two_pow (n:=32) ha hb
theorem ajT {a b:Nat}(ha:a<9223372036854775808)(hb:b<9223372036854775808):ak .xor .i64 (a:Int) (b:Int)=((a^^^ b:Nat):Int):=by have:ak .xor .i64 (a:Int) (b:Int)=IntKind.i64.wrap ((BitVec.ofInt 64 a^^^ BitVec.ofInt 64 b).toNat:Int):=rfl;have hlt:a^^^ b<9223372036854775808:=Nat.xor_lt_two_pow (n:=63) ha hb;rw[this,BitVec.toNat_xor,eH,eH,ay1 (by omega),ay1 (by omega),wrap_i64];omega
theorem at7 {a s:Nat}(h:a<4294967296):bG .u32 (a:Int) (s:Int)=((a/2^s:Nat):Int):=VG (k:=.u32) h
theorem aci {a s:Nat}(hs:s<=32):iL .u32 (a:Int) (s:Int)=((a*2^s%4294967296:Nat):Int):=by unfold iL;rw[ay8,show((a:Int)*2^min s IntKind.u32.bits)=((a*2^min s 32:Nat):Int)by simp[IntKind.bits],tQ,azA hs]
theorem a5K {a s:Nat}(hs:s<63)(h:a*2^s<9223372036854775808):iL .i64 (a:Int) (s:Int)=((a*2^s:Nat):Int):=by unfold iL;rw[ay8,show min s IntKind.i64.bits=s from azA (by show s<=64;omega),show((a:Int)*2^s)=((a*2^s:Nat):Int)by simp,wrap_i64];omega
def Mj(x n:Nat):Nat:=x/2^n||| x*2^(32-n)%4294967296
theorem fD {x n:Nat}(h:x<4294967296):Mj x n<4294967296:=
 ayW (n:=32) (ayh (ayH _ _) h) (ayk _ (by decide))
theorem SG {x n:Nat}(h:x<4294967296)(h1:0<n)(h2:n<32):fO (x:Int) (n:Int)=some (Mj x n:Int):=by
 have e1:IntKind.i64.wrap (0-(n:Int))= -(n:Int):=by rw[wrap_i64 (by omega)];omega
 have e2:IntKind.u64.wrap (-(n:Int))=((18446744073709551616-n:Nat):Int):=by rw[JG];omega
 have e3:ak .and .u64 ((18446744073709551616-n:Nat):Int) 31=((32-n:Nat):Int):=by
  rw[show(31:Int)=((31:Nat):Int)from rfl,acd (by omega) (by decide),show(31:Nat)=2^5-1 from rfl,ayP]
  congr 1;omega
 have e4:(32:Int)-((32-n:Nat):Int)=((n:Nat):Int):=by omega
 rw[KP,II,xR,rG];rw[e1,e2,e3,e4,CW (by omega),bq (by omega),bq (by omega),aci (by omega),at7 h];simp only[ayr];rw[orW (ayk _ (by decide)) (ayh (ayH _ _) h),Nat.or_comm];rfl
theorem XQ {x n:Nat}(h:x<4294967296)(h1:2<=n)(h2:n<32):jL (x:Int) (n:Int)=some (Mj x n:Int):=by
 have hp:(2:Nat)^(32-n)<=2^30:=ayt (by decide) (by omega);have hm:x*2^(32-n)<=4294967295*2^30:=aAk (by omega) hp;have e4:(32:Int)-(n:Int)=((32-n:Nat):Int):=by omega
 have hd:x/2^n<4294967296:=ayh (ayH _ _) h;have ho:(x/2^n||| x*2^(32-n))<9223372036854775808:=ayW (n:=63) (by omega) (by omega);rw[Rw,PU,bq (by omega),e4,fB (by omega),bq (by omega),a0b (by omega),a5K (by omega) (by omega),orS (by omega) (by omega)];simp only[ayr];rw[show(4294967295:Int)=((4294967295:Nat):Int)from rfl,a1R ho (by decide),show(4294967295:Nat)=2^32-1 from rfl,ayP,Nat.or_mod_two_pow,ay1 (show x/2^n<2^32 from hd)];rfl
theorem OD {x:Nat}(h:x<4294967296)(n:Nat)(h1:0<(OfNat.ofNat n:Nat))(h2:(OfNat.ofNat n:Nat)<32):fO (x:Int) (no_index (OfNat.ofNat n:Int))=some (Mj x (OfNat.ofNat n):Int):=SG h h1 h2
theorem Wp {x:Nat}(h:x<4294967296)(n:Nat)(h1:2<=(OfNat.ofNat n:Nat))(h2:(OfNat.ofNat n:Nat)<32):jL (x:Int) (no_index (OfNat.ofNat n:Int))=some (Mj x (OfNat.ofNat n):Int):=XQ h h1 h2
theorem aaX {a:Nat}(n:Nat)(h:a<4294967296):bG .u32 (a:Int) (no_index (OfNat.ofNat n:Int))=((a/2^(OfNat.ofNat n:Nat):Nat):Int):=at7 (s:=OfNat.ofNat n) h
theorem aaY {a:Nat}(n:Nat)(h:a<9223372036854775808):bG .i64 (a:Int) (no_index (OfNat.ofNat n:Int))=((a/2^(OfNat.ofNat n:Nat):Nat):Int):=a0b (s:=OfNat.ofNat n) h
def chN(e f g:Nat):Nat:=g^^^(e&&&(f^^^ g))
def acj(a b c:Nat):Nat:=(a&&& b)|||(c&&&(a||| b))
theorem acn {e f g:Nat}(he:e<4294967296)(hg:g<4294967296):(e&&& f)^^^((4294967295^^^ e)&&& g)=chN e f g:=by
 apply azC;intro i;simp only[chN,Nat.testBit_xor,Nat.testBit_and];by_cases hi:i<32
 ·rw[show(4294967295:Nat)=2^32-1 from rfl,Nat.testBit_two_pow_sub_one,ayf hi];cases e.testBit i<;>cases f.testBit i<;>cases g.testBit i<;>rfl
 ·have hp:2^32<=2^i:=ayt (by decide) (by omega);have hp:(4294967296:Nat)<=2^i:=hp;rw[ayR (ayp he hp),ayR (ayp hg hp)];simp
theorem aaZ(a b c:Nat):((a&&& b)^^^(a&&& c))^^^(b&&& c)=acj a b c:=by apply azC;intro i;simp only[acj,Nat.testBit_xor,Nat.testBit_and,azZ];cases a.testBit i<;>cases b.testBit i<;>cases c.testBit i<;>rfl
theorem kG {a b:Nat}(ha:a<4294967296)(hb:b<4294967296):a^^^ b<4294967296:=Nat.xor_lt_two_pow (n:=32) ha hb
def S1N(e:Nat):Nat:=Mj e 6^^^ Mj e 11^^^ Mj e 25
def S0N(a:Nat):Nat:=Mj a 2^^^ Mj a 13^^^ Mj a 22
def s0N(x:Nat):Nat:=Mj x 7^^^ Mj x 18^^^ x/2^3
def s1N(x:Nat):Nat:=Mj x 17^^^ Mj x 19^^^ x/2^10
theorem ajU {x:Nat}(h:x<4294967296):s0N x<4294967296:=kG (kG (fD h) (fD h)) (ayh (ayH _ _) h)
theorem ajV {x:Nat}(h:x<4294967296):s1N x<4294967296:=kG (kG (fD h) (fD h)) (ayh (ayH _ _) h)
def aco(f:Nat->Nat)(i v:Nat):Nat->Nat:=λj=>if j=i then v else f j
def YC(w:Nat->Nat)(k:Nat):Nat:=(w (k-16)+s0N (w (k-15))+w (k-7)+s1N (w (k-2)))%4294967296
def F7(b:Nat->Nat)(t:Nat):Nat:=b (4*t)*16777216+b (4*t+1)*65536+b (4*t+2)*256+b (4*t+3)
def CZ(b:Nat->Nat):Nat->Nat->Nat|0=>F7 b|k+1=>aco (CZ b k) (16+k) (YC (CZ b k) (16+k))
def Cc(k w:Nat)(x:Nat->Nat):Nat->Nat|0=>(x 7+S1N (x 4)+chN (x 4) (x 5) (x 6)+k+w+(S0N (x 0)+acj (x 0) (x 1) (x 2)))%4294967296|1=>x 0|2=>x 1|3=>x 2|4=>(x 3+(x 7+S1N (x 4)+chN (x 4) (x 5) (x 6)+k+w))%4294967296|5=>x 4|6=>x 5|_=>x 6
def ab0(k w:Nat->Nat)(v:Nat->Nat):Nat->Nat->Nat|0=>v|t+1=>Cc (k t) (w t) (ab0 k w v t)
def kN:Nat->Nat:=λi=>[1116352408,1899447441,3049323471,3921009573,961987163,1508970993,2453635748,2870763221,3624381080,310598401,607225278,1426881987,1925078388,2162078206,2614888103,3248222580,3835390401,4022224774,264347078,604807628,770255983,1249150122,1555081692,1996064986,2554220882,2821834349,2952996808,3210313671,3336571891,3584528711,113926993,338241895,666307205,773529912,1294757372,1396182291,1695183700,1986661051,2177026350,2456956037,2730485921,2820302411,3259730800,3345764771,3516065817,3600352804,4094571909,275423344,430227734,506948616,659060556,883997877,958139571,1322822218,1537002063,1747873779,1955562222,2024104815,2227730452,2361852424,2428436474,2756734187,3204031479,3329325298].getD i 0
def Qk(v b:Nat->Nat):Nat->Nat:=λi=>(ab0 kN (CZ b 48) v 64 i+v i)%4294967296
def Ws(n:Nat)(x:Nat->Int)(y:Nat->Nat):Prop:= ∀i,i<n->x i=(y i:Int)/\y i<4294967296
def Bs(n:Nat)(x:Nat->Int)(y:Nat->Nat):Prop:= ∀i,i<n->x i=(y i:Int)/\y i<256
theorem a2o: ∃r,qJ=some r/\Ws 64 r kN:=by
 refine⟨_,by rw[wB];rfl,?_⟩;intro i hi;have: ∀i,i<64->kN i<4294967296:=by decide
 refine⟨?_,this i hi⟩;have h2: ∀i:Fin 64,(upd (upd (upd (upd (upd (upd (upd (upd (upd (upd (upd (upd (upd (upd (upd (upd (upd (upd (upd (upd (upd (upd (upd (upd (upd (upd (upd (upd (upd (upd (upd (upd (upd (upd (upd (upd (upd (upd (upd (upd (upd (upd (upd (upd (upd (upd (upd (upd (upd (upd (upd (upd (upd (upd (upd (upd (upd (upd (upd (upd (upd (upd (upd (upd (λ_=>0) 0 1116352408) 1 1899447441) 2 3049323471) 3 3921009573) 4 961987163) 5 1508970993) 6 2453635748) 7 2870763221) 8 3624381080) 9 310598401) 10 607225278) 11 1426881987) 12 1925078388) 13 2162078206) 14 2614888103) 15 3248222580) 16 3835390401) 17 4022224774) 18 264347078) 19 604807628) 20 770255983) 21 1249150122) 22 1555081692) 23 1996064986) 24 2554220882) 25 2821834349) 26 2952996808) 27 3210313671) 28 3336571891) 29 3584528711) 30 113926993) 31 338241895) 32 666307205) 33 773529912) 34 1294757372) 35 1396182291) 36 1695183700) 37 1986661051) 38 2177026350) 39 2456956037) 40 2730485921) 41 2820302411) 42 3259730800) 43 3345764771) 44 3516065817) 45 3600352804) 46 4094571909) 47 275423344) 48 430227734) 49 506948616) 50 659060556) 51 883997877) 52 958139571) 53 1322822218) 54 1537002063) 55 1747873779) 56 1955562222) 57 2024104815) 58 2227730452) 59 2361852424) 60 2428436474) 61 2756734187) 62 3204031479) 63 3329325298:Nat->Int) i.val=(kN i.val:Int):=by decide
 exact h2 ⟨i,hi⟩
theorem Mk:xg=qJ:=by rw[Dv,wB];rfl
theorem Ws.push {n:Nat}{x:Nat->Int}{y:Nat->Nat}(h:Ws n x y){v:Nat}(hv:v<4294967296):Ws (n+1) (Den.upd x n (v:Int)) (aco y n v):=by
 intro i hi;by_cases hk:i=n
 ·subst hk;simp only[Den.upd,aco,azn];exact⟨trivial,hv⟩
 ·simp only[Den.upd,aco,axY hk];exact h i (by omega)
theorem a2p {w:Nat->Nat}{k:Nat} :YC w k<4294967296:=ayk _ (by decide)
theorem a5L {a b c d:Nat}(ha:a<256)(hb:b<256)(hc:c<256)(hd:d<256):(((a*2^24||| b*2^16)||| c*2^8)||| d)=a*16777216+b*65536+c*256+d:=by
 have h1:a*2^24||| b*2^16=(a*256+b)*2^16:=by have:=azl (i:=24) (b:=b*2^16) (by omega) a;rw[ayl a,<-this];omega
 have h2:(a*256+b)*2^16||| c*2^8=((a*256+b)*256+c)*2^8:=by have:=azl (i:=16) (b:=c*2^8) (by omega) (a*256+b);rw[ayl (a*256+b),<-this];omega
 have h3:((a*256+b)*256+c)*2^8||| d=a*16777216+b*65536+c*256+d:=by have:=azl (i:=8) (b:=d) (by omega) ((a*256+b)*256+c);rw[ayl _ (2^8),<-this];omega
 rw[h1,h2,h3]
theorem YD {b:Nat->Nat}{t:Nat}(h0:b (4*t)<256)(h1:b (4*t+1)<256)(h2:b (4*t+2)<256)(h3:b (4*t+3)<256):F7 b t<4294967296:=by unfold F7;omega
theorem a2q {b w t1:Nat->Int}{B:Nat->Nat}(hb:Bs 64 b B)(t:Nat)(ht:t<16):
  iq (ig (t:Int) b t1 w)=some (.inl (ig ((t+1:Nat):Int) b t1 (upd w t (F7 B t:Int)))):=by
 obtain⟨e0,l0⟩:=hb (4*t) (by omega);obtain⟨e1,l1⟩:=hb (4*t+1) (by omega);obtain⟨e2,l2⟩:=hb (4*t+2) (by omega);obtain⟨e3,l3⟩:=hb (4*t+3) (by omega);have w24: ∀ {x:Nat},x<256->iL .u32 (x:Int) 24=((x*2^24:Nat):Int):=λ{x} hx=>by rw[show(24:Int)=((24:Nat):Int)from rfl,aci (by decide),ay1 (by omega)]
 have w16: ∀ {x:Nat},x<256->iL .u32 (x:Int) 16=((x*2^16:Nat):Int):=λ{x} hx=>by rw[show(16:Int)=((16:Nat):Int)from rfl,aci (by decide),ay1 (by omega)]
 have w8: ∀ {x:Nat},x<256->iL .u32 (x:Int) 8=((x*2^8:Nat):Int):=λ{x} hx=>by rw[show(8:Int)=((8:Nat):Int)from rfl,aci (by decide),ay1 (by omega)]
 have o1:B (4*t)*2^24||| B (4*t+1)*2^16<4294967296:=ayW (n:=32) (by omega) (by omega);have o2:(B (4*t)*2^24||| B (4*t+1)*2^16)||| B (4*t+2)*2^8<4294967296:=ayW (n:=32) o1 (by omega);simp(disch:=omega) only[iq,ig,WW,CC,e0,e1,e2,e3,tQ,ay1,w24,w16,w8,orW,o1,o2];rw[a5L l0 l1 l2 l3];rfl
theorem a2r {w t1:Nat->Int}{W:Nat->Nat}(k:Nat)(hk:k<48)(hw:Ws (16+k) w W):
  iy (iw ((16+k:Nat):Int) t1 w)=some (.inl (iw ((16+(k+1):Nat):Int) t1 (upd w (16+k) (YC W (16+k):Int)))):=by
 obtain⟨e0,l0⟩:=hw (16+k-15) (by omega);obtain⟨e1,l1⟩:=hw (16+k-2) (by omega);obtain⟨e2,l2⟩:=hw (16+k-16) (by omega);obtain⟨e3,l3⟩:=hw (16+k-7) (by omega);have b0:=ajU l0;have b1:=ajV l1;have r1:= @fD (W (16+k-15)) 7 l0;have r2:= @fD (W (16+k-15)) 18 l0;have r3:= @fD (W (16+k-2)) 17 l1;have r4:= @fD (W (16+k-2)) 19 l1;have x1:=kG r1 r2;have x2:=kG r3 r4;have d1:W (16+k-15)/2^3<4294967296:=ayh (ayH _ _) l0;have d2:W (16+k-2)/2^10<4294967296:=ayh (ayH _ _) l1;have c1:((16+k:Nat):Int)-15=((16+k-15:Nat):Int):=by omega
 have c2:((16+k:Nat):Int)-2=((16+k-2:Nat):Int):=by omega
 have c3:((16+k:Nat):Int)-16=((16+k-16:Nat):Int):=by omega
 have c4:((16+k:Nat):Int)-7=((16+k-7:Nat):Int):=by omega
 have c5:((16+k:Nat):Int)+1=((16+(k+1):Nat):Int):=by omega
 simp(disch:=omega) only[iy,iw,c1,c2,c3,c4,c5,WW,e0,e1,e2,e3,OD,aaX,at6,Ou,tQ];simp only[YC,s0N,s1N,Nat.mod_add_mod]
theorem OE {b:Nat->Int}{B:Nat->Nat}(hb:Bs 64 b B): ∃w,zF b=some w/\Ws 64 w (CZ B 48):=by
 have s0lt: ∀t,t<16->F7 B t<4294967296:=λt ht=>YD (hb _ (by omega)).2 (hb _ (by omega)).2 (hb _ (by omega)).2 (hb _ (by omega)).2
 obtain⟨w1,h1,h2⟩:=aO (R:=iq) (λk (w:Nat->Int)=>ig (k:Int) b (λ_=>0) w) (λw=>rP (λ_=>0) w)
  (λk w=>Ws k w (F7 B)) 16
  (λk hk w hw=>⟨_,a2q hb k hk,λi hi=>by
   by_cases hik:i=k
   ·subst hik;simp only[upd,azn];exact⟨trivial,s0lt _ hk⟩
   ·simp only[upd,axY hik];exact hw i (by omega)⟩)
  (λw hw=>by simp(disch:=omega) only[iq,ig,WW]) (λ_=>0) (λi hi=>by omega)
 obtain⟨w2,h3,h4⟩:=aO (R:=iy) (λk (w:Nat->Int)=>iw ((16+k:Nat):Int) (λ_=>0) w) (λw=>rQ (λ_=>0) w)
  (λk w=>Ws (16+k) w (CZ B k)) 48
  (λk hk w hw=>⟨_,a2r k hk hw,by exact Ws.push hw a2p⟩)
  (λw hw=>by simp(disch:=omega) only[iy,iw,WW]) w1 h2
 refine⟨w2,?_,h4⟩;have e1:aB iq (ig 0 b (λ_=>0) (λ_=>0))=some (rP (λ_=>0) w1):=h1;have e2:aB iy (iw 16 (λ_=>0) w1)=some (rQ (λ_=>0) w2):=h3;rw[FP,CK];simp only[ig,rP]at e1;simp only[iw,rQ]at e2;rw[e1];simp only;rw[e2]
theorem a2s {k w:Nat}{x:Nat->Nat}(h: ∀i,i<8->x i<4294967296): ∀i,i<8->Cc k w x i<4294967296:=by
 intro i hi;have h0:=h 0 (by omega);have h1:=h 1 (by omega);have h2:=h 2 (by omega);have h4:=h 4 (by omega);have h5:=h 5 (by omega);have h6:=h 6 (by omega)
 match i,hi with
 |0,_=>exact ayk _ (by decide)
 |1,_=>exact h0
 |2,_=>exact h1
 |3,_=>exact h2
 |4,_=>exact ayk _ (by decide)
 |5,_=>exact h4
 |6,_=>exact h5
 |7,_=>exact h6
theorem a4I {v t1 k w x:Nat->Int}{K W X:Nat->Nat}(hk:Ws 64 k K)(hw:Ws 64 w W)(t:Nat)(ht:t<64)(hx:Ws 8 x X):
  ∃y,kC (kr (t:Int) v t1 k w x)=some (.inl (kr ((t+1:Nat):Int) v t1 k w y))/\Ws 8 y (Cc (K t) (W t) X):=by
 obtain⟨e0,l0⟩:=hx 0 (by omega);obtain⟨e1,l1⟩:=hx 1 (by omega);obtain⟨e2,l2⟩:=hx 2 (by omega);obtain⟨e3,l3⟩:=hx 3 (by omega);obtain⟨e4,l4⟩:=hx 4 (by omega);obtain⟨e5,l5⟩:=hx 5 (by omega);obtain⟨e6,l6⟩:=hx 6 (by omega);obtain⟨e7,l7⟩:=hx 7 (by omega);obtain⟨ek,lk⟩:=hk t ht;obtain⟨ew,lw⟩:=hw t ht;have r1:= @fD (X 4) 6 l4;have r2:= @fD (X 4) 11 l4;have r3:= @fD (X 4) 25 l4;have r4:= @fD (X 0) 2 l0;have r5:= @fD (X 0) 13 l0;have r6:= @fD (X 0) 22 l0;have x1:=kG r1 r2;have x2:=kG r4 r5;have x3:=kG l5 l6;have x4:X 4&&&(X 5^^^ X 6)<4294967296:=ayh azM l4;have x5:X 0||| X 1<4294967296:=ayW (n:=32) l0 l1;have x6:X 0&&& X 1<4294967296:=ayh azM l0;have x7:X 2&&&(X 0||| X 1)<4294967296:=ayh azM l2;refine⟨_,by
  simp(disch:=omega) only[kC,kr,WW,e0,e1,e2,e3,e4,e5,e6,e7,ek,ew,OD,at6,axM,orW,Ou,VH,tQ];rfl,?_⟩
 have hl:=a2s (k:=K t) (w:=W t) (x:=X) (λi hi=>(hx i hi).2);intro i hi;refine⟨?_,hl i hi⟩
 match i,hi with
 |0,_=>
  simp only[upd,azn,Cc,S1N,S0N,chN,acj]
  congr 1;omega
 |4,_=>
  simp only[upd,azn,axY (show¬(4=0)by decide),Cc,S1N,chN]
  congr 1;omega
 |1,_=>exact e0
 |2,_=>exact e1
 |3,_=>exact e2
 |5,_=>exact e4
 |6,_=>exact e5
 |7,_=>exact e6
theorem Wq {v b:Nat->Int}{V B:Nat->Nat}(hv:Ws 8 v V)(hb:Bs 64 b B): ∃r,DF v b=some r/\Ws 8 r (Qk V B):=by
 obtain⟨k,hk1,hk2⟩:=a2o;obtain⟨w,hw1,hw2⟩:=OE hb;obtain⟨x,h1,h2⟩:=aO (R:=kC) (λt (x:Nat->Int)=>kr (t:Int) v (λ_=>0) k w x) (λx=>yJ v (λ_=>0) x)
  (λt x=>Ws 8 x (ab0 kN (CZ B 48) V t)) 64 (λt ht x hx=>a4I hk2 hw2 t ht hx)
  (λx hx=>by simp(disch:=omega) only[kC,kr,WW]) v hv
 obtain⟨y,h3,h4⟩:=aO (R:=mW) (λt (x:Nat->Int)=>qK (t:Int) v (λ_=>0) x) (λx=>yK (λ_=>0) x)
  (λt x=> ∀i,i<8->(i<t->x i=(Qk V B i:Int))/\(t<=i->x i=(ab0 kN (CZ B 48) V 64 i:Int))) 8
  (λt ht z hz=>by
   obtain⟨ev,lv⟩:=hv t ht;have ez:=(hz t ht).2 (ay7 _);have lm:=(h2 t ht).2;refine⟨_,by
    simp(disch:=omega) only[mW,qK,WW,ev,ez,Ou,VH,tQ];rfl,?_⟩
   intro i hi;by_cases hit:i=t
   ·subst hit;refine⟨λ_=>by simp only[upd,azn];rfl,λh=>by omega⟩
   ·simp only[upd,axY hit];exact⟨λh=>(hz i hi).1 (by omega),λh=>(hz i hi).2 (by omega)⟩)
  (λx hx=>by simp(disch:=omega) only[mW,qK,WW]) x (λi hi=>⟨λh=>by omega,λ_=>(h2 i hi).1⟩)
 refine⟨y,?_,λi hi=>⟨(h4 i hi).1 hi,ayk _ (by decide)⟩⟩;have e1:aB kC (kr 0 v (λ_=>0) k w v)=some (yJ v (λ_=>0) x):=h1;have e2:aB mW (qK 0 v (λ_=>0) x)=some (yK (λ_=>0) y):=h3;rw[Oi,M6,hk1,hw1];simp only[kr,yJ]at e1;simp only[qK,yK]at e2;simp only;rw[e1];simp only;rw[e2]
theorem Wt {s t:ByteArray} :sEq s t=true↔bl s=bl t:=by
 constructor
 ·intro h;have h2:s.toList=t.toList:=eq_of_beq h;rw[aAt,aAt]at h2;exact h2
 ·exact ajS
theorem JL {s:ByteArray} :sEq s (ByteArray.mk #[])=decide (s.size=0):=by
 by_cases h:s.size=0
 ·rw[ayf h,Wt];exact azR.1 h
 ·rw[ayj h];cases hb:sEq s (ByteArray.mk #[])
  ·rfl
  ·rw[Wt]at hb;exact absurd (by rw[pU,hb];rfl) h
def bN(l:List UInt8)(k:Nat):Nat->Nat:=λi=>if i<64 then(l.getD (64*k+i) 0).toNat else 0
def ab1:Nat->Nat:=λi=>[1779033703,3144134277,1013904242,2773480762,1359893119,2600822924,528734635,1541459225].getD i 0
def kQ(l:List UInt8):Nat->Nat->Nat|0=>ab1|k+1=>Qk (kQ l k) (bN l k)
theorem wP {l s:List UInt8}{i:Nat}(h:i<l.length):(l++s).getD i 0=l.getD i 0:=by rw[ayo,ayo,aym h]
theorem Ce {l s:List UInt8}{i:Nat}(h:l.length<=i):(l++s).getD i 0=s.getD (i-l.length) 0:=by rw[ayo,ayo,azc h]
theorem a7j {l s:List UInt8}{k:Nat}(h:64*k+64<=l.length):bN (l++s) k=bN l k:=by
 funext i
 unfold bN;split
 ·rw[wP (by omega)]
 ·rfl
theorem AU {l s:List UInt8} : ∀ {k:Nat},64*k<=l.length->kQ (l++s) k=kQ l k
 |0,_=>rfl
 |k+1,h=>by rw[kQ,kQ,AU (k:=k) (by omega),a7j (by omega)]
theorem YE: ∃r,Dy=some r/\Ws 8 r ab1:=by
 refine⟨_,by rw[ET];rfl,?_⟩;intro i hi
 match i,hi with
 |0,_=>exact⟨rfl,by decide⟩
 |1,_=>exact⟨rfl,by decide⟩
 |2,_=>exact⟨rfl,by decide⟩
 |3,_=>exact⟨rfl,by decide⟩
 |4,_=>exact⟨rfl,by decide⟩
 |5,_=>exact⟨rfl,by decide⟩
 |6,_=>exact⟨rfl,by decide⟩
 |7,_=>exact⟨rfl,by decide⟩
abbrev RS:=Bool×((Nat->Int)×((Nat->Int)×Int))
structure AV(h:RS)(l:List UInt8):Prop where
 given:h.1=true
 n:h.2.2.2=(l.length:Int)
 words:Ws 8 h.2.1 (kQ l (l.length/64))
 rest: ∀j,j<l.length%64->h.2.2.1 j=((l.getD (64*(l.length/64)+j) 0).toNat:Int)
theorem XR {h:RS}{l:List UInt8}{s:ByteArray}(hh:AV h l)(hs:0<s.size)(hb:l.length+s.size<2^60):
  ∃h' m,0<m/\m<=s.size/\dO (dN s h)=some (.inl (dN (s.extract m s.size) h'))/\AV h' (l++(bl s).take m):=by
 obtain⟨g,w,r,n⟩:=h;obtain⟨h1,h2,h3,h4⟩:=hh;simp only at h1 h2 h3 h4;subst h2;have hmod:l.length%64<64:=ayk _ (by decide);have e64:64-(l.length%64)≠0:=by omega
 generalize hm:min s.size (64-l.length%64)=m;have hm1:0<m:=by omega
 have hm2:m<=s.size:=by omega
 have hm3:l.length%64+m<=64:=by omega
 have hsz:(bl s).length=s.size:=(pU s).symm;have c1:Nat.ble (64-l.length%64) 0=false:=by
  cases hb:Nat.ble (64-l.length%64) 0
  ·rfl
  ·exact absurd (ayb hb) (by omega)
 have c2:Nat.ble s.size 0=false:=by
  cases hb:Nat.ble s.size 0
  ·rfl
  ·exact absurd (ayb hb) (by omega)
 have hlen:(l++(bl s).take m).length=l.length+m:=by rw[ayd,aAE];omega
 have hget: ∀j,j<l.length%64+m->tX r (l.length%64) m (λi=>(((s.data.toList.getD i 0).toNat:Nat):Int)) j=(((l++(bl s).take m).getD (64*(l.length/64)+j) 0).toNat:Int):=by
  intro j hj;unfold tX;by_cases hjl:l.length%64<=j
  ·rw[ay5 ⟨hjl,hj⟩,Ce (by omega),show 64*(l.length/64)+j-l.length=j-l.length%64 by omega];show(((s.data.toList.getD (j-l.length%64) 0).toNat:Nat):Int)=_;rw[ayo,ayo,ayn (by omega)]
  ·rw[axY (by omega),wP (by omega)];exact h4 j (by omega)
 by_cases hfull:l.length%64+m=64
 ·obtain⟨r',hr1,hr2⟩:=Wq (b:=tX r (l.length%64) m (λi=>(((s.data.toList.getD i 0).toNat:Nat):Int))) (B:=bN (l++(bl s).take m) (l.length/64)) h3 (by
   intro i hi;refine⟨?_,?_⟩
   ·rw[hget i (by omega)];unfold bN;rw[ay5 hi]
   ·unfold bN;rw[ay5 hi];exact UInt8.toNat_lt _)
  refine⟨(g,(r',(tX r (l.length%64) m (λi=>(((s.data.toList.getD i 0).toNat:Nat):Int)),((l.length+m:Nat):Int)))),m,hm1,hm2,?_,?_⟩
  ·simp(disch:=omega) only[dO,dN,JL,WW,CC,c1,c2,azY,hm,aA7,ayC,hr1]
  ·have hq:(l.length+m)/64=l.length/64+1:=by omega
   refine⟨h1,by simp only;rw[hlen],?_,?_⟩
   ·simp only;rw[hlen,hq,kQ,AU (by omega)];exact hr2
   ·intro j hj;rw[hlen]at hj;omega
 ·refine⟨(g,(w,(tX r (l.length%64) m (λi=>(((s.data.toList.getD i 0).toNat:Nat):Int)),((l.length+m:Nat):Int)))),m,hm1,hm2,?_,?_⟩
  ·simp(disch:=omega) only[dO,dN,JL,WW,CC,c1,c2,azY,hm,aA7,ayC]
  ·have hq:(l.length+m)/64=l.length/64:=by omega
   refine⟨h1,by simp only;rw[hlen],?_,?_⟩
   ·simp only;rw[hlen,hq,AU (by omega)];exact h3
   ·intro j hj;rw[hlen]at hj;simp only;rw[hlen,hq];exact hget j (by omega)
theorem a0q: ∀(n:Nat) {h:RS} {l:List UInt8} {s:ByteArray},s.size<=n->AV h l->l.length+s.size<2^60->
  ∃h',aB dO (dN s h)=some (xW h')/\AV h' (l++bl s):=by
 intro n
 induction n with
 |zero=>
  intro h l s hn hh hb;have h0:bl s=[]:=azR.1 (by rw[<-pU];omega);refine⟨h,dM ?_,by rw[h0,azi];exact hh⟩;simp(disch:=omega) only[dO,dN,JL,WW]
 |succ n ih=>
  intro h l s hn hh hb;by_cases h0:s.size=0
  ·have h0':bl s=[]:=azR.1 (by rw[<-pU];omega);refine⟨h,dM ?_,by rw[h0',azi];exact hh⟩;simp(disch:=omega) only[dO,dN,JL,WW]
  ·obtain⟨h',m,hm1,hm2,hr,hh'⟩:=XR hh (Nat.pos_of_ne_zero h0) hb;have hsz:(s.extract m s.size).size=s.size-m:=by rw[pU,a5J,azf,pU]
   have hlt:(bl s).length=s.size:=(pU s).symm;obtain⟨h'',h1,h2⟩:=ih (h:=h') (l:=l++(bl s).take m) (s:=s.extract m s.size) (by omega) hh' (by rw[ayd,aAE];omega);refine⟨h'',by rw[nU hr];exact h1,?_⟩;rw[a5J,ayQ,aze]at h2;exact h2
theorem zL {h:RS}{l:List UInt8}{s:ByteArray}(hh:AV h l)(hb:l.length+s.size<2^60):
  ∃h',jh s h=some (rR h')/\AV h' (l++bl s):=by
 obtain⟨h',h1,h2⟩:=a0q s.size (ay7 _) hh hb;refine⟨h',?_,h2⟩;simp only[dN,xW]at h1;rw[BQ,yL,hh.given,h1];rfl
def oM(n:Nat):Nat:=(119-n%64)%64
theorem Ql(n:Nat):(n+1+oM n)%64=56:=by unfold oM;omega
theorem L8 {n k:Nat}(h:k<oM n):(n+1+k)%64≠56:=by unfold oM at h;omega
def a0r(n:Nat):List UInt8:=(List.range 8).map λk=>UInt8.ofNat (8*n/2^(56-8*k)%256)
def XT(l:List UInt8):List UInt8:=l++[128]++List.replicate (oM l.length) 0++a0r l.length
theorem a2t(l:List UInt8):(XT l).length=l.length+1+oM l.length+8:=by simp[XT,a0r];omega
theorem ab2(l:List UInt8):(XT l).length%64=0:=by rw[a2t];have:=Ql l.length;omega
def Qm(v:Nat->Nat)(j:Nat):Nat:=v (j/4)/2^(24-8*(j%4))%256
def Tv(v:Nat->Nat):ByteArray:=⟨((List.range 32).map λj=>UInt8.ofNat (Qm v j)).toArray⟩
def yu(l:List UInt8):ByteArray:=Tv (kQ (XT l) ((XT l).length/64))
theorem Qn(l:List UInt8):(yu l).size=32:=by simp[yu,Tv,ByteArray.size]
theorem RU {out:Nat->Int}{v:Nat->Nat}(h: ∀j,j<32->out j=(Qm v j:Int)):bytesOf 32 (λj=>out (0+j))=Tv v:=by
 unfold bytesOf Tv
 congr 1;congr 1
 apply azO;intro j hj;simp only[aye,h j (aAa.1 hj),ay8]
theorem a7k {h0 c:RS}{l:List UInt8}(hc:AV c (l++[128]))(hb:l.length<2^59):
  ∃c',aB jc (kW h0 c)=some (rT h0 c')/\AV c' (l++[128]++List.replicate (oM l.length) 0):=by
 have hz:oM l.length<64:=ayk _ (by decide);have hlen: ∀k,(l++[128]++List.replicate k (0:UInt8)).length=l.length+1+k:=by intro k;simp;omega
 refine aO (R:=jc) (λk (c:RS)=>kW h0 c) (λc=>rT h0 c) (λk c=>AV c (l++[128]++List.replicate k 0)) (oM l.length) ?_ ?_ c (by simpa using hc)
 ·intro k hk c hc;obtain⟨c',h1,h2⟩:=zL (s:=ByteArray.mk #[0]) hc (by rw[hlen];show _+1<_;omega);have hn:=hc.n;rw[hlen]at hn;have hb2:=L8 hk;refine⟨c',?_,?_⟩
  ·simp(disch:=omega) only[jc,kW,hn,WW,CC,h1]
  ·rw[List.replicate_succ',<-ayQ];exact h2
 ·intro c hc;have hn:=hc.n;rw[hlen]at hn;have hb2:=Ql l.length;simp(disch:=omega) only[jc,kW,hn,WW,CC]
theorem ab3 {h0 c:RS}{l:List UInt8}(h0n:h0.2.2.2=(l.length:Int))(hb:l.length<2^59):
  ∃last,aB jd (kX h0 0 c (λ_=>0))=some (rU c last)/\ ∀k,k<8->last k=((8*l.length/2^(56-8*k)%256:Nat):Int):=by
 refine aO (R:=jd) (λk (f:Nat->Int)=>kX h0 (k:Int) c f) (λf=>rU c f) (λk f=> ∀i,i<k->f i=((8*l.length/2^(56-8*i)%256:Nat):Int)) 8 ?_ ?_ (λ_=>0) (λi hi=>by omega)
 ·intro k hk f hf;refine⟨_,by
   simp(disch:=omega) only[jd,kX,h0n,WW,CC,a0b,Wo];rfl,?_⟩
  intro i hi;by_cases hik:i=k
  ·subst hik;simp only[upd,azn]
  ·simp only[upd,axY hik];exact hf i (by omega)
 ·intro f hf;simp(disch:=omega) only[jd,kX,WW,CC]
theorem acp {w:Nat->Int}{v:Nat->Nat}(hw:Ws 8 w v):
  ∃out,aB je (kY 0 (λ_=>0) w 0)=some (rV 32 out)/\ ∀j,j<32->out j=(Qm v j:Int):=by
 refine aO (R:=je) (λk (f:Nat->Int)=>kY (4*k) f w (k:Int)) (λf=>rV 32 f) (λk f=> ∀i,i<4*k->f i=(Qm v i:Int)) 8 ?_ ?_ (λ_=>0) (λi hi=>by omega)
 ·intro k hk f hf;obtain⟨e,lt⟩:=hw k hk;have b1:Nat.ble ((4*k+4)*1) 140737488355328=true:=ay6 (by omega);have b2:Nat.ble (4*k+4) 9223372036854775807=true:=ay6 (by omega);refine⟨_,by
   simp(disch:=omega) only[je,kY,e,WW,CC,aaX,Wo,b1,b2,aA7];rfl,?_⟩
  intro i hi;unfold glue;by_cases hik:i<4*k
  ·rw[show Nat.blt i (4*k)=true from ay6 hik,ayc];exact hf i hik
  ·rw[show Nat.blt i (4*k)=false by
    cases hb:Nat.blt i (4*k)
    ·rfl
    ·exact absurd (ayb hb) hik,ayr]
   have hd:i/4=k:=by omega
   have h4:i-4*k=0\/i-4*k=1\/i-4*k=2\/i-4*k=3:=by omega
   rcases h4 with h4|h4|h4|h4
   ·have hm:i%4=0:=by omega
    rw[h4,Qm,hd,hm];rfl
   ·have hm:i%4=1:=by omega
    rw[h4,Qm,hd,hm];rfl
   ·have hm:i%4=2:=by omega
    rw[h4,Qm,hd,hm];rfl
   ·have hm:i%4=3:=by omega
    rw[h4,Qm,hd,hm,azD,aAH];rfl
 ·intro f hf;simp(disch:=omega) only[je,kY,WW,CC]
theorem a4J {h0:RS}{l:List UInt8}(hh:AV h0 l)(hb:l.length<2^59):zH (some h0)=some (yu l):=by
 obtain⟨c1,h1,k1⟩:=zL (s:=ByteArray.mk #[128]) hh (by show _+1<_;omega);obtain⟨c2,h2,k2⟩:=a7k (h0:=h0) k1 hb;obtain⟨last,h3,k3⟩:=ab3 (c:=c2) hh.n hb;have hz:oM l.length<64:=ayk _ (by decide);obtain⟨c3,h4,k4⟩:=zL (s:=bytesOf 8 (λj=>last (0+j))) k2 (by rw[show(bytesOf 8 (λj=>last (0+j))).size=8 by simp[bytesOf,ByteArray.size]];simp;omega);have e5:l++[128]++List.replicate (oM l.length) 0++bl (bytesOf 8 (λj=>last (0+j)))=XT l:=by
  unfold XT a0r
  congr 1
  rw[wO];apply azO;intro j hj;simp only[aye,k3 j (aAa.1 hj),ay8]
 rw[e5]at k4;obtain⟨out,h6,k6⟩:=acp k4.words;simp only[kW,rT]at h2;simp only[kX,rU]at h3;simp only[kY,rV]at h6;rw[FQ,xB];simp only[hh.given,ayK,ayr,h1,rR,h2,h3,h4,h6];rw[RU k6];rfl
theorem a0s {s:ByteArray}(hb:s.size<2^59):Oj s=some (yu (bl s)):=by obtain⟨f,h1,k1⟩:=YE;have hh:AV (true,(f,((λ_=>0),0))) []:=⟨rfl,rfl,k1,λj hj=>by simp at hj⟩;obtain⟨h',h2,k2⟩:=zL (s:=s) hh (by simp;omega);rw[azQ]at k2;have h3:=a4J k2 (by rw[<-pU];exact hb);rw[Vz,Vy,Oh,M5,h1];simp only[h2,rR,h3]
def Bo(n:Nat)(b:Nat->Int)(l:List UInt8):Prop:=n=l.length/\ ∀j,j<n->b j=((l.getD j 0).toNat:Int)
theorem Bo.push {n:Nat}{b:Nat->Int}{l:List UInt8}(h:Bo n b l){v:Int}{x:UInt8}(hv:v=(x.toNat:Int)):Bo (n+1) (glue n b (λj=>upd (λ_=>0) 0 v (0+j))) (l++[x]):=by
 obtain⟨h1,h2⟩:=h;refine⟨by simp;omega,?_⟩;intro j hj;unfold glue;by_cases hc:j<n
 ·rw[show Nat.blt j n=true from ay6 hc,ayc,wP (by omega)];exact h2 j hc
 ·obtain rfl:j=n:=by omega
  rw[show Nat.blt j j=false by
   cases hb:Nat.blt j j
   ·rfl
   ·exact absurd (ayb hb) (by omega),ayr,Ce (by omega),h1,azz]
  exact hv
theorem a7l {s:ByteArray}{l:List UInt8}{b:Nat->Int}(hl:l.length<2^40)(h:Bo (l.length+1) b (l++[128])):
  ∃n b',aB kU (oz s (l.length+1) b)=some (wh s n b')/\Bo n b' (l++[128]++List.replicate (oM l.length) 0):=by
 have hz:oM l.length<64:=ayk _ (by decide);obtain⟨f,h1,h2⟩:=aO (R:=kU) (λk (f:Nat->Int)=>oz s (l.length+1+k) f) (λf=>wh s (l.length+1+oM l.length) f)
  (λk f=>Bo (l.length+1+k) f (l++[128]++List.replicate k 0)) (oM l.length)
  (λk hk f hf=>by
   have hb2:=L8 hk;have c1:Nat.ble ((l.length+1+k+1)*1) 140737488355328=true:=ay6 (by omega);have c2:Nat.ble (l.length+1+k+1) 9223372036854775807=true:=ay6 (by omega);refine⟨_,by
    simp(disch:=omega) only[kU,oz,WW,a0d,c1,c2,aA7];rfl,?_⟩
   rw[List.replicate_succ',<-ayQ];exact hf.push rfl)
  (λf hf=>by have hb2:=Ql l.length;simp(disch:=omega) only[kU,oz,WW,a0d]) b (by simpa using h)
 exact⟨_,f,h1,h2⟩
theorem acr {s:ByteArray}{l m:List UInt8}{n:Nat}{b:Nat->Int}(hsl:s.size=l.length)(hl:l.length<2^40)(hm:m.length<2^41)(h:Bo n b m):
  ∃n' b',aB kV (oD s n b 7)=some (wm n' b')/\Bo n' b' (m++a0r l.length):=by
 have hn:n=m.length:=h.1;obtain⟨f,h1,h2⟩:=aO (R:=kV) (λk (f:Nat->Int)=>oD s (n+k) f (7-(k:Int))) (λf=>wm (n+8) f)
  (λk f=>Bo (n+k) f (m++(a0r l.length).take k)) 8
  (λk hk f hf=>by
   have c1:Nat.ble ((n+k+1)*1) 140737488355328=true:=ay6 (by omega);have c2:Nat.ble (n+k+1) 9223372036854775807=true:=ay6 (by omega);have e1:IntKind.i64.wrap (8*(7-(k:Int)))=((56-8*k:Nat):Int):=by rw[wrap_i64 (by omega)];omega
   have e2:IntKind.i64.wrap (8*(s.size:Int))=((8*l.length:Nat):Int):=by rw[wrap_i64 (by omega)];omega
   have e3:IntKind.i64.wrap (7-(k:Int)-1)=7-((k+1:Nat):Int):=by rw[wrap_i64 (by omega)];omega
   have hd:8*l.length/2^(56-8*k)<9223372036854775808:=ayh (ayH _ _) (by omega);have e4:ak .and .i64 ((8*l.length/2^(56-8*k):Nat):Int) 255=((8*l.length/2^(56-8*k)%256:Nat):Int):=by rw[show(255:Int)=((255:Nat):Int)from rfl,a1R hd (by decide),show(255:Nat)=2^8-1 from rfl,ayP]
   have hlt:8*l.length/2^(56-8*k)%256<256:=ayk _ (by decide);refine⟨_,by
    simp(disch:=omega) only[kV,oD,WW,e1,e2,e3,a0b,e4,c1,c2,aA7];rfl,?_⟩
   have hll:(a0r l.length).length=8:=by simp[a0r]
   rw[a7i (by omega),<-ayQ];refine hf.push ?_;rw[aaI (by omega)];unfold a0r;rw[ayo,ayD,azu hk];simp only[ayU,Option.getD_some,UInt8.toNat_ofNat'];rw[aAB])
  (λf hf=>by simp(disch:=omega) only[kV,oD,WW]) b (by simpa using h)
 refine⟨_,f,h1,?_⟩;rw[ayX (by simp[a0r])]at h2;exact h2
theorem SH {s:ByteArray}(hs:s.size<2^40): ∃n b,EJ s=some (n,b)/\Bo n b (XT (bl s)):=by
 have hsz:=pU s;have h0:Bo s.size (λi=>((((s).data.toList.getD i 0).toNat:Nat):Int)) (bl s):=⟨hsz,λj hj=>rfl⟩;have h1:=h0.push (v:=128) (x:=128) rfl;obtain⟨n1,b1,z1,z2⟩:=a7l (s:=s) (l:=bl s) (by omega) (b:=glue s.size (λi=>((((s).data.toList.getD i 0).toNat:Nat):Int)) (λj=>upd (λ_=>0) 0 128 (0+j))) (by rw[<-hsz];exact h1);have hz:oM (bl s).length<64:=ayk _ (by decide);obtain⟨n2,b2,y1,y2⟩:=acr (s:=s) (l:=bl s) hsz (by omega) (by rw[ayd,ayd,List.length_replicate];show _+1+_<_;omega) z2;have c1:Nat.ble s.size 9223372036854775807=true:=ay6 (by omega);have c2:Nat.ble ((s.size+1)*1) 140737488355328=true:=ay6 (by omega);have c3:Nat.ble (s.size+1) 9223372036854775807=true:=ay6 (by omega);rw[<-hsz]at z1;simp only[oz,wh]at z1;simp only[oD,wm]at y1;refine⟨n2,λj=>b2 (0+j),?_,?_⟩
 ·rw[KD,Im];simp only[c1,c2,c3,aA7,ayc,z1,y1]
 ·have e0:(λj=>b2 (0+j))=b2:=by funext j;rw[aye]
  rw[e0];exact y2
theorem SI {nb:Nat}{b w t1:Nat->Int}{B:Nat->Nat}(hnb:64<=nb)(hnb2:nb<2^60)(hb:Bs 64 b B)(t:Nat)(ht:t<16):
  gX (gW nb b (t:Int) t1 w)=some (.inl (gW nb b ((t+1:Nat):Int) t1 (upd w t (F7 B t:Int)))):=by
 obtain⟨e0,l0⟩:=hb (4*t) (by omega);obtain⟨e1,l1⟩:=hb (4*t+1) (by omega);obtain⟨e2,l2⟩:=hb (4*t+2) (by omega);obtain⟨e3,l3⟩:=hb (4*t+3) (by omega);have w24: ∀ {x:Nat},x<256->iL .i64 (x:Int) 24=((x*2^24:Nat):Int):=λ{x} hx=>a5K (s:=24) (by decide) (by omega)
 have w16: ∀ {x:Nat},x<256->iL .i64 (x:Int) 16=((x*2^16:Nat):Int):=λ{x} hx=>a5K (s:=16) (by decide) (by omega)
 have w8: ∀ {x:Nat},x<256->iL .i64 (x:Int) 8=((x*2^8:Nat):Int):=λ{x} hx=>a5K (s:=8) (by decide) (by omega)
 have o1:B (4*t)*2^24||| B (4*t+1)*2^16<4294967296:=ayW (n:=32) (by omega) (by omega);have o2:(B (4*t)*2^24||| B (4*t+1)*2^16)||| B (4*t+2)*2^8<4294967296:=ayW (n:=32) o1 (by omega);simp(disch:=omega) only[gX,gW,WW,CC,e0,e1,e2,e3,w24,w16,w8,orS];rw[a5L l0 l1 l2 l3];rfl
theorem a4K {x:Nat}(h:x<9223372036854775808):ak .and .i64 (x:Int) 4294967295=((x%4294967296:Nat):Int):=by rw[show(4294967295:Int)=((4294967295:Nat):Int)from rfl,a1R h (by decide),show(4294967295:Nat)=2^32-1 from rfl,ayP]
theorem SK {w t1:Nat->Int}{W:Nat->Nat}(k:Nat)(hk:k<48)(hw:Ws (16+k) w W):
  gZ (gY ((16+k:Nat):Int) t1 w)=some (.inl (gY ((16+(k+1):Nat):Int) t1 (upd w (16+k) (YC W (16+k):Int)))):=by
 obtain⟨e0,l0⟩:=hw (16+k-15) (by omega);obtain⟨e1,l1⟩:=hw (16+k-2) (by omega);obtain⟨e2,l2⟩:=hw (16+k-16) (by omega);obtain⟨e3,l3⟩:=hw (16+k-7) (by omega);have r1:= @fD (W (16+k-15)) 7 l0;have r2:= @fD (W (16+k-15)) 18 l0;have r3:= @fD (W (16+k-2)) 17 l1;have r4:= @fD (W (16+k-2)) 19 l1;have x1:=kG r1 r2;have x2:=kG r3 r4;have d1:W (16+k-15)/2^3<4294967296:=ayh (ayH _ _) l0;have d2:W (16+k-2)/2^10<4294967296:=ayh (ayH _ _) l1;have x3:=kG x1 d1;have x4:=kG x2 d2;have c1:((16+k:Nat):Int)-15=((16+k-15:Nat):Int):=by omega
 have c2:((16+k:Nat):Int)-2=((16+k-2:Nat):Int):=by omega
 have c3:((16+k:Nat):Int)-16=((16+k-16:Nat):Int):=by omega
 have c4:((16+k:Nat):Int)-7=((16+k-7:Nat):Int):=by omega
 have c5:((16+k:Nat):Int)+1=((16+(k+1):Nat):Int):=by omega
 simp(disch:=omega) only[gZ,gY,c1,c2,c3,c4,c5,WW,e0,e1,e2,e3,Wp,aaY,ajT,Ou,a4K];have hv: ∀a b c d:Nat,(a+b+c+d)%4294967296=(d+c+b+a)%4294967296:=λa b c d=>by congr 1;omega
 simp only[YC,s0N,s1N];rw[hv]
theorem OG {nb:Nat}{b:Nat->Int}{B:Nat->Nat}(hnb:64<=nb)(hnb2:nb<2^60)(hb:Bs 64 b B): ∃w,zC nb b=some w/\Ws 64 w (CZ B 48):=by
 have s0lt: ∀t,t<16->F7 B t<4294967296:=λt ht=>YD (hb _ (by omega)).2 (hb _ (by omega)).2 (hb _ (by omega)).2 (hb _ (by omega)).2
 obtain⟨w1,h1,h2⟩:=aO (R:=gX) (λk (w:Nat->Int)=>gW nb b (k:Int) (λ_=>0) w) (λw=>rJ (λ_=>0) w)
  (λk w=>Ws k w (F7 B)) 16
  (λk hk w hw=>⟨_,SI hnb hnb2 hb k hk,λi hi=>by
   by_cases hik:i=k
   ·subst hik;simp only[upd,azn];exact⟨trivial,s0lt _ hk⟩
   ·simp only[upd,axY hik];exact hw i (by omega)⟩)
  (λw hw=>by simp(disch:=omega) only[gX,gW,WW]) (λ_=>0) (λi hi=>by omega)
 obtain⟨w2,h3,h4⟩:=aO (R:=gZ) (λk (w:Nat->Int)=>gY ((16+k:Nat):Int) (λ_=>0) w) (λw=>rM (λ_=>0) w)
  (λk w=>Ws (16+k) w (CZ B k)) 48
  (λk hk w hw=>⟨_,SK k hk hw,by exact Ws.push hw a2p⟩)
  (λw hw=>by simp(disch:=omega) only[gZ,gY,WW]) w1 h2
 refine⟨w2,?_,h4⟩;have e1:aB gX (gW nb b 0 (λ_=>0) (λ_=>0))=some (rJ (λ_=>0) w1):=h1;have e2:aB gZ (gY 16 (λ_=>0) w1)=some (rM (λ_=>0) w2):=h3;rw[FK,CB];simp only[gW,rJ]at e1;simp only[gY,rM]at e2;rw[e1];simp only;rw[e2]
theorem Wu {v t1 k w x:Nat->Int}{K W X:Nat->Nat}(hk:Ws 64 k K)(hw:Ws 64 w W)(t:Nat)(ht:t<64)(hx:Ws 8 x X):
  ∃y,kg (jZ (t:Int) v t1 w k x)=some (.inl (jZ ((t+1:Nat):Int) v t1 w k y))/\Ws 8 y (Cc (K t) (W t) X):=by
 obtain⟨e0,l0⟩:=hx 0 (by omega);obtain⟨e1,l1⟩:=hx 1 (by omega);obtain⟨e2,l2⟩:=hx 2 (by omega);obtain⟨e3,l3⟩:=hx 3 (by omega);obtain⟨e4,l4⟩:=hx 4 (by omega);obtain⟨e5,l5⟩:=hx 5 (by omega);obtain⟨e6,l6⟩:=hx 6 (by omega);obtain⟨e7,l7⟩:=hx 7 (by omega);obtain⟨ek,lk⟩:=hk t ht;obtain⟨ew,lw⟩:=hw t ht;have r1:= @fD (X 4) 6 l4;have r2:= @fD (X 4) 11 l4;have r3:= @fD (X 4) 25 l4;have r4:= @fD (X 0) 2 l0;have r5:= @fD (X 0) 13 l0;have r6:= @fD (X 0) 22 l0;have x1:=kG r1 r2;have x2:=kG r4 r5;have x3:=kG x1 r3;have x4:=kG x2 r6;have nx:4294967295^^^ X 4<4294967296:=kG (by decide) l4;have nn:ak .xor .i64 4294967295 (X 4:Int)=((4294967295^^^ X 4:Nat):Int):=by rw[show(4294967295:Int)=((4294967295:Nat):Int)from rfl,ajT (by decide) (by omega)]
 have a1:X 4&&& X 5<4294967296:=ayh azM l4;have a2:(4294967295^^^ X 4)&&& X 6<4294967296:=ayh azM nx;have a3:X 0&&& X 1<4294967296:=ayh azM l0;have a4:X 0&&& X 2<4294967296:=ayh azM l0;have a5:X 1&&& X 2<4294967296:=ayh azM l1;have a6:=kG a1 a2;have a7:=kG a3 a4;have a8:=kG a7 a5;refine⟨_,by
  simp(disch:=omega) only[kg,jZ,WW,e0,e1,e2,e3,e4,e5,e6,e7,ek,ew,Wp,nn,ajT,a1R,Ou,VH,a4K];rfl,?_⟩
 have hl:=a2s (k:=K t) (w:=W t) (x:=X) (λi hi=>(hx i hi).2);have hch:=acn (f:=X 5) l4 l6;have hmj:=aaZ (X 0) (X 1) (X 2);intro i hi;refine⟨?_,hl i hi⟩
 match i,hi with
 |0,_=>
  simp only[upd,axY (show¬(0=1)by decide),axY (show¬(0=2)by decide),axY (show¬(0=3)by decide),axY (show¬(0=4)by decide),axY (show¬(0=5)by decide),axY (show¬(0=6)by decide),axY (show¬(0=7)by decide),azn,Cc,S1N,S0N];rw[hch,hmj]
  congr 2;omega
 |4,_=>
  simp only[upd,axY (show¬(4=5)by decide),axY (show¬(4=6)by decide),axY (show¬(4=7)by decide),azn,Cc,S1N];rw[hch]
 |1,_=>simp only[upd,axY (show¬(1=2)by decide),axY (show¬(1=3)by decide),axY (show¬(1=4)by decide),axY (show¬(1=5)by decide),axY (show¬(1=6)by decide),axY (show¬(1=7)by decide),azn,Cc]
 |2,_=>simp only[upd,axY (show¬(2=3)by decide),axY (show¬(2=4)by decide),axY (show¬(2=5)by decide),axY (show¬(2=6)by decide),axY (show¬(2=7)by decide),azn,Cc]
 |3,_=>simp only[upd,axY (show¬(3=4)by decide),axY (show¬(3=5)by decide),axY (show¬(3=6)by decide),axY (show¬(3=7)by decide),azn,Cc]
 |5,_=>simp only[upd,axY (show¬(5=6)by decide),axY (show¬(5=7)by decide),azn,Cc]
 |6,_=>simp only[upd,axY (show¬(6=7)by decide),azn,Cc]
 |7,_=>simp only[upd,azn,Cc]
theorem Wv {v b:Nat->Int}{V B:Nat->Nat}{nb:Nat}(hnb:64<=nb)(hnb2:nb<2^60)(hv:Ws 8 v V)(hb:Bs 64 b B): ∃r,JE v nb b=some r/\Ws 8 r (Qk V B):=by
 obtain⟨k,hk1,hk2⟩:=a2o;obtain⟨w,hw1,hw2⟩:=OG hnb hnb2 hb;obtain⟨x,h1,h2⟩:=aO (R:=kg) (λt (x:Nat->Int)=>jZ (t:Int) v (λ_=>0) w k x) (λx=>yG v (λ_=>0) x)
  (λt x=>Ws 8 x (ab0 kN (CZ B 48) V t)) 64 (λt ht x hx=>Wu hk2 hw2 t ht hx)
  (λx hx=>by simp(disch:=omega) only[kg,jZ,WW]) v hv
 obtain⟨y,h3,h4⟩:=aO (R:=mR) (λt (o:Nat->Int)=>qI (t:Int) v (λ_=>0) x o) (λo=>yH (λ_=>0) o)
  (λt o=> ∀i,i<t->o i=(Qk V B i:Int)) 8
  (λt ht z hz=>by
   obtain⟨ev,lv⟩:=hv t ht;obtain⟨ex,lx⟩:=h2 t ht;refine⟨_,by
    simp(disch:=omega) only[mR,qI,WW,ev,ex,Ou,VH,a4K];rfl,?_⟩
   intro i hi;by_cases hit:i=t
   ·subst hit;simp only[upd,azn,Qk];rw[azp]
   ·simp only[upd,axY hit];exact hz i (by omega))
  (λx hx=>by simp(disch:=omega) only[mR,qI,WW]) (λ_=>0) (λi hi=>by omega)
 refine⟨y,?_,λi hi=>⟨h4 i hi,ayk _ (by decide)⟩⟩;have e1:aB kg (jZ 0 v (λ_=>0) w k v)=some (yG v (λ_=>0) x):=h1;have e2:aB mR (qI 0 v (λ_=>0) x (λ_=>0))=some (yH (λ_=>0) y):=h3;rw[O5,LX,hw1,Mk,hk1];simp only[jZ,yG]at e1;simp only[qI,yH]at e2;simp only;rw[e1];simp only;rw[e2]
theorem Ww:JD=Dy:=by rw[O4,ET];rfl
theorem a0t {s:ByteArray}(hs:s.size<2^40):O6 s=some (yu (bl s)):=by
 obtain⟨nb,b,p1,p2,p3⟩:=SH hs;obtain⟨f,f1,f2⟩:=YE;have hlen:=a2t (bl s);have hmod:=ab2 (bl s);have hz:oM (bl s).length<64:=ayk _ (by decide);have hsz:=pU s;have hnb:nb=64*((XT (bl s)).length/64):=by omega
 generalize hP:XT (bl s)=P at*;generalize hM:P.length/64=M at*;obtain⟨v,v1,v2⟩:=aO (R:=tu) (λk (v:Nat->Int)=>Ip nb b ((64*k:Nat):Int) v) (λv=>KG v) (λk v=>Ws 8 v (kQ P k)) M
  (λk hk v hv=>by
   obtain⟨r,r1,r2⟩:=Wv (nb:=64*k+64-64*k) (b:=λj=>b (64*k+j)) (B:=bN P k) (by omega) (by omega) hv (by intro i hi;unfold bN;rw[ay5 hi];exact⟨p3 _ (by omega),UInt8.toNat_lt _⟩);refine⟨r,?_,r2⟩;have e1:((64*k:Nat):Int)+64=((64*k+64:Nat):Int):=by omega
   simp(disch:=omega) only[tu,Ip,WW,e1,aA7,r1];rfl)
  (λv hv=>by simp(disch:=omega) only[tu,Ip,WW]) f f2
 obtain⟨out,o1,o2⟩:=aO (R:=tF) (λk (g:Nat->Int)=>Iq (4*k) g (k:Int) v) (λg=>KH 32 g) (λk g=> ∀i,i<4*k->g i=(Qm (kQ P M) i:Int)) 8
  (λk hk g hg=>by
   obtain⟨e,lt⟩:=v2 k hk;have c1:Nat.ble ((4*k+1)*1) 140737488355328=true:=ay6 (by omega);have c2:Nat.ble (4*k+1) 9223372036854775807=true:=ay6 (by omega);have c3:Nat.ble ((4*k+1+1)*1) 140737488355328=true:=ay6 (by omega);have c4:Nat.ble (4*k+1+1) 9223372036854775807=true:=ay6 (by omega);have c5:Nat.ble ((4*k+1+1+1)*1) 140737488355328=true:=ay6 (by omega);have c6:Nat.ble (4*k+1+1+1) 9223372036854775807=true:=ay6 (by omega);have c7:Nat.ble ((4*k+1+1+1+1)*1) 140737488355328=true:=ay6 (by omega);have c8:Nat.ble (4*k+1+1+1+1) 9223372036854775807=true:=ay6 (by omega);have hd: ∀s:Nat,kQ P M k/2^s<9223372036854775808:=λs=>ayh (ayH _ _) (by omega)
   have e255: ∀s:Nat,ak .and .i64 ((kQ P M k/2^s:Nat):Int) 255=((kQ P M k/2^s%256:Nat):Int):=λs=>by rw[show(255:Int)=((255:Nat):Int)from rfl,a1R (hd s) (by decide),show(255:Nat)=2^8-1 from rfl,ayP]
   have e0:bG .i64 ((kQ P M k:Nat):Int) 0=((kQ P M k/2^0:Nat):Int):=a0b (s:=0) (by omega);refine⟨_,by
    simp(disch:=omega) only[tF,Iq,e,WW,CC,e0,aaY,e255,Wo,aAB,c1,c2,c3,c4,c5,c6,c7,c8,aA7];rfl,?_⟩
   have ltb: ∀a b:Nat,a<b->Nat.blt a b=true:=λa b h=>ay6 h
   have geb: ∀a b:Nat,¬a<b->Nat.blt a b=false:=λa b h=>by
    cases hb:Nat.blt a b
    ·rfl
    ·exact absurd (ayb hb) h
   intro i hi;unfold glue;by_cases hik:i<4*k
   ·rw[ltb i _ (by omega),ltb i _ (by omega),ltb i _ (by omega),ltb i _ hik];exact hg i hik
   ·have hdv:i/4=k:=by omega
    have h4:i=4*k\/i=4*k+1\/i=4*k+2\/i=4*k+3:=by omega
    rcases h4 with h4|h4|h4|h4
    ·have hm:i%4=0:=by omega
     rw[ltb i _ (by omega),ltb i _ (by omega),ltb i _ (by omega),geb i _ (by omega),Qm,hdv,hm,h4];simp only[ayc,ayr,azz];rfl
    ·have hm:i%4=1:=by omega
     rw[ltb i _ (by omega),ltb i _ (by omega),geb i _ (by omega),Qm,hdv,hm,h4];simp only[ayc,ayr,azz];rfl
    ·have hm:i%4=2:=by omega
     rw[ltb i _ (by omega),geb i _ (by omega),Qm,hdv,hm,h4];simp only[ayc,ayr,azz];rfl
    ·have hm:i%4=3:=by omega
     rw[geb i _ (by omega),Qm,hdv,hm,h4];simp only[ayr,azz];rfl)
  (λg hg=>by simp(disch:=omega) only[tF,Iq,WW]) (λ_=>0) (λi hi=>by omega)
 have v1':aB tu (((nb,b),((),(0,()))),(f,()))=some (KG v):=v1;have o1':aB tF (((),((0,(λ_=>0)),(0,()))),(v,()))=some (KH 32 out):=o1;rw[Vm,Vl,p1,Ww,f1];simp only[v1',o1'];rw[RU (v:=kQ P M) (λj hj=>o2 j (by omega))];unfold yu;rw[hP,hM]
open Go Go.Den Go.Num
section
variable {P Q G:Nat}
open Classical in
open Classical in
open Classical in
end
open Go Go.Den
def vcn(p:Nat->Bool):Nat->Nat|0=>0|n+1=>vcn p n+(if p n then 1 else 0)
theorem a4L(p:Nat->Bool): ∀n,vcn p n<=n
 |0=>ay7 _
 |n+1=>by have:=a4L p n;simp only[vcn];split<;>omega
theorem Qo {p q:Nat->Bool} : ∀ {n:Nat},(∀k,k<n->p k=q k)->vcn p n=vcn q n
 |0,_=>rfl
 |n+1,h=>by rw[vcn,vcn,Qo (n:=n) λk hk=>h k (by omega),h n (by omega)]
theorem a5M {p q:Nat->Bool}{j:Nat}(h: ∀k,k≠j->q k=p k): ∀ {n:Nat},j<n->vcn q n+(if p j then 1 else 0)=vcn p n+(if q j then 1 else 0)
 |0,hj=>by omega
 |n+1,hj=>by
  simp only[vcn];by_cases e:j=n
  ·subst e;rw[Qo (p:=q) (q:=p) λk hk=>h k (by omega)];omega
  ·have:=a5M h (n:=n) (by omega);rw[h n (Ne.symm e)];omega
abbrev aC:=Int×Int
abbrev Gc:=aC×ByteArray
abbrev Gs:=Nat->Nat->Nat->Gc
def j5(s:aC):Prop:=1<=s.1/\s.1<=1099511627776/\1<=s.2/\s.2<=4
instance (s:aC):Decidable (j5 s):=by unfold j5;infer_instance
theorem J7(s:aC):wH s=some (decide (j5 s)):=by
 rw[Ol];unfold M9;rw[FZ];unfold CU j5;by_cases h1:s.1>=1
 ·by_cases h2:s.1<=1099511627776
  ·by_cases h3:s.2>=1<;>simp[h1,h2,h3]
  ·simp[h1,h2]
 ·simp[h1]
theorem OH(x:Int):ak .and .i64 x 1=x%2:=Ot (k:=1) (by decide)
def hit(c:Gc)(s:aC)(d:ByteArray):Bool:=eqF (.pair (.int .i64) (.int .i64)) c.1 s&&sEq c.2 d
theorem YF {c:Gc}{s:aC}{d:ByteArray}(h:hit c s d=true):c.1=s:=by simp only[hit,eqF,axZ,aAl]at h;exact Prod.ext h.1.1 h.1.2
theorem a2u(s:aC)(d:ByteArray):hit (s,d) s d=true:=by simp[hit,eqF,sEq]
theorem YG(s:aC):eqF (.pair (.int .i64) (.int .i64)) s s=true:=by simp[eqF]
theorem YH {s t:aC}(h:s≠t):eqF (.pair (.int .i64) (.int .i64)) s t=false:=by
 cases hb:eqF (.pair (.int .i64) (.int .i64)) s t with
 |false=>rfl
 |true=>
  simp only[eqF,axZ,aAl]at hb;exact absurd (Prod.ext hb.1 hb.2) h
def okV(N:Nat)(F:Gs)(srv:Int)(s:aC):Prop:=j5 s/\1<=srv/\srv<=(N:Int)/\(F (srv-1).toNat (s.2-1).toNat (s.1%2).toNat).1.1<s.1
instance (N:Nat) (F:Gs) (srv:Int) (s:aC):Decidable (okV N F srv s):=by unfold okV;infer_instance
def kH(F:Gs)(srv:Int)(s:aC)(d:ByteArray):Gs:=λa b c=>if a=(srv-1).toNat/\b=(s.2-1).toNat/\c=(s.1%2).toNat then(s,d)else F a b c
theorem acs(F:Gs)(srv:Int)(s:aC)(d:ByteArray)(i j k:Nat)(hi:i=(srv-1).toNat)(hj:j=(s.2-1).toNat)(hk:k=(s.1%2).toNat):upd F i (upd (F i) j (upd (F i j) k (s,d)))=kH F srv s d:=by
 funext a b c
 simp only[kH,<-hi,<-hj,<-hk];by_cases h1:a=i
 ·subst h1;rw[upd_same];by_cases h2:b=j
  ·subst h2;rw[upd_same];by_cases h3:c=k
   ·subst h3;rw[upd_same,ay5 ⟨rfl,rfl,rfl⟩]
   ·rw[upd_ne h3,axY λh=>h3 h.2.2]
  ·rw[upd_ne h2,axY λh=>h2 h.2.1]
 ·rw[upd_ne h1,axY λh=>h1 h.1]
theorem pV {N:Nat}(hN:N<=7)(F:Gs)(srv:Int)(hs:srv<9223372036854775808)(s:aC)(d:ByteArray):
  fP srv s d ((N:Int),F)=some ((decide (okV N F srv s),()),(((N:Int),if okV N F srv s then kH F srv s d else F),())):=by
 rw[xZ];unfold rX;simp only[J7,OH];by_cases h1:j5 s
 ·obtain⟨m1,m2,m3,m4⟩:=id h1;by_cases h2:1<=srv
  ·by_cases h3:srv<=(N:Int)
   ·have e1:IntKind.i64.wrap (srv-1)=srv-1:=wrap_i64 (by omega);have e2:IntKind.i64.wrap (s.2-1)=s.2-1:=wrap_i64 (by omega);rw[e1,e2];by_cases h4:(F (srv-1).toNat (s.2-1).toNat (s.1%2).toNat).1.1<s.1
    ·have ho:okV N F srv s:=⟨h1,h2,h3,h4⟩;simp(disch:=omega) only[WW,h1,ho,acs F srv s d _ _ _ rfl rfl rfl,ay5];rfl
    ·have ho: ¬okV N F srv s:=λh=>h4 h.2.2.2
     simp(disch:=omega) only[WW,h1,ho,azm]
     try rfl
   ·have ho: ¬okV N F srv s:=λh=>h3 h.2.2.1
    simp(disch:=omega) only[WW,h1,ho,azm]
  ·have ho: ¬okV N F srv s:=λh=>h2 h.2.1
   simp(disch:=omega) only[WW,h1,ho,azm]
 ·have ho: ¬okV N F srv s:=λh=>h1 h.1
  simp(disch:=omega) only[WW,h1,ho,azm]
def yR(N:Nat)(F:Gs)(s:aC)(d:ByteArray):Nat:=if j5 s then vcn (λk=>hit (F k (s.2-1).toNat (s.1%2).toNat) s d) N else 0
theorem DZ {N:Nat}(hN:N<=7)(F:Gs)(s:aC)(d:ByteArray):iP (some ((N:Int),F)) s d=some ((yR N F s d:Nat):Int):=by
 rw[y9];unfold lZ;simp only[J7];unfold yR;by_cases h1:j5 s
 ·obtain⟨m1,m2,m3,m4⟩:=id h1;have e2:IntKind.i64.wrap (s.2-1)=s.2-1:=wrap_i64 (by omega);obtain⟨z,hy,hQ⟩:=aO (R:=dB) (λk (n:Nat)=>Gl ((N:Int),F) d (n:Int) (N:Int) (k:Int) s) (λn=>tH (n:Int))
   (λk n=>n=vcn (λk=>hit (F k (s.2-1).toNat (s.1%2).toNat) s d) k) N
   (λk hk n hP=>by
    subst hP;have hle:=a4L (λk=>hit (F k (s.2-1).toNat (s.1%2).toNat) s d) k;have e:eqF (.pair (.pair (.int .i64) (.int .i64)) .str) (F k (s.2-1).toNat (s.1%2).toNat) (s,d)=hit (F k (s.2-1).toNat (s.1%2).toNat) s d:=rfl;cases hh:hit (F k (s.2-1).toNat (s.1%2).toNat) s d
    ·refine⟨_,?_,rfl⟩;unfold dB;simp(disch:=omega) only[CC,WW,OH,e2,e,hh,vcn,az6,ayE,azm]
    ·refine⟨_,?_,rfl⟩;unfold dB;simp(disch:=omega) only[CC,WW,OH,e2,e,hh,vcn,azn])
   (λn hP=>by unfold dB;simp(disch:=omega) only[CC,WW]) 0 rfl
  have hy':aB dB ((((N:Int),F),(d,((),(0,((N:Int),(0,())))))),(s,()))=some (tH (z:Int)):=hy;simp only[h1,aAK,ayK,ayr,hy',azn,hQ]
 ·simp only[h1,decide_false,azB,ayc,azm];rfl
def atT(N:Nat)(F:Gs)(srv cl odd:Int):Gc:=if 1<=srv/\srv<=(N:Int)/\1<=cl/\cl<=4/\0<=odd/\odd<=1 then F (srv-1).toNat (cl-1).toNat odd.toNat else((0,0),ByteArray.mk #[])
theorem xG {N:Nat}(hN:N<=7)(F:Gs)(srv cl odd:Int):jk (some ((N:Int),F)) srv cl odd=some (atT N F srv cl odd):=by
 rw[C8];unfold rD atT;by_cases h1:1<=srv
 ·by_cases h2:srv<=(N:Int)
  ·by_cases h3:1<=cl
   ·by_cases h4:cl<=4
    ·by_cases h5:0<=odd
     ·by_cases h6:odd<=1
      ·have e1:IntKind.i64.wrap (srv-1)=srv-1:=wrap_i64 (by omega);have e2:IntKind.i64.wrap (cl-1)=cl-1:=wrap_i64 (by omega);rw[ay5 ⟨h1,h2,h3,h4,h5,h6⟩];simp(disch:=omega) only[WW,e1,e2]
      ·rw[axY (by omega)];simp(disch:=omega) only[WW]
     ·rw[axY (by omega)];simp(disch:=omega) only[WW]
    ·rw[axY (by omega)];simp(disch:=omega) only[WW]
   ·rw[axY (by omega)];simp(disch:=omega) only[WW]
  ·rw[axY (by omega)];simp(disch:=omega) only[WW]
 ·rw[axY (by omega)];simp(disch:=omega) only[WW]
def dJ(p q:aC):Prop:=q.1<p.1\/(q.1=p.1/\q.2<p.2)
instance (p q:aC):Decidable (dJ p q):=by unfold dJ;infer_instance
def ajW(x y:Int):Int:=if x<y then-1 else if y<x then 1 else 0
theorem Qp(x y:Int):kZ x y=some (ajW x y):=by
 rw[ze];unfold uM;rw[BX];unfold yM ajW;by_cases h1:x<y
 ·simp[h1]
 ·by_cases h2:y<x<;>simp[h1,h2]
theorem a2v(a b:Int):BZ 2 (λj=>(upd (upd (λ_=>0) 0 a) 1 b) (0+j))=some (if a≠0 then a else b):=by
 rw[IQ];unfold EX;have step: ∀i:Nat,i<2->eU (iT 0 2 (λj=>(upd (upd (λ_=>0) 0 a) 1 b) (0+j)) 2 (i:Int))=
   some (if(if i=0 then a else b)≠0 then .inr (nJ (if i=0 then a else b))else .inl (iT 0 2 (λj=>(upd (upd (λ_=>0) 0 a) 1 b) (0+j)) 2 ((i+1:Nat):Int))):=by
  intro i hi;have hv:(upd (upd (λ_=>(0:Int)) 0 a) 1 b) (0+i)=if i=0 then a else b:=by rcases(by omega:i=0\/i=1)with rfl|rfl<;>rfl
  by_cases h:(if i=0 then a else b)=0
  ·simp(disch:=omega) only[eU,iT,WW,CC,hv,h,az7,ne_eq,az4,azm]
  ·simp(disch:=omega) only[eU,iT,WW,CC,hv,h,ne_eq,not_false_eq_true,azn,RJ h]
 have e:eU (iT 0 2 (λj=>(upd (upd (λ_=>0) 0 a) 1 b) (0+j)) 2 ((2:Nat):Int))=some (.inr (uN 0)):=by simp(disch:=omega) only[eU,iT,WW,CC]
 have L:aB eU (iT 0 2 (λj=>(upd (upd (λ_=>0) 0 a) 1 b) (0+j)) 2 0)=some (if a≠0 then nJ a else if b≠0 then nJ b else uN 0):=by
  have s0:=step 0 (by omega);have s1:=step 1 (by omega);rw[ay5 rfl]at s0;rw[axY (show¬(1=0)by decide)]at s1;by_cases ha:a≠0
  ·rw[ay5 ha]at s0⊢;exact dM s0
  ·rw[axY ha]at s0⊢;refine(nU s0).trans ?_;by_cases hb:b≠0
   ·rw[ay5 hb]at s1⊢;exact dM s1
   ·rw[axY hb]at s1⊢;exact(nU s1).trans (dM e)
 have L':aB eU ((0,((2,(λj=>(upd (upd (λ_=>0) 0 a) 1 b) (0+j))),((((2:Nat):Int)),(0,())))),())=_:=L;rw[L'];by_cases ha:a=0<;>by_cases hb:b=0<;>simp[ha,hb,nJ,uN]
theorem Ml(p q:aC): ∃r,xD p q=some r/\(r>0↔dJ p q):=by
 rw[DU];unfold Av;refine⟨_,by simp only[Qp,a2v];rfl,?_⟩;unfold ajW dJ;by_cases h1:p.1<q.1
 ·simp[h1];omega
 ·by_cases h2:q.1<p.1
  ·simp[h1,h2]
  ·have h3:p.1=q.1:=by omega
   by_cases h4:p.2<q.2
   ·simp[h1,h2,h3,h4];omega
   ·by_cases h5:q.2<p.2<;>simp[h1,h2,h3,h4,h5]
abbrev iN:=Nat×(Nat->OU)
def app(o:iN)(x:OU):iN:=(o.1+1,glue o.1 o.2 (λj=>(upd (λ_=>zOU) 0 x) (0+j)))
def apps(o:iN)(l:List OU):iN:=l.foldl app o
theorem eO(o:iN):apps o []=o:=rfl
theorem J8(o:iN)(x:OU):app o x=apps o [x]:=rfl
theorem jm(o:iN)(l m:List OU):apps (apps o l) m=apps o (l++m):=by simp[apps,List.foldl_append]
theorem gQ: ∀(l:List OU) (o:iN),(apps o l).1=o.1+l.length
 | [],o=>rfl
 |x::l,o=>by show(apps (app o x) l).1=_;rw[gQ l];simp[app];omega
structure Rc where
 v:VA
 e:Gs
 r:Gs
 c:Nat->CL
structure Fr where
 T:Nat
 I:Nat
 N:Nat
 key:ByteArray
structure Fx where
 g:GR
 b:BG×Nat
 sp:SP
structure Fr.Ok(f:Fr):Prop where
 T:1<=f.T/\f.T<=2
 N:f.N=3*f.T+1
 I:1<=f.I/\f.I<=f.N
theorem Fr.Ok.n7 {f:Fr}(h:f.Ok):f.N<=7:=by have:=h.T;have:=h.N;omega
@[reducible] def Fr.so (f:Fr) (z:Fx) (o:iN):SO:=(z.g,((f.T:Int),((f.I:Int),((f.N:Int),((3:Int),((),(z.b,o)))))))
@[reducible] def Fr.rc (f:Fr) (x:Rc):RC:=(x.v,(f.key,((),((),x.c))))
@[reducible] def Fr.mk' (f:Fr) (z:Fx) (x:Rc) (o:iN):SR:=(f.so z o,(f.rc x,(((f.N:Int),x.e),(((f.N:Int),x.r),(z.sp,())))))
section
variable {f:Fr} {z:Fx}
theorem su(hf:f.Ok)(x:Rc)(o:iN)(ho:o.1<1000000000)(to_ k op:Int)(key:ByteArray)(st:aC)(dg:ByteArray)(nm:Nat)(m:Nat->SlV (Nat->Int))(ny:Nat)(y:Nat->(Nat->Int)):
  bI to_ k op key st dg nm m ny y (f.mk' z x o)=some ((),f.mk' z x (app o (to_,(k,(op,(key,(st,(dg,((.fz nm m),(.fz ny y)))))))))):=by
 rw[qM];unfold mh;have h1:Nat.ble ((o.1+1)*120) 140737488355328=true:=ay6 (by omega);have h2:Nat.ble (o.1+1) 9223372036854775807=true:=ay6 (by omega);simp only[Fr.mk',Fr.so,h1,h2,aAD,ayc];rfl
def stP(f:Fr)(x:Rc)(c:Nat):OU:=(((f.N+(c+1):Nat):Int),(3,((x.c c).2.2.1,(f.key,(x.v.1,(x.v.2.1,((.fz x.v.2.2.1.1 x.v.2.2.1.2),(.fz x.v.2.2.2.1 x.v.2.2.2.2))))))))
def J9(f:Fr)(x:Rc)(c:Nat):List OU:=if 0<(x.c c).2.2.1 then [stP f x c]else []
def XU(f:Fr)(x:Rc):Nat->List OU|0=>[]|n+1=>XU f x n++J9 f x n
def OI(f:Fr)(x:Rc):List OU:=XU f x 3
theorem YI(x:Rc)(c:Nat):(J9 f x c).length<=1:=by unfold J9;split<;>simp
theorem yw(x:Rc): ∀n,(XU f x n).length<=n
 |0=>ay7 _
 |n+1=>by have:=yw x n;have:=YI (f:=f) x n;rw[XU,ayd];omega
theorem Wx(hf:f.Ok)(x:Rc)(o:iN)(ho:o.1+3<1000000000):dz (f.mk' z x o)=some ((),f.mk' z x (apps o (OI f x))):=by
 rw[uQ];unfold oI;have hn:=hf.n7;obtain⟨s,h1,rfl⟩:=aO (R:=bR) (S:=iN)
  (λi s=>fT 3 (i:Int) (f.so z s,(f.rc x,(((f.N:Int),x.e),(((f.N:Int),x.r),(z.sp,((),((),()))))))))
  (λs=>yO (f.so z s,(f.rc x,(((f.N:Int),x.e),(((f.N:Int),x.r),(z.sp,((),((),()))))))))
  (λi s=>s=apps o (XU f x i)) 3
  (λi hi s hs=>by
   subst hs;have hl:(apps o (XU f x i)).1<1000000000:=by rw[gQ];have:=yw (f:=f) x i;omega
   refine⟨_,?_,rfl⟩;have hs:=su (z:=z) hf x (apps o (XU f x i)) hl (((f.N+(i+1):Nat):Int)) 3 (x.c i).2.2.1 f.key x.v.1 x.v.2.1 x.v.2.2.1.1 x.v.2.2.1.2 x.v.2.2.2.1 x.v.2.2.2.2;simp only[Fr.mk']at hs;simp only[XU,J9];by_cases hop:0<(x.c i).2.2.1
   ·rw[ay5 hop,<-jm,<-J8];simp(disch:=omega) only[bR,fT,WW,CC,hs,stP]
   ·rw[axY hop,azi];simp(disch:=omega) only[bR,fT,WW,CC])
  (λs hs=>by simp(disch:=omega) only[bR,fT,WW,CC]) o rfl
 have h1':aB bR (((),((),((3:Int),(0,())))),(f.so z o,(f.rc x,(((f.N:Int),x.e),(((f.N:Int),x.r),(z.sp,((),((),()))))))))=_:=h1;simp only[Fr.mk',h1'];rfl
def voP(f:Fr)(k:Int)(p:aC)(d:ByteArray)(i:Nat):OU:=(((i+1:Nat):Int),(k,(0,(f.key,(p,(d,((.fz 0 (λ_=>.nil)),(.fz 0 zNN))))))))
def Qq(f:Fr)(k:Int)(p:aC)(d:ByteArray):Nat->List OU|0=>[]|n+1=>Qq f k p d n++if n+1=f.I then []else [voP f k p d n]
def F8(f:Fr)(k:Int)(p:aC)(d:ByteArray):List OU:=Qq f k p d f.N
theorem Wy(k:Int)(p:aC)(d:ByteArray): ∀n,(Qq f k p d n).length<=n
 |0=>ay7 _
 |n+1=>by have:=Wy k p d n;rw[Qq,ayd];split<;>simp<;>omega
theorem F9(hf:f.Ok)(x:Rc)(o:iN)(ho:o.1+7<1000000000)(k:Int)(p:aC)(d:ByteArray):bE k p d (f.mk' z x o)=some ((),f.mk' z x (apps o (F8 f k p d))):=by
 rw[oJ];unfold kD;have hn:=hf.n7;obtain⟨s,h1,rfl⟩:=aO (R:=bL) (S:=iN)
  (λi s=>fC k d (f.N:Int) (i:Int) (f.so z s,(f.rc x,(((f.N:Int),x.e),(((f.N:Int),x.r),(z.sp,(p,())))))))
  (λs=>yg (f.mk' z x s))
  (λi s=>s=apps o (Qq f k p d i)) f.N
  (λi hi s hs=>by
   subst hs;have hl:(apps o (Qq f k p d i)).1<1000000000:=by rw[gQ];have:=Wy (f:=f) k p d i;omega
   refine⟨_,?_,rfl⟩;have hs:=su (z:=z) hf x (apps o (Qq f k p d i)) hl (((i+1:Nat):Int)) k 0 f.key p d 0 (λ_=>.nil) 0 zNN;simp only[Fr.mk']at hs;simp only[Qq];by_cases hop:i+1=f.I
   ·rw[ay5 hop,azi];have e:(((i+1:Nat):Int) !=(f.I:Int))=false:=a1Q (by omega);simp(disch:=omega) only[bL,fC,WW,CC,e]
   ·rw[axY hop,<-jm,<-J8];have e:(((i+1:Nat):Int) !=(f.I:Int))=true:=RJ (by omega);simp(disch:=omega) only[bL,fC,WW,CC,e,hs,voP])
  (λs hs=>by simp(disch:=omega) only[bL,fC,WW,CC]) o rfl
 have h1':aB bL (((),(k,((),(d,((),((f.N:Int),(0,()))))))),(f.so z o,(f.rc x,(((f.N:Int),x.e),(((f.N:Int),x.r),(z.sp,(p,())))))))=_:=h1;simp only[Fr.mk',h1'];rfl
theorem oN(p:aC)(o:CR):cu p o=some ((decide (dJ p o.1.1.1),()),o):=by rw[qN];unfold mo;obtain⟨r,h1,h2⟩:=Ml p o.1.1.1;simp only[h1,h2]
def Gd(p q:aC):Prop:=IntKind.i64.wrap (p.1-1)<=q.1
instance (p q:aC):Decidable (Gd p q):=by unfold Gd;infer_instance
theorem Qr(p:aC)(o:CR):iJ p o=some ((decide (Gd p o.1.1.1),()),o):=by rw[tJ];rfl
end
open Go Go.Den
abbrev RcW:=Rc×List OU
def fZ(a:RcW)(F:Rc->RcW):RcW:=((F a.1).1,a.2++(F a.1).2)
abbrev E5:=aC->ByteArray->Rc->RcW
def Ja(f:Fr)(i:Nat)(q:PR):OU:=(((f.N+(i+1):Nat):Int),(7,(q.2,(f.key,(q.1.1,(ByteArray.empty,((.fz 0 (λ_=>.nil)),(.fz 0 zNN))))))))
def a2w(q:PR)(p:aC):Prop:=0<q.2/\ ¬dJ q.1.1 p
instance (q:PR) (p:aC):Decidable (a2w q p):=by unfold a2w;infer_instance
def E8(f:Fr)(i:Nat)(x:Rc):RcW:=if a2w ((x.c i).1 0) x.v.1 then({ x with c:=upd x.c i ((upd (x.c i).1 0 (((x.c i).1 0).1,0)),(x.c i).2) },[Ja f i ((x.c i).1 0)])else(x,[])
def E9(f:Fr)(i:Nat)(x:Rc):RcW:=if a2w ((x.c i).1 1) x.v.1 then({ x with c:=upd x.c i ((upd (x.c i).1 1 (((x.c i).1 1).1,0)),(x.c i).2) },[Ja f i ((x.c i).1 1)])else(x,[])
def Fa(f:Fr)(i:Nat)(x:Rc):RcW:=if a2w (x.c i).2.1 x.v.1 then({ x with c:=upd x.c i ((x.c i).1,(((x.c i).2.1.1,0),(x.c i).2.2)) },[Ja f i (x.c i).2.1])else(x,[])
def Qs(f:Fr)(i:Nat)(x:Rc):RcW:=fZ (fZ (E8 f i x) (E9 f i)) (Fa f i)
def zh(f:Fr)(x:Rc):Nat->RcW|0=>(x,[])|n+1=>fZ (zh f x n) (Qs f n)
def takeC(x:Rc)(p:PR):Nat->CL:=
 if((x.c (p.1.1.2-1).toNat).1 (p.1.1.1%2).toNat).1.1.1<p.1.1.1 then upd x.c (p.1.1.2-1).toNat ((upd (x.c (p.1.1.2-1).toNat).1 (p.1.1.1%2).toNat p),(x.c (p.1.1.2-1).toNat).2)else x.c
def uU(f:Fr)(p:aC)(d:ByteArray)(x:Rc):Prop:=2*f.T<yR f.N x.e p d\/f.T<yR f.N x.r p d
instance (f:Fr) (p:aC) (d:ByteArray) (x:Rc):Decidable (uU f p d x):=by unfold uU;infer_instance
def nC(f:Fr)(p:aC)(d:ByteArray)(x:Rc):RcW:=if uU f p d x/\okV f.N x.r f.I p then({ x with r:=kH x.r f.I p d },F8 f 6 p d)else(x,[])
def endP(f:Fr)(rec:E5)(p:aC)(d:ByteArray)(x:Rc):RcW:=if 2*f.T<yR f.N x.r p d/\dJ p x.v.1 then rec p d x else(x,[])
def jF(f:Fr)(rec:E5)(p:aC)(d:ByteArray)(x:Rc):RcW:=fZ (nC f p d x) (endP f rec p d)
def nD(f:Fr)(rec:E5)(p:PR)(x:Rc):RcW:=
 if okV f.N x.e f.I p.1.1 then fZ ({ x with c:=takeC x p,e:=kH x.e f.I p.1.1 p.1.2.1 },F8 f 5 p.1.1 p.1.2.1) (jF f rec p.1.1 p.1.2.1)else({ x with c:=takeC x p },[])
def goP(q:PR)(p:aC):Prop:=0<q.2/\Gd q.1.1 p
instance (q:PR) (p:aC):Decidable (goP q p):=by unfold goP;infer_instance
def Qt(c:Nat->CL)(i:Nat):Nat->CL:=upd c i ((c i).1,(zPR,(c i).2.2))
def sw(f:Fr)(rec:E5)(i:Nat)(x:Rc):RcW:=if goP (x.c i).2.1 x.v.1 then nD f rec (x.c i).2.1 { x with c:=Qt x.c i } else(x,[])
def uV(f:Fr)(rec:E5)(x:Rc):Nat->RcW|0=>(x,[])|n+1=>fZ (uV f rec x n) (sw f rec n)
def zi(v:VA)(p:aC)(d:ByteArray):Bool:=hit (v.1,v.2.1) p d
def qc(c:CL)(p:aC)(d:ByteArray):VA:=
 if zi (c.1 0).1 p d then(c.1 0).1 else if zi (c.1 1).1 p d then(c.1 1).1 else if zi c.2.1.1 p d then c.2.1.1 else(p,(d,((0,zSN),(0,zNN))))
def uW(f:Fr)(rec:E5)(p:aC)(d:ByteArray)(x:Rc):RcW:=
 fZ (fZ ({ x with v:=qc (x.c (p.2-1).toNat) p d },OI f { x with v:=qc (x.c (p.2-1).toNat) p d }) λy=>zh f y 3) λy=>uV f rec y 3
def dQ(f:Fr):Nat->E5|0=>λ_ _ x=>(x,[])|n+1=>uW f (dQ f n)
def WFc(c:Nat->CL):Prop:= ∀i,i<3->0<(c i).2.1.2->j5 (c i).2.1.1.1
def act(c:Nat->CL):Nat:=vcn (λi=>decide (0<(c i).2.1.2)) 3
def Lw(c c':Nat->CL):Prop:= ∀i,i<3->(c' i).2.1=(c i).2.1\/(c' i).2.1.2<=0
theorem Lw.refl(c:Nat->CL):Lw c c:=λ_ _=>.inl rfl
theorem Lw.trans {a b c:Nat->CL}(h:Lw a b)(g:Lw b c):Lw a c:=λi hi=>by
 rcases g i hi with e|e
 ·rcases h i hi with e1|e1
  ·exact .inl (e.trans e1)
  ·exact .inr (by rw[e];exact e1)
 ·exact .inr e
theorem Lw.wf {a b:Nat->CL}(h:Lw a b)(w:WFc a):WFc b:=λi hi hp=>by
 rcases h i hi with e|e
 ·rw[e]at hp⊢;exact w i hi hp
 ·omega
theorem a2x {p q:Nat->Bool} : ∀ {n},(∀k,k<n->p k=true->q k=true)->vcn p n<=vcn q n
 |0,_=>ay7 _
 |n+1,h=>by
  have:=a2x (n:=n) λk hk=>h k (by omega)
  have hn:=h n (by omega);simp only[vcn];cases hp:p n
  ·simp only[ayE,azm];omega
  ·rw[hn hp];simp only[azn];omega
theorem Lw.act {a b:Nat->CL}(h:Lw a b):act b<=act a:=a2x λi hi hp=>by
 simp only[ayq]at hp⊢;rcases h i hi with e|e
 ·rw[e]at hp;exact hp
 ·omega
theorem Wz {c:Nat->CL}{i:Nat}{z:CL}(h:z.2.1=(c i).2.1\/z.2.1.2<=0):Lw c (upd c i z):=λk hk=>by
 by_cases e:k=i
 ·subst e;rw[upd_same];exact h
 ·rw[upd_ne e];exact .inl rfl
theorem ab4(c:Nat->CL)(i:Nat):Lw c (Qt c i):=Wz (.inr (aAL _))
theorem acu {c:Nat->CL}{i:Nat}(hi:i<3)(h:0<(c i).2.1.2):act (Qt c i)+1=act c:=by have hu:=a5M (p:=λk=>decide (0<(c k).2.1.2)) (q:=λk=>decide (0<(Qt c i k).2.1.2)) (j:=i) (λk hk=>by simp only[Qt,upd_ne hk]) hi;have e:Qt c i i=((c i).1,(zPR,(c i).2.2)):=upd_same _ _ _;simp only[e,h,aAK,azn]at hu;simpa [act]using hu
def HB:Nat->Nat|0=>0|n+1=>54+3*HB n
structure Rec(f:Fr)(n:Nat)(rec_:aC->ByteArray->SR->Option (Unit×SR))(rec:E5):Prop where
 run: ∀z p d x o,j5 p->WFc x.c->act x.c<n->o.1+HB n<1000000000->rec_ p d (f.mk' z x o)=some ((),f.mk' z (rec p d x).1 (apps o (rec p d x).2))
 len: ∀p d x,(rec p d x).2.length<=HB n
 lw: ∀p d x,Lw x.c (rec p d x).1.c
theorem wQ(a:RcW)(F:Rc->RcW):(fZ a F).2.length=a.2.length+(F a.1).2.length:=ayd
section
variable {f:Fr} {z:Fx}
theorem a5N(i:Nat)(x:Rc):Lw x.c (E8 f i x).1.c/\(E8 f i x).2.length<=1:=by
 unfold E8;split
 ·exact⟨Wz (.inl rfl),ay7 _⟩
 ·exact⟨Lw.refl _,az8 _⟩
theorem a0u(i:Nat)(x:Rc):Lw x.c (E9 f i x).1.c/\(E9 f i x).2.length<=1:=by
 unfold E9;split
 ·exact⟨Wz (.inl rfl),ay7 _⟩
 ·exact⟨Lw.refl _,az8 _⟩
theorem a5O(i:Nat)(x:Rc):Lw x.c (Fa f i x).1.c/\(Fa f i x).2.length<=1:=by
 unfold Fa;split
 ·exact⟨Wz (.inr (aAL _)),ay7 _⟩
 ·exact⟨Lw.refl _,az8 _⟩
theorem acv(i:Nat)(x:Rc):Lw x.c (Qs f i x).1.c/\(Qs f i x).2.length<=3:=by have h0:=a5N (f:=f) i x;have h1:=a0u (f:=f) i (E8 f i x).1;have h2:=a5O (f:=f) i (E9 f i (E8 f i x).1).1;refine⟨(h0.1.trans h1.1).trans h2.1,?_⟩;simp only[Qs,fZ,ayd];omega
theorem OJ(x:Rc): ∀n,Lw x.c (zh f x n).1.c/\(zh f x n).2.length<=3*n
 |0=>⟨Lw.refl _,ay7 _⟩
 |n+1=>by have h:=OJ x n;have g:=acv (f:=f) n (zh f x n).1;exact⟨h.1.trans g.1,by rw[zh,wQ];omega⟩
theorem WA(x:Rc)(p:PR):Lw x.c (takeC x p):=by
 unfold takeC;split
 ·exact Wz (.inl rfl)
 ·exact Lw.refl _
variable {n:Nat} {rec_:aC->ByteArray->SR->Option (Unit×SR)} {rec:E5}
theorem OL(hf:f.Ok)(k:Int)(p:aC)(d:ByteArray):(F8 f k p d).length<=7:=azJ (Wy k p d _) hf.n7
theorem YJ(hf:f.Ok)(p:aC)(d:ByteArray)(x:Rc):(nC f p d x).1.c=x.c/\(nC f p d x).1.v=x.v/\(nC f p d x).1.e=x.e/\(nC f p d x).2.length<=7:=by
 unfold nC;split
 ·exact⟨rfl,rfl,rfl,OL hf _ _ _⟩
 ·exact⟨rfl,rfl,rfl,az8 _⟩
theorem acw(hr:Rec f n rec_ rec)(p:aC)(d:ByteArray)(x:Rc):Lw x.c (endP f rec p d x).1.c/\(endP f rec p d x).2.length<=HB n:=by
 unfold endP;split
 ·exact⟨hr.lw _ _ _,hr.len _ _ _⟩
 ·exact⟨Lw.refl _,az8 _⟩
theorem Qu(hf:f.Ok)(hr:Rec f n rec_ rec)(p:aC)(d:ByteArray)(x:Rc):Lw x.c (jF f rec p d x).1.c/\(jF f rec p d x).2.length<=7+HB n:=by have h:=YJ hf p d x;have g:=acw hr p d (nC f p d x).1;rw[h.1]at g;exact⟨g.1,by rw[jF,wQ];omega⟩
theorem YK(hf:f.Ok)(hr:Rec f n rec_ rec)(p:PR)(x:Rc):Lw x.c (nD f rec p x).1.c/\(nD f rec p x).2.length<=14+HB n:=by
 have h:=Qu hf hr p.1.1 p.1.2.1 { x with c:=takeC x p,e:=kH x.e f.I p.1.1 p.1.2.1 };have hs:=OL hf 5 p.1.1 p.1.2.1;unfold nD;split
 ·refine⟨(WA x p).trans h.1,?_⟩;simp only[fZ,ayd];omega
 ·exact⟨WA x p,az8 _⟩
theorem a7m(hf:f.Ok)(hr:Rec f n rec_ rec)(i:Nat)(x:Rc):Lw x.c (sw f rec i x).1.c/\(sw f rec i x).2.length<=14+HB n:=by
 have h:=YK hf hr (x.c i).2.1 { x with c:=Qt x.c i };unfold sw;split
 ·exact⟨(ab4 x.c i).trans h.1,h.2⟩
 ·exact⟨Lw.refl _,az8 _⟩
theorem Qv(hf:f.Ok)(hr:Rec f n rec_ rec)(x:Rc): ∀k,Lw x.c (uV f rec x k).1.c/\(uV f rec x k).2.length<=k*(14+HB n)
 |0=>⟨Lw.refl _,az8 _⟩
 |k+1=>by have h:=Qv hf hr x k;have g:=a7m hf hr k (uV f rec x k).1;exact⟨h.1.trans g.1,by rw[uV,wQ,Nat.succ_mul];omega⟩
theorem YL(hf:f.Ok)(hr:Rec f n rec_ rec)(p:aC)(d:ByteArray)(x:Rc):Lw x.c (uW f rec p d x).1.c/\(uW f rec p d x).2.length<=HB (n+1):=by have h:=OJ (f:=f) { x with v:=qc (x.c (p.2-1).toNat) p d } 3;have g:=Qv hf hr (zh f { x with v:=qc (x.c (p.2-1).toNat) p d } 3).1 3;have ha:(OI f { x with v:=qc (x.c (p.2-1).toNat) p d }).length<=3:=yw _ 3;refine⟨h.1.trans g.1,?_⟩;simp only[uW,fZ,ayd,HB];omega
theorem Mq(hf:f.Ok)(hr:Rec f n rec_ rec)(p:aC)(d:ByteArray)(x:Rc)(o:iN)(hw:WFc x.c)(ha:act x.c<n)(ho:o.1+(7+HB n)<1000000000):
  eD rec_ p d (f.mk' z x o)=some ((),f.mk' z (jF f rec p d x).1 (apps o (jF f rec p d x).2)):=by
 rw[qO];unfold iY;have hn:=hf.n7;have hT:=hf.T;extract_lets-underBinder k;have hk: ∀b:Bool,b=decide (uU f p d x)->k ((b,()),())=some ((),f.mk' z (jF f rec p d x).1 (apps o (jF f rec p d x).2)):=by
  intro b hb;unfold k;extract_lets-underBinder enough k2;have hk2: ∀y q,y.c=x.c->q.1+HB n<1000000000->k2 ((),f.mk' z y q)=some ((),f.mk' z (endP f rec p d y).1 (apps q (endP f rec p d y).2)):=by
   intro y q hy hq;unfold k2;simp only[DZ hn,oN];by_cases h1:2*f.T<yR f.N y.r p d
   ·have hm:j5 p:=by apply ayu;intro hm;rw[yR,axY hm]at h1;omega
    by_cases h2:dJ p y.v.1
    ·have e:endP f rec p d y=rec p d y:=ay5 ⟨h1,h2⟩;have hrun:=hr.run z p d y q hm (by rw[hy];exact hw) (by rw[hy];exact ha) hq;simp(disch:=omega) only[WW,CC,h2,e,hrun]
    ·have e:endP f rec p d y=(y,[]):=axY λh=>h2 h.2
     simp(disch:=omega) only[WW,CC,h2,e,eO]
   ·have e:endP f rec p d y=(y,[]):=axY λh=>h1 h.1
    simp(disch:=omega) only[WW,CC,e,eO]
  have hput:=pV hn x.r (f.I:Int) (by have:=hf.I;omega) p d;have hrl:=YJ hf p d x;clear_value k2;subst hb;show(bif decide (uU f p d x)then _ else _)=_;have hfin: ∀y l,nC f p d x=(y,l)->k2 ((),f.mk' z y (apps o l))=some ((),f.mk' z (jF f rec p d x).1 (apps o (jF f rec p d x).2)):=by intro y l e;rw[e]at hrl;rw[hk2 y (apps o l) hrl.1 (by rw[gQ];have:=hrl.2.2.2;simp only at this;omega),jm];simp only[jF,fZ,e]
  by_cases h1:uU f p d x
  ·by_cases h2:okV f.N x.r f.I p
   ·have hs:=F9 (z:=z) hf { x with r:=kH x.r f.I p d } o (by omega) 6 p d;simp only[Fr.mk',Fr.so,Fr.rc]at hs;rw[ay5 h2]at hput;simp(disch:=omega) only[WW,h1,h2,hput,hs];exact hfin { x with r:=kH x.r f.I p d } (F8 f 6 p d) (ay5 ⟨h1,h2⟩)
   ·rw[axY h2]at hput;simp(disch:=omega) only[WW,h1,h2,hput];exact hfin x [] (axY λh=>h2 h.2)
  ·simp(disch:=omega) only[WW,h1];exact hfin x [] (axY λh=>h1 h.1)
 clear_value k;simp only[DZ hn];by_cases h1:2*f.T<yR f.N x.e p d
 ·simp(disch:=omega) only[WW,CC];exact hk true (by rw[dH (p:=uU f p d x) (.inl h1)])
 ·by_cases h2:f.T<yR f.N x.r p d
  ·simp(disch:=omega) only[WW,CC];exact hk true (by rw[dH (p:=uU f p d x) (.inr h2)])
  ·simp(disch:=omega) only[WW,CC];exact hk false (by rw[bq (p:=uU f p d x) (λh=>h.elim h1 h2)])
theorem WB(hf:f.Ok)(hr:Rec f n rec_ rec)(p:PR)(hp:j5 p.1.1)(x:Rc)(o:iN)(hw:WFc x.c)(ha:act x.c<n)(ho:o.1+(14+HB n)<1000000000):
  gK rec_ p (f.mk' z x o)=some ((),f.mk' z (nD f rec p x).1 (apps o (nD f rec p x).2)):=by
 rw[qP];unfold iZ;have hn:=hf.n7;obtain⟨p1,p2,p3,p4⟩:=id hp;have e2:IntKind.i64.wrap (p.1.1.2-1)=p.1.1.2-1:=wrap_i64 (by omega);rw[e2,OH,KU (by omega),KU (by omega),bA,bA];extract_lets-underBinder k t;have hl:=WA x p;have hk:k ((),(f.rc { x with c:=takeC x p },()))=some ((),f.mk' z (nD f rec p x).1 (apps o (nD f rec p x).2)):=by
  unfold k;have hput:=pV hn x.e (f.I:Int) (by have:=hf.I;omega) p.1.1 p.1.2.1;by_cases h2:okV f.N x.e f.I p.1.1
  ·have hs:=F9 (z:=z) hf { x with c:=takeC x p,e:=kH x.e f.I p.1.1 p.1.2.1 } o (by omega) 5 p.1.1 p.1.2.1;have hlk:=Mq (z:=z) hf hr p.1.1 p.1.2.1 { x with c:=takeC x p,e:=kH x.e f.I p.1.1 p.1.2.1 } (apps o (F8 f 5 p.1.1 p.1.2.1)) (hl.wf hw) (ayh hl.act ha) (by rw[gQ];have:=OL hf 5 p.1.1 p.1.2.1;omega);have e:nD f rec p x=fZ ({ x with c:=takeC x p,e:=kH x.e f.I p.1.1 p.1.2.1 },F8 f 5 p.1.1 p.1.2.1) (jF f rec p.1.1 p.1.2.1):=ay5 h2;simp only[Fr.mk',Fr.so,Fr.rc]at hs hlk;rw[ay5 h2]at hput;simp(disch:=omega) only[WW,h2,hput,hs,hlk,e,fZ,jm]
  ·have e:nD f rec p x=({ x with c:=takeC x p },[]):=axY h2;rw[axY h2]at hput;simp(disch:=omega) only[WW,h2,hput,e,eO]
 clear_value k;show(bif t then _ else _)=_;by_cases h:((x.c (p.1.1.2-1).toNat).1 (p.1.1.1%2).toNat).1.1.1<p.1.1.1
 ·have ht:t=true:=ayf h;rw[ht];have ec:takeC x p=upd x.c (p.1.1.2-1).toNat ((upd (x.c (p.1.1.2-1).toNat).1 (p.1.1.1%2).toNat p),(x.c (p.1.1.2-1).toNat).2):=ay5 h;simp only[ec]at hk;exact hk
 ·have ht:t=false:=ayj h;rw[ht];have ec:takeC x p=x.c:=axY h;rw[ec]at hk;exact hk
end
open Go Go.Den
section
variable {f:Fr} {z:Fx} {n:Nat} {rec_:aC->ByteArray->SR->Option (Unit×SR)} {rec:E5}
@[reducible] def Fr.lp (f:Fr) (z:Fx) (p:aC) (x:Rc) (o:iN):SO×(RC×(VT×(VT×(SP×(Unit×(Unit×(aC×Unit))))))):=(f.so z o,(f.rc x,(((f.N:Int),x.e),(((f.N:Int),x.r),(z.sp,((),((),(p,()))))))))
theorem a4M(hf:f.Ok)(p:aC)(x:Rc)(o:iN)(ho:o.1+3<1000000000){i:Nat}(hi:i<3):
  aQ rec_ (aN 3 (i:Int) (f.lp z p x o))=some (.inl (aN 3 ((i+1:Nat):Int) (f.lp z p (Qs f i x).1 (apps o (Qs f i x).2)))):=by
 have hn:=hf.n7;have ei:IntKind.i64.wrap ((i:Int)+1)=((i+1:Nat):Int):=wrap_i64 (by omega);have eN:IntKind.i64.wrap ((f.N:Int)+((i+1:Nat):Int))=((f.N+(i+1):Nat):Int):=wrap_i64 (by omega);have b0:=a5N (f:=f) i x;have b1:=a0u (f:=f) i (E8 f i x).1;have b2:=a5O (f:=f) i (E9 f i (E8 f i x).1).1;dsimp-zeta only[aQ,aN,Fr.lp,Fr.so,Fr.rc];extract_lets-underBinder t t1 k1 k;rw[show decide (t1<t)=true from ayf (show(i:Int)<3 by omega),show inb t1 4=true from KU (by show(0:Int)<=i/\(i:Int)<((4:Nat):Int);omega),bA,bA];have hk1: ∀y q,q.1+2<1000000000->k1 ((),f.mk' z y q)=some (.inl (aN 3 ((i+1:Nat):Int) (f.lp z p (Fa f i (E9 f i y).1).1 (apps (apps q (E9 f i y).2) (Fa f i (E9 f i y).1).2)))):=by
  intro y q hq;unfold k1;extract_lets-underBinder k3 k2;have hk3: ∀y q,q.1+1<1000000000->k3 ((),f.mk' z y q)=some (.inl (aN 3 ((i+1:Nat):Int) (f.lp z p (Fa f i y).1 (apps q (Fa f i y).2)))):=by
   intro y q hq;unfold k3;have hs:=su (z:=z) hf y q (by omega) ((f.N+(i+1):Nat):Int) 7 (y.c i).2.1.2 f.key (y.c i).2.1.1.1 ByteArray.empty 0 (λ_=>.nil) 0 zNN;simp only[Fr.mk',Fr.so,Fr.rc]at hs;by_cases h1:0<(y.c i).2.1.2
   ·by_cases h2:dJ (y.c i).2.1.1.1 y.v.1
    ·have e:Fa f i y=(y,[]):=axY λh=>h.2 h2
     simp(disch:=omega) only[t,t1,ei,eN,WW,h1,h2,e,oN,eO,aN]
    ·have e:Fa f i y=_:=ay5 (show a2w (y.c i).2.1 y.v.1 from⟨h1,h2⟩);simp(disch:=omega) only[t,t1,ei,eN,WW,h1,h2,e,oN,hs,aN,<-J8,Ja]
   ·have e:Fa f i y=(y,[]):=axY λh=>h1 h.1
    simp(disch:=omega) only[t,t1,ei,eN,WW,h1,e,eO,aN]
  have hl:=a0u (f:=f) i y;have hs:=su (z:=z) hf y q (by omega) ((f.N+(i+1):Nat):Int) 7 ((y.c i).1 1).2 f.key ((y.c i).1 1).1.1 ByteArray.empty 0 (λ_=>.nil) 0 zNN;simp only[Fr.mk',Fr.so,Fr.rc]at hs;clear_value k3;unfold k2;by_cases h1:0<((y.c i).1 1).2
  ·by_cases h2:dJ ((y.c i).1 1).1.1 y.v.1
   ·have e:E9 f i y=(y,[]):=axY λh=>h.2 h2
    simp(disch:=omega) only[t,t1,ei,eN,WW,h1,h2,e,oN,eO];exact hk3 y q (by omega)
   ·have e:E9 f i y=_:=ay5 (show a2w ((y.c i).1 1) y.v.1 from⟨h1,h2⟩);simp(disch:=omega) only[t,t1,ei,eN,WW,h1,h2,e,oN,hs];exact hk3 { y with c:=upd y.c i ((upd (y.c i).1 1 (((y.c i).1 1).1,0)),(y.c i).2) } (apps q [Ja f i ((y.c i).1 1)]) (by rw[gQ];simp;omega)
  ·have e:E9 f i y=(y,[]):=axY λh=>h1 h.1
   simp(disch:=omega) only[t,t1,ei,eN,WW,h1,e,eO];exact hk3 y q (by omega)
 have hs:=su (z:=z) hf x o (by omega) ((f.N+(i+1):Nat):Int) 7 ((x.c i).1 0).2 f.key ((x.c i).1 0).1.1 ByteArray.empty 0 (λ_=>.nil) 0 zNN;simp only[Fr.mk',Fr.so,Fr.rc]at hs;clear_value k1;unfold k;have hfin: ∀y l,E8 f i x=(y,l)->k1 ((),f.mk' z y (apps o l))=some (.inl (aN 3 ((i+1:Nat):Int) (f.lp z p (Qs f i x).1 (apps o (Qs f i x).2)))):=by intro y l e;rw[e]at b0;rw[hk1 y (apps o l) (by rw[gQ];have:=b0.2;simp only at this;omega),jm,jm];simp only[Qs,fZ,e,ayQ]
 show(bif decide (((x.c i).1 0).2>0)then _ else _)=_;by_cases h1:0<((x.c i).1 0).2
 ·by_cases h2:dJ ((x.c i).1 0).1.1 x.v.1
  ·have e:E8 f i x=(x,[]):=axY λh=>h.2 h2
   simp(disch:=omega) only[t,t1,ei,eN,WW,h1,h2,oN];exact hfin x [] e
  ·have e:E8 f i x=_:=ay5 (show a2w ((x.c i).1 0) x.v.1 from⟨h1,h2⟩);simp(disch:=omega) only[t,t1,ei,eN,WW,h1,h2,oN];simp only[hs];exact hfin _ _ e
 ·have e:E8 f i x=(x,[]):=axY λh=>h1 h.1
  simp(disch:=omega) only[t,t1,ei,eN,WW,h1];exact hfin x [] e
theorem a2y(hf:f.Ok)(hr:Rec f n rec_ rec)(p:aC)(x:Rc)(o:iN)(hw:WFc x.c)(ha:act x.c<=n)(ho:o.1+(14+HB n)<1000000000){i:Nat}(hi:i<3):
  aM rec_ (bZ 3 (i:Int) (f.lp z p x o))=some (.inl (bZ 3 ((i+1:Nat):Int) (f.lp z p (sw f rec i x).1 (apps o (sw f rec i x).2)))):=by
 have ei:IntKind.i64.wrap ((i:Int)+1)=((i+1:Nat):Int):=wrap_i64 (by omega);dsimp-zeta only[aM,bZ,Fr.lp,Fr.so,Fr.rc];extract_lets-underBinder t t1 k;rw[show decide (t1<t)=true from ayf (show(i:Int)<3 by omega),show inb t1 4=true from KU (by show(0:Int)<=i/\(i:Int)<((4:Nat):Int);omega),bA,bA];unfold k;by_cases h1:0<(x.c i).2.1.2
 ·by_cases h2:Gd (x.c i).2.1.1.1 x.v.1
  ·have e:sw f rec i x=nD f rec (x.c i).2.1 { x with c:=Qt x.c i } :=ay5 ⟨h1,h2⟩;have hc:=acu hi h1;have ht:=WB (z:=z) hf hr (x.c i).2.1 (hw i hi h1) { x with c:=Qt x.c i } o ((ab4 x.c i).wf hw) (by simp only;omega) ho;simp only[Fr.mk',Fr.so,Fr.rc,Qt]at ht;simp(disch:=omega) only[t,t1,ei,WW,h1,h2,e,Qr,ht,Qt]
  ·have e:sw f rec i x=(x,[]):=axY λh=>h2 h.2
   simp(disch:=omega) only[t,t1,ei,WW,h1,h2,e,Qr,eO]
 ·have e:sw f rec i x=(x,[]):=axY λh=>h1 h.1
  simp(disch:=omega) only[t,t1,ei,WW,h1,e,eO]
theorem RV(v:VA)(p:aC)(d:ByteArray):fQ v p d=some (zi v p d):=by rw[yc];unfold rZ zi hit;cases eqF (.pair (.int .i64) (.int .i64)) v.1 p<;>rfl
theorem a2z(hf:f.Ok)(hr:Rec f n rec_ rec)(p:aC)(d:ByteArray)(x:Rc)(o:iN)(hp:j5 p)(hw:WFc x.c)(ha:act x.c<n+1)(ho:o.1+HB (n+1)<1000000000):
  fU rec_ p d (f.mk' z x o)=some ((),f.mk' z (uW f rec p d x).1 (apps o (uW f rec p d x).2)):=by
 obtain⟨p1,p2,p3,p4⟩:=id hp;unfold fU;have e2:IntKind.i64.wrap (p.2-1)=p.2-1:=wrap_i64 (by omega);rw[e2,KU (by omega),bA];extract_lets-underBinder k t;have fin: ∀v,v=qc (x.c (p.2-1).toNat) p d->
   (match dz (f.so z o,(f.rc { x with v:=v },(((f.N:Int),x.e),(((f.N:Int),x.r),(z.sp,())))))with
   |none=>none
   |some y=>match aB (aQ rec_) (((),((),(y.2.1.2.2.2.2.1,(0,())))),(y.2.1,(y.2.2.1,(y.2.2.2.1,(y.2.2.2.2.1,(y.2.2.2.2.2.1,((),((),(p,())))))))))with
    |none=>none
    |some y1=>match aB (aM rec_) (((),((),(y1.2.1.2.2.2.2.1,(0,())))),y1.2)with
     |none=>none
     |some y2=>some ((),(y2.2.1,(y2.2.2.1,(y2.2.2.2.1,(y2.2.2.2.2.1,(y2.2.2.2.2.2.1,())))))))=some ((),f.mk' z (uW f rec p d x).1 (apps o (uW f rec p d x).2)):=by
  intro v hv;have hB:HB (n+1)=54+3*HB n:=rfl;let x1:Rc:= { x with v:=v };have hal:(OI f x1).length<=3:=yw _ 3;have hak:=OJ (f:=f) x1 3;have h1:=Wx (z:=z) hf x1 o (by omega);obtain⟨s,h2,rfl⟩:=aO (R:=aQ rec_) (S:=RcW) (λi s=>aN 3 (i:Int) (f.lp z p s.1 (apps o s.2)))
   (λs=>((),f.lp z p s.1 (apps o s.2))) (λi s=>s=fZ (x1,OI f x1) λy=>zh f y i) 3
   (λi hi s hs=>by have hl:=OJ (f:=f) x1 i;refine⟨_,?_,rfl⟩;rw[a4M hf p s.1 (apps o s.2) (by rw[gQ,hs,wQ];simp only;omega) hi,hs];simp only[fZ,zh,jm,ayQ])
   (λs hs=>by simp(disch:=omega) only[aQ,aN,WW,CC]) (x1,OI f x1)
   (by simp only[fZ,zh,azi])
  generalize hy:(fZ (x1,OI f x1) λy=>zh f y 3)=y at*;have hyl:y.2.length<=12:=by rw[<-hy,wQ];simp only;omega
  have hyc:Lw x.c y.1.c:=by rw[<-hy];exact hak.1
  obtain⟨s,h3,rfl⟩:=aO (R:=aM rec_) (S:=RcW) (λi s=>bZ 3 (i:Int) (f.lp z p s.1 (apps o s.2)))
   (λs=>((),f.lp z p s.1 (apps o s.2))) (λi s=>s=fZ y λz=>uV f rec z i) 3
   (λi hi s hs=>by
    have hl:=Qv hf hr y.1 i;have hc:Lw x.c s.1.c:=by rw[hs];exact hyc.trans hl.1
    have hm:i*(14+HB n)<=2*(14+HB n):=ayi _ (by omega);refine⟨_,?_,rfl⟩;rw[a2y hf hr p s.1 (apps o s.2) (hc.wf hw) (azJ hc.act (by omega)) (by rw[gQ,hs,wQ];omega) hi,hs];simp only[fZ,uV,jm,ayQ])
   (λs hs=>by simp(disch:=omega) only[aM,bZ,WW,CC]) y
   (by simp only[fZ,uV,azi])
  have h2':aB (aQ rec_) (((),((),((3:Int),(0,())))),f.lp z p x1 (apps o (OI f x1)))=some ((),f.lp z p y.1 (apps o y.2)):=h2;have h3':aB (aM rec_) (((),((),((3:Int),(0,())))),f.lp z p y.1 (apps o y.2))=_:=h3;have e:uW f rec p d x=fZ y λz=>uV f rec z 3:=by rw[<-hy];simp only[uW,x1,hv]
  simp only[Fr.mk',x1,Fr.so,Fr.rc,Fr.lp]at h1 h2' h3';simp only[Fr.so,Fr.rc,h1,h2',h3',e]
 unfold k;simp only[RV];have c0:qc (x.c (p.2-1).toNat) p d=if zi ((x.c (p.2-1).toNat).1 0).1 p d then((x.c (p.2-1).toNat).1 0).1 else if zi ((x.c (p.2-1).toNat).1 1).1 p d then((x.c (p.2-1).toNat).1 1).1 else if zi (x.c (p.2-1).toNat).2.1.1 p d then(x.c (p.2-1).toNat).2.1.1 else(p,(d,((0,zSN),(0,zNN)))):=rfl;simp only[Fr.so,Fr.rc]at fin;cases hc:zi (x.c (p.2-1).toNat).2.1.1 p d<;>cases hb:zi ((x.c (p.2-1).toNat).1 1).1 p d<;>cases ha0:zi ((x.c (p.2-1).toNat).1 0).1 p d<;>
  simp only[ha0,hb,hc,azn,azm,ayE]at c0<;>
  simp only[t,ha0,hb,hc,bA,bH]<;>exact fin _ c0.symm
theorem Ea(hf:f.Ok): ∀n,Rec f n (aD n) (dQ f n)
 |0=>⟨λ_ _ _ _ _ _ _ h=>absurd h (ayz _),λ_ _ _=>ay7 _,λ_ _ _=>Lw.refl _⟩
 |n+1=>by have ih:=Ea hf n;refine⟨λz p d x o hp hw ha ho=>?_,λp d x=>(YL hf ih p d x).2,λp d x=>(YL hf ih p d x).1⟩;rw[oK];exact a2z hf ih p d x o hp hw ha ho
end
open Go Go.Den
def qd(a b:ByteArray):Bool:=Op.bytesLess (bl a) (bl b)
theorem a2A: ∀l:List UInt8,Op.bytesLess l l=false
 | []=>rfl
 |a::l=>by have: ¬a<a:=UInt8.lt_irrefl a;simp[Op.bytesLess,a2A l]
theorem a5P: ∀ {a b c:List UInt8},Op.bytesLess a b=true->Op.bytesLess b c=true->Op.bytesLess a c=true
 |_,[],_,h,_=>by cases‹List UInt8› <;>simp[Op.bytesLess]at h
 |_,_::_,[],_,h=>by simp[Op.bytesLess]at h
 | [],_::_,_::_,_,_=>rfl
 |x::a,y::b,z::c,h1,h2=>by
  simp only[Op.bytesLess,azs,axZ,ayq,aAl]at h1 h2⊢;rcases h1 with h1|⟨rfl,h1⟩
  ·rcases h2 with h2|⟨rfl,h2⟩
   ·exact .inl (UInt8.lt_trans h1 h2)
   ·exact .inl h1
  ·rcases h2 with h2|⟨rfl,h2⟩
   ·exact .inl h2
   ·exact .inr ⟨rfl,a5P h1 h2⟩
theorem a2B: ∀(a b:List UInt8),(Lib.compareBytes a b<0↔Op.bytesLess a b=true)/\(Lib.compareBytes a b=0↔a=b)
 | [],[]=>by simp[Lib.compareBytes,Op.bytesLess]
 | [],_::_=>by simp[Lib.compareBytes,Op.bytesLess]
 |_::_,[]=>by simp[Lib.compareBytes,Op.bytesLess]
 |x::a,y::b=>by
  obtain⟨h1,h2⟩:=a2B a b;simp only[Lib.compareBytes,Op.bytesLess,azs,axZ,ayq,aAl,List.cons.injEq];by_cases hxy:x<y
  ·have hne:x≠y:=λe=>UInt8.lt_irrefl y (e▸hxy)
   simp[hxy,hne]
  ·by_cases hyx:y<x
   ·have hne:x≠y:=λe=>UInt8.lt_irrefl y (e▸hyx)
    simp[hxy,hyx,hne]
   ·have:x=y:=UInt8.le_antisymm (UInt8.not_lt.1 hyx) (UInt8.not_lt.1 hxy);subst this;simp[hxy,h1,h2]
theorem ab5 {a b:List UInt8}(h:Op.bytesLess a b=false)(hne:a≠b):Op.bytesLess b a=true:=by
 induction a generalizing b with
 |nil=>cases b with
  |nil=>exact absurd rfl hne
  |cons y b=>simp[Op.bytesLess]at h
 |cons x a ih=>cases b with
  |nil=>rfl
  |cons y b=>
   simp only[Op.bytesLess,Bool.or_eq_false_iff,Bool.and_eq_false_iff,decide_eq_false_iff_not,beq_eq_false_iff_ne]at h;simp only[Op.bytesLess,azs,axZ,ayq,aAl];by_cases hyx:y<x
   ·exact .inl hyx
   ·have:x=y:=UInt8.le_antisymm (UInt8.not_lt.1 hyx) (UInt8.not_lt.1 h.1);subst this;rcases h.2 with h|h
    ·exact absurd rfl h
    ·exact .inr ⟨rfl,ih h (λe=>hne (e▸rfl))⟩
theorem YM(a:ByteArray):qd a a=false:=a2A _
theorem WC {a b c:ByteArray}(h1:qd a b=true)(h2:qd b c=true):qd a c=true:=a5P h1 h2
theorem a7n {a b:ByteArray}(h:qd a b=false)(hne:a≠b):qd b a=true:=ab5 h (λe=>hne (Mi e))
theorem nN(a b:ByteArray):sEq a b=true↔a=b:=by refine⟨λh=>?_,λh=>h▸Wn _⟩;simp only[sEq,aAt,aAl]at h;exact Mi h
theorem WE(a b:ByteArray): ∃r,ji a b=some r/\(r<0↔qd a b=true)/\(r=0↔a=b):=by obtain⟨h1,h2⟩:=a2B (bl a) (bl b);refine⟨Lib.compareBytes (bl a) (bl b),by rw[vk,qm,Kj];rfl,h1,h2.trans ⟨Mi,λe=>e▸rfl⟩⟩
def cnt {α:Type}(p:α->Bool)(f:Nat->α):Nat->Nat|0=>0|n+1=>cnt p f n+if p (f n)then 1 else 0
theorem a0v {α:Type}(p:α->Bool)(f:Nat->α): ∀n,cnt p f n<=n
 |0=>ay7 _
 |n+1=>by have:=a0v p f n;simp only[cnt];split<;>omega
theorem JM {α:Type}{p:α->Bool}{f:Nat->α}{k:Nat} : ∀ {n},k<=n->(∀i,i<k->p (f i)=true)->(∀i,k<=i->i<n->p (f i)=false)->cnt p f n=k
 |0,h,_,_=>by simp only[cnt];omega
 |n+1,h,h1,h2=>by
  simp only[cnt];by_cases hk:k<=n
  ·rw[JM (n:=n) hk h1 (λi a b=>h2 i a (by omega)),h2 n hk (by omega)];rfl
  ·obtain rfl:k=n+1:=by omega
   rw[JM (n:=n) (k:=n) (ay7 _) (λi a=>h1 i (by omega)) (λi a b=>by omega),h1 n (by omega)];rfl
theorem a5Q {α:Type}{p:α->Bool}{f:Nat->α} : ∀ {n},0<cnt p f n↔ ∃i,i<n/\p (f i)=true
 |0=>by simp[cnt]
 |n+1=>by
  simp only[cnt];have ih:=a5Q (p:=p) (f:=f) (n:=n);constructor
  ·intro h;by_cases hn:p (f n)=true
   ·exact⟨n,by omega,hn⟩
   ·rw[axY hn]at h;obtain⟨i,h1,h2⟩:=ih.1 (by omega);exact⟨i,by omega,h2⟩
  ·rintro ⟨i,h1,h2⟩;by_cases hi:i=n
   ·subst hi;rw[ay5 h2];omega
   ·have:=ih.2 ⟨i,by omega,h2⟩;omega
theorem a0w(f:Nat->ByteArray)(i:Nat)(x:ByteArray)(j:Nat):Bl f i x j=if j<i then f j else if j=i then x else f (j-1):=by
 unfold Bl;by_cases h1:j<i
 ·have:Nat.blt j i=true:=ay6 h1;rw[this,ay5 h1];rfl
 ·have:Nat.blt j i=false:=by
   cases hb:Nat.blt j i with
   |false=>rfl
   |true=>exact absurd (ayb hb) h1
  rw[this,axY h1];by_cases h2:j=i
  ·have:Nat.beq j i=true:=by rw[h2];exact Nat.beq_refl i
   rw[this,ay5 h2];rfl
  ·have:Nat.beq j i=false:=by
    cases hb:Nat.beq j i with
    |false=>rfl
    |true=>exact absurd (ayv hb) h2
   rw[this,axY h2];rfl
def rE(n:Nat)(f:Nat->ByteArray):Prop:= ∀i j,i<j->j<n->qd (f i) (f j)=true
def before(n:Nat)(f:Nat->ByteArray)(x:ByteArray):Nat:=cnt (λy=>qd y x) f n
def there(n:Nat)(f:Nat->ByteArray)(x:ByteArray):Bool:=decide (0<cnt (λy=>sEq y x) f n)
theorem Qw {n:Nat}{f:Nat->ByteArray}{x:ByteArray} :there n f x=true↔ ∃i,i<n/\f i=x:=by simp only[there,ayq,a5Q,nN]
theorem a4N {X Y:Type}{R:X->Option (X⊕Y)}{P:X->Prop}{Q:Y->Prop}(m:X->Nat)
  (h: ∀x,P x->(∃x',R x=some (.inl x')/\P x'/\m x'<m x)\/ ∃y,R x=some (.inr y)/\Q y): ∀x,P x-> ∃y,aB R x=some y/\Q y:=by
 have key: ∀n x,m x<=n->P x-> ∃y,aB R x=some y/\Q y:=by
  intro n
  induction n with
  |zero=>
   intro x hm hp;rcases h x hp with⟨x',_,_,h3⟩|⟨y,h1,h2⟩
   ·omega
   ·exact⟨y,dM h1,h2⟩
  |succ n ih=>
   intro x hm hp;rcases h x hp with⟨x',h1,h2,h3⟩|⟨y,h1,h2⟩
   ·rw[nU h1];exact ih x' (by omega) h2
   ·exact⟨y,dM h1,h2⟩
 exact λx hp=>key _ x (ay7 _) hp
theorem a0x {n:Nat}{f:Nat->ByteArray}(hs:rE n f)(hn:n<1000000)(x:ByteArray):
  aZ n f x=some (((before n f x:Nat):Int),there n f x):=by
 obtain⟨y,h1,i,rfl,h2,h3,h4⟩:=a4N (R:=aI)
  (P:=λs=> ∃i j:Nat,s=aH n f x (n:Int) (i:Int) (j:Int)/\i<=j/\j<=n/\(∀t,t<i->qd (f t) x=true)/\ ∀t,j<=t->t<n->qd (f t) x=false)
  (Q:=λy=> ∃i:Nat,y=aS n f x (n:Int) (i:Int)/\i<=n/\(∀t,t<i->qd (f t) x=true)/\ ∀t,i<=t->t<n->qd (f t) x=false)
  (λs=>(s.1.2.2.2.2.2.1-s.1.2.2.2.2.1).toNat) (by
   rintro s ⟨i,j,rfl,h1,h2,h3,h4⟩;by_cases hij:i<j
   ·obtain⟨r,r1,r2,r3⟩:=WE (f ((i+j)/2)) x;have hw:bG .u64 ((i+j:Nat):Int) 1=(((i+j)/2:Nat):Int):=Q7 (s:=1) (by omega);refine .inl ?_;by_cases hr:r<0
    ·refine⟨aH n f x (n:Int) (((i+j)/2+1:Nat):Int) (j:Int),?_,⟨_,_,rfl,by omega,h2,?_,h4⟩,?_⟩
     ·simp(disch:=omega) only[aI,aH,hw,WW,CC,r1]
     ·intro t ht;by_cases htm:t=(i+j)/2
      ·subst htm;exact r2.1 hr
      ·exact WC (hs t ((i+j)/2) (by omega) (by omega)) (r2.1 hr)
     ·show(((j:Int)-(((i+j)/2+1:Nat):Int)).toNat)<((j:Int)-(i:Int)).toNat;omega
    ·refine⟨aH n f x (n:Int) (i:Int) (((i+j)/2:Nat):Int),?_,⟨_,_,rfl,by omega,by omega,h3,?_⟩,?_⟩
     ·simp(disch:=omega) only[aI,aH,hw,WW,CC,r1]
     ·intro t ht htn;have hm:qd (f ((i+j)/2)) x=false:=by
       cases hb:qd (f ((i+j)/2)) x with
       |false=>rfl
       |true=>exact absurd (r2.2 hb) hr
      by_cases htm:t=(i+j)/2
      ·subst htm;exact hm
      ·cases hb:qd (f t) x with
       |false=>rfl
       |true=>rw[WC (hs ((i+j)/2) t (by omega) htn) hb]at hm;exact absurd hm (by decide)
     ·show(((((i+j)/2:Nat):Int)-(i:Int)).toNat)<((j:Int)-(i:Int)).toNat;omega
   ·obtain rfl:i=j:=by omega
    refine .inr ⟨aS n f x (n:Int) (i:Int),?_,i,rfl,h2,h3,h4⟩;simp(disch:=omega) only[aI,aH,WW])
  (aH n f x (n:Int) ((0:Nat):Int) (n:Int)) ⟨0,n,rfl,az8 _,ay7 _,λt ht=>absurd ht (ayz _),λt a b=>by omega⟩
 have hb:before n f x=i:=JM h2 h3 h4;have h1':aB aI (((n,f),(x,((),((n:Int),(0,((n:Int),())))))),())=some (aS n f x (n:Int) (i:Int)):=h1;rw[dP,bF,h1',hb];by_cases hin:i<n
 ·obtain⟨r,r1,r2,r3⟩:=WE (f i) x;simp(disch:=omega) only[aS,WW,r1]
  congr 2
  rw[azL,Qw,aAl,r3];refine⟨λh=>⟨i,hin,h⟩,?_⟩;rintro ⟨j,hj,e⟩;by_cases hji:j=i
  ·rw[<-hji];exact e
  ·by_cases hlt:j<i
   ·have:=h3 j hlt;rw[e,YM]at this;exact absurd this (by decide)
   ·have:=hs i j (by omega) hj;rw[e,h4 i (ay7 _) hin]at this;exact absurd this (by decide)
 ·simp(disch:=omega) only[aS,WW]
  congr 2
  symm;cases hb:there n f x with
  |false=>rfl
  |true=>
   obtain⟨j,hj,e⟩:=Qw.1 hb;have:=h3 j (by omega);rw[e,YM]at this;exact absurd this (by decide)
abbrev mf(l:List (Int×Int))(x:Int):Int:=Option.getD (qD (.int .i64) (.int .i64) l x) (0:Int)
theorem a2C(s:ByteArray):bO s=some (decide (1<=s.size/\s.size<=8)):=by
 rw[RF,Q0];by_cases h:1<=s.size
 ·rw[dH (by omega),bA]
  congr 1
  rw[azb];omega
 ·rw[bq (by omega),bH,bq (by omega)]
theorem a2D {n:Nat}{f:Nat->ByteArray}(hs:rE n f)(hn:n<1000000)(x:ByteArray)(a b:Int)(u:List (Int×Int)):
  lX x a b n f u=some (((((before n f x:Nat):Int),(there n f x,())),((a,(b,((n,f),u))),()))):=by
 have e:(λj=>f (0+j))=f:=funext λj=>by rw[aye]
 rw[vo,qo,e,a0x hs hn]
abbrev R22:Type:=(Int×(Int×((Nat×(Nat->ByteArray))×(Nat×(Nat->Int)))))
theorem a7o {n:Nat}{f:Nat->ByteArray}(hs:rE n f)(x:ByteArray): ∀i,i<n->(i<before n f x↔qd (f i) x=true):=by
 intro i hi;have key: ∃k,k<=n/\(∀t,t<k->qd (f t) x=true)/\(∀t,k<=t->t<n->qd (f t) x=false):=by
  clear hi i
  induction n with
  |zero=>exact⟨0,ay7 _,λt h=>absurd h (ayz _),λt a b=>absurd b (ayz _)⟩
  |succ n ih=>
   obtain⟨k,h1,h2,h3⟩:=ih λi j a b=>hs i j a (by omega)
   cases hb:qd (f n) x with
   |true=>
    refine⟨n+1,ay7 _,λt ht=>?_,λt a b=>by omega⟩;by_cases htn:t=n
    ·rw[htn];exact hb
    ·exact WC (hs t n (by omega) (by omega)) hb
   |false=>
    refine⟨k,by omega,h2,λt a b=>?_⟩;by_cases htn:t=n
    ·rw[htn];exact hb
    ·exact h3 t a (by omega)
 obtain⟨k,h1,h2,h3⟩:=key;have hb:before n f x=k:=JM h1 h2 h3;rw[hb];refine⟨λh=>h2 i h,λh=>?_⟩;apply ayu;intro hc;rw[h3 i (by omega) hi]at h;exact absurd h (by decide)
theorem a4O {n:Nat}{f:Nat->ByteArray}(hs:rE n f){x:ByteArray}(hx:there n f x=false):rE (n+1) (Bl f (before n f x) x):=by
 have hle:before n f x<=n:=a0v _ _ _;have hlt:=a7o hs x;have hne: ∀i,i<n->f i≠x:=λi hi e=>by rw[Qw.2 ⟨i,hi,e⟩]at hx;exact absurd hx (by decide)
 have hgt: ∀i,i<n->before n f x<=i->qd x (f i)=true:=λi hi h=>by
  cases hb:qd (f i) x with
  |false=>exact a7n hb (hne i hi)
  |true=>have:=(hlt i hi).2 hb;omega
 intro i j hij hj;rw[a0w,a0w];generalize before n f x=k at*;by_cases h1:j<k
 ·rw[ay5 h1,ay5 (by omega)];exact hs i j hij (by omega)
 ·rw[axY h1];by_cases h2:j=k
  ·subst h2;rw[ay5 rfl,ay5 hij];exact(hlt i (by omega)).1 hij
  ·rw[axY h2];by_cases h3:i<k
   ·rw[ay5 h3];exact hs i (j-1) (by omega) (by omega)
   ·rw[axY h3];by_cases h4:i=k
    ·rw[ay5 h4];exact hgt (j-1) (by omega) (by omega)
    ·rw[axY h4];exact hs (i-1) (j-1) (by omega) (by omega)
structure Agree(a b:Int)(n:Nat)(f:Nat->ByteArray)(u:List (Int×Int))(s:R22):Prop where
 e1:s.1=a
 e2:s.2.1=b
 sz:1<=a/\a<=7/\1<=b/\b<=4
 len:s.2.2.1.1=n
 len2:s.2.2.2.1=n
 sorted:rE n f
 same: ∀p:ByteArray->Bool,cnt p s.2.2.1.2 n=cnt p f n
 uses: ∀e,mf u e=((cnt (λy=>y==e) s.2.2.2.2 n:Nat):Int)
theorem Agree.before {a b:Int}{n:Nat}{f:Nat->ByteArray}{u:List (Int×Int)}{s:R22}(h:Agree a b n f u s)(x:ByteArray):Pl.before n s.2.2.1.2 x=Pl.before n f x:=h.same _
theorem a7p {n:Nat}{f g:Nat->ByteArray}(hn:n<1000000)(h: ∀i,i<n->f i=g i):IB n f n g=some true:=by
 obtain⟨q,h1,rfl⟩:=aO (R:=pK) (S:=Unit) (λk _=>EO n f n g (k:Int))
  (λ_=>Iz) (λk s=>s=()) n
  (λk hk _ _=>by
   refine⟨(),?_,rfl⟩;have e:sEq (f k) (g k)=true:=by rw[h k hk];exact Wn _
   simp(disch:=omega) only[pK,EO,WW,CC,e])
  (λ_ _=>by simp(disch:=omega) only[pK,EO,WW]) () rfl
 have h1':aB pK (((n,f),((n,g),(0,()))),())=some Iz:=h1;rw[RB,PY,a1Q rfl,bH,h1']
def vD(x:ByteArray)(e a b:Int)(n:Nat)(f:Nat->ByteArray)(u:List (Int×Int)):(Int×(Bool×(Int×Unit)))×((Int×(Int×((Nat×(Nat->ByteArray))×(List (Int×Int)))))×Unit):=
 if¬(1<=x.size/\x.size<=8)\/lS a b e=0 then((0,(false,(1,()))),((a,(b,((n,f),u))),()))
 else if there n f x then((((before n f x:Nat):Int),(false,(0,()))),((a,(b,((n,f),u))),()))
 else if mf u e>=lS a b e then((0,(false,(7,()))),((a,(b,((n,f),u))),()))
 else((((before n f x:Nat):Int),(true,(0,()))),((a,(b,((n+1,Bl f (before n f x) x),X8 (.int .i64) (.int .i64) u e (IntKind.i64.wrap (mf u e+1))))),()))
theorem a2E {n:Nat}{f:Nat->ByteArray}(hs:rE n f)(hn:n<1000)(x:ByteArray)(e a b:Int)(u:List (Int×Int)):
  lY x e a b n f u=some (vD x e a b n f u):=by
 have hM:=a2D hs (show n<1000000 by omega) x a b u;have hbl:before n f x<=n:=a0v _ _ _;have hble: ∀a b:Nat,a<=b->Nat.ble a b=true:=λa b h=>ay6 h
 rw[vw,qp,a2C,vD];by_cases hk:1<=x.size/\x.size<=8
 ·by_cases hz:lS a b e=0
  ·rw[ay5 (.inr hz),dH hk];simp only[G8 hz,WW]
  ·rw[axY (by intro h;rcases h with h|h;exact h hk;exact hz h),dH hk];simp only[gN hz,WW,hM];cases ht:there n f x with
   |true=>rfl
   |false=>
    by_cases hge:mf u e>=lS a b e
    ·simp only[dH hge,WW,ay5 hge];rfl
    ·have hge': ¬(Option.getD (qD (.int .i64) (.int .i64) u e) (0:Int)>=lS a b e):=hge;simp(disch:=omega) only[bq hge',WW,hble,aA7,axY hge,azm,ayE]
 ·rw[ay5 (.inl hk),bq hk];rfl
theorem a0y {n:Nat}{f:Nat->ByteArray}(hs:rE n f)(x:ByteArray)(e a b:Int)(u:List (Int×Int)):
  rE (vD x e a b n f u).2.1.2.2.1.1 (vD x e a b n f u).2.1.2.2.1.2/\(vD x e a b n f u).2.1.2.2.1.1<=n+1/\(vD x e a b n f u).2.1.1=a/\(vD x e a b n f u).2.1.2.1=b:=by
 unfold vD;split
 ·exact⟨hs,Nat.le_succ _,rfl,rfl⟩
 ·split
  ·exact⟨hs,Nat.le_succ _,rfl,rfl⟩
  ·next ht=>
   split
   ·exact⟨hs,Nat.le_succ _,rfl,rfl⟩
   ·refine⟨a4O hs ?_,ay7 _,rfl,rfl⟩;cases h:there n f x with
    |false=>rfl
    |true=>exact absurd h ht
end Go.Pl
