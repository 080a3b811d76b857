/-
 Numbers and words.
-/
import Derived.Test.YtldlihheppdhnaaGreatDenD
import Derived.Test.YtldlihheppdhnaaGreatPlA
set_option linter.unusedVariables false
namespace Go.Num
theorem I9 {m a b:Nat}(h:a%m=b%m)(hle:b<=a):m∣a-b:=by have h1:=ay3 a m;have h2:=ay3 b m;refine⟨a/m-b/m,?_⟩;rw[Nat.mul_sub];omega
theorem Ia {m a b:Nat}(h:m∣a-b)(hle:b<=a):a%m=b%m:=by
 obtain⟨k,hk⟩:=h;have:a=b+m*k:=by omega
 rw[this,azB]
theorem mod_mul_mod {a b c d m:Nat}(h1:a%m=b%m)(h2:c%m=d%m):(a*c)%m=(b*d)%m:=by rw[ayW,h1,h2,<-ayW]
theorem mod_add_mod {a b c d m:Nat}(h1:a%m=b%m)(h2:c%m=d%m):(a+c)%m=(b+d)%m:=by rw[azC,h1,h2,<-azC]
theorem LC {a b c m:Nat}(hc:Nat.Coprime m c)(h:(c*a)%m=(c*b)%m):a%m=b%m:=by
 have key: ∀a b,b<=a->(c*a)%m=(c*b)%m->a%m=b%m:=by intro a b hle h;have h1:=I9 h (azw c hle);rw[<-Nat.mul_sub]at h1;exact Ia (hc.dvd_of_dvd_mul_left h1) hle
 rcases Nat.le_total a b with hab|hab
 ·exact(key b a hab h.symm).symm
 ·exact key a b hab h
theorem wG {a b c m:Nat}(hc:Nat.Coprime m c)(h:(a*c)%m=(b*c)%m):a%m=b%m:=
 LC hc (by rw[axH c a,axH c b];exact h)
def Pr(p:Nat):Prop:=2<=p/\ ∀d,d∣p->d=1\/d=p
theorem Pr.pos {p:Nat}(h:Pr p):0<p:=by have:=h.1;omega
theorem Pr.coprime {p a:Nat}(h:Pr p)(ha: ¬p∣a):Nat.Coprime p a:=by
 rcases h.2 (Nat.gcd p a) (Nat.gcd_dvd_left p a)with h1|h1
 ·exact h1
 ·exact absurd (h1▸Nat.gcd_dvd_right p a) ha
theorem Pr.dvd_mul {p a b:Nat}(h:Pr p)(hd:p∣a*b):p∣a\/p∣b:=by
 by_cases ha:p∣a
 ·exact .inl ha
 ·exact .inr ((h.coprime ha).dvd_of_dvd_mul_left hd)
theorem NQ: ∀(n:Nat),2<=n-> ∃p,Pr p/\p∣n/\(¬Pr n->p*p<=n):=by
 intro n
 induction n using Nat.strongRecOn with
 |_ n ih=>
  intro hn;by_cases hp:Pr n
  ·exact⟨n,hp,Nat.dvd_refl n,λh=>absurd hp h⟩
  ·have: ∃d,d∣n/\d≠1/\d≠n:=by apply axN;intro hno;apply hp;refine⟨hn,λd hd=>?_⟩;apply axN;intro h2;exact hno ⟨d,hd,λh=>h2 (.inl h),λh=>h2 (.inr h)⟩
   obtain⟨d,⟨e,he⟩,h1,h2⟩:=this;have hd0:d≠0:=by rintro rfl;simp at he;omega
   have he0:e≠0:=by rintro rfl;simp at he;omega
   have he1:e≠1:=by rintro rfl;simp at he;exact h2 he.symm
   have key: ∀d e,n=d*e->2<=d->2<=e->d<=e-> ∃p,Pr p/\p∣n/\(¬Pr n->p*p<=n):=by
    intro d e he hd2 he2 hde;have hlt:d<n:=by
     rw[he]
     calc d<d*2:=by omega
      _<=d*e:=azw d he2
    obtain⟨p,hp1,hp2,_⟩:=ih d hlt hd2;have hple:p<=d:=aA0 (by omega) hp2;refine⟨p,hp1,he▸Nat.dvd_mul_right_of_dvd hp2 e,λ_=>?_⟩;rw[he];exact azD hple (az3 hple hde)
   rcases Nat.le_total d e with h|h
   ·exact key d e he (by omega) (by omega) h
   ·exact key e d (by rw[he,axH]) (by omega) (by omega) h
theorem Ib {n:Nat}(hn:2<=n)(h: ∀d,2<=d->d*d<=n->n%d≠0):Pr n:=by apply axN;intro hp;obtain⟨p,h1,h2,h3⟩:=NQ n hn;exact h p h1.1 (h3 hp) (Nat.mod_eq_zero_of_dvd h2)
theorem Pr.tried {n:Nat}(h:Pr n): ∀d,2<=d->d<n->n%d≠0:=by intro d h2 hlt h0;rcases h.2 d (Nat.dvd_of_mod_eq_zero h0)with h1|h1<;>omega
def choose:Nat->Nat->Nat|_,0=>1|0,_+1=>0|n+1,k+1=>choose n k+choose n (k+1)
theorem BF(n:Nat):choose n 0=1:=by cases n<;>rfl
theorem choose_lt: ∀ {n k:Nat},n<k->choose n k=0:=by
 intro n
 induction n with
 |zero=>intro k h;cases k with
  |zero=>omega
  |succ k=>rfl
 |succ n ih=>intro k h;cases k with
  |zero=>omega
  |succ k=>rw[choose,ih (by omega),ih (by omega)]
theorem a1h: ∀n,choose n n=1:=by
 intro n
 induction n with
 |zero=>rfl
 |succ n ih=>rw[choose,ih,choose_lt (azO n)]
theorem Xb: ∀n k,(k+1)*choose (n+1) (k+1)=(n+1)*choose n k:=by
 intro n
 induction n with
 |zero=>
  intro k;cases k with
  |zero=>rfl
  |succ k=>simp[choose]
 |succ n ih=>
  intro k;cases k with
  |zero=>
   have:=ih 0;simp only[BF,axA,ayE,az0]at this⊢;rw[choose,this,BF];omega
  |succ k=>
   have h1:=ih k;have h2:=ih (k+1);rw[choose,azo,h2,show k+1+1=(k+1)+1 from rfl,axQ,h1,ayE];rw[show choose (n+1) (k+1)=choose n k+choose n (k+1)from rfl];rw[axQ (n+1) 1,azo];omega
theorem Ph {p k:Nat}(hp:Pr p)(h0:0<k)(hk:k<p):p∣choose p k:=by
 obtain⟨q,rfl⟩: ∃q,p=q+1:=⟨p-1,by omega⟩;obtain⟨j,rfl⟩: ∃j,k=j+1:=⟨k-1,by omega⟩;have h:=Xb q j;have hd:(q+1)∣(j+1)*choose (q+1) (j+1):=by rw[h];exact Nat.dvd_mul_right _ _
 rcases hp.dvd_mul hd with h1|h1
 ·have:=aA0 (by omega) h1;omega
 ·exact h1
def nC(n a:Nat):Nat->Nat|0=>0|m+1=>nC n a m+choose n m*a^m
theorem a1i(n a:Nat): ∀m,nC (n+1) a (m+1)=nC n a (m+1)+a*nC n a m:=by
 intro m
 induction m with
 |zero=>simp[nC,BF]
 |succ m ih=>
  rw[nC,ih,nC,nC,nC,choose];rw[azo,axQ,ayQ];have:a*(choose n m*a^m)=choose n m*(a^m*a):=by rw[axH a,ay2]
  rw[this];omega
theorem aa5(a:Nat): ∀n,(a+1)^n=nC n a (n+1):=by
 intro n
 induction n with
 |zero=>simp[nC,choose]
 |succ n ih=>
  rw[ayQ,ih,a1i];rw[show nC n a (n+1+1)=nC n a (n+1)+choose n (n+1)*a^(n+1)from rfl,choose_lt (azO n)];rw[azo,az0,axH (nC n a (n+1)) a];omega
theorem a3L {p a:Nat}(hp:Pr p): ∀m,m<p->nC p a (m+1)%p=1:=by
 intro m
 induction m with
 |zero=>intro h;simp[nC,BF];exact axk hp.1
 |succ m ih=>
  intro h;rw[nC,azC,ih (by omega),Nat.mod_eq_zero_of_dvd (Nat.dvd_mul_right_of_dvd (Ph hp (by omega) h) _)];exact axk hp.1
theorem a3M {p a:Nat}(hp:Pr p):((a+1)^p)%p=(a^p+1)%p:=by obtain⟨q,rfl⟩: ∃q,p=q+1:=⟨p-1,by have:=hp.1;omega⟩;rw[aa5,nC,a1h,ayE,azC,a3L hp q (by omega),ayK,<-axk (a:=1) (b:=q+1) hp.1];simp
theorem aiW {p:Nat}(hp:Pr p): ∀a,(a^p)%p=a%p:=by
 intro a
 induction a with
 |zero=>rw[Nat.zero_pow hp.pos]
 |succ a ih=>rw[a3M hp];exact mod_add_mod ih rfl
theorem a3N {p a:Nat}(hp:Pr p)(ha: ¬p∣a):(a^(p-1))%p=1:=by have h:=aiW hp a;obtain⟨q,rfl⟩: ∃q,p=q+1:=⟨p-1,by have:=hp.1;omega⟩;rw[ayQ,axH]at h;have h1:=LC (a:=a^q) (b:=1) (hp.coprime ha) (by rw[h,az0]);rw[azS,h1];exact axk hp.1
theorem R4 {m b k:Nat}(hm:2<=m)(h:b^k%m=1)(j:Nat):b^(k*j)%m=1:=by rw[azg,Nat.pow_mod,h,Nat.one_pow];exact axk hm
theorem LD {m b k:Nat}(hm:2<=m)(hk:0<k)(h:b^k%m=1):Nat.Coprime m b:=by have h1:Nat.gcd m b∣b^k:=Nat.dvd_trans (Nat.gcd_dvd_right m b) ⟨b^(k-1),by rw[<-Nat.pow_succ'];congr 1;omega⟩;have h2:Nat.gcd m b∣m:=Nat.gcd_dvd_left m b;have h3:Nat.gcd m b∣b^k%m:=(Nat.dvd_mod_iff h2).2 h1;rw[h]at h3;exact Nat.eq_one_of_dvd_one h3
theorem abp {m b:Nat}(hm:2<=m): ∀x y,b^x%m=1->b^y%m=1->b^(Nat.gcd x y)%m=1:=by
 intro x
 induction x using Nat.strongRecOn with
 |_ x ih=>
  intro y h1 h2;by_cases h0:x=0
  ·subst h0;rw[Nat.gcd_zero_left];exact h2
  ·rw[Nat.gcd_rec];refine ih (y%x) (axG _ (by omega)) x ?_ h1;have h3:=ay3 y x;rw[<-h3,ayF,ayW,R4 hm h1,ayE,azT]at h2;exact h2
theorem Y4 {m b f y:Nat}(hm:2<=m)(hf:Pr f)(h1:b^f%m=1)(hb:b%m≠1)(h2:b^y%m=1):f∣y:=by apply axN;intro hd;have h3:=abp hm f y h1 h2;rw[hf.coprime hd,Nat.pow_one]at h3;exact hb h3
theorem a1j {n f k a:Nat}(hn:2<=n)(hf:Pr f)(hk:k*f=n-1)(hff:n<f*f)(h1:(a^k%n)^f%n=1)(h2:Nat.gcd ((a^k%n)+n-1) n=1):Pr n:=by
 apply axN;intro hp;obtain⟨p,hp1,hp2,hp3⟩:=NQ n hn;have hpp:=hp3 hp;generalize hb:a^k%n=b at h1 h2;have hb1:b^f%p=1:=by have:=congrArg (·%p) h1;simp only[Nat.mod_mod_of_dvd _ hp2]at this;rw[this];exact axk hp1.1
 have hbne:b%p≠1:=by
  intro h;have hb0:1<=b:=by
   rcases axZ b with h0|h0
   ·rw[h0,Nat.zero_mod]at h;cases h
   ·exact h0
  have h3:p∣b-1:=by refine I9 (m:=p) (a:=b) (b:=1) ?_ hb0;rw[h];exact(axk hp1.1).symm
  have h4:p∣b+n-1:=by
   have:b+n-1=(b-1)+n:=by omega
   rw[this];exact Nat.dvd_add h3 hp2
  have h5:=Nat.dvd_gcd h4 hp2;rw[h2]at h5;have:=aA0 (by omega) h5;have:=hp1.1;omega
 have hpb: ¬p∣b:=by intro h;have h3:=LD hp1.1 hf.pos hb1;have h4:p∣Nat.gcd p b:=Nat.dvd_gcd (Nat.dvd_refl p) h;rw[h3]at h4;have:=aA0 (by omega) h4;have:=hp1.1;omega
 have h6:=Y4 hp1.1 hf hb1 hbne (a3N hp1 hpb);have h7:=aA0 (by have:=hp1.1;omega) h6;have h8:f<p:=by have:=hp1.1;omega
 have:f*f<p*p:=Nat.mul_lt_mul'' h8 h8;omega
end Go.Num
set_option linter.unusedSimpArgs false
namespace Go.Pl
open Go Go.Den
theorem wrap_u64(n:Nat):IntKind.u64.wrap (n:Int)=((n%18446744073709551616:Nat):Int):=by simp[IntKind.wrap,IntKind.bits,IntKind.signed]
theorem J4(x:Int):IntKind.u64.wrap x=x%18446744073709551616:=by simp[IntKind.wrap,IntKind.bits,IntKind.signed]
theorem wrap_u32'(x:Int):IntKind.u32.wrap x=x%4294967296:=by simp[IntKind.wrap,IntKind.bits,IntKind.signed]
theorem wrap_u8'(x:Int):IntKind.u8.wrap x=x%256:=by simp[IntKind.wrap,IntKind.bits,IntKind.signed]
theorem a6g(x:Int):IntKind.i64.wrap x=if x%18446744073709551616>=9223372036854775808 then x%18446744073709551616-18446744073709551616 else x%18446744073709551616:=by simp[IntKind.wrap,IntKind.bits,IntKind.signed]
theorem wrap_i64 {x:Int}(h: -9223372036854775808<=x/\x<9223372036854775808):IntKind.i64.wrap x=x:=by rw[a6g];split<;>omega
theorem ade {x:Int}(h:0<=x/\x<18446744073709551616):IntKind.u64.wrap x=x:=by rw[J4];omega
theorem aa6 {x:Int}(h:0<=x/\x<256):IntKind.u8.wrap x=x:=by rw[wrap_u8'];omega
theorem dJ {p:Prop}[Decidable p](h:p):decide p=true:=axw h
theorem bF {p:Prop}[Decidable p](h: ¬p):decide p=false:=axz h
theorem Y5 {x y:Int}(h:x=y):(x==y)=true:=by simp[h]
theorem iP {x y:Int}(h:x≠y):(x==y)=false:=by simp[h]
theorem Y6 {x y:Int}(h:x≠y):(x !=y)=true:=by simp[h]
theorem a1k {x y:Int}(h:x=y):(x !=y)=false:=by simp[h]
theorem Kr {i:Int}{n:Nat}(h:0<=i/\i<(n:Int)):inb i n=true:=by simp[inb,h.1,h.2]
theorem abq {a b:Int}(h:0<=a):a.tmod b=a%b:=Int.tmod_eq_emod_of_nonneg h
theorem as8:(false==true)=false:=rfl
theorem as9:(true==false)=false:=rfl
theorem asa:(true==true)=true:=rfl
theorem asb:(false==false)=true:=rfl
theorem bM {α:Type}(a b:α):(bif true then a else b)=a:=rfl
theorem bO {α:Type}(a b:α):(bif false then a else b)=b:=rfl
theorem Vb {k:IntKind}{a s:Nat}(h:a<2^k.bits):bL k (a:Int) (s:Int)=((a/2^s:Nat):Int):=by
 unfold bL;rw[axE];by_cases hs:s<=k.bits
 ·rw[ayT hs,Int.fdiv_eq_ediv_of_nonneg _ (by exact Int.le_of_lt (Int.pow_pos (by decide)))];simp
 ·rw[Nat.min_eq_right (by omega),Int.fdiv_eq_ediv_of_nonneg _ (by exact Int.le_of_lt (Int.pow_pos (by decide)))];have h1:a/2^s=0:=ayl (axJ h (axM (by decide) (by omega)));have h2:a/2^k.bits=0:=ayl h;rw[h1];have:((a/2^k.bits:Nat):Int)=0:=by rw[h2];rfl
  simpa using this
theorem Pj {a s:Nat}(h:a<18446744073709551616):bL .u64 (a:Int) (s:Int)=((a/2^s:Nat):Int):=Vb (k:=.u64) h
theorem ZE {a s:Nat}(h:a<9223372036854775808):bL .i64 (a:Int) (s:Int)=((a/2^s:Nat):Int):=Vb (k:=.i64) (azZ h (by decide))
theorem a3O {a s:Nat} :iF .u64 (a:Int) (s:Int)=((a*2^s%18446744073709551616:Nat):Int):=by
 unfold iF;rw[axE,show((a:Int)*2^min s IntKind.u64.bits)=((a*2^min s 64:Nat):Int)by simp[IntKind.bits],wrap_u64]
 congr 1
 by_cases hs:s<=64
 ·rw[ayT hs]
 ·rw[Nat.min_eq_right (by omega)];have h1:2^s=18446744073709551616*2^(s-64):=by rw[show(18446744073709551616:Nat)=2^64 by decide,<-ayF];congr 1;omega
  rw[h1,Nat.mul_left_comm,Nat.mul_mod_right,show(2:Nat)^64=18446744073709551616 by decide,Nat.mul_mod_left]
theorem dZ(a:Nat):(BitVec.ofInt 64 (a:Int)).toNat=a%18446744073709551616:=by simp[BitVec.toNat_ofInt]
theorem abr {a b:Nat}(ha:a<18446744073709551616)(hb:b<18446744073709551616):av .and .u64 (a:Int) (b:Int)=((a&&& b:Nat):Int):=by have:av .and .u64 (a:Int) (b:Int)=IntKind.u64.wrap ((BitVec.ofInt 64 a&&& BitVec.ofInt 64 b).toNat:Int):=rfl;rw[this,BitVec.toNat_and,dZ,dZ,axk ha,axk hb,wrap_u64,axk];exact axB az6 ha
theorem orU {a b:Nat}(ha:a<18446744073709551616)(hb:b<18446744073709551616):av .or .u64 (a:Int) (b:Int)=((a||| b:Nat):Int):=by have:av .or .u64 (a:Int) (b:Int)=IntKind.u64.wrap ((BitVec.ofInt 64 a||| BitVec.ofInt 64 b).toNat:Int):=rfl;rw[this,BitVec.toNat_or,dZ,dZ,axk ha,axk hb,wrap_u64,axk];exact ayf (n:=64) ha hb
theorem a1l {a b:Nat}(ha:a<9223372036854775808)(hb:b<9223372036854775808):av .and .i64 (a:Int) (b:Int)=((a&&& b:Nat):Int):=by have:av .and .i64 (a:Int) (b:Int)=IntKind.i64.wrap ((BitVec.ofInt 64 a&&& BitVec.ofInt 64 b).toNat:Int):=rfl;have hlt:a&&& b<9223372036854775808:=axB az6 ha;rw[this,BitVec.toNat_and,dZ,dZ,axk (by omega),axk (by omega),wrap_i64];omega
theorem orS {a b:Nat}(ha:a<9223372036854775808)(hb:b<9223372036854775808):av .or .i64 (a:Int) (b:Int)=((a||| b:Nat):Int):=by have:av .or .i64 (a:Int) (b:Int)=IntKind.i64.wrap ((BitVec.ofInt 64 a||| BitVec.ofInt 64 b).toNat:Int):=rfl;have hlt:a||| b<9223372036854775808:=ayf (n:=63) ha hb;rw[this,BitVec.toNat_or,dZ,dZ,axk (by omega),axk (by omega),wrap_i64];omega
theorem ax3 {a s:Nat}(h:a*2^s<9223372036854775808)(h0:0<a):iF .i64 (a:Int) (s:Int)=((a*2^s:Nat):Int):=by
 have hs:s<=64:=by apply axN;intro hs;have:2^64<=2^s:=axM (by decide) (by omega);have h1:2^s<=a*2^s:=Nat.le_mul_of_pos_left _ h0;omega
 unfold iF;rw[axE,show min s IntKind.i64.bits=s from ayT hs,show((a:Int)*2^s)=((a*2^s:Nat):Int)by simp,wrap_i64];omega
theorem NR {x:Int}{k:Nat}(hk:k<63):av .and .i64 x ((2^k-1:Nat):Int)=x%(2^k:Nat):=by
 have:av .and .i64 x ((2^k-1:Nat):Int)=IntKind.i64.wrap ((BitVec.ofInt 64 x&&& BitVec.ofInt 64 ((2^k-1:Nat):Int)).toNat:Int):=rfl;have hp:2^k<=2^62:=axM (by decide) (by omega);have hp0:0<2^k:=azp (by decide);rw[this,BitVec.toNat_and,dZ,axk (a:=2^k-1) (by omega),ay8];have h1:((BitVec.ofInt 64 x).toNat:Int)=x%(2^64:Nat):=by rw[BitVec.toNat_ofInt,azv];exact Int.emod_nonneg _ (by decide)
 have hlt:(BitVec.ofInt 64 x).toNat%2^k<2^k:=axG _ hp0;rw[wrap_i64 (by omega),Int.natCast_emod,h1];apply Int.emod_emod_of_dvd;exact⟨((2^(64-k):Nat):Int),by rw[<-Int.natCast_mul,<-ayF];congr 2;omega⟩
theorem a6h {x y c:Nat}(hc:c<=1):bU (x:Int) (y:Int) (c:Int)=some ((((x+y+c)%18446744073709551616:Nat):Int),(((x+y+c)/18446744073709551616:Nat):Int)):=by rw[a0M];unfold Z0;simp only[axE,axu hc,bM,m64]
theorem a6i {x y c:Nat}(hc:c<=1):EW (x:Int) (y:Int) (c:Int)=some ((((x+18446744073709551616-y-c)%18446744073709551616:Nat):Int),((if x<y+c then 1 else 0:Nat):Int)):=by rw[a0N];unfold Z4;simp only[axE,axu hc,bM,m64]
theorem eX {n:Nat}(h:n<9223372036854775808):IntKind.i64.wrap (n:Int)=(n:Int):=wrap_i64 (by omega)
theorem Cw {n:Nat}(h:n<18446744073709551616):IntKind.u64.wrap (n:Int)=(n:Int):=ade (by omega)
theorem NS(a b:Nat):(a:Int)+(b:Int)=((a+b:Nat):Int):=rfl
theorem Vd(a n:Nat):(a:Int)+(no_index (OfNat.ofNat n):Int)=((a+OfNat.ofNat n:Nat):Int):=rfl
theorem adf(a n:Nat):(no_index (OfNat.ofNat n):Int)+(a:Int)=((OfNat.ofNat n+a:Nat):Int):=rfl
theorem a1m(a b:Nat):(a:Int)*(b:Int)=((a*b:Nat):Int):=rfl
theorem aa7(a n:Nat):(a:Int)*(no_index (OfNat.ofNat n):Int)=((a*OfNat.ofNat n:Nat):Int):=rfl
theorem adg(a n:Nat):(no_index (OfNat.ofNat n):Int)*(a:Int)=((OfNat.ofNat n*a:Nat):Int):=rfl
theorem aa8 {a b:Nat}(h:b<=a):(a:Int)-(b:Int)=((a-b:Nat):Int):=by omega
theorem aa9 {a n:Nat}(h:OfNat.ofNat n<=a):(a:Int)-(no_index (OfNat.ofNat n):Int)=((a-OfNat.ofNat n:Nat):Int):=by have:(OfNat.ofNat n:Int)=((OfNat.ofNat n:Nat):Int):=rfl;rw[this];omega
theorem adh {a n:Nat}(h:a<=OfNat.ofNat n):(no_index (OfNat.ofNat n):Int)-(a:Int)=((OfNat.ofNat n-a:Nat):Int):=by have:(OfNat.ofNat n:Int)=((OfNat.ofNat n:Nat):Int):=rfl;rw[this];omega
theorem adi(a b:Nat):(a:Int)/(b:Int)=((a/b:Nat):Int):=rfl
theorem adj(a n:Nat):(a:Int)/(no_index (OfNat.ofNat n):Int)=((a/OfNat.ofNat n:Nat):Int):=rfl
theorem adk(a b:Nat):(a:Int)%(b:Int)=((a%b:Nat):Int):=rfl
theorem adl(a n:Nat):(a:Int)%(no_index (OfNat.ofNat n):Int)=((a%OfNat.ofNat n:Nat):Int):=rfl
theorem ZF(a b:Nat):Int.tdiv (a:Int) (b:Int)=((a/b:Nat):Int):=rfl
theorem a3P(a n:Nat):Int.tdiv (a:Int) (no_index (OfNat.ofNat n):Int)=((a/OfNat.ofNat n:Nat):Int):=rfl
theorem aac(a b:Nat):Int.tmod (a:Int) (b:Int)=((a%b:Nat):Int):=rfl
theorem ZG(a n:Nat):Int.tmod (a:Int) (no_index (OfNat.ofNat n):Int)=((a%OfNat.ofNat n:Nat):Int):=rfl
theorem wH(x j:Nat):x/2^j=x/2^(j+1)*2+(if x.testBit j then 1 else 0):=by
 rw[azf,ayQ,<-ayq];have h3:x/2^j%2=0\/x/2^j%2=1:=by omega
 rcases h3 with h3|h3<;>simp[h3]<;>omega
theorem upd_same {α:Type}(f:Nat->α)(i:Nat)(v:α):upd f i v i=v:=by simp[upd]
theorem upd_ne {α:Type}{f:Nat->α}{i j:Nat}{v:α}(h:j≠i):upd f i v j=f j:=by simp[upd,h]
theorem abt {X Y S:Type}{R:X->Option (X⊕Y)}(st:Nat->S->X)(P:Nat->S->Prop)(Q:Y->Prop)(N:Nat)
  (hstep: ∀k,k<N-> ∀s,P k s-> ∃s',R (st k s)=some (.inl (st (k+1) s'))/\P (k+1) s')
  (hend: ∀s,P N s-> ∃y,R (st N s)=some (.inr y)/\Q y): ∀k,k<=N-> ∀s,P k s-> ∃y,aD R (st k s)=some y/\Q y:=by
 have key: ∀n k,N-k<=n->k<=N-> ∀s,P k s-> ∃y,aD R (st k s)=some y/\Q y:=by
  intro n
  induction n with
  |zero=>
   intro k h1 h2 s hs;obtain rfl:k=N:=by omega
   obtain⟨y,h3,h4⟩:=hend s hs;exact⟨y,dM h3,h4⟩
  |succ n ih=>
   intro k h1 h2 s hs;by_cases hk:k=N
   ·subst hk;obtain⟨y,h3,h4⟩:=hend s hs;exact⟨y,dM h3,h4⟩
   ·obtain⟨s',h3,h4⟩:=hstep k (by omega) s hs;rw[nT h3];exact ih (k+1) (by omega) (by omega) s' h4
 exact λk hk s hs=>key (N-k) k (axr _) hk s hs
theorem aP {X Y S:Type}{R:X->Option (X⊕Y)}(st:Nat->S->X)(ex:S->Y)(P:Nat->S->Prop)(N:Nat)
  (hstep: ∀k,k<N-> ∀s,P k s-> ∃s',R (st k s)=some (.inl (st (k+1) s'))/\P (k+1) s')
  (hend: ∀s,P N s->R (st N s)=some (.inr (ex s))) (s0:S) (h0:P 0 s0): ∃s,aD R (st 0 s0)=some (ex s)/\P N s:=by
 obtain⟨y,h1,s,rfl,h2⟩:=abt st P (λy=> ∃s,y=ex s/\P N s) N hstep (λs hs=>⟨_,hend s hs,s,rfl,hs⟩) 0 (ays _) s0 h0;exact⟨s,h1,h2⟩
theorem l9 {X Y S:Type}{R:X->Option (X⊕Y)}(st:Nat->S->X)(P:Nat->S->Prop)(Q:Y->Prop)(N:Nat)
  (hstep: ∀k,k<N-> ∀s,P k s->(∃s',R (st k s)=some (.inl (st (k+1) s'))/\P (k+1) s')\/ ∃y,R (st k s)=some (.inr y)/\Q y)
  (hend: ∀s,P N s-> ∃y,R (st N s)=some (.inr y)/\Q y) (s0:S) (h0:P 0 s0): ∃y,aD R (st 0 s0)=some y/\Q y:=by
 have key: ∀n k,N-k<=n->k<=N-> ∀s,P k s-> ∃y,aD R (st k s)=some y/\Q y:=by
  intro n
  induction n with
  |zero=>
   intro k h1 h2 s hs;obtain rfl:k=N:=by omega
   obtain⟨y,h3,h4⟩:=hend s hs;exact⟨y,dM h3,h4⟩
  |succ n ih=>
   intro k h1 h2 s hs;by_cases hk:k=N
   ·subst hk;obtain⟨y,h3,h4⟩:=hend s hs;exact⟨y,dM h3,h4⟩
   ·rcases hstep k (by omega) s hs with⟨s',h3,h4⟩|⟨y,h3,h4⟩
    ·rw[nT h3];exact ih (k+1) (by omega) (by omega) s' h4
    ·exact⟨y,dM h3,h4⟩
 exact key N 0 (by omega) (ays _) s0 h0
theorem a4T {s:Nat}(h:s<64):iF .u64 1 (s:Int)=((2^s:Nat):Int):=by have:=a3O (a:=1) (s:=s);rw[ayE,axk (ayI (by decide) h)]at this;exact this
theorem adn {s:Nat}(h:s<63):iF .i64 1 (s:Int)=((2^s:Nat):Int):=by have:=ax3 (a:=1) (s:=s) (by rw[ayE];exact axJ (ayI (by decide) h) (by decide)) (by decide);rw[ayE]at this;exact this
theorem aad {a:Nat}(h:a<18446744073709551616):av .and .u64 (a:Int) 1=((a%2:Nat):Int):=by rw[show(1:Int)=((1:Nat):Int)from rfl,abr h (by decide),Nat.and_one_is_mod]
theorem aae {a:Nat}(h:a<9223372036854775808):av .and .i64 (a:Int) 1=((a%2:Nat):Int):=by rw[show(1:Int)=((1:Nat):Int)from rfl,a1l h (by decide),Nat.and_one_is_mod]
theorem a4U(n:Nat):Int.toNat (no_index (OfNat.ofNat n:Int))=OfNat.ofNat n:=rfl
theorem asc(h:Decidable True): @decide True h=true:=axw trivial
theorem ase(h:Decidable False): @decide False h=false:=axz id
theorem WW:type_of% @eX/\type_of% @Cw/\type_of% @dJ/\type_of% @bF/\type_of% @Kr/\type_of% @Y5/\type_of% @iP/\type_of% @Y6/\type_of% @a1k/\type_of% @as8/\type_of% @as9/\type_of% @asa/\type_of% @asb/\type_of% @bM/\type_of% @bO/\type_of% @axE/\type_of% @aym/\type_of% @az9/\type_of% @a4U/\type_of% @asc/\type_of% @ase:=
 ⟨@eX, @Cw, @dJ, @bF, @Kr, @Y5, @iP, @Y6, @a1k, @as8, @as9, @asa, @asb, @bM, @bO, @axE, @aym, @az9, @a4U, @asc, @ase⟩
theorem CC:type_of% @NS/\type_of% @Vd/\type_of% @adf/\type_of% @a1m/\type_of% @aa7/\type_of% @adg/\type_of% @aa8/\type_of% @aa9/\type_of% @adh/\type_of% @adi/\type_of% @adj/\type_of% @adk/\type_of% @adl/\type_of% @ZF/\type_of% @a3P/\type_of% @aac/\type_of% @ZG:=
 ⟨@NS, @Vd, @adf, @a1m, @aa7, @adg, @aa8, @aa9, @adh, @adi, @adj, @adk, @adl, @ZF, @a3P, @aac, @ZG⟩
def IsN(a:Nat->Int)(n:Nat):Prop:=n<2^256/\ ∀i,i<4->a i=((n/2^(64*i)%2^64:Nat):Int)
theorem IsN.lt {a:Nat->Int}{n:Nat}(h:IsN a n):n<2^256:=h.1
theorem IsN.mk {a:Nat->Int}{x0 x1 x2 x3:Nat}(h0:a 0=x0)(h1:a 1=x1)(h2:a 2=x2)(h3:a 3=x3)(b0:x0<18446744073709551616)(b1:x1<18446744073709551616)(b2:x2<18446744073709551616)(b3:x3<18446744073709551616):
  IsN a (x0+x1*18446744073709551616+x2*340282366920938463463374607431768211456+x3*6277101735386680763835789423207666416102355444464034512896):=by
 refine⟨by omega,λi hi=>?_⟩
 match i,hi with
 |0,_=>rw[h0];congr 1;simp only[Nat.reducePow,Nat.reduceMul];omega
 |1,_=>rw[h1];congr 1;simp only[Nat.reducePow,Nat.reduceMul];omega
 |2,_=>rw[h2];congr 1;simp only[Nat.reducePow,Nat.reduceMul];omega
 |3,_=>rw[h3];congr 1;simp only[Nat.reducePow,Nat.reduceMul];omega
theorem IsN.get {a:Nat->Int}{n:Nat}(h:IsN a n): ∃x0 x1 x2 x3:Nat,a 0=x0/\a 1=x1/\a 2=x2/\a 3=x3/\x0<18446744073709551616/\x1<18446744073709551616/\x2<18446744073709551616/\x3<18446744073709551616/\
  n=x0+x1*18446744073709551616+x2*340282366920938463463374607431768211456+x3*6277101735386680763835789423207666416102355444464034512896:=by
 have hlt:=h.1;refine⟨_,_,_,_,h.2 0 (by omega),h.2 1 (by omega),h.2 2 (by omega),h.2 3 (by omega),?_⟩;simp only[Nat.reducePow,Nat.reduceMul]at hlt⊢;omega
theorem IsN.of {a:Nat->Int}(h: ∀i,i<4->0<=a i/\a i<=18446744073709551615): ∃n,IsN a n:=by
 refine⟨_,IsN.mk (x0:=(a 0).toNat) (x1:=(a 1).toNat) (x2:=(a 2).toNat) (x3:=(a 3).toNat) ?_ ?_ ?_ ?_ ?_ ?_ ?_ ?_⟩
 all_goals (have:=h 0 (by omega);have:=h 1 (by omega);have:=h 2 (by omega);have:=h 3 (by omega);omega)
theorem IsN.of_eq {a:Nat->Int}{n m:Nat}(h:IsN a n)(e:n=m):IsN a m:=e▸h
theorem IsN.eqb {a b:Nat->Int}{n m:Nat}(ha:IsN a n)(hb:IsN b m):eqF (.arr 4 (.int .u64)) a b=decide (n=m):=by obtain⟨x0,x1,x2,x3,e0,e1,e2,e3,h0,h1,h2,h3,rfl⟩:=ha.get;obtain⟨y0,y1,y2,y3,f0,f1,f2,f3,g0,g1,g2,g3,rfl⟩:=hb.get;have:Go.Den.eqF (.arr 4 (.int .u64)) a b=(((a 0==b 0)&&((a 1==b 1)&&((a 2==b 2)&&((a 3==b 3)&&true))))):=rfl;rw[this,e0,e1,e2,e3,f0,f1,f2,f3];rw[az5];simp only[axh,azV,and_true,axK];omega
theorem aiX {f:Nat->Int}{x0 x1 x2 x3:Nat}(b0:x0<18446744073709551616)(b1:x1<18446744073709551616)(b2:x2<18446744073709551616)(b3:x3<18446744073709551616):
  IsN (upd (upd (upd (upd f 0 (x0:Int)) 1 (x1:Int)) 2 (x2:Int)) 3 (x3:Int)) (x0+x1*18446744073709551616+x2*340282366920938463463374607431768211456+x3*6277101735386680763835789423207666416102355444464034512896):=
 IsN.mk rfl rfl rfl rfl b0 b1 b2 b3
theorem IsN.zero:IsN (λ_=>0) 0:=⟨by decide,λi hi=>by simp⟩
theorem IsN.small {x:Nat}(h:x<18446744073709551616):IsN (upd (λ_=>0) 0 (x:Int)) x:=by have:=IsN.mk (a:=upd (λ_=>0) 0 (x:Int)) (x0:=x) (x1:=0) (x2:=0) (x3:=0) rfl rfl rfl rfl h (by decide) (by decide) (by decide);simpa using this
theorem IsN.bit {a:Nat->Int}{n:Nat}(h:IsN a n){i:Nat}(hi:i<4): ∃w:Nat,a i=(w:Int)/\w<18446744073709551616/\ ∀j,j<64->w.testBit j=n.testBit (64*i+j):=by refine⟨_,h.2 i hi,axG _ (by decide),λj hj=>?_⟩;rw[axY,ayi,axw hj,axV,ayK]
theorem Xc {n m:Nat}(hn:n<2^256)(hm:m<2^256)(h: ∀j,j<256->n.testBit j=m.testBit j):n=m:=by
 apply ayU;intro j;by_cases hj:j<256
 ·exact h j hj
 ·rw[aya (axJ hn (axM (by decide) (by omega))),aya (axJ hm (axM (by decide) (by omega)))]
theorem a6j {w v:Nat}(hw:w<18446744073709551616)(hv:v<18446744073709551616)(h: ∀j,j<64->w.testBit j=v.testBit j):w=v:=by
 apply ayU;intro j;by_cases hj:j<64
 ·exact h j hj
 ·rw[aya (axJ hw (axM (n:=2) (i:=64) (by decide) (by omega))),aya (axJ hv (axM (n:=2) (i:=64) (by decide) (by omega)))]
theorem IsN.ofBits {a:Nat->Int}{n:Nat}(hn:n<2^256)(h: ∀i,i<4-> ∃w:Nat,a i=(w:Int)/\w<18446744073709551616/\ ∀j,j<64->w.testBit j=n.testBit (64*i+j)):IsN a n:=by
 refine⟨hn,λi hi=>?_⟩;obtain⟨w,h1,h2,h3⟩:=h i hi;rw[h1]
 congr 1
 refine a6j h2 (axG _ (by decide)) λj hj=>?_
 rw[h3 j hj,axY,ayi,axw hj,axV,ayK]
def R5(f:Nat->Bool):Nat->Nat|0=>0|k+1=>R5 f k+(f k).toNat*2^k
theorem Ve(f:Nat->Bool): ∀k,R5 f k<2^k:=by
 intro k
 induction k with
 |zero=>exact Nat.one_pos
 |succ k ih=>
  rw[R5,ayQ];have:(f k).toNat<=1:=Bool.toNat_le _;have:(f k).toNat*2^k<=1*2^k:=axF _ this;omega
theorem Kt(f:Nat->Bool): ∀k j,j<k->(R5 f k).testBit j=f j:=by
 intro k
 induction k with
 |zero=>intro j h;omega
 |succ k ih=>
  intro j hj;rw[R5,ayK,axH,Nat.testBit_two_pow_mul_add _ (Ve f k)];by_cases h:j<k
  ·rw[axp h,ih j h]
  ·rw[axi h];obtain rfl:j=k:=by omega
   rw[ayu];cases f j<;>rfl
theorem Pk {w j:Nat} :((w/2^j%2:Nat):Int)=if w.testBit j then 1 else 0:=by
 rw[azf];have:w/2^j%2=0\/w/2^j%2=1:=by omega
 rcases this with h|h<;>simp[h]
theorem Vf {f:Nat->Bool}{n:Nat}(hn:n<2^256)(h: ∀k,k<256->f k=n.testBit k):R5 f 256=n:=
 Xc (Ve f 256) hn λj hj=>by rw[Kt f 256 j hj,h j hj]
def iG(n:Nat):Nat:=if n=0 then 0 else Nat.log2 n+1
theorem a4V {n L:Nat}(h1:n<2^L)(h2:L=0\/2^(L-1)<=n):iG n=L:=by
 unfold iG;split
 ·rename_i h0;subst h0;rcases h2 with h2|h2
  ·exact h2.symm
  ·have:=azp (n:=L-1) (show 0<2 by decide);omega
 ·rename_i h0;have h3:=(Nat.log2_lt h0).2 h1;have h4:L-1<=Nat.log2 n:=by
   rcases h2 with h2|h2
   ·omega
   ·exact(Nat.le_log2 h0).2 h2
  omega
theorem J5(n:Nat):n<2^iG n:=by
 unfold iG;split
 ·rename_i h;subst h;decide
 ·exact Nat.lt_log2_self
theorem uP {n L:Nat}(h:n<2^L):iG n<=L:=by
 unfold iG;split
 ·omega
 ·rename_i h0;have:=(Nat.log2_lt h0).2 h;omega
theorem a1n {n:Nat}(h:n≠0):0<iG n/\2^(iG n-1)<=n:=by unfold iG;rw[axi h];exact⟨by omega,Nat.log2_self_le h⟩
def Dz(n m:Nat):Int:=if n<m then-1 else if m<n then 1 else 0
theorem yc {a:Nat->Int}{n:Nat}(h:IsN a n): ∃f,GQ a=some f/\ ∀k,k<256->f k=n.testBit k:=by
 rw[XW];unfold Zd;generalize ho:aD vV _=o;obtain⟨out,hy,hQ⟩:=aP (R:=vV) (λk out=>a3h (k:Nat) a (λ_=>false) out) (λout=>Zc (λ_=>false) out) (λk out=> ∀j,j<k->out j=n.testBit j) 256
  (λk hk out hP=>by
   obtain⟨w,h1,h2,h3⟩:=h.bit (i:=k/64) (by omega);have h3':=h3 (k%64) (by omega);refine⟨upd out k (n.testBit k),?_,λj hj=>?_⟩
   ·unfold vV;have:=axB (ay1 w (2^(k%64))) h2;simp(disch:=omega) only[CC,WW,h1,Pj,aad];rw[Pk,h3',show 64*(k/64)+k%64=k by omega];cases n.testBit k<;>rfl
   ·by_cases e:j=k
    ·subst e;rw[upd_same]
    ·rw[upd_ne e];exact hP j (by omega))
  (λout hP=>by unfold vV;simp(disch:=omega) only[CC,WW]) (λ_=>false) (λj hj=>by omega)
 obtain rfl:=ho.symm.trans hy;exact⟨out,rfl,hQ⟩
theorem ZH(f:Nat->Bool): ∃a,Sm f=some a/\IsN a (R5 f 256):=by
 rw[U4];unfold U3;generalize ho:aD oh _=o;obtain⟨out,hy,hQ⟩:=aP (R:=oh) (λk out=>a0V (k:Nat) f (λ_=>0) out) (λout=>WZ (λ_=>0) out)
  (λk out=> ∀i,i<4-> ∃w:Nat,out i=(w:Int)/\w<18446744073709551616/\ ∀j,j<64->w.testBit j=(decide (64*i+j<k)&&f (64*i+j))) 256
  (λk hk out hP=>by
   obtain⟨w,h1,h2,h3⟩:=hP (k/64) (by omega);cases hf:f k with
   |false=>
    refine⟨out,?_,λi hi=>?_⟩
    ·unfold oh;simp(disch:=omega) only[CC,WW,hf]
    ·obtain⟨v,g1,g2,g3⟩:=hP i hi;refine⟨v,g1,g2,λj hj=>?_⟩;rw[g3 j hj];by_cases e:64*i+j=k
     ·rw[e,hf];simp
     ·congr 1;rw[ayt];omega
   |true=>
    refine⟨upd out (k/64) ((w||| 2^(k%64):Nat):Int),?_,λi hi=>?_⟩
    ·unfold oh;have:2^(k%64)<2^64:=ayI (by decide) (by omega);simp(disch:=omega) only[CC,WW,hf,h1,a4T,orU]
    ·by_cases e:i=k/64
     ·subst e;refine⟨_,upd_same _ _ _,ayf (n:=64) h2 (ayI (by decide) (by omega)),λj hj=>?_⟩;rw[azi,h3 j hj,azM];by_cases e:j=k%64
      ·subst e;rw[show 64*(k/64)+k%64=k by omega,hf];simp
      ·rw[show decide (k%64=j)=false from axz (by omega),azh]
       congr 1;rw[ayt];omega
     ·obtain⟨v,g1,g2,g3⟩:=hP i hi;refine⟨v,by rw[upd_ne e,g1],g2,λj hj=>?_⟩;rw[g3 j hj]
      congr 1;rw[ayt];omega)
  (λout hP=>by unfold oh;simp(disch:=omega) only[CC,WW]) (λ_=>0) (λi hi=>⟨0,rfl,by decide,λj hj=>by simp⟩)
 obtain rfl:=ho.symm.trans hy;refine⟨out,rfl,IsN.ofBits (Ve f 256) λi hi=>?_⟩;obtain⟨w,h1,h2,h3⟩:=hQ i hi;refine⟨w,h1,h2,λj hj=>?_⟩;rw[h3 j hj,Kt f 256 _ (by omega),axw (by omega),axV]
theorem NT {n:Int}(hn:n<9223372036854775808): ∃a,aV n=some a/\IsN a n.toNat:=by
 rw[U6];unfold U5;generalize ho:aD om _=o;have key: ∃f,o=some (JR (λ_=>0) f)/\R5 f 256=n.toNat:=by
  by_cases h0:0<n
  ·obtain⟨N,rfl⟩: ∃N:Nat,n=(N:Int):=⟨n.toNat,by omega⟩;obtain⟨out,hy,hQ⟩:=aP (R:=om) (λk out=>a0W N (k:Nat) (λ_=>0) out) (λout=>JR (λ_=>0) out)
    (λk out=> ∀j,out j=(decide (j<k)&&N.testBit j)) 63
    (λk hk out hP=>by
     refine⟨upd out k (N.testBit k),?_,λj=>?_⟩
     ·unfold om;have:N/2^k<=N:=ay1 _ _;simp(disch:=omega) only[CC,WW,ZE,aae];rw[Pk];cases N.testBit k<;>rfl
     ·by_cases e:j=k
      ·subst e;rw[upd_same,axw (by omega),axV]
      ·rw[upd_ne e,hP j];congr 1;rw[ayt];omega)
    (λout hP=>by unfold om;simp(disch:=omega) only[CC,WW]) (λ_=>false) (λj=>by simp)
   refine⟨out,ho.symm.trans hy,Vf (by omega) λk hk=>?_⟩;rw[hQ k];by_cases hk:k<63
   ·rw[axw hk,axV,axE]
   ·rw[axz hk,ayd,axE,aya (axJ (m:=2^63) (by omega) (axM (by decide) (by omega)))]
  ·refine⟨λ_=>false,?_,?_⟩
   ·rw[<-ho];apply dM;unfold om;simp(disch:=omega) only[CC,WW]
   ·rw[show n.toNat=0 by omega];exact Vf (by decide) λk _=>by simp
 obtain⟨f,rfl,hf⟩:=key;obtain⟨a,ha,hN⟩:=ZH f;simp only[ha];exact⟨a,rfl,hf▸hN⟩
theorem ED {a:Nat->Int}{n:Nat}(h:IsN a n):IJ a=some (iG n:Int):=by
 rw[Ub];unfold Ua;obtain⟨f,h1,h2⟩:=yc h;simp only[h1];generalize ho:aD oq _=o;obtain⟨y,hy,hQ⟩:=l9 (R:=oq) (S:=Unit) (λk _=>a0Y ((255:Int)-(k:Nat)) f) (λk _=>n<2^(256-k))
  (λy=>(∃L:Nat,y=X4 (L:Int)/\n<2^L/\1<=L/\2^(L-1)<=n)\/(y=X5/\n=0)) 256
  (λk hk _ hP=>by
   have hb:=h2 (255-k) (by omega);cases hf:f (255-k)with
   |true=>
    refine .inr ⟨_,?_,.inl ⟨256-k,rfl,hP,by omega,?_⟩⟩
    ·unfold oq;simp(disch:=omega) only[CC,WW,hf];rw[show 255-k+1=256-k by omega]
    ·rw[hf]at hb;exact Nat.ge_two_pow_of_testBit (i:=255-k) hb.symm|> λh=>by rwa [show 256-k-1=255-k by omega]
   |false=>
    refine .inl ⟨(),?_,?_⟩
    ·unfold oq;simp(disch:=omega) only[CC,WW,hf];rw[wrap_i64 (by omega),show((255-k:Nat):Int)-1=255-((k+1:Nat):Int)by omega]
    ·rw[hf]at hb;have h3:=wH n (255-k);rw[<-hb,show 255-k+1=256-k by omega,ayl hP]at h3;simp only[axX,ayH]at h3;rw[show 256-(k+1)=255-k by omega];rw[ayS,Nat.div_eq_zero_iff]at h3;rcases h3 with h3|h3
     ·have:=azp (n:=255-k) (show 0<2 by decide);omega
     ·exact h3)
  (λ_ hP=>by
   refine⟨_,?_,.inr ⟨rfl,?_⟩⟩
   ·unfold oq;simp(disch:=omega) only[CC,WW]
   ·simpa using hP) () h.1
 obtain rfl:=ho.symm.trans hy;rcases hQ with⟨L,rfl,h3,h4,h5⟩|⟨rfl,h3⟩
 ·rw[a4V h3 (.inr h5)]
 ·rw[h3];rfl
theorem zC {a:Nat->Int}{n:Nat}(h:IsN a n):Ej a=some (if n<9223372036854775808 then((n:Int),true)else(0,false)):=by
 rw[Ud];unfold Uc;obtain⟨f,h1,h2⟩:=yc h;simp only[h1,ED h];by_cases hn:n<9223372036854775808
 ·have hb:iG n<=63:=uP (by omega);simp(disch:=omega) only[WW,axp hn];generalize ho:aD ow _=o;obtain⟨out,hy,hQ⟩:=aP (R:=ow) (λk (x:Nat)=>a0Z (x:Int) (k:Nat) f) (λx=>X6 (x:Int))
   (λk x=>x=n%2^k) 63
   (λk hk x hP=>by
    have hx:x<2^63:=by rw[hP];exact axJ (axG _ (azp (by decide))) (axM (by decide) (by omega))
    have hp:2^k<2^63:=ayI (by decide) hk;have hx':x<2^k:=by rw[hP];exact axG _ (azp (by decide))
    have hb:=h2 k (by omega);cases hf:f k with
    |true=>
     refine⟨x||| 2^k,?_,?_⟩
     ·unfold ow;simp(disch:=omega) only[CC,WW,hf,adn,orS]
     ·rw[hf]at hb;apply ayU;intro j;rw[azi,azM,axY,hP,axY];by_cases e:j=k
      ·subst e;simp[<-hb]
      ·have e1:decide (k=j)=false:=axz (by omega);rw[e1,azh];congr 1;rw[ayt];omega
    |false=>
     refine⟨x,?_,?_⟩
     ·unfold ow;simp(disch:=omega) only[CC,WW,hf]
     ·rw[hf]at hb;apply ayU;intro j;rw[hP,axY,axY];by_cases e:j=k
      ·subst e;simp[<-hb]
      ·congr 1;rw[ayt];omega)
   (λx hP=>by unfold ow;simp(disch:=omega) only[CC,WW]) 0 (by simp[Nat.mod_one])
  obtain rfl:=ho.symm.trans hy;rw[hQ,axk (by omega)]
 ·have hb:63<iG n:=by apply axN;intro hb;have:=J5 n;have h3:2^iG n<=2^63:=axM (by decide) (by omega);omega
  simp(disch:=omega) only[WW,axi hn]
theorem ZI {a b:Nat->Int}{n m:Nat}(ha:IsN a n)(hb:IsN b m):Sn a b=some (Dz n m):=by
 rw[U9];unfold U8;obtain⟨f,h1,h2⟩:=yc ha;obtain⟨g,g1,g2⟩:=yc hb;simp only[h1,g1];generalize ho:aD jG _=o;have hna:=ha.1;have hmb:=hb.1;obtain⟨y,hy,hQ⟩:=l9 (R:=jG) (S:=Unit) (λk _=>a0X ((255:Int)-(k:Nat)) f g) (λk _=>n/2^(256-k)=m/2^(256-k))
  (λy=>(y=X0 (Dz n m))\/(y=X3/\n=m)) 256
  (λk hk _ hP=>by
   have hf:=h2 (255-k) (by omega);have hg:=g2 (255-k) (by omega);have s1:=wH n (255-k);have s2:=wH m (255-k);rw[show 255-k+1=256-k by omega]at s1 s2;rw[<-hf]at s1;rw[<-hg]at s2;have lt1: ∀ {x y:Nat},x/2^(255-k)<y/2^(255-k)->x<y:=by intro x y h;apply axN;intro hc;have:=Nat.div_le_div_right (c:=2^(255-k)) (Nat.le_of_not_lt hc);omega
   cases hf':f (255-k)<;>cases hg':g (255-k)<;>simp only[hf',hg',ayB,ayH,axX]at s1 s2
   ·refine .inl ⟨(),?_,?_⟩
    ·unfold jG;simp(disch:=omega) only[CC,WW,hf',hg'];rw[wrap_i64 (by omega),show((255-k:Nat):Int)-1=255-((k+1:Nat):Int)by omega]
    ·rw[show 256-(k+1)=255-k by omega];omega
   ·refine .inr ⟨_,?_,.inl rfl⟩;have:=lt1 (x:=n) (y:=m) (by omega);unfold jG;simp(disch:=omega) only[CC,WW,hf',hg',Dz,axp this]
   ·refine .inr ⟨_,?_,.inl rfl⟩;have:=lt1 (x:=m) (y:=n) (by omega);unfold jG;simp(disch:=omega) only[CC,WW,hf',hg',Dz,axi (show¬n<m by omega),axp this]
   ·refine .inl ⟨(),?_,?_⟩
    ·unfold jG;simp(disch:=omega) only[CC,WW,hf',hg'];rw[wrap_i64 (by omega),show((255-k:Nat):Int)-1=255-((k+1:Nat):Int)by omega]
    ·rw[show 256-(k+1)=255-k by omega];omega)
  (λ_ hP=>by
   refine⟨_,?_,.inr ⟨rfl,?_⟩⟩
   ·unfold jG;simp(disch:=omega) only[CC,WW]
   ·simpa using hP) () (by rw[ayl (by simpa using hna),ayl (by simpa using hmb)])
 obtain rfl:=ho.symm.trans hy;rcases hQ with rfl|⟨rfl,h3⟩
 ·rfl
 ·subst h3;simp[Dz]
theorem NU {a:Nat->Int}{n:Nat}(h:IsN a n)(k:Int):MV a k=some (if 0<=k/\n.testBit k.toNat then 1 else 0):=by
 rw[Uf];unfold Ue;obtain⟨f,h1,h2⟩:=yc h;simp only[h1];by_cases h0:0<=k
 ·by_cases h3:k<256
  ·simp(disch:=omega) only[WW,h2 k.toNat (by omega),h0,true_and];cases n.testBit k.toNat<;>rfl
  ·rw[aya (axJ h.1 (axM (by decide) (by omega)))];simp(disch:=omega) only[WW];simp
 ·simp(disch:=omega) only[WW];simp[h0]
theorem a4W {a:Nat}(h:a<18446744073709551616):av .and .u64 (a:Int) 4294967295=((a%4294967296:Nat):Int):=by
 rw[show(4294967295:Int)=((4294967295:Nat):Int)from rfl,abr h (by decide)]
 congr 1
 exact ay8 a 32
theorem FI {a:Nat}(h:a<18446744073709551616):bL .u64 (a:Int) 32=((a/4294967296:Nat):Int):=Pj (s:=32) h
theorem zJ {a b:Nat}(ha:a<4294967296)(hb:b<4294967296):a*b<=18446744065119617025:=by have:=azD (show a<=4294967295 by omega) (show b<=4294967295 by omega);simpa using this
theorem RI {x y:Nat}(hx:x<18446744073709551616)(hy:y<18446744073709551616):
  bits_Mul64 (x:Int) (y:Int)=some (((x*y/18446744073709551616:Nat):Int),((x*y%18446744073709551616:Nat):Int)):=by
 rw[JJ];unfold Gn;rw[a4W hx,a4W hy,FI hx,FI hy];have hx0:x%4294967296<4294967296:=axG _ (by decide);have hx1:x/4294967296<4294967296:=by omega
 have hy0:y%4294967296<4294967296:=axG _ (by decide);have hy1:y/4294967296<4294967296:=by omega
 have ex:x=x/4294967296*4294967296+x%4294967296:=by omega
 have ey:y=y/4294967296*4294967296+y%4294967296:=by omega
 generalize x/4294967296=x1 at*;generalize x%4294967296=x0 at*;generalize y/4294967296=y1 at*;generalize y%4294967296=y0 at*;have hxy:x*y=x1*y1*18446744073709551616+(x1*y0+x0*y1)*4294967296+x0*y0:=by
  rw[ex,ey];simp only[axQ,azo];have e1:x1*4294967296*(y1*4294967296)=x1*y1*18446744073709551616:=by rw[Nat.mul_mul_mul_comm]
  have e2:x0*(y1*4294967296)=x0*y1*4294967296:=by rw[ay2]
  have e3:x1*4294967296*y0=x1*y0*4294967296:=by rw[azl]
  omega
 have m00:=zJ hx0 hy0;have m01:=zJ hx0 hy1;have m10:=zJ hx1 hy0;have m11:=zJ hx1 hy1;simp only[a1m,wrap_u64 (x*y),hxy];generalize x0*y0=a at*;generalize x0*y1=b at*;generalize x1*y0=c at*;generalize x1*y1=d at*;clear ex ey hxy;simp(disch:=omega) only[CC,Cw,FI,a4W];have e1:d+(c+a/4294967296)/4294967296+((c+a/4294967296)%4294967296+b)/4294967296=(d*18446744073709551616+(c+b)*4294967296+a)/18446744073709551616:=by omega
 rw[e1,wrap_u64]
theorem Ku {x y:Nat}(hx:x<18446744073709551616)(hy:y<18446744073709551616):
  ∃h l:Nat,bits_Mul64 (x:Int) (y:Int)=some ((h:Int),(l:Int))/\x*y=h*18446744073709551616+l/\l<18446744073709551616/\h<18446744073709551615:=by
 refine⟨_,_,RI hx hy,?_,axG _ (by decide),?_⟩
 ·have:=ay3 (x*y) 18446744073709551616;omega
 ·have:x*y<=18446744073709551615*18446744073709551615:=azD (by omega) (by omega);omega
def aiY:ByteArray:=ByteArray.mk #[0,1,2,2,3,3,3,3,4,4,4,4,4,4,4,4,5,5,5,5,5,5,5,5,5,5,5,5,5,5,5,5,6,6,6,6,6,6,6,6,6,6,6,6,6,6,6,6,6,6,6,6,6,6,6,6,6,6,6,6,6,6,6,6,7,7,7,7,7,7,7,7,7,7,7,7,7,7,7,7,7,7,7,7,7,7,7,7,7,7,7,7,7,7,7,7,7,7,7,7,7,7,7,7,7,7,7,7,7,7,7,7,7,7,7,7,7,7,7,7,7,7,7,7,7,7,7,7,8,8,8,8,8,8,8,8,8,8,8,8,8,8,8,8,8,8,8,8,8,8,8,8,8,8,8,8,8,8,8,8,8,8,8,8,8,8,8,8,8,8,8,8,8,8,8,8,8,8,8,8,8,8,8,8,8,8,8,8,8,8,8,8,8,8,8,8,8,8,8,8,8,8,8,8,8,8,8,8,8,8,8,8,8,8,8,8,8,8,8,8,8,8,8,8,8,8,8,8,8,8,8,8,8,8,8,8,8,8,8,8,8,8,8,8,8,8,8,8,8,8,8,8,8,8,8,8]
def ado(i:Nat):Nat:=UInt8.toNat (List.getD (Array.toList (ByteArray.data aiY)) i 0)
theorem aaf {i:Nat}(h:i<256):ado i=iG i:=by
 have: ∀i:Fin 256,ado i.val=iG i.val:=by decide+kernel
 exact this ⟨i,h⟩
theorem ko {x s:Nat}(h:x/2^s≠0):iG x=s+iG (x/2^s):=by
 have h1:=a1n h;have h2:=J5 (x/2^s);have hp:=azp (n:=s) (show 0<2 by decide);refine a4V ?_ (.inr ?_)
 ·rw[ayM hp,<-ayF,ayK]at h2;exact h2
 ·rw[Nat.le_div_iff_mul_le hp,<-ayF]at h1;rw[show s+iG (x/2^s)-1=iG (x/2^s)-1+s by omega];exact h1.2
theorem R6 {a:Nat}(h:a<18446744073709551616):bL .u64 (a:Int) 16=((a/65536:Nat):Int):=Pj (s:=16) h
theorem a1o {a:Nat}(h:a<18446744073709551616):bL .u64 (a:Int) 8=((a/256:Nat):Int):=Pj (s:=8) h
theorem BH {n:Nat}(h:n<256):IntKind.u8.wrap (n:Int)=(n:Int):=aa6 (by omega)
theorem mG {x:Nat}(hx:x<18446744073709551616):bits_Len64 (x:Int)=some (iG x:Int):=by
 rw[JK];unfold Gp;generalize hT:ByteArray.mk #[0,1,2,2,3,3,3,3,4,4,4,4,4,4,4,4,5,5,5,5,5,5,5,5,5,5,5,5,5,5,5,5,6,6,6,6,6,6,6,6,6,6,6,6,6,6,6,6,6,6,6,6,6,6,6,6,6,6,6,6,6,6,6,6,7,7,7,7,7,7,7,7,7,7,7,7,7,7,7,7,7,7,7,7,7,7,7,7,7,7,7,7,7,7,7,7,7,7,7,7,7,7,7,7,7,7,7,7,7,7,7,7,7,7,7,7,7,7,7,7,7,7,7,7,7,7,7,7,8,8,8,8,8,8,8,8,8,8,8,8,8,8,8,8,8,8,8,8,8,8,8,8,8,8,8,8,8,8,8,8,8,8,8,8,8,8,8,8,8,8,8,8,8,8,8,8,8,8,8,8,8,8,8,8,8,8,8,8,8,8,8,8,8,8,8,8,8,8,8,8,8,8,8,8,8,8,8,8,8,8,8,8,8,8,8,8,8,8,8,8,8,8,8,8,8,8,8,8,8,8,8,8,8,8,8,8,8,8,8,8,8,8,8,8,8,8,8,8,8,8,8,8,8,8,8,8]=T;have tab: ∀ {i:Nat},i<256->UInt8.toNat (List.getD (Array.toList (ByteArray.data T)) i 0)=iG i:=λh=>by subst hT;exact aaf h
 clear hT;have b8: ∀ {i:Nat},i<256->iG i<=8:=λh=>uP (by simpa using h)
 have d1:x/4294967296/65536/256=x/2^56:=by rw[ayq,ayq]
 have d2:x/4294967296/65536=x/2^48:=by rw[ayq]
 have d3:x/4294967296/256=x/2^40:=by rw[ayq]
 have d4:x/65536/256=x/2^24:=by rw[ayq]
 by_cases h1:4294967296<=x
 ·by_cases h2:65536<=x/4294967296
  ·by_cases h3:256<=x/4294967296/65536
   ·have hb:=b8 (i:=x/4294967296/65536/256) (by omega);simp(disch:=omega) only[CC,WW,FI,R6,a1o,BH,tab];rw[d1,ko (x:=x) (s:=56) (by omega)]
   ·have hb:=b8 (i:=x/4294967296/65536) (by omega);simp(disch:=omega) only[CC,WW,FI,R6,a1o,BH,tab];rw[d2,ko (x:=x) (s:=48) (by omega)]
  ·by_cases h3:256<=x/4294967296
   ·have hb:=b8 (i:=x/4294967296/256) (by omega);simp(disch:=omega) only[CC,WW,FI,R6,a1o,BH,tab];rw[d3,ko (x:=x) (s:=40) (by omega)]
   ·have hb:=b8 (i:=x/4294967296) (by omega);simp(disch:=omega) only[CC,WW,FI,R6,a1o,BH,tab];rw[ko (x:=x) (s:=32) (by omega)]
 ·by_cases h2:65536<=x
  ·by_cases h3:256<=x/65536
   ·have hb:=b8 (i:=x/65536/256) (by omega);simp(disch:=omega) only[CC,WW,FI,R6,a1o,BH,tab];rw[d4,ko (x:=x) (s:=24) (by omega)]
   ·have hb:=b8 (i:=x/65536) (by omega);simp(disch:=omega) only[CC,WW,FI,R6,a1o,BH,tab];rw[ko (x:=x) (s:=16) (by omega)]
  ·by_cases h3:256<=x
   ·have hb:=b8 (i:=x/256) (by omega);simp(disch:=omega) only[CC,WW,FI,R6,a1o,BH,tab];rw[ko (x:=x) (s:=8) (by omega)]
   ·have hb:=b8 (i:=x) (by omega);simp(disch:=omega) only[CC,WW,FI,R6,a1o,BH,tab,axA]
theorem Cy {x:Nat}(hx:x<18446744073709551616):bits_LeadingZeros64 (x:Int)=some ((64-iG x:Nat):Int):=by rw[u6];unfold nU;have:iG x<=64:=uP (by simpa using hx);simp(disch:=omega) only[mG hx,CC,WW]
section
variable {y yn1 yn0 un un1 q1 rhat:Nat}
theorem NV(hy:y=yn1*4294967296+yn0)(h:q1*yn1+rhat=un):q1*y+rhat*4294967296=un*4294967296+q1*yn0:=by subst hy;subst h;rw[azo,axQ,ay2];omega
theorem Pm(hun:un<y)(hu1:un1<4294967296):(un*4294967296+un1)/y<4294967296:=by rw[ayM (by omega)];have:(un+1)*4294967296<=y*4294967296:=axF _ hun;rw[axH 4294967296 y];omega
theorem Sw {Q:Nat}(hQ:Q=(un*4294967296+un1)/y)(hy:y=yn1*4294967296+yn0)(hun:un<y)(hu1:un1<4294967296)(h:q1*yn1+rhat=un)(hc:4294967296<=q1\/4294967296*rhat+un1<q1*yn0):Q<q1:=by
 rw[hQ];rcases hc with hc|hc
 ·exact axJ (Pm hun hu1) hc
 ·rw[ayM (by omega)];have:=NV hy h;omega
theorem EF {Q:Nat}(hQ:Q=(un*4294967296+un1)/y)(hy:y=yn1*4294967296+yn0)(h0:yn0<4294967296)(hun:un<y)(h:q1*yn1+rhat=un)(hlt:Q<q1)(hq:q1<=4294967297)(hr:4294967296<=rhat+yn1):q1-1=Q:=by
 have h1:(q1-1)*yn1+(rhat+yn1)=un:=by obtain⟨p,rfl⟩: ∃p,q1=p+1:=⟨q1-1,by omega⟩;rw[axQ,ayE]at h;rw[azS];omega
 have h2:=NV hy h1;have h3:(q1-1)*yn0<=4294967296*4294967295:=azD (by omega) (by omega);have h4:q1-1<=Q:=by rw[hQ,Nat.le_div_iff_mul_le (by omega)];omega
 omega
theorem Y7 {Q:Nat}(hQ:Q=(un*4294967296+un1)/y)(hy:y=yn1*4294967296+yn0)(hun:un<y)(h:q1*yn1+rhat=un)(hle:Q<=q1)(hc:q1*yn0<=4294967296*rhat+un1):q1=Q:=by
 have h2:=NV hy h;have h4:q1<=Q:=by rw[hQ,Nat.le_div_iff_mul_le (by omega)];omega
 omega
theorem half_start(hy:y=yn1*4294967296+yn0)(h1:2147483648<=yn1)(h0:yn0<4294967296)(hun:un<y):(un*4294967296+un1)/y<=un/yn1\/4294967296<=un1:=by
 by_cases hu:un1<4294967296
 ·left;have h2:=ay3 un yn1;have h3:=axG un (show 0<yn1 by omega);have h5:(un*4294967296+un1)/y<un/yn1+1:=by
   rw[ayM (by omega)];have h4:=NV (q1:=un/yn1+1) (rhat:=0) (un:=(un/yn1+1)*yn1) hy rfl;have h6:(un/yn1+1)*yn1=yn1*(un/yn1)+yn1:=by rw[axQ,ayE,axH]
   have h7:un+1<=(un/yn1+1)*yn1:=by omega
   have h8:(un+1)*4294967296<=(un/yn1+1)*yn1*4294967296:=axF _ h7;omega
  omega
 ·right;omega
theorem Y8(hy:y=yn1*4294967296+yn0)(h1:2147483648<=yn1)(h0:yn0<4294967296)(hun:un<y):un/yn1<=4294967297:=by
 have:un/yn1<4294967298:=by rw[ayM (by omega)];omega
 omega
end
theorem a6k {y s yn1 yn0 un un1 un0:Nat}(hy:y=yn1*4294967296+yn0)(h1:2147483648<=yn1)(h1':yn1<4294967296)(h0:yn0<4294967296)(hun:un<y)(hu1:un1<4294967296):
  aD fB (zX (y:Int) (s:Int) (yn1:Int) (yn0:Int) (un:Int) (un1:Int) (un0:Int) ((un/yn1:Nat):Int) ((un%yn1:Nat):Int))=
   some (vR (y:Int) (s:Int) (yn1:Int) (yn0:Int) (un:Int) (un1:Int) (un0:Int) (((un*4294967296+un1)/y:Nat):Int)):=by
 obtain⟨Q,hQ⟩: ∃Q,Q=(un*4294967296+un1)/y:=⟨_,rfl⟩;rw[<-hQ];obtain⟨z,hz,rfl⟩:=XM (f:=fB)
  (λx=> ∃q1 rhat:Nat,x=zX (y:Int) (s:Int) (yn1:Int) (yn0:Int) (un:Int) (un1:Int) (un0:Int) (q1:Int) (rhat:Int)/\Q<=q1/\q1<=4294967297/\q1*yn1+rhat=un/\rhat<4294967296)
  (λx=>x.1.2.2.2.2.2.2.2.1.toNat) (λz=>z=vR (y:Int) (s:Int) (yn1:Int) (yn0:Int) (un:Int) (un1:Int) (un0:Int) ((Q:Nat):Int)) (by
   rintro x ⟨q1,rhat,rfl,hle,hq,h,hr⟩;have next:Q<q1->rhat+yn1<4294967296->Q<=q1-1/\q1-1<=4294967297/\(q1-1)*yn1+(rhat+yn1)=un/\rhat+yn1<4294967296:=by intro h3 h4;refine⟨by omega,by omega,?_,h4⟩;obtain⟨p,rfl⟩: ∃p,q1=p+1:=⟨q1-1,by omega⟩;rw[axQ,ayE]at h;rw[azS];omega
   by_cases hb:4294967296<=q1
   ·have hlt:=Sw hQ hy hun hu1 h (.inl hb);by_cases hr2:4294967296<=rhat+yn1
    ·right;refine⟨_,?_,rfl⟩;unfold fB;simp(disch:=omega) only[CC,WW];rw[EF hQ hy h0 hun h hlt hq hr2]
    ·left;refine⟨_,?_,⟨q1-1,rhat+yn1,rfl,next hlt (by omega)⟩,?_⟩
     ·unfold fB;simp(disch:=omega) only[CC,WW]
     ·simp only[axE];omega
   ·have hm:q1*yn0<=18446744065119617025:=zJ (by omega) h0;by_cases hc:4294967296*rhat+un1<q1*yn0
    ·have hlt:=Sw hQ hy hun hu1 h (.inr hc);by_cases hr2:4294967296<=rhat+yn1
     ·right;refine⟨_,?_,rfl⟩;unfold fB;simp(disch:=omega) only[CC,WW];rw[EF hQ hy h0 hun h hlt hq hr2]
     ·left;refine⟨_,?_,⟨q1-1,rhat+yn1,rfl,next hlt (by omega)⟩,?_⟩
      ·unfold fB;simp(disch:=omega) only[CC,WW]
      ·simp only[axE];omega
    ·right;refine⟨_,?_,rfl⟩;unfold fB;simp(disch:=omega) only[CC,WW];rw[Y7 (un1:=un1) hQ hy hun h hle (by omega)])
  _ ⟨un/yn1,un%yn1,rfl,hQ▸(half_start hy h1 h0 hun).resolve_right (by omega),Y8 hy h1 h0 hun,by rw[axH];exact ay3 un yn1,azZ (axG _ (by omega)) h1'⟩
 exact hz
theorem a6l {y s yn1 yn0 un un1 q:Nat}(hy:y=yn1*4294967296+yn0)(h1:2147483648<=yn1)(h1':yn1<4294967296)(h0:yn0<4294967296)(hun:un<y)(hu1:un1<4294967296):
  aD fC (zY (y:Int) (s:Int) (yn1:Int) (yn0:Int) (un1:Int) (q:Int) ((un%yn1:Nat):Int) (un:Int) ((un/yn1:Nat):Int))=
   some (vS (y:Int) (s:Int) (un1:Int) (q:Int) (un:Int) (((un*4294967296+un1)/y:Nat):Int)):=by
 obtain⟨Q,hQ⟩: ∃Q,Q=(un*4294967296+un1)/y:=⟨_,rfl⟩;rw[<-hQ];obtain⟨z,hz,rfl⟩:=XM (f:=fC)
  (λx=> ∃q1 rhat:Nat,x=zY (y:Int) (s:Int) (yn1:Int) (yn0:Int) (un1:Int) (q:Int) (rhat:Int) (un:Int) (q1:Int)/\Q<=q1/\q1<=4294967297/\q1*yn1+rhat=un/\rhat<4294967296)
  (λx=>x.1.2.2.2.2.2.2.2.2.1.toNat) (λz=>z=vS (y:Int) (s:Int) (un1:Int) (q:Int) (un:Int) ((Q:Nat):Int)) (by
   rintro x ⟨q1,rhat,rfl,hle,hq,h,hr⟩;have next:Q<q1->rhat+yn1<4294967296->Q<=q1-1/\q1-1<=4294967297/\(q1-1)*yn1+(rhat+yn1)=un/\rhat+yn1<4294967296:=by intro h3 h4;refine⟨by omega,by omega,?_,h4⟩;obtain⟨p,rfl⟩: ∃p,q1=p+1:=⟨q1-1,by omega⟩;rw[axQ,ayE]at h;rw[azS];omega
   by_cases hb:4294967296<=q1
   ·have hlt:=Sw hQ hy hun hu1 h (.inl hb);by_cases hr2:4294967296<=rhat+yn1
    ·right;refine⟨_,?_,rfl⟩;unfold fC;simp(disch:=omega) only[CC,WW];rw[EF hQ hy h0 hun h hlt hq hr2]
    ·left;refine⟨_,?_,⟨q1-1,rhat+yn1,rfl,next hlt (by omega)⟩,?_⟩
     ·unfold fC;simp(disch:=omega) only[CC,WW]
     ·simp only[axE];omega
   ·have hm:q1*yn0<=18446744065119617025:=zJ (by omega) h0;by_cases hc:4294967296*rhat+un1<q1*yn0
    ·have hlt:=Sw hQ hy hun hu1 h (.inr hc);by_cases hr2:4294967296<=rhat+yn1
     ·right;refine⟨_,?_,rfl⟩;unfold fC;simp(disch:=omega) only[CC,WW];rw[EF hQ hy h0 hun h hlt hq hr2]
     ·left;refine⟨_,?_,⟨q1-1,rhat+yn1,rfl,next hlt (by omega)⟩,?_⟩
      ·unfold fC;simp(disch:=omega) only[CC,WW]
      ·simp only[axE];omega
    ·right;refine⟨_,?_,rfl⟩;unfold fC;simp(disch:=omega) only[CC,WW];rw[Y7 (un1:=un1) hQ hy hun h hle (by omega)])
  _ ⟨un/yn1,un%yn1,rfl,hQ▸(half_start hy h1 h0 hun).resolve_right (by omega),Y8 hy h1 h0 hun,by rw[axH];exact ay3 un yn1,azZ (axG _ (by omega)) h1'⟩
 exact hz
theorem a1p {un un1 q y r:Nat}(h:un*4294967296+un1=q*y+r)(hr:r<18446744073709551616):
  IntKind.u64.wrap (IntKind.u64.wrap (IntKind.u64.wrap ((un:Int)*4294967296)+(un1:Int))-IntKind.u64.wrap ((q:Int)*(y:Int)))=(r:Int):=by
 simp only[J4,CC];generalize q*y=p at*;omega
theorem a6m {t n:Nat}(ht:t<18446744073709551616):IntKind.u64.wrap ((t:Int)-IntKind.u64.wrap (IntKind.u64.wrap (Int.tdiv (t:Int) (n:Int))*(n:Int)))=((t%n:Nat):Int):=by
 have h1:=ay3 t n;have h2:t/n<=t:=ay1 _ _;have h3:t/n*n<=t:=by rw[axH];omega
 rw[ZF,Cw (by omega),a1m,Cw (by omega),aa8 h3,Cw (by omega)]
 congr 1
 rw[axH];omega
theorem Pn {t n:Nat}(ht:t<18446744073709551616):IntKind.u64.wrap (Int.tdiv (t:Int) (n:Int))=((t/n:Nat):Int):=by have h2:t/n<=t:=ay1 _ _;rw[ZF,Cw (by omega)]
theorem Vg {t n:Nat}(ht:t<18446744073709551616):IntKind.u64.wrap ((t:Int)-IntKind.u64.wrap (((t/n:Nat):Int)*(n:Int)))=((t%n:Nat):Int):=by
 have:=a6m (t:=t) (n:=n) ht
 rwa [Pn ht]at this
theorem Y9 {U u y q r:Nat}(h:y*q+r=U):U*4294967296+u=(r*4294967296+u)+y*(q*4294967296):=by rw[<-h,axQ,ay2];omega
theorem abu {U u y:Nat}(hy:0<y):(U*4294967296+u)/y=U/y*4294967296+(U%y*4294967296+u)/y:=by rw[Y9 (ay3 U y),Nat.add_mul_div_left _ _ hy,ayK]
theorem abv {U u y:Nat} :(U*4294967296+u)%y=(U%y*4294967296+u)%y:=by rw[Y9 (ay3 U y),azB]
theorem mH {hi lo y:Nat}(hy:y<18446744073709551616)(hhi:hi<y)(hlo:lo<18446744073709551616):
  nW (hi:Int) (lo:Int) (y:Int)=some ((((hi*18446744073709551616+lo)/y:Nat):Int),(((hi*18446744073709551616+lo)%y:Nat):Int)):=by
 rw[JL];unfold Gs;by_cases h0:hi=0
 ·subst h0;have:lo/y<=lo:=ay1 _ _;simp(disch:=omega) only[CC,WW,ayS,axA]
 ·have hb:=a1n (n:=y) (by omega);have hb2:=J5 y;have hb3:iG y<=64:=uP (by simpa using hy);obtain⟨s,hs⟩: ∃s,s=64-iG y:=⟨_,rfl⟩;have hs2:s<64:=by omega
  have p1:2^s*2^(64-s)=18446744073709551616:=by rw[<-ayF,show s+(64-s)=64 by omega]
  have p2:2^s*2^(iG y-1)=9223372036854775808:=by rw[<-ayF,show s+(iG y-1)=63 by omega]
  have hps:=azp (n:=s) (show 0<2 by decide);have hpt:=azp (n:=64-s) (show 0<2 by decide);have hyl:9223372036854775808<=y*2^s:=by rw[<-p2,axH];exact axF _ hb.2
  have hyu:y*2^s<18446744073709551616:=by rw[<-p1,axH,show 64-s=iG y by omega];exact Nat.mul_lt_mul_of_pos_left hb2 hps
  have hhis:(hi+1)*2^s<=y*2^s:=axF _ hhi;rw[axQ,ayE]at hhis;have hlos:lo/2^(64-s)<2^s:=by rw[ayM hpt,p1];exact hlo
  have hun:av .or .u64 (iF .u64 (hi:Int) (s:Int)) (bL .u64 (lo:Int) ((64-s:Nat):Int))=((hi*2^s+lo/2^(64-s):Nat):Int):=by rw[a3O,Pj hlo,axk (by omega),orU (by omega) (by omega),axH hi,ayG hlos]
  have hN:(hi*18446744073709551616+lo)*2^s=(hi*2^s+lo/2^(64-s))*18446744073709551616+lo*2^s%18446744073709551616:=by
   have e1:=ay3 (lo*2^s) 18446744073709551616;have e2:lo*2^s/18446744073709551616=lo/2^(64-s):=by rw[<-p1,axH lo,Nat.mul_div_mul_left _ _ hps]
   rw[e2]at e1;rw[axQ,axQ,azl];omega
  have hrest:lo*2^s%18446744073709551616<18446744073709551616:=axG _ (by decide);simp(disch:=omega) only[Cy hy,<-hs];simp(disch:=omega) only[CC,WW,hun];simp only[a3O,axk hyu];have hfin1:(hi*18446744073709551616+lo)/y=((hi*2^s+lo/2^(64-s))*18446744073709551616+lo*2^s%18446744073709551616)/(y*2^s):=by rw[<-hN,Nat.mul_div_mul_right _ _ hps]
  have hfin2:(hi*18446744073709551616+lo)%y=((hi*2^s+lo/2^(64-s))*18446744073709551616+lo*2^s%18446744073709551616)%(y*2^s)/2^s:=by rw[<-hN,Nat.mul_mod_mul_right,Nat.mul_div_cancel _ hps]
  rw[hfin1,hfin2];have hunlt:hi*2^s+lo/2^(64-s)<y*2^s:=by omega
  clear hfin1 hfin2 hN hun hlos hhis;generalize hi*2^s+lo/2^(64-s)=un at*;generalize lo*2^s%18446744073709551616=un10 at*;generalize hY:y*2^s=Y at*;simp(disch:=omega) only[FI,a4W];have hy':Y=Y/4294967296*4294967296+Y%4294967296:=by omega
  have hb1:2147483648<=Y/4294967296:=by omega
  have hb1':Y/4294967296<4294967296:=by omega
  have hb0:Y%4294967296<4294967296:=by omega
  simp(disch:=omega) only[Pn,Vg,bF,axL];have L0:=a6k (s:=s) (un0:=un10%4294967296) hy' hb1 hb1' hb0 hunlt (un1:=un10/4294967296) (by omega);simp only[zX,vR]at L0;rw[L0];obtain⟨U,hU⟩: ∃U,U=un*4294967296+un10/4294967296:=⟨_,rfl⟩;have hR:=ay3 U Y;have hRlt:U%Y<Y:=axG _ (by omega);rw[<-hU];simp only[a1p (un:=un) (un1:=un10/4294967296) (q:=U/Y) (y:=Y) (r:=U%Y) (by rw[<-hU,axH];exact hR.symm) (by omega)];simp(disch:=omega) only[Pn,Vg,bF,axL];have L2:=a6l (s:=s) (q:=U/Y) hy' hb1 hb1' hb0 hRlt (un1:=un10%4294967296) (by omega);simp only[zY,vS]at L2;rw[L2];obtain⟨V,hV⟩: ∃V,V=U%Y*4294967296+un10%4294967296:=⟨_,rfl⟩;have hS:=ay3 V Y;have hSlt:V%Y<Y:=axG _ (by omega);rw[<-hV];simp only[a1p (un:=U%Y) (un1:=un10%4294967296) (q:=V/Y) (y:=Y) (r:=V%Y) (by rw[<-hV,axH];exact hS.symm) (by omega)];have hUV:(un*18446744073709551616+un10)=U*4294967296+un10%4294967296:=by omega
  have q1lt:U/Y<4294967296:=by rw[hU];exact Pm hunlt (by omega)
  have q0lt:V/Y<4294967296:=by rw[hV];exact Pm hRlt (by omega)
  rw[hUV,abu (by omega),abv,<-hV];generalize U/Y=q1 at*;generalize V/Y=q0 at*;have hY2:V%Y<18446744073709551616:=by omega
  simp(disch:=omega) only[CC,WW,Pj]
open Go Go.Den
theorem oL {n:Int}(hn:n<9223372036854775808): ∃a,cZ n=some a/\IsN a n.toNat:=by
 rw[XV];unfold Za;refine⟨_,rfl,?_⟩;have:IntKind.u64.wrap (if n<0 then 0 else n)=((n.toNat:Nat):Int):=by
  rw[ade]
  ·split<;>omega
  ·split<;>omega
 rw[this];exact IsN.small (by omega)
theorem IsN.low {a:Nat->Int}{n:Nat}(h:IsN a n):eqF (.arr 4 (.int .u64)) a (upd (λ_=>0) 0 (a 0))=decide (n<18446744073709551616)/\(n<18446744073709551616->a 0=(n:Int))/\ ∃x0:Nat,a 0=(x0:Int)/\x0<18446744073709551616:=by
 obtain⟨x0,x1,x2,x3,e0,e1,e2,e3,h0,h1,h2,h3,hn⟩:=h.get;have hs:=IsN.small h0;rw[e0,h.eqb hs];refine⟨?_,λh=>?_,x0,rfl,h0⟩
 ·rw[ayt];omega
 ·congr 1;omega
theorem uQ {a:Nat->Int}{n:Nat}(h:IsN a n):MK a=some (if n<9223372036854775808 then((n:Int),true)else(0,false)):=by
 rw[U1];unfold U0;obtain⟨h1,h2,x0,h3,h4⟩:=h.low;rw[h1];by_cases h5:n<18446744073709551616
 ·have h6:=h2 h5;by_cases h7:n<9223372036854775808
  ·simp(disch:=omega) only[CC,WW,h6,axp h7]
  ·simp(disch:=omega) only[CC,WW,h6,axi h7]
 ·have h7: ¬n<9223372036854775808:=by omega
  simp(disch:=omega) only[CC,WW,axi h7]
theorem fJ {a b:Nat->Int}{n m:Nat}(ha:IsN a n)(hb:IsN b m):zk a b=some (Dz n m):=by
 rw[TS];unfold TR;obtain⟨x0,x1,x2,x3,e0,e1,e2,e3,h0,h1,h2,h3,hn⟩:=ha.get;obtain⟨y0,y1,y2,y3,f0,f1,f2,f3,g0,g1,g2,g3,hm⟩:=hb.get;simp only[e0,e1,e2,e3,f0,f1,f2,f3];unfold Dz;by_cases c3:x3<y3
 ·simp(disch:=omega) only[WW,axp (show n<m by omega)]
 ·by_cases d3:y3<x3
  ·simp(disch:=omega) only[WW,axi (show¬n<m by omega),axp (show m<n by omega)]
  ·by_cases c2:x2<y2
   ·simp(disch:=omega) only[WW,axp (show n<m by omega)]
   ·by_cases d2:y2<x2
    ·simp(disch:=omega) only[WW,axi (show¬n<m by omega),axp (show m<n by omega)]
    ·by_cases c1:x1<y1
     ·simp(disch:=omega) only[WW,axp (show n<m by omega)]
     ·by_cases d1:y1<x1
      ·simp(disch:=omega) only[WW,axi (show¬n<m by omega),axp (show m<n by omega)]
      ·by_cases c0:x0<y0
       ·simp(disch:=omega) only[WW,axp (show n<m by omega)]
       ·by_cases d0:y0<x0
        ·simp(disch:=omega) only[WW,axi (show¬n<m by omega),axp (show m<n by omega)]
        ·simp(disch:=omega) only[WW,axi (show¬n<m by omega),axi (show¬m<n by omega)]
theorem NW {x y c:Nat}(hx:x<18446744073709551616)(hy:y<18446744073709551616)(hc:c<=1): ∃s d:Nat,bU (x:Int) (y:Int) (c:Int)=some ((s:Int),(d:Int))/\x+y+c=s+d*18446744073709551616/\s<18446744073709551616/\d<=1:=
 ⟨_,_,a6h hc,by omega,by omega,by omega⟩
theorem NY {x y c:Nat}(hx:x<18446744073709551616)(hy:y<18446744073709551616)(hc:c<=1): ∃s d:Nat,EW (x:Int) (y:Int) (c:Int)=some ((s:Int),(d:Int))/\x+d*18446744073709551616=s+y+c/\s<18446744073709551616/\d<=1:=by
 refine⟨_,_,a6i hc,?_,axG _ (by decide),?_⟩
 ·split<;>omega
 ·split<;>omega
theorem J6 {x y:Nat}(hx:x<18446744073709551616)(hy:y<18446744073709551616): ∃s d:Nat,bU (x:Int) (y:Int) 0=some ((s:Int),(d:Int))/\x+y=s+d*18446744073709551616/\s<18446744073709551616/\d<=1:=
 NW (c:=0) hx hy (by omega)
theorem a6n {x y:Nat}(hx:x<18446744073709551616)(hy:y<18446744073709551616): ∃s d:Nat,EW (x:Int) (y:Int) 0=some ((s:Int),(d:Int))/\x+d*18446744073709551616=s+y/\s<18446744073709551616/\d<=1:=
 NY (c:=0) hx hy (by omega)
theorem ZJ {a b:Nat->Int}{n m:Nat}(ha:IsN a n)(hb:IsN b m): ∃s,Sl a b=some (s,(((n+m)/2^256:Nat):Int))/\IsN s ((n+m)%2^256):=by
 rw[TU];unfold TT;obtain⟨x0,x1,x2,x3,e0,e1,e2,e3,h0,h1,h2,h3,hn⟩:=ha.get;obtain⟨y0,y1,y2,y3,f0,f1,f2,f3,g0,g1,g2,g3,hm⟩:=hb.get;simp only[e0,e1,e2,e3,f0,f1,f2,f3];obtain⟨s0,c0,i0,j0,k0,l0⟩:=J6 h0 g0;obtain⟨s1,c1,i1,j1,k1,l1⟩:=NW h1 g1 l0;obtain⟨s2,c2,i2,j2,k2,l2⟩:=NW h2 g2 l1;obtain⟨s3,c3,i3,j3,k3,l3⟩:=NW h3 g3 l2;simp only[i0,i1,i2,i3];have hS:n+m=(s0+s1*18446744073709551616+s2*340282366920938463463374607431768211456+s3*6277101735386680763835789423207666416102355444464034512896)+c3*115792089237316195423570985008687907853269984665640564039457584007913129639936:=by subst hn hm;clear ha hb i0 i1 i2 i3 e0 e1 e2 e3 f0 f1 f2 f3;omega
 have hN:=aiX (f:=λ_=>0) k0 k1 k2 k3;have hlt:=hN.1;generalize s0+s1*18446744073709551616+s2*340282366920938463463374607431768211456+s3*6277101735386680763835789423207666416102355444464034512896=S at hS hN hlt;clear hn hm j0 j1 j2 j3 h0 h1 h2 h3 g0 g1 g2 g3;refine⟨_,?_,hN.of_eq ?_⟩
 ·rw[eX (by omega),show(n+m)/2^256=c3 by simp only[Nat.reducePow]at hlt⊢;omega]
 ·simp only[Nat.reducePow]at hlt⊢;omega
theorem uR {a b:Nat->Int}{n m:Nat}(ha:IsN a n)(hb:IsN b m): ∃s,wX a b=some (s,if n<m then 1 else 0)/\IsN s ((n+2^256-m)%2^256):=by
 rw[TQ];unfold TP;obtain⟨x0,x1,x2,x3,e0,e1,e2,e3,h0,h1,h2,h3,hn⟩:=ha.get;obtain⟨y0,y1,y2,y3,f0,f1,f2,f3,g0,g1,g2,g3,hm⟩:=hb.get;simp only[e0,e1,e2,e3,f0,f1,f2,f3];obtain⟨s0,c0,i0,j0,k0,l0⟩:=a6n h0 g0;obtain⟨s1,c1,i1,j1,k1,l1⟩:=NY h1 g1 l0;obtain⟨s2,c2,i2,j2,k2,l2⟩:=NY h2 g2 l1;obtain⟨s3,c3,i3,j3,k3,l3⟩:=NY h3 g3 l2;simp only[i0,i1,i2,i3];have hS:n+c3*115792089237316195423570985008687907853269984665640564039457584007913129639936=(s0+s1*18446744073709551616+s2*340282366920938463463374607431768211456+s3*6277101735386680763835789423207666416102355444464034512896)+m:=by subst hn hm;clear ha hb i0 i1 i2 i3 e0 e1 e2 e3 f0 f1 f2 f3;omega
 have hN:=aiX (f:=λ_=>0) k0 k1 k2 k3;have hlt:=hN.1;have hnl:=ha.1;have hml:=hb.1;generalize s0+s1*18446744073709551616+s2*340282366920938463463374607431768211456+s3*6277101735386680763835789423207666416102355444464034512896=S at hS hN hlt;clear hn hm j0 j1 j2 j3 h0 h1 h2 h3 g0 g1 g2 g3;simp only[Nat.reducePow]at hlt hnl hml⊢;refine⟨_,?_,hN.of_eq ?_⟩
 ·rw[eX (by omega)];by_cases hc:n<m
  ·rw[axp hc,show c3=1 by omega];rfl
  ·rw[axi hc,show c3=0 by omega];rfl
 ·omega
theorem jM {a:Nat->Int}{n:Nat}(h:IsN a n):zl a=some (iG n:Int):=by
 rw[TW];unfold TV;obtain⟨x0,x1,x2,x3,e0,e1,e2,e3,h0,h1,h2,h3,hn⟩:=h.get;simp only[e0,e1,e2,e3];have b64: ∀ {i:Nat},i<18446744073709551616->iG i<=64:=λh=>uP (by simpa using h)
 by_cases c3:x3=0
 ·by_cases c2:x2=0
  ·by_cases c1:x1=0
   ·by_cases c0:x0=0
    ·simp(disch:=omega) only[WW];rw[show n=0 by omega];rfl
    ·have hb:=b64 h0;simp(disch:=omega) only[CC,WW,mG h0];rw[show n=x0 by omega,axA]
   ·have hb:=b64 h1;simp(disch:=omega) only[CC,WW,mG h1];have:n/2^64=x1:=by simp only[Nat.reducePow];omega
    rw[ko (x:=n) (s:=64) (by omega),this]
  ·have hb:=b64 h2;simp(disch:=omega) only[CC,WW,mG h2];have:n/2^128=x2:=by simp only[Nat.reducePow];omega
   rw[ko (x:=n) (s:=128) (by omega),this]
 ·have hb:=b64 h3;simp(disch:=omega) only[CC,WW,mG h3];have:n/2^192=x3:=by simp only[Nat.reducePow];omega
  rw[ko (x:=n) (s:=192) (by omega),this]
theorem NZ {a:Nat->Int}{n:Nat}(h:IsN a n)(k:Int):Bc a k=some (if 0<=k/\n.testBit k.toNat then 1 else 0):=by
 rw[TL];unfold TK;by_cases h0:0<=k
 ·by_cases h3:k<256
  ·obtain⟨K,rfl⟩: ∃K:Nat,k=(K:Int):=⟨k.toNat,by omega⟩;obtain⟨w,h1,h2,h4⟩:=h.bit (i:=K/64) (by omega);have h4':=h4 (K%64) (by omega);have:=axB (ay1 w (2^(K%64))) h2;simp(disch:=omega) only[CC,WW,h1,Pj,aad];rw[Pk,h4',show 64*(K/64)+K%64=K by omega];simp only[h0,true_and,axE]
  ·rw[aya (axJ h.1 (axM (by decide) (by omega)))];simp(disch:=omega) only[WW];simp
 ·simp(disch:=omega) only[WW];simp[h0]
theorem R7 {a:Nat->Int}{n:Nat}(h:IsN a n)(k:Int): ∃b,TN a k=some b/\IsN b (n*2^k.toNat%2^256):=by
 rw[XU];unfold Z9;by_cases h1:k<1
 ·simp(disch:=omega) only[WW];refine⟨a,rfl,h.of_eq ?_⟩;rw[show k.toNat=0 by omega,ayV,az0,axk h.1]
 ·by_cases h2:256<=k
  ·simp(disch:=omega) only[WW];refine⟨_,rfl,IsN.zero.of_eq ?_⟩;obtain⟨d,hd⟩: ∃d,k.toNat=256+d:=⟨k.toNat-256,by omega⟩;rw[hd,ayF,Nat.mul_left_comm,Nat.mul_mod_right]
  ·obtain⟨K,rfl⟩: ∃K:Nat,k=(K:Int):=⟨k.toNat,by omega⟩;simp(disch:=omega) only[CC,WW];generalize ho:aD nX _=o;have hbits: ∀(N:Nat) j,(N*2^K).testBit j=(decide (K<=j)&&N.testBit (j-K)):=λN j=>by rw[axH,azd]
   obtain⟨out,hy,hQ⟩:=aP (R:=nX) (λi out=>a3g ((K/64:Nat):Int) ((K%64:Nat):Int) ((K/64+i:Nat):Int) a (λ_=>0) out) (λout=>Z8 (λ_=>0) out)
    (λi out=> ∀l,l<4-> ∃w:Nat,out l=(w:Int)/\w<18446744073709551616/\ ∀j,j<64->w.testBit j=(decide (l<K/64+i)&&(n*2^K).testBit (64*l+j))) (4-K/64)
    (λi hi out hP=>by
     obtain⟨w,e1,e2,e3⟩:=h.bit (i:=i) (by omega);have hlt:w*2^(K%64)%18446744073709551616<18446744073709551616:=axG _ (by decide);have others: ∀v:Nat,(∀j,j<64->v.testBit j=(n*2^K).testBit (64*(K/64+i)+j))->v<18446744073709551616-> ∀out':Nat->Int,(∀l,out' l=if l=K/64+i then(v:Int)else out l)-> ∀l,l<4-> ∃w:Nat,out' l=(w:Int)/\w<18446744073709551616/\ ∀j,j<64->w.testBit j=(decide (l<K/64+(i+1))&&(n*2^K).testBit (64*l+j)):=by
      intro v hv hv2 out' ho' l hl;by_cases e:l=K/64+i
      ·refine⟨v,by rw[ho' l,axp e],hv2,λj hj=>?_⟩;rw[hv j hj,e,axw (by omega),axV]
      ·obtain⟨u,g1,g2,g3⟩:=hP l hl;refine⟨u,by rw[ho' l,axi e,g1],g2,λj hj=>?_⟩;rw[g3 j hj];congr 1;rw[ayt];omega
     have first: ∀j,j<64->(w*2^(K%64)%18446744073709551616).testBit j=(decide (K%64<=j)&&n.testBit (64*i+j-K%64)):=by
      intro j hj;rw[show(18446744073709551616:Nat)=2^64 by decide,axY,axw hj,axV,axH _ (2^_),azd];by_cases h5:K%64<=j
      ·rw[axw h5,axV,axV,e3 _ (by omega)];congr 1;omega
      ·rw[axz h5,ayd,ayd]
     by_cases h0:i=0
     ·subst h0;refine⟨upd out (K/64+0) ((w*2^(K%64)%18446744073709551616:Nat):Int),?_,others _ ?_ hlt _ λl=>rfl⟩
      ·unfold nX;simp(disch:=omega) only[CC,WW,ayo,ayu,e1,a3O]
      ·intro j hj;rw[first j hj,hbits]
       congr 1
       ·rw[ayt];omega
       ·congr 1;omega
     ·obtain⟨v,f1,f2,f3⟩:=h.bit (i:=i-1) (by omega);have hlt2:v/2^(64-K%64)<18446744073709551616:=axB (ay1 _ _) f2;refine⟨upd (upd out (K/64+i) ((w*2^(K%64)%18446744073709551616:Nat):Int)) (K/64+i) ((w*2^(K%64)%18446744073709551616||| v/2^(64-K%64):Nat):Int),?_,others _ ?_ (ayf (n:=64) hlt hlt2) _ λl=>?_⟩
      ·unfold nX;simp(disch:=omega) only[CC,WW,azN,e1,f1,a3O,Pj,upd_same,orU,azy]
      ·intro j hj;rw[azi,first j hj,hbits,ayi];by_cases h5:K%64<=j
       ·have h6:v.testBit (j+(64-K%64))=false:=aya (axJ (m:=2^64) f2 (axM (by decide) (by omega)));rw[h6,azh]
        congr 1
        ·rw[ayt];omega
        ·congr 1;omega
       ·rw[axz h5,ayd,azK,f3 _ (by omega),axw (by omega),axV]
        congr 1;omega
      ·simp only[upd];split<;>rfl)
    (λout hP=>by
     unfold nX;simp(disch:=omega) only[CC,WW]) (λ_=>0) (λl hl=>⟨0,rfl,by decide,λj hj=>by
      rw[hbits,azX];by_cases h5:l<K/64+0
      ·rw[axz (show¬K<=64*l+j by omega)];simp
      ·rw[axz h5];simp⟩)
   have hy':aD nX _=_:=hy;rw[ayo]at hy';obtain rfl:=ho.symm.trans hy';refine⟨out,rfl,IsN.ofBits (axG _ (by decide)) λl hl=>?_⟩;obtain⟨w,e1,e2,e3⟩:=hQ l hl;refine⟨w,e1,e2,λj hj=>?_⟩;rw[e3 j hj,axY,axw (by omega),axw (by omega)]
theorem Kv {a:Nat->Int}{n:Nat}(h:IsN a n)(k:Int): ∃b,Gt a k=some b/\IsN b (n/2^k.toNat):=by
 rw[Qt];unfold OI;by_cases h1:k<1
 ·simp(disch:=omega) only[WW];refine⟨a,rfl,h.of_eq ?_⟩;rw[show k.toNat=0 by omega,ayV,azY]
 ·by_cases h2:256<=k
  ·simp(disch:=omega) only[WW];refine⟨_,rfl,IsN.zero.of_eq ?_⟩;rw[ayl (axJ h.1 (axM (by decide) (by omega)))]
  ·obtain⟨K,rfl⟩: ∃K:Nat,k=(K:Int):=⟨k.toNat,by omega⟩;simp(disch:=omega) only[CC,WW];generalize ho:aD lN _=o;have hbits: ∀j,(n/2^K).testBit j=n.testBit (j+K):=λj=>ayi ..
   obtain⟨out,hy,hQ⟩:=aP (R:=lN) (λi out=>Zb ((K/64:Nat):Int) ((K%64:Nat):Int) ((4-K/64:Nat):Int) (i:Int) a (λ_=>0) out) (λout=>TY (λ_=>0) out)
    (λi out=> ∀l,l<4-> ∃w:Nat,out l=(w:Int)/\w<18446744073709551616/\ ∀j,j<64->w.testBit j=(decide (l<i)&&n.testBit (64*l+j+K))) (4-K/64)
    (λi hi out hP=>by
     obtain⟨w,e1,e2,e3⟩:=h.bit (i:=i+K/64) (by omega);have hlt:w/2^(K%64)<18446744073709551616:=axB (ay1 _ _) e2;have others: ∀v:Nat,(∀j,j<64->v.testBit j=n.testBit (64*i+j+K))->v<18446744073709551616-> ∀out':Nat->Int,(∀l,out' l=if l=i then(v:Int)else out l)-> ∀l,l<4-> ∃w:Nat,out' l=(w:Int)/\w<18446744073709551616/\ ∀j,j<64->w.testBit j=(decide (l<i+1)&&n.testBit (64*l+j+K)):=by
      intro v hv hv2 out' ho' l hl;by_cases e:l=i
      ·refine⟨v,by rw[ho' l,axp e],hv2,λj hj=>?_⟩;rw[hv j hj,e,axw (by omega),axV]
      ·obtain⟨u,g1,g2,g3⟩:=hP l hl;refine⟨u,by rw[ho' l,axi e,g1],g2,λj hj=>?_⟩;rw[g3 j hj];congr 1;rw[ayt];omega
     have first: ∀j,j<64->(w/2^(K%64)).testBit j=(decide (j+K%64<64)&&n.testBit (64*i+j+K)):=by
      intro j hj;rw[ayi];by_cases h5:j+K%64<64
      ·rw[axw h5,axV,e3 _ h5];congr 1;omega
      ·rw[axz h5,ayd];exact aya (axJ (m:=2^64) e2 (axM (by decide) (by omega)))
     by_cases h0:i+K/64+1<4
     ·obtain⟨v,f1,f2,f3⟩:=h.bit (i:=i+K/64+1) (by omega);have hlt2:v*2^(64-K%64)%18446744073709551616<18446744073709551616:=axG _ (by decide);refine⟨upd (upd out i ((w/2^(K%64):Nat):Int)) i ((w/2^(K%64)||| v*2^(64-K%64)%18446744073709551616:Nat):Int),?_,others _ ?_ (ayf (n:=64) hlt hlt2) _ λl=>?_⟩
      ·unfold lN;simp(disch:=omega) only[CC,WW,e1,f1,a3O,Pj,upd_same,orU]
      ·intro j hj;rw[azi,first j hj,show(18446744073709551616:Nat)=2^64 by decide,axY,axw hj,axV,axH _ (2^_),azd];by_cases h5:j+K%64<64
       ·rw[axw h5,axz (show¬j>=64-K%64 by omega),axV,ayd,azh]
       ·rw[axz h5,axw (show j>=64-K%64 by omega),axV,ayd,azK,f3 _ (by omega)]
        congr 1;omega
      ·simp only[upd];split<;>rfl
     ·refine⟨upd out i ((w/2^(K%64):Nat):Int),?_,others _ ?_ hlt _ λl=>rfl⟩
      ·unfold lN;simp(disch:=omega) only[CC,WW,e1,Pj]
      ·intro j hj;rw[first j hj];by_cases h5:j+K%64<64
       ·rw[axw h5,axV]
       ·rw[axz h5,ayd];exact(aya (axJ h.1 (axM (by decide) (by omega)))).symm)
    (λout hP=>by
     unfold lN;simp(disch:=omega) only[CC,WW]) (λ_=>0) (λl hl=>⟨0,rfl,by decide,λj hj=>by rw[azX,axz (axS l),ayd]⟩)
   obtain rfl:=ho.symm.trans hy;refine⟨out,rfl,IsN.ofBits (axB (ay1 _ _) h.1) λl hl=>?_⟩;obtain⟨w,e1,e2,e3⟩:=hQ l hl;refine⟨w,e1,e2,λj hj=>?_⟩;rw[e3 j hj,hbits];by_cases h5:l<4-K/64
   ·rw[axw h5,axV]
   ·rw[axz h5,ayd];exact(aya (axJ h.1 (axM (by decide) (by omega)))).symm
open Go Go.Den Go.Num
end Go.Pl
