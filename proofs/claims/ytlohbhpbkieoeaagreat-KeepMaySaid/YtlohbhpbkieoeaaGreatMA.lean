/-
 Numbers and words.
-/
import Derived.Test.YtlohbhpbkieoeaaGreatDenD
import Derived.Test.YtlohbhpbkieoeaaGreatPlA
set_option linter.unusedVariables false
namespace Go.Num
theorem I5 {m a b:Nat}(h:a%m=b%m)(hle:b<=a):m∣a-b:=by have h1:=axn a m;have h2:=axn b m;refine⟨a/m-b/m,?_⟩;rw[Nat.mul_sub];omega
theorem UY {m a b:Nat}(h:m∣a-b)(hle:b<=a):a%m=b%m:=by
 obtain⟨k,hk⟩:=h;have:a=b+m*k:=by omega
 rw[this,ayK]
theorem mod_mul_mod {a b c d m:Nat}(h1:a%m=b%m)(h2:c%m=d%m):(a*c)%m=(b*d)%m:=by rw[ayx,h1,h2,<-ayx]
theorem mod_add_mod {a b c d m:Nat}(h1:a%m=b%m)(h2:c%m=d%m):(a+c)%m=(b+d)%m:=by rw[ayS,h1,h2,<-ayS]
theorem UZ {a b c m:Nat}(hc:Nat.Coprime m c)(h:(c*a)%m=(c*b)%m):a%m=b%m:=by
 have key: ∀a b,b<=a->(c*a)%m=(c*b)%m->a%m=b%m:=by intro a b hle h;have h1:=I5 h (ayE c hle);rw[<-Nat.mul_sub]at h1;exact UY (hc.dvd_of_dvd_mul_left h1) hle
 rcases Nat.le_total a b with hab|hab
 ·exact(key b a hab h.symm).symm
 ·exact key a b hab h
theorem vS {a b c m:Nat}(hc:Nat.Coprime m c)(h:(a*c)%m=(b*c)%m):a%m=b%m:=
 UZ hc (by rw[awT c a,awT c b];exact h)
def Pr(p:Nat):Prop:=2<=p/\ ∀d,d∣p->d=1\/d=p
theorem Pr.pos {p:Nat}(h:Pr p):0<p:=by have:=h.1;omega
theorem Pr.coprime {p a:Nat}(h:Pr p)(ha: ¬p∣a):Nat.Coprime p a:=by
 rcases h.2 (Nat.gcd p a) (Nat.gcd_dvd_left p a)with h1|h1
 ·exact h1
 ·exact absurd (h1▸Nat.gcd_dvd_right p a) ha
theorem Pr.dvd_mul {p a b:Nat}(h:Pr p)(hd:p∣a*b):p∣a\/p∣b:=by
 by_cases ha:p∣a
 ·exact .inl ha
 ·exact .inr ((h.coprime ha).dvd_of_dvd_mul_left hd)
theorem NZ: ∀(n:Nat),2<=n-> ∃p,Pr p/\p∣n/\(¬Pr n->p*p<=n):=by
 intro n
 induction n using Nat.strongRecOn with
 |_ n ih=>
  intro hn;by_cases hp:Pr n
  ·exact⟨n,hp,Nat.dvd_refl n,λh=>absurd hp h⟩
  ·have: ∃d,d∣n/\d≠1/\d≠n:=by apply ax7;intro hno;apply hp;refine⟨hn,λd hd=>?_⟩;apply ax7;intro h2;exact hno ⟨d,hd,λh=>h2 (.inl h),λh=>h2 (.inr h)⟩
   obtain⟨d,⟨e,he⟩,h1,h2⟩:=this;have hd0:d≠0:=by rintro rfl;simp at he;omega
   have he0:e≠0:=by rintro rfl;simp at he;omega
   have he1:e≠1:=by rintro rfl;simp at he;exact h2 he.symm
   have key: ∀d e,n=d*e->2<=d->2<=e->d<=e-> ∃p,Pr p/\p∣n/\(¬Pr n->p*p<=n):=by
    intro d e he hd2 he2 hde;have hlt:d<n:=by
     rw[he]
     calc d<d*2:=by omega
      _<=d*e:=ayE d he2
    obtain⟨p,hp1,hp2,_⟩:=ih d hlt hd2;have hple:p<=d:=Nat.le_of_dvd (by omega) hp2;refine⟨p,hp1,he▸Nat.dvd_mul_right_of_dvd hp2 e,λ_=>?_⟩;rw[he];exact ayL hple (ayF hple hde)
   rcases Nat.le_total d e with h|h
   ·exact key d e he (by omega) (by omega) h
   ·exact key e d (by rw[he,awT]) (by omega) (by omega) h
theorem I6 {n:Nat}(hn:2<=n)(h: ∀d,2<=d->d*d<=n->n%d≠0):Pr n:=by apply ax7;intro hp;obtain⟨p,h1,h2,h3⟩:=NZ n hn;exact h p h1.1 (h3 hp) (Nat.mod_eq_zero_of_dvd h2)
theorem Pr.tried {n:Nat}(h:Pr n): ∀d,2<=d->d<n->n%d≠0:=by intro d h2 hlt h0;rcases h.2 d (Nat.dvd_of_mod_eq_zero h0)with h1|h1<;>omega
def choose:Nat->Nat->Nat|_,0=>1|0,_+1=>0|n+1,k+1=>choose n k+choose n (k+1)
theorem Bj(n:Nat):choose n 0=1:=by cases n<;>rfl
theorem choose_lt: ∀ {n k:Nat},n<k->choose n k=0:=by
 intro n
 induction n with
 |zero=>intro k h;cases k with
  |zero=>omega
  |succ k=>rfl
 |succ n ih=>intro k h;cases k with
  |zero=>omega
  |succ k=>rw[choose,ih (by omega),ih (by omega)]
theorem a11: ∀n,choose n n=1:=by
 intro n
 induction n with
 |zero=>rfl
 |succ n ih=>rw[choose,ih,choose_lt (az6 n)]
theorem WV: ∀n k,(k+1)*choose (n+1) (k+1)=(n+1)*choose n k:=by
 intro n
 induction n with
 |zero=>
  intro k;cases k with
  |zero=>rfl
  |succ k=>simp[choose]
 |succ n ih=>
  intro k;cases k with
  |zero=>
   have:=ih 0;simp only[Bj,awR,axN,aye]at this⊢;rw[choose,this,Bj];omega
  |succ k=>
   have h1:=ih k;have h2:=ih (k+1);rw[choose,ayy,h2,show k+1+1=(k+1)+1 from rfl,ax3,h1,axN];rw[show choose (n+1) (k+1)=choose n k+choose n (k+1)from rfl];rw[ax3 (n+1) 1,ayy];omega
theorem Pp {p k:Nat}(hp:Pr p)(h0:0<k)(hk:k<p):p∣choose p k:=by
 obtain⟨q,rfl⟩: ∃q,p=q+1:=⟨p-1,by omega⟩;obtain⟨j,rfl⟩: ∃j,k=j+1:=⟨k-1,by omega⟩;have h:=WV q j;have hd:(q+1)∣(j+1)*choose (q+1) (j+1):=by rw[h];exact Nat.dvd_mul_right _ _
 rcases hp.dvd_mul hd with h1|h1
 ·have:=Nat.le_of_dvd (by omega) h1;omega
 ·exact h1
def nE(n a:Nat):Nat->Nat|0=>0|m+1=>nE n a m+choose n m*a^m
theorem a13(n a:Nat): ∀m,nE (n+1) a (m+1)=nE n a (m+1)+a*nE n a m:=by
 intro m
 induction m with
 |zero=>simp[nE,Bj]
 |succ m ih=>
  rw[nE,ih,nE,nE,nE,choose];rw[ayy,ax3,ay3];have:a*(choose n m*a^m)=choose n m*(a^m*a):=by rw[awT a,axf]
  rw[this];omega
theorem a9G(a:Nat): ∀n,(a+1)^n=nE n a (n+1):=by
 intro n
 induction n with
 |zero=>simp[nE,choose]
 |succ n ih=>
  rw[ay3,ih,a13];rw[show nE n a (n+1+1)=nE n a (n+1)+choose n (n+1)*a^(n+1)from rfl,choose_lt (az6 n)];rw[ayy,aye,awT (nE n a (n+1)) a];omega
theorem a3q {p a:Nat}(hp:Pr p): ∀m,m<p->nE p a (m+1)%p=1:=by
 intro m
 induction m with
 |zero=>intro h;simp[nE,Bj];exact awD hp.1
 |succ m ih=>
  intro h;rw[nE,ayS,ih (by omega),Nat.mod_eq_zero_of_dvd (Nat.dvd_mul_right_of_dvd (Pp hp (by omega) h) _)];exact awD hp.1
theorem a3r {p a:Nat}(hp:Pr p):((a+1)^p)%p=(a^p+1)%p:=by obtain⟨q,rfl⟩: ∃q,p=q+1:=⟨p-1,by have:=hp.1;omega⟩;rw[a9G,nE,a11,axN,ayS,a3q hp q (by omega),axP,<-awD (a:=1) (b:=q+1) hp.1];simp
theorem aie {p:Nat}(hp:Pr p): ∀a,(a^p)%p=a%p:=by
 intro a
 induction a with
 |zero=>rw[Nat.zero_pow hp.pos]
 |succ a ih=>rw[a3r hp];exact mod_add_mod ih rfl
theorem a3s {p a:Nat}(hp:Pr p)(ha: ¬p∣a):(a^(p-1))%p=1:=by have h:=aie hp a;obtain⟨q,rfl⟩: ∃q,p=q+1:=⟨p-1,by have:=hp.1;omega⟩;rw[ay3,awT]at h;have h1:=UZ (a:=a^q) (b:=1) (hp.coprime ha) (by rw[h,aye]);rw[ayY,h1];exact awD hp.1
theorem a14 {m b k:Nat}(hm:2<=m)(h:b^k%m=1)(j:Nat):b^(k*j)%m=1:=by rw[ayM,Nat.pow_mod,h,Nat.one_pow];exact awD hm
theorem LW {m b k:Nat}(hm:2<=m)(hk:0<k)(h:b^k%m=1):Nat.Coprime m b:=by have h1:Nat.gcd m b∣b^k:=Nat.dvd_trans (Nat.gcd_dvd_right m b) ⟨b^(k-1),by rw[<-Nat.pow_succ'];congr 1;omega⟩;have h2:Nat.gcd m b∣m:=Nat.gcd_dvd_left m b;have h3:Nat.gcd m b∣b^k%m:=(Nat.dvd_mod_iff h2).2 h1;rw[h]at h3;exact Nat.eq_one_of_dvd_one h3
theorem ab3 {m b:Nat}(hm:2<=m): ∀x y,b^x%m=1->b^y%m=1->b^(Nat.gcd x y)%m=1:=by
 intro x
 induction x using Nat.strongRecOn with
 |_ x ih=>
  intro y h1 h2;by_cases h0:x=0
  ·subst h0;rw[Nat.gcd_zero_left];exact h2
  ·rw[Nat.gcd_rec];refine ih (y%x) (awZ _ (by omega)) x ?_ h1;have h3:=axn y x;rw[<-h3,ay1,ayx,a14 hm h1,axN,Nat.mod_mod]at h2;exact h2
theorem a5B {m b f y:Nat}(hm:2<=m)(hf:Pr f)(h1:b^f%m=1)(hb:b%m≠1)(h2:b^y%m=1):f∣y:=by apply ax7;intro hd;have h3:=ab3 hm f y h1 h2;rw[hf.coprime hd,Nat.pow_one]at h3;exact hb h3
theorem a15 {n f k a:Nat}(hn:2<=n)(hf:Pr f)(hk:k*f=n-1)(hff:n<f*f)(h1:(a^k%n)^f%n=1)(h2:Nat.gcd ((a^k%n)+n-1) n=1):Pr n:=by
 apply ax7;intro hp;obtain⟨p,hp1,hp2,hp3⟩:=NZ n hn;have hpp:=hp3 hp;generalize hb:a^k%n=b at h1 h2;have hb1:b^f%p=1:=by have:=congrArg (·%p) h1;simp only[Nat.mod_mod_of_dvd _ hp2]at this;rw[this];exact awD hp1.1
 have hbne:b%p≠1:=by
  intro h;have hb0:1<=b:=by
   rcases axd b with h0|h0
   ·rw[h0,Nat.zero_mod]at h;cases h
   ·exact h0
  have h3:p∣b-1:=by refine I5 (m:=p) (a:=b) (b:=1) ?_ hb0;rw[h];exact(awD hp1.1).symm
  have h4:p∣b+n-1:=by
   have:b+n-1=(b-1)+n:=by omega
   rw[this];exact Nat.dvd_add h3 hp2
  have h5:=Nat.dvd_gcd h4 hp2;rw[h2]at h5;have:=Nat.le_of_dvd (by omega) h5;have:=hp1.1;omega
 have hpb: ¬p∣b:=by intro h;have h3:=LW hp1.1 hf.pos hb1;have h4:p∣Nat.gcd p b:=Nat.dvd_gcd (Nat.dvd_refl p) h;rw[h3]at h4;have:=Nat.le_of_dvd (by omega) h4;have:=hp1.1;omega
 have h6:=a5B hp1.1 hf hb1 hbne (a3s hp1 hpb);have h7:=Nat.le_of_dvd (by have:=hp1.1;omega) h6;have h8:f<p:=by have:=hp1.1;omega
 have:f*f<p*p:=Nat.mul_lt_mul'' h8 h8;omega
end Go.Num
set_option linter.unusedSimpArgs false
namespace Go.Pl
open Go Go.Den
theorem wrap_u64(n:Nat):IntKind.u64.wrap (n:Int)=((n%18446744073709551616:Nat):Int):=by simp[IntKind.wrap,IntKind.bits,IntKind.signed]
theorem J8(x:Int):IntKind.u64.wrap x=x%18446744073709551616:=by simp[IntKind.wrap,IntKind.bits,IntKind.signed]
theorem wrap_u32'(x:Int):IntKind.u32.wrap x=x%4294967296:=by simp[IntKind.wrap,IntKind.bits,IntKind.signed]
theorem wrap_u8'(x:Int):IntKind.u8.wrap x=x%256:=by simp[IntKind.wrap,IntKind.bits,IntKind.signed]
theorem XO(x:Int):IntKind.i64.wrap x=if x%18446744073709551616>=9223372036854775808 then x%18446744073709551616-18446744073709551616 else x%18446744073709551616:=by simp[IntKind.wrap,IntKind.bits,IntKind.signed]
theorem wrap_i64 {x:Int}(h: -9223372036854775808<=x/\x<9223372036854775808):IntKind.i64.wrap x=x:=by rw[XO];split<;>omega
theorem adh {x:Int}(h:0<=x/\x<18446744073709551616):IntKind.u64.wrap x=x:=by rw[J8];omega
theorem a9H {x:Int}(h:0<=x/\x<256):IntKind.u8.wrap x=x:=by rw[wrap_u8'];omega
theorem aG {p:Prop}[Decidable p](h:p):decide p=true:=awv h
theorem ak {p:Prop}[Decidable p](h: ¬p):decide p=false:=aww h
theorem I7 {x y:Int}(h:x=y):(x==y)=true:=by simp[h]
theorem O0 {x y:Int}(h:x≠y):(x==y)=false:=by simp[h]
theorem uw {x y:Int}(h:x≠y):(x !=y)=true:=by simp[h]
theorem nT {x y:Int}(h:x=y):(x !=y)=false:=by simp[h]
theorem a4q {i:Int}{n:Nat}(h:0<=i/\i<(n:Int)):inb i n=true:=by simp[inb,h.1,h.2]
theorem arR:(false==true)=false:=rfl
theorem arS:(true==false)=false:=rfl
theorem arT:(true==true)=true:=rfl
theorem arU:(false==false)=true:=rfl
theorem aN {α:Type}(a b:α):(bif true then a else b)=a:=rfl
theorem aM {α:Type}(a b:α):(bif false then a else b)=b:=rfl
theorem V5 {k:IntKind}{a s:Nat}(h:a<2^k.bits):bO k (a:Int) (s:Int)=((a/2^s:Nat):Int):=by
 unfold bO;rw[awz];by_cases hs:s<=k.bits
 ·rw[ay5 hs,Int.fdiv_eq_ediv_of_nonneg _ (by exact Int.le_of_lt (Int.pow_pos (by decide)))];simp
 ·rw[Nat.min_eq_right (by omega),Int.fdiv_eq_ediv_of_nonneg _ (by exact Int.le_of_lt (Int.pow_pos (by decide)))];have h1:a/2^s=0:=axC (awU h (ax1 (by decide) (by omega)));have h2:a/2^k.bits=0:=axC h;rw[h1];have:((a/2^k.bits:Nat):Int)=0:=by rw[h2];rfl
  simpa using this
theorem Rv {a s:Nat}(h:a<18446744073709551616):bO .u64 (a:Int) (s:Int)=((a/2^s:Nat):Int):=V5 (k:=.u64) h
theorem Zd {a s:Nat}(h:a<9223372036854775808):bO .i64 (a:Int) (s:Int)=((a/2^s:Nat):Int):=V5 (k:=.i64) (Nat.lt_trans h (by decide))
theorem a3t {a s:Nat} :iE .u64 (a:Int) (s:Int)=((a*2^s%18446744073709551616:Nat):Int):=by
 unfold iE;rw[awz,show((a:Int)*2^min s IntKind.u64.bits)=((a*2^min s 64:Nat):Int)by simp[IntKind.bits],wrap_u64]
 congr 1
 by_cases hs:s<=64
 ·rw[ay5 hs]
 ·rw[Nat.min_eq_right (by omega)];have h1:2^s=18446744073709551616*2^(s-64):=by rw[show(18446744073709551616:Nat)=2^64 by decide,<-ay1];congr 1;omega
  rw[h1,Nat.mul_left_comm,Nat.mul_mod_right,show(2:Nat)^64=18446744073709551616 by decide,Nat.mul_mod_left]
theorem dS(a:Nat):(BitVec.ofInt 64 (a:Int)).toNat=a%18446744073709551616:=by simp[BitVec.toNat_ofInt]
theorem ab4 {a b:Nat}(ha:a<18446744073709551616)(hb:b<18446744073709551616):ay .and .u64 (a:Int) (b:Int)=((a&&& b:Nat):Int):=by have:ay .and .u64 (a:Int) (b:Int)=IntKind.u64.wrap ((BitVec.ofInt 64 a&&& BitVec.ofInt 64 b).toNat:Int):=rfl;rw[this,BitVec.toNat_and,dS,dS,awD ha,awD hb,wrap_u64,awD];exact awV ayd ha
theorem orU {a b:Nat}(ha:a<18446744073709551616)(hb:b<18446744073709551616):ay .or .u64 (a:Int) (b:Int)=((a||| b:Nat):Int):=by have:ay .or .u64 (a:Int) (b:Int)=IntKind.u64.wrap ((BitVec.ofInt 64 a||| BitVec.ofInt 64 b).toNat:Int):=rfl;rw[this,BitVec.toNat_or,dS,dS,awD ha,awD hb,wrap_u64,awD];exact axp (n:=64) ha hb
theorem a18 {a b:Nat}(ha:a<9223372036854775808)(hb:b<9223372036854775808):ay .and .i64 (a:Int) (b:Int)=((a&&& b:Nat):Int):=by have:ay .and .i64 (a:Int) (b:Int)=IntKind.i64.wrap ((BitVec.ofInt 64 a&&& BitVec.ofInt 64 b).toNat:Int):=rfl;have hlt:a&&& b<9223372036854775808:=awV ayd ha;rw[this,BitVec.toNat_and,dS,dS,awD (by omega),awD (by omega),wrap_i64];omega
theorem orS {a b:Nat}(ha:a<9223372036854775808)(hb:b<9223372036854775808):ay .or .i64 (a:Int) (b:Int)=((a||| b:Nat):Int):=by have:ay .or .i64 (a:Int) (b:Int)=IntKind.i64.wrap ((BitVec.ofInt 64 a||| BitVec.ofInt 64 b).toNat:Int):=rfl;have hlt:a||| b<9223372036854775808:=axp (n:=63) ha hb;rw[this,BitVec.toNat_or,dS,dS,awD (by omega),awD (by omega),wrap_i64];omega
theorem awg {a s:Nat}(h:a*2^s<9223372036854775808)(h0:0<a):iE .i64 (a:Int) (s:Int)=((a*2^s:Nat):Int):=by
 have hs:s<=64:=by apply ax7;intro hs;have:2^64<=2^s:=ax1 (by decide) (by omega);have h1:2^s<=a*2^s:=Nat.le_mul_of_pos_left _ h0;omega
 unfold iE;rw[awz,show min s IntKind.i64.bits=s from ay5 hs,show((a:Int)*2^s)=((a*2^s:Nat):Int)by simp,wrap_i64];omega
theorem a4r {x:Int}{k:Nat}(hk:k<63):ay .and .i64 x ((2^k-1:Nat):Int)=x%(2^k:Nat):=by
 have:ay .and .i64 x ((2^k-1:Nat):Int)=IntKind.i64.wrap ((BitVec.ofInt 64 x&&& BitVec.ofInt 64 ((2^k-1:Nat):Int)).toNat:Int):=rfl;have hp:2^k<=2^62:=ax1 (by decide) (by omega);have hp0:0<2^k:=ayz (by decide);rw[this,BitVec.toNat_and,dS,awD (a:=2^k-1) (by omega),axj];have h1:((BitVec.ofInt 64 x).toNat:Int)=x%(2^64:Nat):=by rw[BitVec.toNat_ofInt,Int.toNat_of_nonneg];exact Int.emod_nonneg _ (by decide)
 have hlt:(BitVec.ofInt 64 x).toNat%2^k<2^k:=awZ _ hp0;rw[wrap_i64 (by omega),Int.natCast_emod,h1];apply Int.emod_emod_of_dvd;exact⟨((2^(64-k):Nat):Int),by rw[<-Int.natCast_mul,<-ay1];congr 2;omega⟩
theorem a5C {x y c:Nat}(hc:c<=1):bG (x:Int) (y:Int) (c:Int)=some ((((x+y+c)%18446744073709551616:Nat):Int),(((x+y+c)/18446744073709551616:Nat):Int)):=by rw[a0g];unfold YC;simp only[awz,awF hc,aN,m64]
theorem a5D {x y c:Nat}(hc:c<=1):EH (x:Int) (y:Int) (c:Int)=some ((((x+18446744073709551616-y-c)%18446744073709551616:Nat):Int),((if x<y+c then 1 else 0:Nat):Int)):=by rw[a0h];unfold YD;simp only[awz,awF hc,aN,m64]
theorem eF {n:Nat}(h:n<9223372036854775808):IntKind.i64.wrap (n:Int)=(n:Int):=wrap_i64 (by omega)
theorem Cb {n:Nat}(h:n<18446744073709551616):IntKind.u64.wrap (n:Int)=(n:Int):=adh (by omega)
theorem O1(a b:Nat):(a:Int)+(b:Int)=((a+b:Nat):Int):=rfl
theorem V6(a n:Nat):(a:Int)+(no_index (OfNat.ofNat n):Int)=((a+OfNat.ofNat n:Nat):Int):=rfl
theorem adi(a n:Nat):(no_index (OfNat.ofNat n):Int)+(a:Int)=((OfNat.ofNat n+a:Nat):Int):=rfl
theorem a19(a b:Nat):(a:Int)*(b:Int)=((a*b:Nat):Int):=rfl
theorem a9I(a n:Nat):(a:Int)*(no_index (OfNat.ofNat n):Int)=((a*OfNat.ofNat n:Nat):Int):=rfl
theorem adj(a n:Nat):(no_index (OfNat.ofNat n):Int)*(a:Int)=((OfNat.ofNat n*a:Nat):Int):=rfl
theorem a9J {a b:Nat}(h:b<=a):(a:Int)-(b:Int)=((a-b:Nat):Int):=by omega
theorem a9K {a n:Nat}(h:OfNat.ofNat n<=a):(a:Int)-(no_index (OfNat.ofNat n):Int)=((a-OfNat.ofNat n:Nat):Int):=by have:(OfNat.ofNat n:Int)=((OfNat.ofNat n:Nat):Int):=rfl;rw[this];omega
theorem adk {a n:Nat}(h:a<=OfNat.ofNat n):(no_index (OfNat.ofNat n):Int)-(a:Int)=((OfNat.ofNat n-a:Nat):Int):=by have:(OfNat.ofNat n:Int)=((OfNat.ofNat n:Nat):Int):=rfl;rw[this];omega
theorem adl(a b:Nat):(a:Int)/(b:Int)=((a/b:Nat):Int):=rfl
theorem adn(a n:Nat):(a:Int)/(no_index (OfNat.ofNat n):Int)=((a/OfNat.ofNat n:Nat):Int):=rfl
theorem ado(a b:Nat):(a:Int)%(b:Int)=((a%b:Nat):Int):=rfl
theorem adp(a n:Nat):(a:Int)%(no_index (OfNat.ofNat n):Int)=((a%OfNat.ofNat n:Nat):Int):=rfl
theorem Ze(a b:Nat):Int.tdiv (a:Int) (b:Int)=((a/b:Nat):Int):=rfl
theorem a3u(a n:Nat):Int.tdiv (a:Int) (no_index (OfNat.ofNat n):Int)=((a/OfNat.ofNat n:Nat):Int):=rfl
theorem a9L(a b:Nat):Int.tmod (a:Int) (b:Int)=((a%b:Nat):Int):=rfl
theorem Zf(a n:Nat):Int.tmod (a:Int) (no_index (OfNat.ofNat n):Int)=((a%OfNat.ofNat n:Nat):Int):=rfl
theorem Dl(x j:Nat):x/2^j=x/2^(j+1)*2+(if x.testBit j then 1 else 0):=by
 rw[ayk,ay3,<-axA];have h3:x/2^j%2=0\/x/2^j%2=1:=by omega
 rcases h3 with h3|h3<;>simp[h3]<;>omega
theorem upd_same {α:Type}(f:Nat->α)(i:Nat)(v:α):upd f i v i=v:=by simp[upd]
theorem upd_ne {α:Type}{f:Nat->α}{i j:Nat}{v:α}(h:j≠i):upd f i v j=f j:=by simp[upd,h]
theorem ab5 {X Y S:Type}{R:X->Option (X⊕Y)}(st:Nat->S->X)(P:Nat->S->Prop)(Q:Y->Prop)(N:Nat)
  (hstep: ∀k,k<N-> ∀s,P k s-> ∃s',R (st k s)=some (.inl (st (k+1) s'))/\P (k+1) s')
  (hend: ∀s,P N s-> ∃y,R (st N s)=some (.inr y)/\Q y): ∀k,k<=N-> ∀s,P k s-> ∃y,au R (st k s)=some y/\Q y:=by
 have key: ∀n k,N-k<=n->k<=N-> ∀s,P k s-> ∃y,au R (st k s)=some y/\Q y:=by
  intro n
  induction n with
  |zero=>
   intro k h1 h2 s hs;obtain rfl:k=N:=by omega
   obtain⟨y,h3,h4⟩:=hend s hs;exact⟨y,fZ h3,h4⟩
  |succ n ih=>
   intro k h1 h2 s hs;by_cases hk:k=N
   ·subst hk;obtain⟨y,h3,h4⟩:=hend s hs;exact⟨y,fZ h3,h4⟩
   ·obtain⟨s',h3,h4⟩:=hstep k (by omega) s hs;rw[zn h3];exact ih (k+1) (by omega) (by omega) s' h4
 exact λk hk s hs=>key (N-k) k (ax2 _) hk s hs
theorem aL {X Y S:Type}{R:X->Option (X⊕Y)}(st:Nat->S->X)(ex:S->Y)(P:Nat->S->Prop)(N:Nat)
  (hstep: ∀k,k<N-> ∀s,P k s-> ∃s',R (st k s)=some (.inl (st (k+1) s'))/\P (k+1) s')
  (hend: ∀s,P N s->R (st N s)=some (.inr (ex s))) (s0:S) (h0:P 0 s0): ∃s,au R (st 0 s0)=some (ex s)/\P N s:=by
 obtain⟨y,h1,s,rfl,h2⟩:=ab5 st P (λy=> ∃s,y=ex s/\P N s) N hstep (λs hs=>⟨_,hend s hs,s,rfl,hs⟩) 0 (az9 _) s0 h0;exact⟨s,h1,h2⟩
theorem bH {X Y S:Type}{R:X->Option (X⊕Y)}(st:Nat->S->X)(P:Nat->S->Prop)(Q:Y->Prop)(N:Nat)
  (hstep: ∀k,k<N-> ∀s,P k s->(∃s',R (st k s)=some (.inl (st (k+1) s'))/\P (k+1) s')\/ ∃y,R (st k s)=some (.inr y)/\Q y)
  (hend: ∀s,P N s-> ∃y,R (st N s)=some (.inr y)/\Q y) (s0:S) (h0:P 0 s0): ∃y,au R (st 0 s0)=some y/\Q y:=by
 have key: ∀n k,N-k<=n->k<=N-> ∀s,P k s-> ∃y,au R (st k s)=some y/\Q y:=by
  intro n
  induction n with
  |zero=>
   intro k h1 h2 s hs;obtain rfl:k=N:=by omega
   obtain⟨y,h3,h4⟩:=hend s hs;exact⟨y,fZ h3,h4⟩
  |succ n ih=>
   intro k h1 h2 s hs;by_cases hk:k=N
   ·subst hk;obtain⟨y,h3,h4⟩:=hend s hs;exact⟨y,fZ h3,h4⟩
   ·rcases hstep k (by omega) s hs with⟨s',h3,h4⟩|⟨y,h3,h4⟩
    ·rw[zn h3];exact ih (k+1) (by omega) (by omega) s' h4
    ·exact⟨y,fZ h3,h4⟩
 exact key N 0 (by omega) (az9 _) s0 h0
theorem a4s {s:Nat}(h:s<64):iE .u64 1 (s:Int)=((2^s:Nat):Int):=by have:=a3t (a:=1) (s:=s);rw[axN,awD (axM (by decide) h)]at this;exact this
theorem adq {s:Nat}(h:s<63):iE .i64 1 (s:Int)=((2^s:Nat):Int):=by have:=awg (a:=1) (s:=s) (by rw[axN];exact awU (axM (by decide) h) (by decide)) (by decide);rw[axN]at this;exact this
theorem a9M {a:Nat}(h:a<18446744073709551616):ay .and .u64 (a:Int) 1=((a%2:Nat):Int):=by rw[show(1:Int)=((1:Nat):Int)from rfl,ab4 h (by decide),Nat.and_one_is_mod]
theorem a9N {a:Nat}(h:a<9223372036854775808):ay .and .i64 (a:Int) 1=((a%2:Nat):Int):=by rw[show(1:Int)=((1:Nat):Int)from rfl,a18 h (by decide),Nat.and_one_is_mod]
theorem a4t(n:Nat):Int.toNat (no_index (OfNat.ofNat n:Int))=OfNat.ofNat n:=rfl
theorem arV(h:Decidable True): @decide True h=true:=awv trivial
theorem arW(h:Decidable False): @decide False h=false:=aww id
theorem WW:type_of% @eF/\type_of% @Cb/\type_of% @aG/\type_of% @ak/\type_of% @a4q/\type_of% @I7/\type_of% @O0/\type_of% @uw/\type_of% @nT/\type_of% @arR/\type_of% @arS/\type_of% @arT/\type_of% @arU/\type_of% @aN/\type_of% @aM/\type_of% @awz/\type_of% @axc/\type_of% @axz/\type_of% @a4t/\type_of% @arV/\type_of% @arW:=
 ⟨@eF, @Cb, @aG, @ak, @a4q, @I7, @O0, @uw, @nT, @arR, @arS, @arT, @arU, @aN, @aM, @awz, @axc, @axz, @a4t, @arV, @arW⟩
theorem CC:type_of% @O1/\type_of% @V6/\type_of% @adi/\type_of% @a19/\type_of% @a9I/\type_of% @adj/\type_of% @a9J/\type_of% @a9K/\type_of% @adk/\type_of% @adl/\type_of% @adn/\type_of% @ado/\type_of% @adp/\type_of% @Ze/\type_of% @a3u/\type_of% @a9L/\type_of% @Zf:=
 ⟨@O1, @V6, @adi, @a19, @a9I, @adj, @a9J, @a9K, @adk, @adl, @adn, @ado, @adp, @Ze, @a3u, @a9L, @Zf⟩
def IsN(a:Nat->Int)(n:Nat):Prop:=n<2^256/\ ∀i,i<4->a i=((n/2^(64*i)%2^64:Nat):Int)
theorem IsN.lt {a:Nat->Int}{n:Nat}(h:IsN a n):n<2^256:=h.1
theorem IsN.mk {a:Nat->Int}{x0 x1 x2 x3:Nat}(h0:a 0=x0)(h1:a 1=x1)(h2:a 2=x2)(h3:a 3=x3)(b0:x0<18446744073709551616)(b1:x1<18446744073709551616)(b2:x2<18446744073709551616)(b3:x3<18446744073709551616):
  IsN a (x0+x1*18446744073709551616+x2*340282366920938463463374607431768211456+x3*6277101735386680763835789423207666416102355444464034512896):=by
 refine⟨by omega,λi hi=>?_⟩
 match i,hi with
 |0,_=>rw[h0];congr 1;simp only[Nat.reducePow,Nat.reduceMul];omega
 |1,_=>rw[h1];congr 1;simp only[Nat.reducePow,Nat.reduceMul];omega
 |2,_=>rw[h2];congr 1;simp only[Nat.reducePow,Nat.reduceMul];omega
 |3,_=>rw[h3];congr 1;simp only[Nat.reducePow,Nat.reduceMul];omega
theorem IsN.get {a:Nat->Int}{n:Nat}(h:IsN a n): ∃x0 x1 x2 x3:Nat,a 0=x0/\a 1=x1/\a 2=x2/\a 3=x3/\x0<18446744073709551616/\x1<18446744073709551616/\x2<18446744073709551616/\x3<18446744073709551616/\
  n=x0+x1*18446744073709551616+x2*340282366920938463463374607431768211456+x3*6277101735386680763835789423207666416102355444464034512896:=by
 have hlt:=h.1;refine⟨_,_,_,_,h.2 0 (by omega),h.2 1 (by omega),h.2 2 (by omega),h.2 3 (by omega),?_⟩;simp only[Nat.reducePow,Nat.reduceMul]at hlt⊢;omega
theorem IsN.of {a:Nat->Int}(h: ∀i,i<4->0<=a i/\a i<=18446744073709551615): ∃n,IsN a n:=by
 refine⟨_,IsN.mk (x0:=(a 0).toNat) (x1:=(a 1).toNat) (x2:=(a 2).toNat) (x3:=(a 3).toNat) ?_ ?_ ?_ ?_ ?_ ?_ ?_ ?_⟩
 all_goals (have:=h 0 (by omega);have:=h 1 (by omega);have:=h 2 (by omega);have:=h 3 (by omega);omega)
theorem IsN.of_eq {a:Nat->Int}{n m:Nat}(h:IsN a n)(e:n=m):IsN a m:=e▸h
theorem IsN.eqb {a b:Nat->Int}{n m:Nat}(ha:IsN a n)(hb:IsN b m):eqF (.arr 4 (.int .u64)) a b=decide (n=m):=by obtain⟨x0,x1,x2,x3,e0,e1,e2,e3,h0,h1,h2,h3,rfl⟩:=ha.get;obtain⟨y0,y1,y2,y3,f0,f1,f2,f3,g0,g1,g2,g3,rfl⟩:=hb.get;have:Go.Den.eqF (.arr 4 (.int .u64)) a b=(((a 0==b 0)&&((a 1==b 1)&&((a 2==b 2)&&((a 3==b 3)&&true))))):=rfl;rw[this,e0,e1,e2,e3,f0,f1,f2,f3];rw[axg];simp only[awu,ayD,and_true,awI];omega
theorem aif {f:Nat->Int}{x0 x1 x2 x3:Nat}(b0:x0<18446744073709551616)(b1:x1<18446744073709551616)(b2:x2<18446744073709551616)(b3:x3<18446744073709551616):
  IsN (upd (upd (upd (upd f 0 (x0:Int)) 1 (x1:Int)) 2 (x2:Int)) 3 (x3:Int)) (x0+x1*18446744073709551616+x2*340282366920938463463374607431768211456+x3*6277101735386680763835789423207666416102355444464034512896):=
 IsN.mk rfl rfl rfl rfl b0 b1 b2 b3
theorem IsN.zero:IsN (λ_=>0) 0:=⟨by decide,λi hi=>by simp⟩
theorem IsN.small {x:Nat}(h:x<18446744073709551616):IsN (upd (λ_=>0) 0 (x:Int)) x:=by have:=IsN.mk (a:=upd (λ_=>0) 0 (x:Int)) (x0:=x) (x1:=0) (x2:=0) (x3:=0) rfl rfl rfl rfl h (by decide) (by decide) (by decide);simpa using this
theorem IsN.bit {a:Nat->Int}{n:Nat}(h:IsN a n){i:Nat}(hi:i<4): ∃w:Nat,a i=(w:Int)/\w<18446744073709551616/\ ∀j,j<64->w.testBit j=n.testBit (64*i+j):=by refine⟨_,h.2 i hi,awZ _ (by decide),λj hj=>?_⟩;rw[axb,axt,awv hj,ax4,axP]
theorem WX {n m:Nat}(hn:n<2^256)(hm:m<2^256)(h: ∀j,j<256->n.testBit j=m.testBit j):n=m:=by
 apply ay7;intro j;by_cases hj:j<256
 ·exact h j hj
 ·rw[axl (awU hn (ax1 (by decide) (by omega))),axl (awU hm (ax1 (by decide) (by omega)))]
theorem a5E {w v:Nat}(hw:w<18446744073709551616)(hv:v<18446744073709551616)(h: ∀j,j<64->w.testBit j=v.testBit j):w=v:=by
 apply ay7;intro j;by_cases hj:j<64
 ·exact h j hj
 ·rw[axl (awU hw (ax1 (n:=2) (i:=64) (by decide) (by omega))),axl (awU hv (ax1 (n:=2) (i:=64) (by decide) (by omega)))]
theorem IsN.ofBits {a:Nat->Int}{n:Nat}(hn:n<2^256)(h: ∀i,i<4-> ∃w:Nat,a i=(w:Int)/\w<18446744073709551616/\ ∀j,j<64->w.testBit j=n.testBit (64*i+j)):IsN a n:=by
 refine⟨hn,λi hi=>?_⟩;obtain⟨w,h1,h2,h3⟩:=h i hi;rw[h1]
 congr 1
 refine a5E h2 (awZ _ (by decide)) λj hj=>?_
 rw[h3 j hj,axb,axt,awv hj,ax4,axP]
def QW(f:Nat->Bool):Nat->Nat|0=>0|k+1=>QW f k+(f k).toNat*2^k
theorem V7(f:Nat->Bool): ∀k,QW f k<2^k:=by
 intro k
 induction k with
 |zero=>exact Nat.one_pos
 |succ k ih=>
  rw[QW,ay3];have:(f k).toNat<=1:=Bool.toNat_le _;have:(f k).toNat*2^k<=1*2^k:=awP _ this;omega
theorem KA(f:Nat->Bool): ∀k j,j<k->(QW f k).testBit j=f j:=by
 intro k
 induction k with
 |zero=>intro j h;omega
 |succ k ih=>
  intro j hj;rw[QW,axP,awT,Nat.testBit_two_pow_mul_add _ (V7 f k)];by_cases h:j<k
  ·rw[awQ h,ih j h]
  ·rw[awG h];obtain rfl:j=k:=by omega
   rw[axX];cases f j<;>rfl
theorem Pq {w j:Nat} :((w/2^j%2:Nat):Int)=if w.testBit j then 1 else 0:=by
 rw[ayk];have:w/2^j%2=0\/w/2^j%2=1:=by omega
 rcases this with h|h<;>simp[h]
theorem V8 {f:Nat->Bool}{n:Nat}(hn:n<2^256)(h: ∀k,k<256->f k=n.testBit k):QW f 256=n:=
 WX (V7 f 256) hn λj hj=>by rw[KA f 256 j hj,h j hj]
def iF(n:Nat):Nat:=if n=0 then 0 else Nat.log2 n+1
theorem a4u {n L:Nat}(h1:n<2^L)(h2:L=0\/2^(L-1)<=n):iF n=L:=by
 unfold iF;split
 ·rename_i h0;subst h0;rcases h2 with h2|h2
  ·exact h2.symm
  ·have:=ayz (n:=L-1) (show 0<2 by decide);omega
 ·rename_i h0;have h3:=(Nat.log2_lt h0).2 h1;have h4:L-1<=Nat.log2 n:=by
   rcases h2 with h2|h2
   ·omega
   ·exact(Nat.le_log2 h0).2 h2
  omega
theorem J9(n:Nat):n<2^iF n:=by
 unfold iF;split
 ·rename_i h;subst h;decide
 ·exact Nat.lt_log2_self
theorem uz {n L:Nat}(h:n<2^L):iF n<=L:=by
 unfold iF;split
 ·omega
 ·rename_i h0;have:=(Nat.log2_lt h0).2 h;omega
theorem a1a {n:Nat}(h:n≠0):0<iF n/\2^(iF n-1)<=n:=by unfold iF;rw[awG h];exact⟨by omega,Nat.log2_self_le h⟩
def Pt(n m:Nat):Int:=if n<m then-1 else if m<n then 1 else 0
theorem I8 {a:Nat->Int}{n:Nat}(h:IsN a n): ∃f,P5 a=some f/\ ∀k,k<256->f k=n.testBit k:=by
 rw[XH];unfold YN;generalize ho:au vk _=o;obtain⟨out,hy,hQ⟩:=aL (R:=vk) (λk out=>a2H (k:Nat) a (λ_=>false) out) (λout=>YM (λ_=>false) out) (λk out=> ∀j,j<k->out j=n.testBit j) 256
  (λk hk out hP=>by
   obtain⟨w,h1,h2,h3⟩:=h.bit (i:=k/64) (by omega);have h3':=h3 (k%64) (by omega);refine⟨upd out k (n.testBit k),?_,λj hj=>?_⟩
   ·unfold vk;have:=awV (axe w (2^(k%64))) h2;simp(disch:=omega) only[CC,WW,h1,Rv,a9M];rw[Pq,h3',show 64*(k/64)+k%64=k by omega];cases n.testBit k<;>rfl
   ·by_cases e:j=k
    ·subst e;rw[upd_same]
    ·rw[upd_ne e];exact hP j (by omega))
  (λout hP=>by unfold vk;simp(disch:=omega) only[CC,WW]) (λ_=>false) (λj hj=>by omega)
 obtain rfl:=ho.symm.trans hy;exact⟨out,rfl,hQ⟩
theorem Zg(f:Nat->Bool): ∃a,RU f=some a/\IsN a (QW f 256):=by
 rw[TN];unfold TM;generalize ho:au oG _=o;obtain⟨out,hy,hQ⟩:=aL (R:=oG) (λk out=>a0r (k:Nat) f (λ_=>0) out) (λout=>WB (λ_=>0) out)
  (λk out=> ∀i,i<4-> ∃w:Nat,out i=(w:Int)/\w<18446744073709551616/\ ∀j,j<64->w.testBit j=(decide (64*i+j<k)&&f (64*i+j))) 256
  (λk hk out hP=>by
   obtain⟨w,h1,h2,h3⟩:=hP (k/64) (by omega);cases hf:f k with
   |false=>
    refine⟨out,?_,λi hi=>?_⟩
    ·unfold oG;simp(disch:=omega) only[CC,WW,hf]
    ·obtain⟨v,g1,g2,g3⟩:=hP i hi;refine⟨v,g1,g2,λj hj=>?_⟩;rw[g3 j hj];by_cases e:64*i+j=k
     ·rw[e,hf];simp
     ·congr 1;rw[axD];omega
   |true=>
    refine⟨upd out (k/64) ((w||| 2^(k%64):Nat):Int),?_,λi hi=>?_⟩
    ·unfold oG;have:2^(k%64)<2^64:=axM (by decide) (by omega);simp(disch:=omega) only[CC,WW,hf,h1,a4s,orU]
    ·by_cases e:i=k/64
     ·subst e;refine⟨_,upd_same _ _ _,axp (n:=64) h2 (axM (by decide) (by omega)),λj hj=>?_⟩;rw[ayq,h3 j hj,ayT];by_cases e:j=k%64
      ·subst e;rw[show 64*(k/64)+k%64=k by omega,hf];simp
      ·rw[show decide (k%64=j)=false from aww (by omega),ayA]
       congr 1;rw[axD];omega
     ·obtain⟨v,g1,g2,g3⟩:=hP i hi;refine⟨v,by rw[upd_ne e,g1],g2,λj hj=>?_⟩;rw[g3 j hj]
      congr 1;rw[axD];omega)
  (λout hP=>by unfold oG;simp(disch:=omega) only[CC,WW]) (λ_=>0) (λi hi=>⟨0,rfl,by decide,λj hj=>by simp⟩)
 obtain rfl:=ho.symm.trans hy;refine⟨out,rfl,IsN.ofBits (V7 f 256) λi hi=>?_⟩;obtain⟨w,h1,h2,h3⟩:=hQ i hi;refine⟨w,h1,h2,λj hj=>?_⟩;rw[h3 j hj,KA f 256 _ (by omega),awv (by omega),ax4]
theorem El {n:Int}(hn:n<9223372036854775808): ∃a,II n=some a/\IsN a n.toNat:=by
 rw[TQ];unfold TP;generalize ho:au oH _=o;have key: ∃f,o=some (JL (λ_=>0) f)/\QW f 256=n.toNat:=by
  by_cases h0:0<n
  ·obtain⟨N,rfl⟩: ∃N:Nat,n=(N:Int):=⟨n.toNat,by omega⟩;obtain⟨out,hy,hQ⟩:=aL (R:=oH) (λk out=>a0s N (k:Nat) (λ_=>0) out) (λout=>JL (λ_=>0) out)
    (λk out=> ∀j,out j=(decide (j<k)&&N.testBit j)) 63
    (λk hk out hP=>by
     refine⟨upd out k (N.testBit k),?_,λj=>?_⟩
     ·unfold oH;have:N/2^k<=N:=axe _ _;simp(disch:=omega) only[CC,WW,Zd,a9N];rw[Pq];cases N.testBit k<;>rfl
     ·by_cases e:j=k
      ·subst e;rw[upd_same,awv (by omega),ax4]
      ·rw[upd_ne e,hP j];congr 1;rw[axD];omega)
    (λout hP=>by unfold oH;simp(disch:=omega) only[CC,WW]) (λ_=>false) (λj=>by simp)
   refine⟨out,ho.symm.trans hy,V8 (by omega) λk hk=>?_⟩;rw[hQ k];by_cases hk:k<63
   ·rw[awv hk,ax4,awz]
   ·rw[aww hk,ax6,awz,axl (awU (m:=2^63) (by omega) (ax1 (by decide) (by omega)))]
  ·refine⟨λ_=>false,?_,?_⟩
   ·rw[<-ho];apply fZ;unfold oH;simp(disch:=omega) only[CC,WW]
   ·rw[show n.toNat=0 by omega];exact V8 (by decide) λk _=>by simp
 obtain⟨f,rfl,hf⟩:=key;obtain⟨a,ha,hN⟩:=Zg f;simp only[ha];exact⟨a,rfl,hf▸hN⟩
theorem Em {a:Nat->Int}{n:Nat}(h:IsN a n):IJ a=some (iF n:Int):=by
 rw[TT];unfold TS;obtain⟨f,h1,h2⟩:=I8 h;simp only[h1];generalize ho:au oI _=o;obtain⟨y,hy,hQ⟩:=bH (R:=oI) (S:=Unit) (λk _=>a0t ((255:Int)-(k:Nat)) f) (λk _=>n<2^(256-k))
  (λy=>(∃L:Nat,y=WC (L:Int)/\n<2^L/\1<=L/\2^(L-1)<=n)\/(y=WE/\n=0)) 256
  (λk hk _ hP=>by
   have hb:=h2 (255-k) (by omega);cases hf:f (255-k)with
   |true=>
    refine .inr ⟨_,?_,.inl ⟨256-k,rfl,hP,by omega,?_⟩⟩
    ·unfold oI;simp(disch:=omega) only[CC,WW,hf];rw[show 255-k+1=256-k by omega]
    ·rw[hf]at hb;exact Nat.ge_two_pow_of_testBit (i:=255-k) hb.symm|> λh=>by rwa [show 256-k-1=255-k by omega]
   |false=>
    refine .inl ⟨(),?_,?_⟩
    ·unfold oI;simp(disch:=omega) only[CC,WW,hf];rw[wrap_i64 (by omega),show((255-k:Nat):Int)-1=255-((k+1:Nat):Int)by omega]
    ·rw[hf]at hb;have h3:=Dl n (255-k);rw[<-hb,show 255-k+1=256-k by omega,axC hP]at h3;simp only[axi,ay4]at h3;rw[show 256-(k+1)=255-k by omega];rw[ay2,Nat.div_eq_zero_iff]at h3;rcases h3 with h3|h3
     ·have:=ayz (n:=255-k) (show 0<2 by decide);omega
     ·exact h3)
  (λ_ hP=>by
   refine⟨_,?_,.inr ⟨rfl,?_⟩⟩
   ·unfold oI;simp(disch:=omega) only[CC,WW]
   ·simpa using hP) () h.1
 obtain rfl:=ho.symm.trans hy;rcases hQ with⟨L,rfl,h3,h4,h5⟩|⟨rfl,h3⟩
 ·rw[a4u h3 (.inr h5)]
 ·rw[h3];rfl
theorem j6 {a:Nat->Int}{n:Nat}(h:IsN a n):yK a=some (if n<9223372036854775808 then((n:Int),true)else(0,false)):=by
 rw[TV];unfold TU;obtain⟨f,h1,h2⟩:=I8 h;simp only[h1,Em h];by_cases hn:n<9223372036854775808
 ·have hb:iF n<=63:=uz (by omega);simp(disch:=omega) only[WW,awQ hn];generalize ho:au oJ _=o;obtain⟨out,hy,hQ⟩:=aL (R:=oJ) (λk (x:Nat)=>a0u (x:Int) (k:Nat) f) (λx=>WG (x:Int))
   (λk x=>x=n%2^k) 63
   (λk hk x hP=>by
    have hx:x<2^63:=by rw[hP];exact awU (awZ _ (ayz (by decide))) (ax1 (by decide) (by omega))
    have hp:2^k<2^63:=axM (by decide) hk;have hx':x<2^k:=by rw[hP];exact awZ _ (ayz (by decide))
    have hb:=h2 k (by omega);cases hf:f k with
    |true=>
     refine⟨x||| 2^k,?_,?_⟩
     ·unfold oJ;simp(disch:=omega) only[CC,WW,hf,adq,orS]
     ·rw[hf]at hb;apply ay7;intro j;rw[ayq,ayT,axb,hP,axb];by_cases e:j=k
      ·subst e;simp[<-hb]
      ·have e1:decide (k=j)=false:=aww (by omega);rw[e1,ayA];congr 1;rw[axD];omega
    |false=>
     refine⟨x,?_,?_⟩
     ·unfold oJ;simp(disch:=omega) only[CC,WW,hf]
     ·rw[hf]at hb;apply ay7;intro j;rw[hP,axb,axb];by_cases e:j=k
      ·subst e;simp[<-hb]
      ·congr 1;rw[axD];omega)
   (λx hP=>by unfold oJ;simp(disch:=omega) only[CC,WW]) 0 (by simp[Nat.mod_one])
  obtain rfl:=ho.symm.trans hy;rw[hQ,awD (by omega)]
 ·have hb:63<iF n:=by apply ax7;intro hb;have:=J9 n;have h3:2^iF n<=2^63:=ax1 (by decide) (by omega);omega
  simp(disch:=omega) only[WW,awG hn]
theorem O3 {a:Nat->Int}{n:Nat}(h:IsN a n)(k:Int):MW a k=some (if 0<=k/\n.testBit k.toNat then 1 else 0):=by
 rw[TY];unfold TW;obtain⟨f,h1,h2⟩:=I8 h;simp only[h1];by_cases h0:0<=k
 ·by_cases h3:k<256
  ·simp(disch:=omega) only[WW,h2 k.toNat (by omega),h0,true_and];cases n.testBit k.toNat<;>rfl
  ·rw[axl (awU h.1 (ax1 (by decide) (by omega)))];simp(disch:=omega) only[WW];simp
 ·simp(disch:=omega) only[WW];simp[h0]
theorem a4v {a:Nat}(h:a<18446744073709551616):ay .and .u64 (a:Int) 4294967295=((a%4294967296:Nat):Int):=by
 rw[show(4294967295:Int)=((4294967295:Nat):Int)from rfl,ab4 h (by decide)]
 congr 1
 exact axj a 32
theorem Fj {a:Nat}(h:a<18446744073709551616):bO .u64 (a:Int) 32=((a/4294967296:Nat):Int):=Rv (s:=32) h
theorem ze {a b:Nat}(ha:a<4294967296)(hb:b<4294967296):a*b<=18446744065119617025:=by have:=ayL (show a<=4294967295 by omega) (show b<=4294967295 by omega);simpa using this
theorem Rw {x y:Nat}(hx:x<18446744073709551616)(hy:y<18446744073709551616):
  bits_Mul64 (x:Int) (y:Int)=some (((x*y/18446744073709551616:Nat):Int),((x*y%18446744073709551616:Nat):Int)):=by
 rw[JE];unfold FX;rw[a4v hx,a4v hy,Fj hx,Fj hy];have hx0:x%4294967296<4294967296:=awZ _ (by decide);have hx1:x/4294967296<4294967296:=by omega
 have hy0:y%4294967296<4294967296:=awZ _ (by decide);have hy1:y/4294967296<4294967296:=by omega
 have ex:x=x/4294967296*4294967296+x%4294967296:=by omega
 have ey:y=y/4294967296*4294967296+y%4294967296:=by omega
 generalize x/4294967296=x1 at*;generalize x%4294967296=x0 at*;generalize y/4294967296=y1 at*;generalize y%4294967296=y0 at*;have hxy:x*y=x1*y1*18446744073709551616+(x1*y0+x0*y1)*4294967296+x0*y0:=by
  rw[ex,ey];simp only[ax3,ayy];have e1:x1*4294967296*(y1*4294967296)=x1*y1*18446744073709551616:=by rw[Nat.mul_mul_mul_comm]
  have e2:x0*(y1*4294967296)=x0*y1*4294967296:=by rw[axf]
  have e3:x1*4294967296*y0=x1*y0*4294967296:=by rw[ayu]
  omega
 have m00:=ze hx0 hy0;have m01:=ze hx0 hy1;have m10:=ze hx1 hy0;have m11:=ze hx1 hy1;simp only[a19,wrap_u64 (x*y),hxy];generalize x0*y0=a at*;generalize x0*y1=b at*;generalize x1*y0=c at*;generalize x1*y1=d at*;clear ex ey hxy;simp(disch:=omega) only[CC,Cb,Fj,a4v];have e1:d+(c+a/4294967296)/4294967296+((c+a/4294967296)%4294967296+b)/4294967296=(d*18446744073709551616+(c+b)*4294967296+a)/18446744073709551616:=by omega
 rw[e1,wrap_u64]
theorem KC {x y:Nat}(hx:x<18446744073709551616)(hy:y<18446744073709551616):
  ∃h l:Nat,bits_Mul64 (x:Int) (y:Int)=some ((h:Int),(l:Int))/\x*y=h*18446744073709551616+l/\l<18446744073709551616/\h<18446744073709551615:=by
 refine⟨_,_,Rw hx hy,?_,awZ _ (by decide),?_⟩
 ·have:=axn (x*y) 18446744073709551616;omega
 ·have:x*y<=18446744073709551615*18446744073709551615:=ayL (by omega) (by omega);omega
def aii:ByteArray:=ByteArray.mk #[0,1,2,2,3,3,3,3,4,4,4,4,4,4,4,4,5,5,5,5,5,5,5,5,5,5,5,5,5,5,5,5,6,6,6,6,6,6,6,6,6,6,6,6,6,6,6,6,6,6,6,6,6,6,6,6,6,6,6,6,6,6,6,6,7,7,7,7,7,7,7,7,7,7,7,7,7,7,7,7,7,7,7,7,7,7,7,7,7,7,7,7,7,7,7,7,7,7,7,7,7,7,7,7,7,7,7,7,7,7,7,7,7,7,7,7,7,7,7,7,7,7,7,7,7,7,7,7,8,8,8,8,8,8,8,8,8,8,8,8,8,8,8,8,8,8,8,8,8,8,8,8,8,8,8,8,8,8,8,8,8,8,8,8,8,8,8,8,8,8,8,8,8,8,8,8,8,8,8,8,8,8,8,8,8,8,8,8,8,8,8,8,8,8,8,8,8,8,8,8,8,8,8,8,8,8,8,8,8,8,8,8,8,8,8,8,8,8,8,8,8,8,8,8,8,8,8,8,8,8,8,8,8,8,8,8,8,8,8,8,8,8,8,8,8,8,8,8,8,8,8,8,8,8,8,8]
def adr(i:Nat):Nat:=UInt8.toNat (List.getD (Array.toList (ByteArray.data aii)) i 0)
theorem a9O {i:Nat}(h:i<256):adr i=iF i:=by
 have: ∀i:Fin 256,adr i.val=iF i.val:=by decide+kernel
 exact this ⟨i,h⟩
theorem kH {x s:Nat}(h:x/2^s≠0):iF x=s+iF (x/2^s):=by
 have h1:=a1a h;have h2:=J9 (x/2^s);have hp:=ayz (n:=s) (show 0<2 by decide);refine a4u ?_ (.inr ?_)
 ·rw[axS hp,<-ay1,axP]at h2;exact h2
 ·rw[Nat.le_div_iff_mul_le hp,<-ay1]at h1;rw[show s+iF (x/2^s)-1=iF (x/2^s)-1+s by omega];exact h1.2
theorem QX {a:Nat}(h:a<18446744073709551616):bO .u64 (a:Int) 16=((a/65536:Nat):Int):=Rv (s:=16) h
theorem a1b {a:Nat}(h:a<18446744073709551616):bO .u64 (a:Int) 8=((a/256:Nat):Int):=Rv (s:=8) h
theorem Bl {n:Nat}(h:n<256):IntKind.u8.wrap (n:Int)=(n:Int):=a9H (by omega)
theorem mP {x:Nat}(hx:x<18446744073709551616):bits_Len64 (x:Int)=some (iF x:Int):=by
 rw[JF];unfold FY;generalize hT:ByteArray.mk #[0,1,2,2,3,3,3,3,4,4,4,4,4,4,4,4,5,5,5,5,5,5,5,5,5,5,5,5,5,5,5,5,6,6,6,6,6,6,6,6,6,6,6,6,6,6,6,6,6,6,6,6,6,6,6,6,6,6,6,6,6,6,6,6,7,7,7,7,7,7,7,7,7,7,7,7,7,7,7,7,7,7,7,7,7,7,7,7,7,7,7,7,7,7,7,7,7,7,7,7,7,7,7,7,7,7,7,7,7,7,7,7,7,7,7,7,7,7,7,7,7,7,7,7,7,7,7,7,8,8,8,8,8,8,8,8,8,8,8,8,8,8,8,8,8,8,8,8,8,8,8,8,8,8,8,8,8,8,8,8,8,8,8,8,8,8,8,8,8,8,8,8,8,8,8,8,8,8,8,8,8,8,8,8,8,8,8,8,8,8,8,8,8,8,8,8,8,8,8,8,8,8,8,8,8,8,8,8,8,8,8,8,8,8,8,8,8,8,8,8,8,8,8,8,8,8,8,8,8,8,8,8,8,8,8,8,8,8,8,8,8,8,8,8,8,8,8,8,8,8,8,8,8,8,8,8]=T;have tab: ∀ {i:Nat},i<256->UInt8.toNat (List.getD (Array.toList (ByteArray.data T)) i 0)=iF i:=λh=>by subst hT;exact a9O h
 clear hT;have b8: ∀ {i:Nat},i<256->iF i<=8:=λh=>uz (by simpa using h)
 have d1:x/4294967296/65536/256=x/2^56:=by rw[axA,axA]
 have d2:x/4294967296/65536=x/2^48:=by rw[axA]
 have d3:x/4294967296/256=x/2^40:=by rw[axA]
 have d4:x/65536/256=x/2^24:=by rw[axA]
 by_cases h1:4294967296<=x
 ·by_cases h2:65536<=x/4294967296
  ·by_cases h3:256<=x/4294967296/65536
   ·have hb:=b8 (i:=x/4294967296/65536/256) (by omega);simp(disch:=omega) only[CC,WW,Fj,QX,a1b,Bl,tab];rw[d1,kH (x:=x) (s:=56) (by omega)]
   ·have hb:=b8 (i:=x/4294967296/65536) (by omega);simp(disch:=omega) only[CC,WW,Fj,QX,a1b,Bl,tab];rw[d2,kH (x:=x) (s:=48) (by omega)]
  ·by_cases h3:256<=x/4294967296
   ·have hb:=b8 (i:=x/4294967296/256) (by omega);simp(disch:=omega) only[CC,WW,Fj,QX,a1b,Bl,tab];rw[d3,kH (x:=x) (s:=40) (by omega)]
   ·have hb:=b8 (i:=x/4294967296) (by omega);simp(disch:=omega) only[CC,WW,Fj,QX,a1b,Bl,tab];rw[kH (x:=x) (s:=32) (by omega)]
 ·by_cases h2:65536<=x
  ·by_cases h3:256<=x/65536
   ·have hb:=b8 (i:=x/65536/256) (by omega);simp(disch:=omega) only[CC,WW,Fj,QX,a1b,Bl,tab];rw[d4,kH (x:=x) (s:=24) (by omega)]
   ·have hb:=b8 (i:=x/65536) (by omega);simp(disch:=omega) only[CC,WW,Fj,QX,a1b,Bl,tab];rw[kH (x:=x) (s:=16) (by omega)]
  ·by_cases h3:256<=x
   ·have hb:=b8 (i:=x/256) (by omega);simp(disch:=omega) only[CC,WW,Fj,QX,a1b,Bl,tab];rw[kH (x:=x) (s:=8) (by omega)]
   ·have hb:=b8 (i:=x) (by omega);simp(disch:=omega) only[CC,WW,Fj,QX,a1b,Bl,tab,awR]
theorem Cc {x:Nat}(hx:x<18446744073709551616):bits_LeadingZeros64 (x:Int)=some ((64-iF x:Nat):Int):=by rw[sV];unfold oq;have:iF x<=64:=uz (by simpa using hx);simp(disch:=omega) only[mP hx,CC,WW]
section
variable {y yn1 yn0 un un1 q1 rhat:Nat}
theorem O4(hy:y=yn1*4294967296+yn0)(h:q1*yn1+rhat=un):q1*y+rhat*4294967296=un*4294967296+q1*yn0:=by subst hy;subst h;rw[ayy,ax3,axf];omega
theorem Pv(hun:un<y)(hu1:un1<4294967296):(un*4294967296+un1)/y<4294967296:=by rw[axS (by omega)];have:(un+1)*4294967296<=y*4294967296:=awP _ hun;rw[awT 4294967296 y];omega
theorem S9 {Q:Nat}(hQ:Q=(un*4294967296+un1)/y)(hy:y=yn1*4294967296+yn0)(hun:un<y)(hu1:un1<4294967296)(h:q1*yn1+rhat=un)(hc:4294967296<=q1\/4294967296*rhat+un1<q1*yn0):Q<q1:=by
 rw[hQ];rcases hc with hc|hc
 ·exact awU (Pv hun hu1) hc
 ·rw[axS (by omega)];have:=O4 hy h;omega
theorem En {Q:Nat}(hQ:Q=(un*4294967296+un1)/y)(hy:y=yn1*4294967296+yn0)(h0:yn0<4294967296)(hun:un<y)(h:q1*yn1+rhat=un)(hlt:Q<q1)(hq:q1<=4294967297)(hr:4294967296<=rhat+yn1):q1-1=Q:=by
 have h1:(q1-1)*yn1+(rhat+yn1)=un:=by obtain⟨p,rfl⟩: ∃p,q1=p+1:=⟨q1-1,by omega⟩;rw[ax3,axN]at h;rw[ayY];omega
 have h2:=O4 hy h1;have h3:(q1-1)*yn0<=4294967296*4294967295:=ayL (by omega) (by omega);have h4:q1-1<=Q:=by rw[hQ,Nat.le_div_iff_mul_le (by omega)];omega
 omega
theorem XP {Q:Nat}(hQ:Q=(un*4294967296+un1)/y)(hy:y=yn1*4294967296+yn0)(hun:un<y)(h:q1*yn1+rhat=un)(hle:Q<=q1)(hc:q1*yn0<=4294967296*rhat+un1):q1=Q:=by
 have h2:=O4 hy h;have h4:q1<=Q:=by rw[hQ,Nat.le_div_iff_mul_le (by omega)];omega
 omega
theorem half_start(hy:y=yn1*4294967296+yn0)(h1:2147483648<=yn1)(h0:yn0<4294967296)(hun:un<y):(un*4294967296+un1)/y<=un/yn1\/4294967296<=un1:=by
 by_cases hu:un1<4294967296
 ·left;have h2:=axn un yn1;have h3:=awZ un (show 0<yn1 by omega);have h5:(un*4294967296+un1)/y<un/yn1+1:=by
   rw[axS (by omega)];have h4:=O4 (q1:=un/yn1+1) (rhat:=0) (un:=(un/yn1+1)*yn1) hy rfl;have h6:(un/yn1+1)*yn1=yn1*(un/yn1)+yn1:=by rw[ax3,axN,awT]
   have h7:un+1<=(un/yn1+1)*yn1:=by omega
   have h8:(un+1)*4294967296<=(un/yn1+1)*yn1*4294967296:=awP _ h7;omega
  omega
 ·right;omega
theorem XQ(hy:y=yn1*4294967296+yn0)(h1:2147483648<=yn1)(h0:yn0<4294967296)(hun:un<y):un/yn1<=4294967297:=by
 have:un/yn1<4294967298:=by rw[axS (by omega)];omega
 omega
end
theorem a5F {y s yn1 yn0 un un1 un0:Nat}(hy:y=yn1*4294967296+yn0)(h1:2147483648<=yn1)(h1':yn1<4294967296)(h0:yn0<4294967296)(hun:un<y)(hu1:un1<4294967296):
  au eU (zq (y:Int) (s:Int) (yn1:Int) (yn0:Int) (un:Int) (un1:Int) (un0:Int) ((un/yn1:Nat):Int) ((un%yn1:Nat):Int))=
   some (uY (y:Int) (s:Int) (yn1:Int) (yn0:Int) (un:Int) (un1:Int) (un0:Int) (((un*4294967296+un1)/y:Nat):Int)):=by
 obtain⟨Q,hQ⟩: ∃Q,Q=(un*4294967296+un1)/y:=⟨_,rfl⟩;rw[<-hQ];obtain⟨z,hz,rfl⟩:=Xw (f:=eU)
  (λx=> ∃q1 rhat:Nat,x=zq (y:Int) (s:Int) (yn1:Int) (yn0:Int) (un:Int) (un1:Int) (un0:Int) (q1:Int) (rhat:Int)/\Q<=q1/\q1<=4294967297/\q1*yn1+rhat=un/\rhat<4294967296)
  (λx=>x.1.2.2.2.2.2.2.2.1.toNat) (λz=>z=uY (y:Int) (s:Int) (yn1:Int) (yn0:Int) (un:Int) (un1:Int) (un0:Int) ((Q:Nat):Int)) (by
   rintro x ⟨q1,rhat,rfl,hle,hq,h,hr⟩;have next:Q<q1->rhat+yn1<4294967296->Q<=q1-1/\q1-1<=4294967297/\(q1-1)*yn1+(rhat+yn1)=un/\rhat+yn1<4294967296:=by intro h3 h4;refine⟨by omega,by omega,?_,h4⟩;obtain⟨p,rfl⟩: ∃p,q1=p+1:=⟨q1-1,by omega⟩;rw[ax3,axN]at h;rw[ayY];omega
   by_cases hb:4294967296<=q1
   ·have hlt:=S9 hQ hy hun hu1 h (.inl hb);by_cases hr2:4294967296<=rhat+yn1
    ·right;refine⟨_,?_,rfl⟩;unfold eU;simp(disch:=omega) only[CC,WW];rw[En hQ hy h0 hun h hlt hq hr2]
    ·left;refine⟨_,?_,⟨q1-1,rhat+yn1,rfl,next hlt (by omega)⟩,?_⟩
     ·unfold eU;simp(disch:=omega) only[CC,WW]
     ·simp only[awz];omega
   ·have hm:q1*yn0<=18446744065119617025:=ze (by omega) h0;by_cases hc:4294967296*rhat+un1<q1*yn0
    ·have hlt:=S9 hQ hy hun hu1 h (.inr hc);by_cases hr2:4294967296<=rhat+yn1
     ·right;refine⟨_,?_,rfl⟩;unfold eU;simp(disch:=omega) only[CC,WW];rw[En hQ hy h0 hun h hlt hq hr2]
     ·left;refine⟨_,?_,⟨q1-1,rhat+yn1,rfl,next hlt (by omega)⟩,?_⟩
      ·unfold eU;simp(disch:=omega) only[CC,WW]
      ·simp only[awz];omega
    ·right;refine⟨_,?_,rfl⟩;unfold eU;simp(disch:=omega) only[CC,WW];rw[XP (un1:=un1) hQ hy hun h hle (by omega)])
  _ ⟨un/yn1,un%yn1,rfl,hQ▸(half_start hy h1 h0 hun).resolve_right (by omega),XQ hy h1 h0 hun,by rw[awT];exact axn un yn1,Nat.lt_trans (awZ _ (by omega)) h1'⟩
 exact hz
theorem a5G {y s yn1 yn0 un un1 q:Nat}(hy:y=yn1*4294967296+yn0)(h1:2147483648<=yn1)(h1':yn1<4294967296)(h0:yn0<4294967296)(hun:un<y)(hu1:un1<4294967296):
  au eX (zu (y:Int) (s:Int) (yn1:Int) (yn0:Int) (un1:Int) (q:Int) ((un%yn1:Nat):Int) (un:Int) ((un/yn1:Nat):Int))=
   some (uZ (y:Int) (s:Int) (un1:Int) (q:Int) (un:Int) (((un*4294967296+un1)/y:Nat):Int)):=by
 obtain⟨Q,hQ⟩: ∃Q,Q=(un*4294967296+un1)/y:=⟨_,rfl⟩;rw[<-hQ];obtain⟨z,hz,rfl⟩:=Xw (f:=eX)
  (λx=> ∃q1 rhat:Nat,x=zu (y:Int) (s:Int) (yn1:Int) (yn0:Int) (un1:Int) (q:Int) (rhat:Int) (un:Int) (q1:Int)/\Q<=q1/\q1<=4294967297/\q1*yn1+rhat=un/\rhat<4294967296)
  (λx=>x.1.2.2.2.2.2.2.2.2.1.toNat) (λz=>z=uZ (y:Int) (s:Int) (un1:Int) (q:Int) (un:Int) ((Q:Nat):Int)) (by
   rintro x ⟨q1,rhat,rfl,hle,hq,h,hr⟩;have next:Q<q1->rhat+yn1<4294967296->Q<=q1-1/\q1-1<=4294967297/\(q1-1)*yn1+(rhat+yn1)=un/\rhat+yn1<4294967296:=by intro h3 h4;refine⟨by omega,by omega,?_,h4⟩;obtain⟨p,rfl⟩: ∃p,q1=p+1:=⟨q1-1,by omega⟩;rw[ax3,axN]at h;rw[ayY];omega
   by_cases hb:4294967296<=q1
   ·have hlt:=S9 hQ hy hun hu1 h (.inl hb);by_cases hr2:4294967296<=rhat+yn1
    ·right;refine⟨_,?_,rfl⟩;unfold eX;simp(disch:=omega) only[CC,WW];rw[En hQ hy h0 hun h hlt hq hr2]
    ·left;refine⟨_,?_,⟨q1-1,rhat+yn1,rfl,next hlt (by omega)⟩,?_⟩
     ·unfold eX;simp(disch:=omega) only[CC,WW]
     ·simp only[awz];omega
   ·have hm:q1*yn0<=18446744065119617025:=ze (by omega) h0;by_cases hc:4294967296*rhat+un1<q1*yn0
    ·have hlt:=S9 hQ hy hun hu1 h (.inr hc);by_cases hr2:4294967296<=rhat+yn1
     ·right;refine⟨_,?_,rfl⟩;unfold eX;simp(disch:=omega) only[CC,WW];rw[En hQ hy h0 hun h hlt hq hr2]
     ·left;refine⟨_,?_,⟨q1-1,rhat+yn1,rfl,next hlt (by omega)⟩,?_⟩
      ·unfold eX;simp(disch:=omega) only[CC,WW]
      ·simp only[awz];omega
    ·right;refine⟨_,?_,rfl⟩;unfold eX;simp(disch:=omega) only[CC,WW];rw[XP (un1:=un1) hQ hy hun h hle (by omega)])
  _ ⟨un/yn1,un%yn1,rfl,hQ▸(half_start hy h1 h0 hun).resolve_right (by omega),XQ hy h1 h0 hun,by rw[awT];exact axn un yn1,Nat.lt_trans (awZ _ (by omega)) h1'⟩
 exact hz
theorem a1c {un un1 q y r:Nat}(h:un*4294967296+un1=q*y+r)(hr:r<18446744073709551616):
  IntKind.u64.wrap (IntKind.u64.wrap (IntKind.u64.wrap ((un:Int)*4294967296)+(un1:Int))-IntKind.u64.wrap ((q:Int)*(y:Int)))=(r:Int):=by
 simp only[J8,CC];generalize q*y=p at*;omega
theorem a5H {t n:Nat}(ht:t<18446744073709551616):IntKind.u64.wrap ((t:Int)-IntKind.u64.wrap (IntKind.u64.wrap (Int.tdiv (t:Int) (n:Int))*(n:Int)))=((t%n:Nat):Int):=by
 have h1:=axn t n;have h2:t/n<=t:=axe _ _;have h3:t/n*n<=t:=by rw[awT];omega
 rw[Ze,Cb (by omega),a19,Cb (by omega),a9J h3,Cb (by omega)]
 congr 1
 rw[awT];omega
theorem Pw {t n:Nat}(ht:t<18446744073709551616):IntKind.u64.wrap (Int.tdiv (t:Int) (n:Int))=((t/n:Nat):Int):=by have h2:t/n<=t:=axe _ _;rw[Ze,Cb (by omega)]
theorem V9 {t n:Nat}(ht:t<18446744073709551616):IntKind.u64.wrap ((t:Int)-IntKind.u64.wrap (((t/n:Nat):Int)*(n:Int)))=((t%n:Nat):Int):=by
 have:=a5H (t:=t) (n:=n) ht
 rwa [Pw ht]at this
theorem XR {U u y q r:Nat}(h:y*q+r=U):U*4294967296+u=(r*4294967296+u)+y*(q*4294967296):=by rw[<-h,ax3,axf];omega
theorem ab6 {U u y:Nat}(hy:0<y):(U*4294967296+u)/y=U/y*4294967296+(U%y*4294967296+u)/y:=by rw[XR (axn U y),Nat.add_mul_div_left _ _ hy,axP]
theorem ab7 {U u y:Nat} :(U*4294967296+u)%y=(U%y*4294967296+u)%y:=by rw[XR (axn U y),ayK]
theorem mQ {hi lo y:Nat}(hy:y<18446744073709551616)(hhi:hi<y)(hlo:lo<18446744073709551616):
  ou (hi:Int) (lo:Int) (y:Int)=some ((((hi*18446744073709551616+lo)/y:Nat):Int),(((hi*18446744073709551616+lo)%y:Nat):Int)):=by
 rw[JG];unfold G6;by_cases h0:hi=0
 ·subst h0;have:lo/y<=lo:=axe _ _;simp(disch:=omega) only[CC,WW,ay2,awR]
 ·have hb:=a1a (n:=y) (by omega);have hb2:=J9 y;have hb3:iF y<=64:=uz (by simpa using hy);obtain⟨s,hs⟩: ∃s,s=64-iF y:=⟨_,rfl⟩;have hs2:s<64:=by omega
  have p1:2^s*2^(64-s)=18446744073709551616:=by rw[<-ay1,show s+(64-s)=64 by omega]
  have p2:2^s*2^(iF y-1)=9223372036854775808:=by rw[<-ay1,show s+(iF y-1)=63 by omega]
  have hps:=ayz (n:=s) (show 0<2 by decide);have hpt:=ayz (n:=64-s) (show 0<2 by decide);have hyl:9223372036854775808<=y*2^s:=by rw[<-p2,awT];exact awP _ hb.2
  have hyu:y*2^s<18446744073709551616:=by rw[<-p1,awT,show 64-s=iF y by omega];exact Nat.mul_lt_mul_of_pos_left hb2 hps
  have hhis:(hi+1)*2^s<=y*2^s:=awP _ hhi;rw[ax3,axN]at hhis;have hlos:lo/2^(64-s)<2^s:=by rw[axS hpt,p1];exact hlo
  have hun:ay .or .u64 (iE .u64 (hi:Int) (s:Int)) (bO .u64 (lo:Int) ((64-s:Nat):Int))=((hi*2^s+lo/2^(64-s):Nat):Int):=by rw[a3t,Rv hlo,awD (by omega),orU (by omega) (by omega),awT hi,axK hlos]
  have hN:(hi*18446744073709551616+lo)*2^s=(hi*2^s+lo/2^(64-s))*18446744073709551616+lo*2^s%18446744073709551616:=by
   have e1:=axn (lo*2^s) 18446744073709551616;have e2:lo*2^s/18446744073709551616=lo/2^(64-s):=by rw[<-p1,awT lo,Nat.mul_div_mul_left _ _ hps]
   rw[e2]at e1;rw[ax3,ax3,ayu];omega
  have hrest:lo*2^s%18446744073709551616<18446744073709551616:=awZ _ (by decide);simp(disch:=omega) only[Cc hy,<-hs];simp(disch:=omega) only[CC,WW,hun];simp only[a3t,awD hyu];have hfin1:(hi*18446744073709551616+lo)/y=((hi*2^s+lo/2^(64-s))*18446744073709551616+lo*2^s%18446744073709551616)/(y*2^s):=by rw[<-hN,Nat.mul_div_mul_right _ _ hps]
  have hfin2:(hi*18446744073709551616+lo)%y=((hi*2^s+lo/2^(64-s))*18446744073709551616+lo*2^s%18446744073709551616)%(y*2^s)/2^s:=by rw[<-hN,Nat.mul_mod_mul_right,Nat.mul_div_cancel _ hps]
  rw[hfin1,hfin2];have hunlt:hi*2^s+lo/2^(64-s)<y*2^s:=by omega
  clear hfin1 hfin2 hN hun hlos hhis;generalize hi*2^s+lo/2^(64-s)=un at*;generalize lo*2^s%18446744073709551616=un10 at*;generalize hY:y*2^s=Y at*;simp(disch:=omega) only[Fj,a4v];have hy':Y=Y/4294967296*4294967296+Y%4294967296:=by omega
  have hb1:2147483648<=Y/4294967296:=by omega
  have hb1':Y/4294967296<4294967296:=by omega
  have hb0:Y%4294967296<4294967296:=by omega
  simp(disch:=omega) only[Pw,V9,ak,awW];have L0:=a5F (s:=s) (un0:=un10%4294967296) hy' hb1 hb1' hb0 hunlt (un1:=un10/4294967296) (by omega);simp only[zq,uY]at L0;rw[L0];obtain⟨U,hU⟩: ∃U,U=un*4294967296+un10/4294967296:=⟨_,rfl⟩;have hR:=axn U Y;have hRlt:U%Y<Y:=awZ _ (by omega);rw[<-hU];simp only[a1c (un:=un) (un1:=un10/4294967296) (q:=U/Y) (y:=Y) (r:=U%Y) (by rw[<-hU,awT];exact hR.symm) (by omega)];simp(disch:=omega) only[Pw,V9,ak,awW];have L2:=a5G (s:=s) (q:=U/Y) hy' hb1 hb1' hb0 hRlt (un1:=un10%4294967296) (by omega);simp only[zu,uZ]at L2;rw[L2];obtain⟨V,hV⟩: ∃V,V=U%Y*4294967296+un10%4294967296:=⟨_,rfl⟩;have hS:=axn V Y;have hSlt:V%Y<Y:=awZ _ (by omega);rw[<-hV];simp only[a1c (un:=U%Y) (un1:=un10%4294967296) (q:=V/Y) (y:=Y) (r:=V%Y) (by rw[<-hV,awT];exact hS.symm) (by omega)];have hUV:(un*18446744073709551616+un10)=U*4294967296+un10%4294967296:=by omega
  have q1lt:U/Y<4294967296:=by rw[hU];exact Pv hunlt (by omega)
  have q0lt:V/Y<4294967296:=by rw[hV];exact Pv hRlt (by omega)
  rw[hUV,ab6 (by omega),ab7,<-hV];generalize U/Y=q1 at*;generalize V/Y=q0 at*;have hY2:V%Y<18446744073709551616:=by omega
  simp(disch:=omega) only[CC,WW,Rv]
open Go Go.Den
theorem oZ {n:Int}(hn:n<9223372036854775808): ∃a,bR n=some a/\IsN a n.toNat:=by
 rw[XG];unfold YK;refine⟨_,rfl,?_⟩;have:IntKind.u64.wrap (if n<0 then 0 else n)=((n.toNat:Nat):Int):=by
  rw[adh]
  ·split<;>omega
  ·split<;>omega
 rw[this];exact IsN.small (by omega)
theorem IsN.low {a:Nat->Int}{n:Nat}(h:IsN a n):eqF (.arr 4 (.int .u64)) a (upd (λ_=>0) 0 (a 0))=decide (n<18446744073709551616)/\(n<18446744073709551616->a 0=(n:Int))/\ ∃x0:Nat,a 0=(x0:Int)/\x0<18446744073709551616:=by
 obtain⟨x0,x1,x2,x3,e0,e1,e2,e3,h0,h1,h2,h3,hn⟩:=h.get;have hs:=IsN.small h0;rw[e0,h.eqb hs];refine⟨?_,λh=>?_,x0,rfl,h0⟩
 ·rw[axD];omega
 ·congr 1;omega
theorem uD {a:Nat->Int}{n:Nat}(h:IsN a n):MJ a=some (if n<9223372036854775808 then((n:Int),true)else(0,false)):=by
 rw[TK];unfold TJ;obtain⟨h1,h2,x0,h3,h4⟩:=h.low;rw[h1];by_cases h5:n<18446744073709551616
 ·have h6:=h2 h5;by_cases h7:n<9223372036854775808
  ·simp(disch:=omega) only[CC,WW,h6,awQ h7]
  ·simp(disch:=omega) only[CC,WW,h6,awG h7]
 ·have h7: ¬n<9223372036854775808:=by omega
  simp(disch:=omega) only[CC,WW,awG h7]
theorem fC {a b:Nat->Int}{n m:Nat}(ha:IsN a n)(hb:IsN b m):yH a b=some (Pt n m):=by
 rw[Tz];unfold Tx;obtain⟨x0,x1,x2,x3,e0,e1,e2,e3,h0,h1,h2,h3,hn⟩:=ha.get;obtain⟨y0,y1,y2,y3,f0,f1,f2,f3,g0,g1,g2,g3,hm⟩:=hb.get;simp only[e0,e1,e2,e3,f0,f1,f2,f3];unfold Pt;by_cases c3:x3<y3
 ·simp(disch:=omega) only[WW,awQ (show n<m by omega)]
 ·by_cases d3:y3<x3
  ·simp(disch:=omega) only[WW,awG (show¬n<m by omega),awQ (show m<n by omega)]
  ·by_cases c2:x2<y2
   ·simp(disch:=omega) only[WW,awQ (show n<m by omega)]
   ·by_cases d2:y2<x2
    ·simp(disch:=omega) only[WW,awG (show¬n<m by omega),awQ (show m<n by omega)]
    ·by_cases c1:x1<y1
     ·simp(disch:=omega) only[WW,awQ (show n<m by omega)]
     ·by_cases d1:y1<x1
      ·simp(disch:=omega) only[WW,awG (show¬n<m by omega),awQ (show m<n by omega)]
      ·by_cases c0:x0<y0
       ·simp(disch:=omega) only[WW,awQ (show n<m by omega)]
       ·by_cases d0:y0<x0
        ·simp(disch:=omega) only[WW,awG (show¬n<m by omega),awQ (show m<n by omega)]
        ·simp(disch:=omega) only[WW,awG (show¬n<m by omega),awG (show¬m<n by omega)]
theorem O5 {x y c:Nat}(hx:x<18446744073709551616)(hy:y<18446744073709551616)(hc:c<=1): ∃s d:Nat,bG (x:Int) (y:Int) (c:Int)=some ((s:Int),(d:Int))/\x+y+c=s+d*18446744073709551616/\s<18446744073709551616/\d<=1:=
 ⟨_,_,a5C hc,by omega,by omega,by omega⟩
theorem O6 {x y c:Nat}(hx:x<18446744073709551616)(hy:y<18446744073709551616)(hc:c<=1): ∃s d:Nat,EH (x:Int) (y:Int) (c:Int)=some ((s:Int),(d:Int))/\x+d*18446744073709551616=s+y+c/\s<18446744073709551616/\d<=1:=by
 refine⟨_,_,a5D hc,?_,awZ _ (by decide),?_⟩
 ·split<;>omega
 ·split<;>omega
theorem Ja {x y:Nat}(hx:x<18446744073709551616)(hy:y<18446744073709551616): ∃s d:Nat,bG (x:Int) (y:Int) 0=some ((s:Int),(d:Int))/\x+y=s+d*18446744073709551616/\s<18446744073709551616/\d<=1:=
 O5 (c:=0) hx hy (by omega)
theorem a5I {x y:Nat}(hx:x<18446744073709551616)(hy:y<18446744073709551616): ∃s d:Nat,EH (x:Int) (y:Int) 0=some ((s:Int),(d:Int))/\x+d*18446744073709551616=s+y/\s<18446744073709551616/\d<=1:=
 O6 (c:=0) hx hy (by omega)
theorem Zh {a b:Nat->Int}{n m:Nat}(ha:IsN a n)(hb:IsN b m): ∃s,RS a b=some (s,(((n+m)/2^256:Nat):Int))/\IsN s ((n+m)%2^256):=by
 rw[TD];unfold TA;obtain⟨x0,x1,x2,x3,e0,e1,e2,e3,h0,h1,h2,h3,hn⟩:=ha.get;obtain⟨y0,y1,y2,y3,f0,f1,f2,f3,g0,g1,g2,g3,hm⟩:=hb.get;simp only[e0,e1,e2,e3,f0,f1,f2,f3];obtain⟨s0,c0,i0,j0,k0,l0⟩:=Ja h0 g0;obtain⟨s1,c1,i1,j1,k1,l1⟩:=O5 h1 g1 l0;obtain⟨s2,c2,i2,j2,k2,l2⟩:=O5 h2 g2 l1;obtain⟨s3,c3,i3,j3,k3,l3⟩:=O5 h3 g3 l2;simp only[i0,i1,i2,i3];have hS:n+m=(s0+s1*18446744073709551616+s2*340282366920938463463374607431768211456+s3*6277101735386680763835789423207666416102355444464034512896)+c3*115792089237316195423570985008687907853269984665640564039457584007913129639936:=by subst hn hm;clear ha hb i0 i1 i2 i3 e0 e1 e2 e3 f0 f1 f2 f3;omega
 have hN:=aif (f:=λ_=>0) k0 k1 k2 k3;have hlt:=hN.1;generalize s0+s1*18446744073709551616+s2*340282366920938463463374607431768211456+s3*6277101735386680763835789423207666416102355444464034512896=S at hS hN hlt;clear hn hm j0 j1 j2 j3 h0 h1 h2 h3 g0 g1 g2 g3;refine⟨_,?_,hN.of_eq ?_⟩
 ·rw[eF (by omega),show(n+m)/2^256=c3 by simp only[Nat.reducePow]at hlt⊢;omega]
 ·simp only[Nat.reducePow]at hlt⊢;omega
theorem uE {a b:Nat->Int}{n m:Nat}(ha:IsN a n)(hb:IsN b m): ∃s,wm a b=some (s,if n<m then 1 else 0)/\IsN s ((n+2^256-m)%2^256):=by
 rw[Tw];unfold Tv;obtain⟨x0,x1,x2,x3,e0,e1,e2,e3,h0,h1,h2,h3,hn⟩:=ha.get;obtain⟨y0,y1,y2,y3,f0,f1,f2,f3,g0,g1,g2,g3,hm⟩:=hb.get;simp only[e0,e1,e2,e3,f0,f1,f2,f3];obtain⟨s0,c0,i0,j0,k0,l0⟩:=a5I h0 g0;obtain⟨s1,c1,i1,j1,k1,l1⟩:=O6 h1 g1 l0;obtain⟨s2,c2,i2,j2,k2,l2⟩:=O6 h2 g2 l1;obtain⟨s3,c3,i3,j3,k3,l3⟩:=O6 h3 g3 l2;simp only[i0,i1,i2,i3];have hS:n+c3*115792089237316195423570985008687907853269984665640564039457584007913129639936=(s0+s1*18446744073709551616+s2*340282366920938463463374607431768211456+s3*6277101735386680763835789423207666416102355444464034512896)+m:=by subst hn hm;clear ha hb i0 i1 i2 i3 e0 e1 e2 e3 f0 f1 f2 f3;omega
 have hN:=aif (f:=λ_=>0) k0 k1 k2 k3;have hlt:=hN.1;have hnl:=ha.1;have hml:=hb.1;generalize s0+s1*18446744073709551616+s2*340282366920938463463374607431768211456+s3*6277101735386680763835789423207666416102355444464034512896=S at hS hN hlt;clear hn hm j0 j1 j2 j3 h0 h1 h2 h3 g0 g1 g2 g3;simp only[Nat.reducePow]at hlt hnl hml⊢;refine⟨_,?_,hN.of_eq ?_⟩
 ·rw[eF (by omega)];by_cases hc:n<m
  ·rw[awQ hc,show c3=1 by omega];rfl
  ·rw[awG hc,show c3=0 by omega];rfl
 ·omega
theorem jS {a:Nat->Int}{n:Nat}(h:IsN a n):yI a=some (iF n:Int):=by
 rw[TG];unfold TF;obtain⟨x0,x1,x2,x3,e0,e1,e2,e3,h0,h1,h2,h3,hn⟩:=h.get;simp only[e0,e1,e2,e3];have b64: ∀ {i:Nat},i<18446744073709551616->iF i<=64:=λh=>uz (by simpa using h)
 by_cases c3:x3=0
 ·by_cases c2:x2=0
  ·by_cases c1:x1=0
   ·by_cases c0:x0=0
    ·simp(disch:=omega) only[WW];rw[show n=0 by omega];rfl
    ·have hb:=b64 h0;simp(disch:=omega) only[CC,WW,mP h0];rw[show n=x0 by omega,awR]
   ·have hb:=b64 h1;simp(disch:=omega) only[CC,WW,mP h1];have:n/2^64=x1:=by simp only[Nat.reducePow];omega
    rw[kH (x:=n) (s:=64) (by omega),this]
  ·have hb:=b64 h2;simp(disch:=omega) only[CC,WW,mP h2];have:n/2^128=x2:=by simp only[Nat.reducePow];omega
   rw[kH (x:=n) (s:=128) (by omega),this]
 ·have hb:=b64 h3;simp(disch:=omega) only[CC,WW,mP h3];have:n/2^192=x3:=by simp only[Nat.reducePow];omega
  rw[kH (x:=n) (s:=192) (by omega),this]
theorem O7 {a:Nat->Int}{n:Nat}(h:IsN a n)(k:Int):Ay a k=some (if 0<=k/\n.testBit k.toNat then 1 else 0):=by
 rw[Tp];unfold Tn;by_cases h0:0<=k
 ·by_cases h3:k<256
  ·obtain⟨K,rfl⟩: ∃K:Nat,k=(K:Int):=⟨k.toNat,by omega⟩;obtain⟨w,h1,h2,h4⟩:=h.bit (i:=K/64) (by omega);have h4':=h4 (K%64) (by omega);have:=awV (axe w (2^(K%64))) h2;simp(disch:=omega) only[CC,WW,h1,Rv,a9M];rw[Pq,h4',show 64*(K/64)+K%64=K by omega];simp only[h0,true_and,awz]
  ·rw[axl (awU h.1 (ax1 (by decide) (by omega)))];simp(disch:=omega) only[WW];simp
 ·simp(disch:=omega) only[WW];simp[h0]
theorem QY {a:Nat->Int}{n:Nat}(h:IsN a n)(k:Int): ∃b,Tt a k=some b/\IsN b (n*2^k.toNat%2^256):=by
 rw[XF];unfold YJ;by_cases h1:k<1
 ·simp(disch:=omega) only[WW];refine⟨a,rfl,h.of_eq ?_⟩;rw[show k.toNat=0 by omega,ay8,aye,awD h.1]
 ·by_cases h2:256<=k
  ·simp(disch:=omega) only[WW];refine⟨_,rfl,IsN.zero.of_eq ?_⟩;obtain⟨d,hd⟩: ∃d,k.toNat=256+d:=⟨k.toNat-256,by omega⟩;rw[hd,ay1,Nat.mul_left_comm,Nat.mul_mod_right]
  ·obtain⟨K,rfl⟩: ∃K:Nat,k=(K:Int):=⟨k.toNat,by omega⟩;simp(disch:=omega) only[CC,WW];generalize ho:au ow _=o;have hbits: ∀(N:Nat) j,(N*2^K).testBit j=(decide (K<=j)&&N.testBit (j-K)):=λN j=>by rw[awT,ayi]
   obtain⟨out,hy,hQ⟩:=aL (R:=ow) (λi out=>a2G ((K/64:Nat):Int) ((K%64:Nat):Int) ((K/64+i:Nat):Int) a (λ_=>0) out) (λout=>YI (λ_=>0) out)
    (λi out=> ∀l,l<4-> ∃w:Nat,out l=(w:Int)/\w<18446744073709551616/\ ∀j,j<64->w.testBit j=(decide (l<K/64+i)&&(n*2^K).testBit (64*l+j))) (4-K/64)
    (λi hi out hP=>by
     obtain⟨w,e1,e2,e3⟩:=h.bit (i:=i) (by omega);have hlt:w*2^(K%64)%18446744073709551616<18446744073709551616:=awZ _ (by decide);have others: ∀v:Nat,(∀j,j<64->v.testBit j=(n*2^K).testBit (64*(K/64+i)+j))->v<18446744073709551616-> ∀out':Nat->Int,(∀l,out' l=if l=K/64+i then(v:Int)else out l)-> ∀l,l<4-> ∃w:Nat,out' l=(w:Int)/\w<18446744073709551616/\ ∀j,j<64->w.testBit j=(decide (l<K/64+(i+1))&&(n*2^K).testBit (64*l+j)):=by
      intro v hv hv2 out' ho' l hl;by_cases e:l=K/64+i
      ·refine⟨v,by rw[ho' l,awQ e],hv2,λj hj=>?_⟩;rw[hv j hj,e,awv (by omega),ax4]
      ·obtain⟨u,g1,g2,g3⟩:=hP l hl;refine⟨u,by rw[ho' l,awG e,g1],g2,λj hj=>?_⟩;rw[g3 j hj];congr 1;rw[axD];omega
     have first: ∀j,j<64->(w*2^(K%64)%18446744073709551616).testBit j=(decide (K%64<=j)&&n.testBit (64*i+j-K%64)):=by
      intro j hj;rw[show(18446744073709551616:Nat)=2^64 by decide,axb,awv hj,ax4,awT _ (2^_),ayi];by_cases h5:K%64<=j
      ·rw[awv h5,ax4,ax4,e3 _ (by omega)];congr 1;omega
      ·rw[aww h5,ax6,ax6]
     by_cases h0:i=0
     ·subst h0;refine⟨upd out (K/64+0) ((w*2^(K%64)%18446744073709551616:Nat):Int),?_,others _ ?_ hlt _ λl=>rfl⟩
      ·unfold ow;simp(disch:=omega) only[CC,WW,axE,axX,e1,a3t]
      ·intro j hj;rw[first j hj,hbits]
       congr 1
       ·rw[axD];omega
       ·congr 1;omega
     ·obtain⟨v,f1,f2,f3⟩:=h.bit (i:=i-1) (by omega);have hlt2:v/2^(64-K%64)<18446744073709551616:=awV (axe _ _) f2;refine⟨upd (upd out (K/64+i) ((w*2^(K%64)%18446744073709551616:Nat):Int)) (K/64+i) ((w*2^(K%64)%18446744073709551616||| v/2^(64-K%64):Nat):Int),?_,others _ ?_ (axp (n:=64) hlt hlt2) _ λl=>?_⟩
      ·unfold ow;simp(disch:=omega) only[CC,WW,ayU,e1,f1,a3t,Rv,upd_same,orU,ayG]
      ·intro j hj;rw[ayq,first j hj,hbits,axt];by_cases h5:K%64<=j
       ·have h6:v.testBit (j+(64-K%64))=false:=axl (awU (m:=2^64) f2 (ax1 (by decide) (by omega)));rw[h6,ayA]
        congr 1
        ·rw[axD];omega
        ·congr 1;omega
       ·rw[aww h5,ax6,az2,f3 _ (by omega),awv (by omega),ax4]
        congr 1;omega
      ·simp only[upd];split<;>rfl)
    (λout hP=>by
     unfold ow;simp(disch:=omega) only[CC,WW]) (λ_=>0) (λl hl=>⟨0,rfl,by decide,λj hj=>by
      rw[hbits,az7];by_cases h5:l<K/64+0
      ·rw[aww (show¬K<=64*l+j by omega)];simp
      ·rw[aww h5];simp⟩)
   have hy':au ow _=_:=hy;rw[axE]at hy';obtain rfl:=ho.symm.trans hy';refine⟨out,rfl,IsN.ofBits (awZ _ (by decide)) λl hl=>?_⟩;obtain⟨w,e1,e2,e3⟩:=hQ l hl;refine⟨w,e1,e2,λj hj=>?_⟩;rw[e3 j hj,axb,awv (by omega),awv (by omega)]
theorem KD {a:Nat->Int}{n:Nat}(h:IsN a n)(k:Int): ∃b,G7 a k=some b/\IsN b (n/2^k.toNat):=by
 rw[Qm];unfold OQ;by_cases h1:k<1
 ·simp(disch:=omega) only[WW];refine⟨a,rfl,h.of_eq ?_⟩;rw[show k.toNat=0 by omega,ay8,az8]
 ·by_cases h2:256<=k
  ·simp(disch:=omega) only[WW];refine⟨_,rfl,IsN.zero.of_eq ?_⟩;rw[axC (awU h.1 (ax1 (by decide) (by omega)))]
  ·obtain⟨K,rfl⟩: ∃K:Nat,k=(K:Int):=⟨k.toNat,by omega⟩;simp(disch:=omega) only[CC,WW];generalize ho:au lJ _=o;have hbits: ∀j,(n/2^K).testBit j=n.testBit (j+K):=λj=>axt ..
   obtain⟨out,hy,hQ⟩:=aL (R:=lJ) (λi out=>YL ((K/64:Nat):Int) ((K%64:Nat):Int) ((4-K/64:Nat):Int) (i:Int) a (λ_=>0) out) (λout=>TH (λ_=>0) out)
    (λi out=> ∀l,l<4-> ∃w:Nat,out l=(w:Int)/\w<18446744073709551616/\ ∀j,j<64->w.testBit j=(decide (l<i)&&n.testBit (64*l+j+K))) (4-K/64)
    (λi hi out hP=>by
     obtain⟨w,e1,e2,e3⟩:=h.bit (i:=i+K/64) (by omega);have hlt:w/2^(K%64)<18446744073709551616:=awV (axe _ _) e2;have others: ∀v:Nat,(∀j,j<64->v.testBit j=n.testBit (64*i+j+K))->v<18446744073709551616-> ∀out':Nat->Int,(∀l,out' l=if l=i then(v:Int)else out l)-> ∀l,l<4-> ∃w:Nat,out' l=(w:Int)/\w<18446744073709551616/\ ∀j,j<64->w.testBit j=(decide (l<i+1)&&n.testBit (64*l+j+K)):=by
      intro v hv hv2 out' ho' l hl;by_cases e:l=i
      ·refine⟨v,by rw[ho' l,awQ e],hv2,λj hj=>?_⟩;rw[hv j hj,e,awv (by omega),ax4]
      ·obtain⟨u,g1,g2,g3⟩:=hP l hl;refine⟨u,by rw[ho' l,awG e,g1],g2,λj hj=>?_⟩;rw[g3 j hj];congr 1;rw[axD];omega
     have first: ∀j,j<64->(w/2^(K%64)).testBit j=(decide (j+K%64<64)&&n.testBit (64*i+j+K)):=by
      intro j hj;rw[axt];by_cases h5:j+K%64<64
      ·rw[awv h5,ax4,e3 _ h5];congr 1;omega
      ·rw[aww h5,ax6];exact axl (awU (m:=2^64) e2 (ax1 (by decide) (by omega)))
     by_cases h0:i+K/64+1<4
     ·obtain⟨v,f1,f2,f3⟩:=h.bit (i:=i+K/64+1) (by omega);have hlt2:v*2^(64-K%64)%18446744073709551616<18446744073709551616:=awZ _ (by decide);refine⟨upd (upd out i ((w/2^(K%64):Nat):Int)) i ((w/2^(K%64)||| v*2^(64-K%64)%18446744073709551616:Nat):Int),?_,others _ ?_ (axp (n:=64) hlt hlt2) _ λl=>?_⟩
      ·unfold lJ;simp(disch:=omega) only[CC,WW,e1,f1,a3t,Rv,upd_same,orU]
      ·intro j hj;rw[ayq,first j hj,show(18446744073709551616:Nat)=2^64 by decide,axb,awv hj,ax4,awT _ (2^_),ayi];by_cases h5:j+K%64<64
       ·rw[awv h5,aww (show¬j>=64-K%64 by omega),ax4,ax6,ayA]
       ·rw[aww h5,awv (show j>=64-K%64 by omega),ax4,ax6,az2,f3 _ (by omega)]
        congr 1;omega
      ·simp only[upd];split<;>rfl
     ·refine⟨upd out i ((w/2^(K%64):Nat):Int),?_,others _ ?_ hlt _ λl=>rfl⟩
      ·unfold lJ;simp(disch:=omega) only[CC,WW,e1,Rv]
      ·intro j hj;rw[first j hj];by_cases h5:j+K%64<64
       ·rw[awv h5,ax4]
       ·rw[aww h5,ax6];exact(axl (awU h.1 (ax1 (by decide) (by omega)))).symm)
    (λout hP=>by
     unfold lJ;simp(disch:=omega) only[CC,WW]) (λ_=>0) (λl hl=>⟨0,rfl,by decide,λj hj=>by rw[az7,aww (awO l),ax6]⟩)
   obtain rfl:=ho.symm.trans hy;refine⟨out,rfl,IsN.ofBits (awV (axe _ _) h.1) λl hl=>?_⟩;obtain⟨w,e1,e2,e3⟩:=hQ l hl;refine⟨w,e1,e2,λj hj=>?_⟩;rw[e3 j hj,hbits];by_cases h5:l<4-K/64
   ·rw[awv h5,ax4]
   ·rw[aww h5,ax6];exact(axl (awU h.1 (ax1 (by decide) (by omega)))).symm
open Go Go.Den Go.Num
theorem a9P {a:Nat->Int}(h:Go.Den.Good (.arr 4 (.int .u64)) a): ∃n,IsN a n:=by apply IsN.of;intro i hi;have:=h i hi;simp only[Go.Den.Good]at this;exact⟨this.1,this.2⟩
end Go.Pl
