/-
 Numbers and words.
-/
import Derived.Test.YtldlihheppdhnaaGreatDenD
import Derived.Test.YtldlihheppdhnaaGreatPlA
set_option linter.unusedVariables false
namespace Go.Num
theorem Hr {m a b:Nat}(h:a%m=b%m)(hle:b≤a):m∣a-b:=by
 have h1:=axI a m
 have h2:=axI b m
 refine⟨a/m-b/m,?_⟩
 rw[Nat.mul_sub]
 omega
theorem Ht {m a b:Nat}(h:m∣a-b)(hle:b≤a):a%m=b%m:=by
 obtain⟨k,hk⟩:=h
 have:a=b+m*k:=by omega
 rw[this,aze]
theorem mod_add_mod {a b c d m:Nat}(h1:a%m=b%m)(h2:c%m=d%m):(a+c)%m=(b+d)%m:=by
 rw[azf,h1,h2,←azf]
theorem Ld {a b c m:Nat}(hc:Nat.Coprime m c)(h:(c*a)%m=(c*b)%m):a%m=b%m:=by
 have key: ∀a b,b≤a→(c*a)%m=(c*b)%m→a%m=b%m:=by
  intro a b hle h
  have h1:=Hr h (ayK c hle)
  rw[←Nat.mul_sub]at h1
  exact Ht (hc.dvd_of_dvd_mul_left h1) hle
 rcases Nat.le_total a b with hab|hab
 ·exact(key b a hab h.symm).symm
 ·exact key a b hab h
theorem vH {a b c m:Nat}(hc:Nat.Coprime m c)(h:(a*c)%m=(b*c)%m):a%m=b%m:=
 Ld hc (by rw[axi c a,axi c b]; exact h)
def Pr(p:Nat):Prop:=2≤p∧ ∀d,d∣p→d=1∨d=p
theorem Pr.pos {p:Nat}(h:Pr p):0<p:=by have:=h.1; omega
theorem Pr.coprime {p a:Nat}(h:Pr p)(ha: ¬p∣a):Nat.Coprime p a:=by
 rcases h.2 (Nat.gcd p a) (Nat.gcd_dvd_left p a)with h1|h1
 ·exact h1
 ·exact absurd (h1▸Nat.gcd_dvd_right p a) ha
theorem Pr.dvd_mul {p a b:Nat}(h:Pr p)(hd:p∣a*b):p∣a∨p∣b:=by
 by_cases ha:p∣a
 ·exact .inl ha
 ·exact .inr ((h.coprime ha).dvd_of_dvd_mul_left hd)
theorem Nt: ∀(n:Nat),2≤n→ ∃p,Pr p∧p∣n∧(¬Pr n→p*p≤n):=by
 intro n
 induction n using Nat.strongRecOn with
 |_ n ih=>
  intro hn
  by_cases hp:Pr n
  ·exact⟨n,hp,Nat.dvd_refl n,fun h=>absurd hp h⟩
  ·have: ∃d,d∣n∧d≠1∧d≠n:=by
    apply axp
    intro hno
    apply hp
    refine⟨hn,fun d hd=>?_⟩
    apply axp
    intro h2
    exact hno ⟨d,hd,fun h=>h2 (.inl h),fun h=>h2 (.inr h)⟩
   obtain⟨d,⟨e,he⟩,h1,h2⟩:=this
   have hd0:d≠0:=by rintro rfl; simp at he; omega
   have he0:e≠0:=by rintro rfl; simp at he; omega
   have he1:e≠1:=by rintro rfl; simp at he; exact h2 he.symm
   have key: ∀d e,n=d*e→2≤d→2≤e→d≤e→ ∃p,Pr p∧p∣n∧(¬Pr n→p*p≤n):=by
    intro d e he hd2 he2 hde
    have hlt:d<n:=by
     rw[he]
     calc d<d*2:=by omega
      _≤d*e:=ayK d he2
    obtain⟨p,hp1,hp2,_⟩:=ih d hlt hd2
    have hple:p≤d:=azD (by omega) hp2
    refine⟨p,hp1,he▸Nat.dvd_mul_right_of_dvd hp2 e,fun _=>?_⟩
    rw[he]
    exact azg hple (ayG hple hde)
   rcases Nat.le_total d e with h|h
   ·exact key d e he (by omega) (by omega) h
   ·exact key e d (by rw[he,axi]) (by omega) (by omega) h
theorem Hu {n:Nat}(hn:2≤n)(h: ∀d,2≤d→d*d≤n→n%d≠0):Pr n:=by
 apply axp
 intro hp
 obtain⟨p,h1,h2,h3⟩:=Nt n hn
 exact h p h1.1 (h3 hp) (Nat.mod_eq_zero_of_dvd h2)
theorem Pr.tried {n:Nat}(h:Pr n): ∀d,2≤d→d<n→n%d≠0:=by
 intro d h2 hlt h0
 rcases h.2 d (Nat.dvd_of_mod_eq_zero h0)with h1|h1<;>omega
def choose:Nat→Nat→Nat
 |_,0=>1
 |0,_+1=>0
 |n+1,k+1=>choose n k+choose n (k+1)
theorem Bc(n:Nat):choose n 0=1:=by cases n<;>rfl
theorem choose_lt: ∀ {n k:Nat},n<k→choose n k=0:=by
 intro n
 induction n with
 |zero=>intro k h; cases k with
  |zero=>omega
  |succ k=>rfl
 |succ n ih=>intro k h; cases k with
  |zero=>omega
  |succ k=>rw[choose,ih (by omega),ih (by omega)]
theorem a0P: ∀n,choose n n=1:=by
 intro n
 induction n with
 |zero=>rfl
 |succ n ih=>rw[choose,ih,choose_lt (azs n)]
theorem WI: ∀n k,(k+1)*choose (n+1) (k+1)=(n+1)*choose n k:=by
 intro n
 induction n with
 |zero=>
  intro k
  cases k with
  |zero=>rfl
  |succ k=>simp[choose]
 |succ n ih=>
  intro k
  cases k with
  |zero=>
   have:=ih 0
   simp only[Bc,axc,ayf,ayC]at this⊢
   rw[choose,this,Bc]; omega
  |succ k=>
   have h1:=ih k
   have h2:=ih (k+1)
   rw[choose,az2,h2,show k+1+1=(k+1)+1 from rfl,axt,h1,ayf]
   rw[show choose (n+1) (k+1)=choose n k+choose n (k+1)from rfl]
   rw[axt (n+1) 1,az2]
   omega
theorem OP {p k:Nat}(hp:Pr p)(h0:0<k)(hk:k<p):p∣choose p k:=by
 obtain⟨q,rfl⟩: ∃q,p=q+1:=⟨p-1,by omega⟩
 obtain⟨j,rfl⟩: ∃j,k=j+1:=⟨k-1,by omega⟩
 have h:=WI q j
 have hd:(q+1)∣(j+1)*choose (q+1) (j+1):=by rw[h]; exact Nat.dvd_mul_right _ _
 rcases hp.dvd_mul hd with h1|h1
 ·have:=azD (by omega) h1; omega
 ·exact h1
def mF(n a:Nat):Nat→Nat
 |0=>0
 |m+1=>mF n a m+choose n m*a^m
theorem a0Q(n a:Nat): ∀m,mF (n+1) a (m+1)=mF n a (m+1)+a*mF n a m:=by
 intro m
 induction m with
 |zero=>simp[mF,Bc]
 |succ m ih=>
  rw[mF,ih,mF,mF,mF,choose]
  rw[az2,axt,ays]
  have:a*(choose n m*a^m)=choose n m*(a^m*a):=by rw[axi a,axF]
  rw[this]; omega
theorem a9x(a:Nat): ∀n,(a+1)^n=mF n a (n+1):=by
 intro n
 induction n with
 |zero=>simp[mF,choose]
 |succ n ih=>
  rw[ays,ih,a0Q]
  rw[show mF n a (n+1+1)=mF n a (n+1)+choose n (n+1)*a^(n+1)from rfl,choose_lt (azs n)]
  rw[az2,ayC,axi (mF n a (n+1)) a]; omega
theorem a3j {p a:Nat}(hp:Pr p): ∀m,m<p→mF p a (m+1)%p=1:=by
 intro m
 induction m with
 |zero=>intro h; simp[mF,Bc]; exact awX hp.1
 |succ m ih=>
  intro h
  rw[mF,azf,ih (by omega),Nat.mod_eq_zero_of_dvd (Nat.dvd_mul_right_of_dvd (OP hp (by omega) h) _)]
  exact awX hp.1
theorem a3k {p a:Nat}(hp:Pr p):((a+1)^p)%p=(a^p+1)%p:=by
 obtain⟨q,rfl⟩: ∃q,p=q+1:=⟨p-1,by have:=hp.1; omega⟩
 rw[a9x,mF,a0P,ayf,azf,a3j hp q (by omega),aym,←awX (a:=1) (b:=q+1) hp.1]
 simp
theorem ait {p:Nat}(hp:Pr p): ∀a,(a^p)%p=a%p:=by
 intro a
 induction a with
 |zero=>rw[Nat.zero_pow hp.pos]
 |succ a ih=>rw[a3k hp]; exact mod_add_mod ih rfl
theorem a3l {p a:Nat}(hp:Pr p)(ha: ¬p∣a):(a^(p-1))%p=1:=by
 have h:=ait hp a
 obtain⟨q,rfl⟩: ∃q,p=q+1:=⟨p-1,by have:=hp.1; omega⟩
 rw[ays,axi]at h
 have h1:=Ld (a:=a^q) (b:=1) (hp.coprime ha) (by rw[h,ayC])
 rw[azx,h1]
 exact awX hp.1
theorem QG {m b k:Nat}(hm:2≤m)(h:b^k%m=1)(j:Nat):b^(k*j)%m=1:=by
 rw[ayU,Nat.pow_mod,h,Nat.one_pow]; exact awX hm
theorem Le {m b k:Nat}(hm:2≤m)(hk:0<k)(h:b^k%m=1):Nat.Coprime m b:=by
 have h1:Nat.gcd m b∣b^k:=Nat.dvd_trans (Nat.gcd_dvd_right m b) ⟨b^(k-1),by rw[←Nat.pow_succ']; congr 1; omega⟩
 have h2:Nat.gcd m b∣m:=Nat.gcd_dvd_left m b
 have h3:Nat.gcd m b∣b^k%m:=(Nat.dvd_mod_iff h2).2 h1
 rw[h]at h3
 exact Nat.eq_one_of_dvd_one h3
theorem aaV {m b:Nat}(hm:2≤m): ∀x y,b^x%m=1→b^y%m=1→b^(Nat.gcd x y)%m=1:=by
 intro x
 induction x using Nat.strongRecOn with
 |_ x ih=>
  intro y h1 h2
  by_cases h0:x=0
  ·subst h0; rw[Nat.gcd_zero_left]; exact h2
  ·rw[Nat.gcd_rec]
   refine ih (y%x) (axh _ (by omega)) x ?_ h1
   have h3:=axI y x
   rw[←h3,ayg,ayF,QG hm h1,ayf,azy]at h2
   exact h2
theorem XG {m b f y:Nat}(hm:2≤m)(hf:Pr f)(h1:b^f%m=1)(hb:b%m≠1)(h2:b^y%m=1):f∣y:=by
 apply axp
 intro hd
 have h3:=aaV hm f y h1 h2
 rw[hf.coprime hd,Nat.pow_one]at h3
 exact hb h3
theorem a0R {n f k a:Nat}(hn:2≤n)(hf:Pr f)(hk:k*f=n-1)(hff:n<f*f)(h1:(a^k%n)^f%n=1)(h2:Nat.gcd ((a^k%n)+n-1) n=1):Pr n:=by
 apply axp
 intro hp
 obtain⟨p,hp1,hp2,hp3⟩:=Nt n hn
 have hpp:=hp3 hp
 generalize hb:a^k%n=b at h1 h2
 have hb1:b^f%p=1:=by
  have:=congrArg (·%p) h1
  simp only[Nat.mod_mod_of_dvd _ hp2]at this
  rw[this]; exact awX hp1.1
 have hbne:b%p≠1:=by
  intro h
  have hb0:1≤b:=by
   rcases axC b with h0|h0
   ·rw[h0,Nat.zero_mod]at h; cases h
   ·exact h0
  have h3:p∣b-1:=by
   refine Hr (m:=p) (a:=b) (b:=1) ?_ hb0
   rw[h]; exact(awX hp1.1).symm
  have h4:p∣b+n-1:=by
   have:b+n-1=(b-1)+n:=by omega
   rw[this]; exact Nat.dvd_add h3 hp2
  have h5:=Nat.dvd_gcd h4 hp2
  rw[h2]at h5
  have:=azD (by omega) h5
  have:=hp1.1
  omega
 have hpb: ¬p∣b:=by
  intro h
  have h3:=Le hp1.1 hf.pos hb1
  have h4:p∣Nat.gcd p b:=Nat.dvd_gcd (Nat.dvd_refl p) h
  rw[h3]at h4
  have:=azD (by omega) h4
  have:=hp1.1
  omega
 have h6:=XG hp1.1 hf hb1 hbne (a3l hp1 hpb)
 have h7:=azD (by have:=hp1.1; omega) h6
 have h8:f<p:=by have:=hp1.1; omega
 have:f*f<p*p:=Nat.mul_lt_mul'' h8 h8
 omega
end Go.Num
set_option linter.unusedSimpArgs false
namespace Go.Pl
open Go Go.Den
theorem wrap_u64(n:Nat):IntKind.u64.wrap (n:Int)=((n%18446744073709551616:Nat):Int):=by
 simp[IntKind.wrap,IntKind.bits,IntKind.signed]
theorem II(x:Int):IntKind.u64.wrap x=x%18446744073709551616:=by
 simp[IntKind.wrap,IntKind.bits,IntKind.signed]
theorem wrap_u32'(x:Int):IntKind.u32.wrap x=x%4294967296:=by
 simp[IntKind.wrap,IntKind.bits,IntKind.signed]
theorem wrap_u8'(x:Int):IntKind.u8.wrap x=x%256:=by
 simp[IntKind.wrap,IntKind.bits,IntKind.signed]
theorem a5F(x:Int):IntKind.i64.wrap x=if x%18446744073709551616≥9223372036854775808 then x%18446744073709551616-18446744073709551616 else x%18446744073709551616:=by
 simp[IntKind.wrap,IntKind.bits,IntKind.signed]
theorem wrap_i64 {x:Int}(h: -9223372036854775808≤x∧x<9223372036854775808):IntKind.i64.wrap x=x:=by
 rw[a5F]; split<;>omega
theorem acJ {x:Int}(h:0≤x∧x<18446744073709551616):IntKind.u64.wrap x=x:=by
 rw[II]; omega
theorem a9y {x:Int}(h:0≤x∧x<256):IntKind.u8.wrap x=x:=by
 rw[wrap_u8']; omega
theorem dM {p:Prop} [Decidable p](h:p):decide p=true:=ax6 h
theorem bG {p:Prop} [Decidable p](h: ¬p):decide p=false:=ax9 h
theorem XH {x y:Int}(h:x=y):(x==y)=true:=by simp[h]
theorem iA {x y:Int}(h:x≠y):(x==y)=false:=by simp[h]
theorem XI {x y:Int}(h:x≠y):(x !=y)=true:=by simp[h]
theorem a0S {x y:Int}(h:x=y):(x !=y)=false:=by simp[h]
theorem K7 {i:Int} {n:Nat}(h:0≤i∧i<(n:Int)):inb i n=true:=by simp[inb,h.1,h.2]
theorem aaW {a b:Int}(h:0≤a):a.tmod b=a%b:=Int.tmod_eq_emod_of_nonneg h
theorem arH:(false==true)=false:=rfl
theorem arI:(true==false)=false:=rfl
theorem arJ:(true==true)=true:=rfl
theorem arK:(false==false)=true:=rfl
theorem bB {α:Type}(a b:α):(bif true then a else b)=a:=rfl
theorem bF {α:Type}(a b:α):(bif false then a else b)=b:=rfl
theorem UF {k:IntKind} {a s:Nat}(h:a<2^k.bits):bH k (a:Int) (s:Int)=((a/2^s:Nat):Int):=by
 unfold bH
 rw[axd]
 by_cases hs:s≤k.bits
 ·rw[ayw hs,Int.fdiv_eq_ediv_of_nonneg _ (by exact Int.le_of_lt (Int.pow_pos (by decide)))]
  simp
 ·rw[Nat.min_eq_right (by omega),Int.fdiv_eq_ediv_of_nonneg _ (by exact Int.le_of_lt (Int.pow_pos (by decide)))]
  have h1:a/2^s=0:=axX (axl h (axo (by decide) (by omega)))
  have h2:a/2^k.bits=0:=axX h
  rw[h1]
  have:((a/2^k.bits:Nat):Int)=0:=by rw[h2]; rfl
  simpa using this
theorem OQ {a s:Nat}(h:a<18446744073709551616):bH .u64 (a:Int) (s:Int)=((a/2^s:Nat):Int):=UF (k:=.u64) h
theorem Zf {a s:Nat}(h:a<9223372036854775808):bH .i64 (a:Int) (s:Int)=((a/2^s:Nat):Int):=UF (k:=.i64) (azl h (by decide))
theorem a3m {a s:Nat} :ig .u64 (a:Int) (s:Int)=((a*2^s%18446744073709551616:Nat):Int):=by
 unfold ig
 rw[axd,show((a:Int)*2^min s IntKind.u64.bits)=((a*2^min s 64:Nat):Int)by simp[IntKind.bits],wrap_u64]
 congr 1
 by_cases hs:s≤64
 ·rw[ayw hs]
 ·rw[Nat.min_eq_right (by omega)]
  have h1:2^s=18446744073709551616*2^(s-64):=by
   rw[show(18446744073709551616:Nat)=2^64 by decide,←ayg]; congr 1; omega
  rw[h1,Nat.mul_left_comm,Nat.mul_mod_right,show(2:Nat)^64=18446744073709551616 by decide,Nat.mul_mod_left]
theorem dX(a:Nat):(BitVec.ofInt 64 (a:Int)).toNat=a%18446744073709551616:=by
 simp[BitVec.toNat_ofInt]
theorem aaX {a b:Nat}(ha:a<18446744073709551616)(hb:b<18446744073709551616):ak .and .u64 (a:Int) (b:Int)=((a&&& b:Nat):Int):=by
 have:ak .and .u64 (a:Int) (b:Int)=IntKind.u64.wrap ((BitVec.ofInt 64 a&&& BitVec.ofInt 64 b).toNat:Int):=rfl
 rw[this,BitVec.toNat_and,dX,dX,awX ha,awX hb,wrap_u64,awX]
 exact axb ayJ ha
theorem orU {a b:Nat}(ha:a<18446744073709551616)(hb:b<18446744073709551616):ak .or .u64 (a:Int) (b:Int)=((a||| b:Nat):Int):=by
 have:ak .or .u64 (a:Int) (b:Int)=IntKind.u64.wrap ((BitVec.ofInt 64 a||| BitVec.ofInt 64 b).toNat:Int):=rfl
 rw[this,BitVec.toNat_or,dX,dX,awX ha,awX hb,wrap_u64,awX]
 exact axR (n:=64) ha hb
theorem a0T {a b:Nat}(ha:a<9223372036854775808)(hb:b<9223372036854775808):ak .and .i64 (a:Int) (b:Int)=((a&&& b:Nat):Int):=by
 have:ak .and .i64 (a:Int) (b:Int)=IntKind.i64.wrap ((BitVec.ofInt 64 a&&& BitVec.ofInt 64 b).toNat:Int):=rfl
 have hlt:a&&& b<9223372036854775808:=axb ayJ ha
 rw[this,BitVec.toNat_and,dX,dX,awX (by omega),awX (by omega),wrap_i64]
 omega
theorem orS {a b:Nat}(ha:a<9223372036854775808)(hb:b<9223372036854775808):ak .or .i64 (a:Int) (b:Int)=((a||| b:Nat):Int):=by
 have:ak .or .i64 (a:Int) (b:Int)=IntKind.i64.wrap ((BitVec.ofInt 64 a||| BitVec.ofInt 64 b).toNat:Int):=rfl
 have hlt:a||| b<9223372036854775808:=axR (n:=63) ha hb
 rw[this,BitVec.toNat_or,dX,dX,awX (by omega),awX (by omega),wrap_i64]
 omega
theorem awG {a s:Nat}(h:a*2^s<9223372036854775808)(h0:0<a):ig .i64 (a:Int) (s:Int)=((a*2^s:Nat):Int):=by
 have hs:s≤64:=by
  apply axp
  intro hs
  have:2^64≤2^s:=axo (by decide) (by omega)
  have h1:2^s≤a*2^s:=Nat.le_mul_of_pos_left _ h0
  omega
 unfold ig
 rw[axd,show min s IntKind.i64.bits=s from ayw hs,show((a:Int)*2^s)=((a*2^s:Nat):Int)by simp,wrap_i64]
 omega
theorem IJ {x:Int} {k:Nat}(hk:k<63):ak .and .i64 x ((2^k-1:Nat):Int)=x%(2^k:Nat):=by
 have:ak .and .i64 x ((2^k-1:Nat):Int)=IntKind.i64.wrap ((BitVec.ofInt 64 x&&& BitVec.ofInt 64 ((2^k-1:Nat):Int)).toNat:Int):=rfl
 have hp:2^k≤2^62:=axo (by decide) (by omega)
 have hp0:0<2^k:=az3 (by decide)
 rw[this,BitVec.toNat_and,dX,awX (a:=2^k-1) (by omega),axK]
 have h1:((BitVec.ofInt 64 x).toNat:Int)=x%(2^64:Nat):=by
  rw[BitVec.toNat_ofInt,az9]
  exact Int.emod_nonneg _ (by decide)
 have hlt:(BitVec.ofInt 64 x).toNat%2^k<2^k:=axh _ hp0
 rw[wrap_i64 (by omega),Int.natCast_emod,h1]
 apply Int.emod_emod_of_dvd
 exact⟨((2^(64-k):Nat):Int),by rw[←Int.natCast_mul,←ayg]; congr 2; omega⟩
theorem a5G {x y c:Nat}(hc:c≤1):bP (x:Int) (y:Int) (c:Int)=some ((((x+y+c)%18446744073709551616:Nat):Int),(((x+y+c)/18446744073709551616:Nat):Int)):=by
 rw[a0n]
 unfold YC
 simp only[axd,ax2 hc,bB,m64]
theorem a5H {x y c:Nat}(hc:c≤1):EA (x:Int) (y:Int) (c:Int)=some ((((x+18446744073709551616-y-c)%18446744073709551616:Nat):Int),((if x<y+c then 1 else 0:Nat):Int)):=by
 rw[a0o]
 unfold YD
 simp only[axd,ax2 hc,bB,m64]
theorem eU {n:Nat}(h:n<9223372036854775808):IntKind.i64.wrap (n:Int)=(n:Int):=wrap_i64 (by omega)
theorem BZ {n:Nat}(h:n<18446744073709551616):IntKind.u64.wrap (n:Int)=(n:Int):=acJ (by omega)
theorem Nu(a b:Nat):(a:Int)+(b:Int)=((a+b:Nat):Int):=rfl
theorem UG(a n:Nat):(a:Int)+(no_index (OfNat.ofNat n):Int)=((a+OfNat.ofNat n:Nat):Int):=rfl
theorem acK(a n:Nat):(no_index (OfNat.ofNat n):Int)+(a:Int)=((OfNat.ofNat n+a:Nat):Int):=rfl
theorem a0U(a b:Nat):(a:Int)*(b:Int)=((a*b:Nat):Int):=rfl
theorem a9z(a n:Nat):(a:Int)*(no_index (OfNat.ofNat n):Int)=((a*OfNat.ofNat n:Nat):Int):=rfl
theorem acL(a n:Nat):(no_index (OfNat.ofNat n):Int)*(a:Int)=((OfNat.ofNat n*a:Nat):Int):=rfl
theorem a9A {a b:Nat}(h:b≤a):(a:Int)-(b:Int)=((a-b:Nat):Int):=by omega
theorem a9B {a n:Nat}(h:OfNat.ofNat n≤a):(a:Int)-(no_index (OfNat.ofNat n):Int)=((a-OfNat.ofNat n:Nat):Int):=by
 have:(OfNat.ofNat n:Int)=((OfNat.ofNat n:Nat):Int):=rfl
 rw[this]; omega
theorem acM {a n:Nat}(h:a≤OfNat.ofNat n):(no_index (OfNat.ofNat n):Int)-(a:Int)=((OfNat.ofNat n-a:Nat):Int):=by
 have:(OfNat.ofNat n:Int)=((OfNat.ofNat n:Nat):Int):=rfl
 rw[this]; omega
theorem acN(a b:Nat):(a:Int)/(b:Int)=((a/b:Nat):Int):=rfl
theorem acO(a n:Nat):(a:Int)/(no_index (OfNat.ofNat n):Int)=((a/OfNat.ofNat n:Nat):Int):=rfl
theorem acP(a b:Nat):(a:Int)%(b:Int)=((a%b:Nat):Int):=rfl
theorem acQ(a n:Nat):(a:Int)%(no_index (OfNat.ofNat n):Int)=((a%OfNat.ofNat n:Nat):Int):=rfl
theorem Zg(a b:Nat):Int.tdiv (a:Int) (b:Int)=((a/b:Nat):Int):=rfl
theorem a3n(a n:Nat):Int.tdiv (a:Int) (no_index (OfNat.ofNat n):Int)=((a/OfNat.ofNat n:Nat):Int):=rfl
theorem a9C(a b:Nat):Int.tmod (a:Int) (b:Int)=((a%b:Nat):Int):=rfl
theorem Zh(a n:Nat):Int.tmod (a:Int) (no_index (OfNat.ofNat n):Int)=((a%OfNat.ofNat n:Nat):Int):=rfl
theorem vI(x j:Nat):x/2^j=x/2^(j+1)*2+(if x.testBit j then 1 else 0):=by
 rw[ayS,ays,←ay3]
 have h3:x/2^j%2=0∨x/2^j%2=1:=by omega
 rcases h3 with h3|h3<;>simp[h3]<;>omega
theorem upd_same {α:Type}(f:Nat→α)(i:Nat)(v:α):upd f i v i=v:=by simp[upd]
theorem upd_ne {α:Type} {f:Nat→α} {i j:Nat} {v:α}(h:j≠i):upd f i v j=f j:=by simp[upd,h]
theorem aaY {X Y S:Type} {R:X→Option (X⊕Y)}(st:Nat→S→X)(P:Nat→S→Prop)(Q:Y→Prop)(N:Nat)
  (hstep: ∀k,k<N→ ∀s,P k s→ ∃s',R (st k s)=some (.inl (st (k+1) s'))∧P (k+1) s')
  (hend: ∀s,P N s→ ∃y,R (st N s)=some (.inr y)∧Q y): ∀k,k≤N→ ∀s,P k s→ ∃y,aB R (st k s)=some y∧Q y:=by
 have key: ∀n k,N-k≤n→k≤N→ ∀s,P k s→ ∃y,aB R (st k s)=some y∧Q y:=by
  intro n
  induction n with
  |zero=>
   intro k h1 h2 s hs
   obtain rfl:k=N:=by omega
   obtain⟨y,h3,h4⟩:=hend s hs
   exact⟨y,dI h3,h4⟩
  |succ n ih=>
   intro k h1 h2 s hs
   by_cases hk:k=N
   ·subst hk
    obtain⟨y,h3,h4⟩:=hend s hs
    exact⟨y,dI h3,h4⟩
   ·obtain⟨s',h3,h4⟩:=hstep k (by omega) s hs
    rw[mZ h3]
    exact ih (k+1) (by omega) (by omega) s' h4
 exact fun k hk s hs=>key (N-k) k (ax5 _) hk s hs
theorem aO {X Y S:Type} {R:X→Option (X⊕Y)}(st:Nat→S→X)(ex:S→Y)(P:Nat→S→Prop)(N:Nat)
  (hstep: ∀k,k<N→ ∀s,P k s→ ∃s',R (st k s)=some (.inl (st (k+1) s'))∧P (k+1) s')
  (hend: ∀s,P N s→R (st N s)=some (.inr (ex s))) (s0:S) (h0:P 0 s0): ∃s,aB R (st 0 s0)=some (ex s)∧P N s:=by
 obtain⟨y,h1,s,rfl,h2⟩:=aaY st P (fun y=> ∃s,y=ex s∧P N s) N hstep (fun s hs=>⟨_,hend s hs,s,rfl,hs⟩) 0 (ay5 _) s0 h0
 exact⟨s,h1,h2⟩
theorem kH {X Y S:Type} {R:X→Option (X⊕Y)}(st:Nat→S→X)(P:Nat→S→Prop)(Q:Y→Prop)(N:Nat)
  (hstep: ∀k,k<N→ ∀s,P k s→(∃s',R (st k s)=some (.inl (st (k+1) s'))∧P (k+1) s')∨ ∃y,R (st k s)=some (.inr y)∧Q y)
  (hend: ∀s,P N s→ ∃y,R (st N s)=some (.inr y)∧Q y) (s0:S) (h0:P 0 s0): ∃y,aB R (st 0 s0)=some y∧Q y:=by
 have key: ∀n k,N-k≤n→k≤N→ ∀s,P k s→ ∃y,aB R (st k s)=some y∧Q y:=by
  intro n
  induction n with
  |zero=>
   intro k h1 h2 s hs
   obtain rfl:k=N:=by omega
   obtain⟨y,h3,h4⟩:=hend s hs
   exact⟨y,dI h3,h4⟩
  |succ n ih=>
   intro k h1 h2 s hs
   by_cases hk:k=N
   ·subst hk
    obtain⟨y,h3,h4⟩:=hend s hs
    exact⟨y,dI h3,h4⟩
   ·rcases hstep k (by omega) s hs with⟨s',h3,h4⟩|⟨y,h3,h4⟩
    ·rw[mZ h3]
     exact ih (k+1) (by omega) (by omega) s' h4
    ·exact⟨y,dI h3,h4⟩
 exact key N 0 (by omega) (ay5 _) s0 h0
theorem a4q {s:Nat}(h:s<64):ig .u64 1 (s:Int)=((2^s:Nat):Int):=by
 have:=a3m (a:=1) (s:=s)
 rw[ayf,awX (ayk (by decide) h)]at this
 exact this
theorem acR {s:Nat}(h:s<63):ig .i64 1 (s:Int)=((2^s:Nat):Int):=by
 have:=awG (a:=1) (s:=s) (by rw[ayf]; exact axl (ayk (by decide) h) (by decide)) (by decide)
 rw[ayf]at this
 exact this
theorem a9D {a:Nat}(h:a<18446744073709551616):ak .and .u64 (a:Int) 1=((a%2:Nat):Int):=by
 rw[show(1:Int)=((1:Nat):Int)from rfl,aaX h (by decide),Nat.and_one_is_mod]
theorem a9E {a:Nat}(h:a<9223372036854775808):ak .and .i64 (a:Int) 1=((a%2:Nat):Int):=by
 rw[show(1:Int)=((1:Nat):Int)from rfl,a0T h (by decide),Nat.and_one_is_mod]
theorem a4r(n:Nat):Int.toNat (no_index (OfNat.ofNat n:Int))=OfNat.ofNat n:=rfl
theorem arL(h:Decidable True): @decide True h=true:=ax6 trivial
theorem arM(h:Decidable False): @decide False h=false:=ax9 id
theorem WW:type_of% @eU∧type_of% @BZ∧type_of% @dM∧type_of% @bG∧type_of% @K7∧type_of% @XH∧type_of% @iA∧type_of% @XI∧type_of% @a0S∧type_of% @arH∧type_of% @arI∧type_of% @arJ∧type_of% @arK∧type_of% @bB∧type_of% @bF∧type_of% @axd∧type_of% @ay1∧type_of% @ayA∧type_of% @a4r∧type_of% @arL∧type_of% @arM:=
 ⟨@eU, @BZ, @dM, @bG, @K7, @XH, @iA, @XI, @a0S, @arH, @arI, @arJ, @arK, @bB, @bF, @axd, @ay1, @ayA, @a4r, @arL, @arM⟩
theorem CC:type_of% @Nu∧type_of% @UG∧type_of% @acK∧type_of% @a0U∧type_of% @a9z∧type_of% @acL∧type_of% @a9A∧type_of% @a9B∧type_of% @acM∧type_of% @acN∧type_of% @acO∧type_of% @acP∧type_of% @acQ∧type_of% @Zg∧type_of% @a3n∧type_of% @a9C∧type_of% @Zh:=
 ⟨@Nu, @UG, @acK, @a0U, @a9z, @acL, @a9A, @a9B, @acM, @acN, @acO, @acP, @acQ, @Zg, @a3n, @a9C, @Zh⟩
def IsN(a:Nat→Int)(n:Nat):Prop:=n<2^256∧ ∀i,i<4→a i=((n/2^(64*i)%2^64:Nat):Int)
theorem IsN.mk {a:Nat→Int} {x0 x1 x2 x3:Nat}(h0:a 0=x0)(h1:a 1=x1)(h2:a 2=x2)(h3:a 3=x3)(b0:x0<18446744073709551616)(b1:x1<18446744073709551616)(b2:x2<18446744073709551616)(b3:x3<18446744073709551616):
  IsN a (x0+x1*18446744073709551616+x2*340282366920938463463374607431768211456+x3*6277101735386680763835789423207666416102355444464034512896):=by
 refine⟨by omega,fun i hi=>?_⟩
 match i,hi with
 |0,_=>rw[h0]; congr 1; simp only[Nat.reducePow,Nat.reduceMul]; omega
 |1,_=>rw[h1]; congr 1; simp only[Nat.reducePow,Nat.reduceMul]; omega
 |2,_=>rw[h2]; congr 1; simp only[Nat.reducePow,Nat.reduceMul]; omega
 |3,_=>rw[h3]; congr 1; simp only[Nat.reducePow,Nat.reduceMul]; omega
theorem IsN.get {a:Nat→Int} {n:Nat}(h:IsN a n): ∃x0 x1 x2 x3:Nat,a 0=x0∧a 1=x1∧a 2=x2∧a 3=x3∧x0<18446744073709551616∧x1<18446744073709551616∧x2<18446744073709551616∧x3<18446744073709551616∧
  n=x0+x1*18446744073709551616+x2*340282366920938463463374607431768211456+x3*6277101735386680763835789423207666416102355444464034512896:=by
 have hlt:=h.1
 refine⟨_,_,_,_,h.2 0 (by omega),h.2 1 (by omega),h.2 2 (by omega),h.2 3 (by omega),?_⟩
 simp only[Nat.reducePow,Nat.reduceMul]at hlt⊢
 omega
theorem IsN.of {a:Nat→Int}(h: ∀i,i<4→0≤a i∧a i≤18446744073709551615): ∃n,IsN a n:=by
 refine⟨_,IsN.mk (x0:=(a 0).toNat) (x1:=(a 1).toNat) (x2:=(a 2).toNat) (x3:=(a 3).toNat) ?_ ?_ ?_ ?_ ?_ ?_ ?_ ?_⟩
 all_goals (have:=h 0 (by omega); have:=h 1 (by omega); have:=h 2 (by omega); have:=h 3 (by omega); omega)
theorem IsN.of_eq {a:Nat→Int} {n m:Nat}(h:IsN a n)(e:n=m):IsN a m:=e▸h
theorem IsN.eqb {a b:Nat→Int} {n m:Nat}(ha:IsN a n)(hb:IsN b m):eqF (.arr 4 (.int .u64)) a b=decide (n=m):=by
 obtain⟨x0,x1,x2,x3,e0,e1,e2,e3,h0,h1,h2,h3,rfl⟩:=ha.get
 obtain⟨y0,y1,y2,y3,f0,f1,f2,f3,g0,g1,g2,g3,rfl⟩:=hb.get
 have:Go.Den.eqF (.arr 4 (.int .u64)) a b=(((a 0==b 0)&&((a 1==b 1)&&((a 2==b 2)&&((a 3==b 3)&&true))))):=rfl
 rw[this,e0,e1,e2,e3,f0,f1,f2,f3]
 rw[ayI]
 simp only[awV,azw,and_true,axm]
 omega
theorem aiu {f:Nat→Int} {x0 x1 x2 x3:Nat}(b0:x0<18446744073709551616)(b1:x1<18446744073709551616)(b2:x2<18446744073709551616)(b3:x3<18446744073709551616):
  IsN (upd (upd (upd (upd f 0 (x0:Int)) 1 (x1:Int)) 2 (x2:Int)) 3 (x3:Int)) (x0+x1*18446744073709551616+x2*340282366920938463463374607431768211456+x3*6277101735386680763835789423207666416102355444464034512896):=
 IsN.mk rfl rfl rfl rfl b0 b1 b2 b3
theorem IsN.zero:IsN (fun _=>0) 0:=⟨by decide,fun i hi=>by simp⟩
theorem IsN.small {x:Nat}(h:x<18446744073709551616):IsN (upd (fun _=>0) 0 (x:Int)) x:=by
 have:=IsN.mk (a:=upd (fun _=>0) 0 (x:Int)) (x0:=x) (x1:=0) (x2:=0) (x3:=0) rfl rfl rfl rfl h (by decide) (by decide) (by decide)
 simpa using this
theorem IsN.bit {a:Nat→Int} {n:Nat}(h:IsN a n) {i:Nat}(hi:i<4): ∃w:Nat,a i=(w:Int)∧w<18446744073709551616∧ ∀j,j<64→w.testBit j=n.testBit (64*i+j):=by
 refine⟨_,h.2 i hi,axh _ (by decide),fun j hj=>?_⟩
 rw[axB,axU,ax6 hj,axy,aym]
theorem WJ {n m:Nat}(hn:n<2^256)(hm:m<2^256)(h: ∀j,j<256→n.testBit j=m.testBit j):n=m:=by
 apply ayy
 intro j
 by_cases hj:j<256
 ·exact h j hj
 ·rw[axM (axl hn (axo (by decide) (by omega))),axM (axl hm (axo (by decide) (by omega)))]
theorem a5I {w v:Nat}(hw:w<18446744073709551616)(hv:v<18446744073709551616)(h: ∀j,j<64→w.testBit j=v.testBit j):w=v:=by
 apply ayy
 intro j
 by_cases hj:j<64
 ·exact h j hj
 ·rw[axM (axl hw (axo (n:=2) (i:=64) (by decide) (by omega))),axM (axl hv (axo (n:=2) (i:=64) (by decide) (by omega)))]
theorem IsN.ofBits {a:Nat→Int} {n:Nat}(hn:n<2^256)(h: ∀i,i<4→ ∃w:Nat,a i=(w:Int)∧w<18446744073709551616∧ ∀j,j<64→w.testBit j=n.testBit (64*i+j)):IsN a n:=by
 refine⟨hn,fun i hi=>?_⟩
 obtain⟨w,h1,h2,h3⟩:=h i hi
 rw[h1]
 congr 1
 refine a5I h2 (axh _ (by decide)) fun j hj=>?_
 rw[h3 j hj,axB,axU,ax6 hj,axy,aym]
def QH(f:Nat→Bool):Nat→Nat
 |0=>0
 |k+1=>QH f k+(f k).toNat*2^k
theorem UH(f:Nat→Bool): ∀k,QH f k<2^k:=by
 intro k
 induction k with
 |zero=>exact Nat.one_pos
 |succ k ih=>
  rw[QH,ays]
  have:(f k).toNat≤1:=Bool.toNat_le _
  have:(f k).toNat*2^k≤1*2^k:=axg _ this
  omega
theorem K8(f:Nat→Bool): ∀k j,j<k→(QH f k).testBit j=f j:=by
 intro k
 induction k with
 |zero=>intro j h; omega
 |succ k ih=>
  intro j hj
  rw[QH,aym,axi,Nat.testBit_two_pow_mul_add _ (UH f k)]
  by_cases h:j<k
  ·rw[ax1 h,ih j h]
  ·rw[awU h]
   obtain rfl:j=k:=by omega
   rw[ayx]
   cases f j<;>rfl
theorem OT {w j:Nat} :((w/2^j%2:Nat):Int)=if w.testBit j then 1 else 0:=by
 rw[ayS]
 have:w/2^j%2=0∨w/2^j%2=1:=by omega
 rcases this with h|h<;>simp[h]
theorem UJ {f:Nat→Bool} {n:Nat}(hn:n<2^256)(h: ∀k,k<256→f k=n.testBit k):QH f 256=n:=
 WJ (UH f 256) hn fun j hj=>by rw[K8 f 256 j hj,h j hj]
def iq(n:Nat):Nat:=if n=0 then 0 else Nat.log2 n+1
theorem a4s {n L:Nat}(h1:n<2^L)(h2:L=0∨2^(L-1)≤n):iq n=L:=by
 unfold iq
 split
 ·rename_i h0; subst h0
  rcases h2 with h2|h2
  ·exact h2.symm
  ·have:=az3 (n:=L-1) (show 0<2 by decide); omega
 ·rename_i h0
  have h3:=(Nat.log2_lt h0).2 h1
  have h4:L-1≤Nat.log2 n:=by
   rcases h2 with h2|h2
   ·omega
   ·exact(Nat.le_log2 h0).2 h2
  omega
theorem IK(n:Nat):n<2^iq n:=by
 unfold iq
 split
 ·rename_i h; subst h; decide
 ·exact Nat.lt_log2_self
theorem tX {n L:Nat}(h:n<2^L):iq n≤L:=by
 unfold iq
 split
 ·omega
 ·rename_i h0; have:=(Nat.log2_lt h0).2 h; omega
theorem a0V {n:Nat}(h:n≠0):0<iq n∧2^(iq n-1)≤n:=by
 unfold iq
 rw[awU h]
 exact⟨by omega,Nat.log2_self_le h⟩
def Db(n m:Nat):Int:=if n<m then-1 else if m<n then 1 else 0
theorem xw {a:Nat→Int} {n:Nat}(h:IsN a n): ∃f,Gr a=some f∧ ∀k,k<256→f k=n.testBit k:=by
 rw[Xz]; unfold YM
 generalize ho:aB uT _=o
 obtain⟨out,hy,hQ⟩:=aO (R:=uT) (fun k out=>a2F (k:Nat) a (fun _=>false) out) (fun out=>YL (fun _=>false) out) (fun k out=> ∀j,j<k→out j=n.testBit j) 256
  (fun k hk out hP=>by
   obtain⟨w,h1,h2,h3⟩:=h.bit (i:=k/64) (by omega)
   have h3':=h3 (k%64) (by omega)
   refine⟨upd out k (n.testBit k),?_,fun j hj=>?_⟩
   ·unfold uT
    have:=axb (axE w (2^(k%64))) h2
    simp(disch:=omega) only[CC,WW,h1,OQ,a9D]
    rw[OT,h3',show 64*(k/64)+k%64=k by omega]
    cases n.testBit k<;>rfl
   ·by_cases e:j=k
    ·subst e; rw[upd_same]
    ·rw[upd_ne e]; exact hP j (by omega))
  (fun out hP=>by
   unfold uT
   simp(disch:=omega) only[CC,WW]) (fun _=>false) (fun j hj=>by omega)
 obtain rfl:=ho.symm.trans hy
 exact⟨out,rfl,hQ⟩
theorem Zi(f:Nat→Bool): ∃a,RI f=some a∧IsN a (QH f 256):=by
 rw[TF]; unfold TD
 generalize ho:aB nD _=o
 obtain⟨out,hy,hQ⟩:=aO (R:=nD) (fun k out=>a0w (k:Nat) f (fun _=>0) out) (fun out=>Wv (fun _=>0) out)
  (fun k out=> ∀i,i<4→ ∃w:Nat,out i=(w:Int)∧w<18446744073709551616∧ ∀j,j<64→w.testBit j=(decide (64*i+j<k)&&f (64*i+j))) 256
  (fun k hk out hP=>by
   obtain⟨w,h1,h2,h3⟩:=hP (k/64) (by omega)
   cases hf:f k with
   |false=>
    refine⟨out,?_,fun i hi=>?_⟩
    ·unfold nD
     simp(disch:=omega) only[CC,WW,hf]
    ·obtain⟨v,g1,g2,g3⟩:=hP i hi
     refine⟨v,g1,g2,fun j hj=>?_⟩
     rw[g3 j hj]
     by_cases e:64*i+j=k
     ·rw[e,hf]; simp
     ·congr 1; rw[ay6]; omega
   |true=>
    refine⟨upd out (k/64) ((w||| 2^(k%64):Nat):Int),?_,fun i hi=>?_⟩
    ·unfold nD
     have:2^(k%64)<2^64:=ayk (by decide) (by omega)
     simp(disch:=omega) only[CC,WW,hf,h1,a4q,orU]
    ·by_cases e:i=k/64
     ·subst e
      refine⟨_,upd_same _ _ _,axR (n:=64) h2 (ayk (by decide) (by omega)),fun j hj=>?_⟩
      rw[ayW,h3 j hj,azq]
      by_cases e:j=k%64
      ·subst e
       rw[show 64*(k/64)+k%64=k by omega,hf]
       simp
      ·rw[show decide (k%64=j)=false from ax9 (by omega),ayV]
       congr 1; rw[ay6]; omega
     ·obtain⟨v,g1,g2,g3⟩:=hP i hi
      refine⟨v,by rw[upd_ne e,g1],g2,fun j hj=>?_⟩
      rw[g3 j hj]
      congr 1; rw[ay6]; omega)
  (fun out hP=>by
   unfold nD
   simp(disch:=omega) only[CC,WW]) (fun _=>0) (fun i hi=>⟨0,rfl,by decide,fun j hj=>by simp⟩)
 obtain rfl:=ho.symm.trans hy
 refine⟨out,rfl,IsN.ofBits (UH f 256) fun i hi=>?_⟩
 obtain⟨w,h1,h2,h3⟩:=hQ i hi
 refine⟨w,h1,h2,fun j hj=>?_⟩
 rw[h3 j hj,K8 f 256 _ (by omega),ax6 (by omega),axy]
theorem Nv {n:Int}(hn:n<9223372036854775808): ∃a,aU n=some a∧IsN a n.toNat:=by
 rw[TH]; unfold TG
 generalize ho:aB nE _=o
 have key: ∃f,o=some (JC (fun _=>0) f)∧QH f 256=n.toNat:=by
  by_cases h0:0<n
  ·obtain⟨N,rfl⟩: ∃N:Nat,n=(N:Int):=⟨n.toNat,by omega⟩
   obtain⟨out,hy,hQ⟩:=aO (R:=nE) (fun k out=>a0x N (k:Nat) (fun _=>0) out) (fun out=>JC (fun _=>0) out)
    (fun k out=> ∀j,out j=(decide (j<k)&&N.testBit j)) 63
    (fun k hk out hP=>by
     refine⟨upd out k (N.testBit k),?_,fun j=>?_⟩
     ·unfold nE
      have:N/2^k≤N:=axE _ _
      simp(disch:=omega) only[CC,WW,Zf,a9E]
      rw[OT]
      cases N.testBit k<;>rfl
     ·by_cases e:j=k
      ·subst e; rw[upd_same,ax6 (by omega),axy]
      ·rw[upd_ne e,hP j]; congr 1; rw[ay6]; omega)
    (fun out hP=>by
     unfold nE
     simp(disch:=omega) only[CC,WW]) (fun _=>false) (fun j=>by simp)
   refine⟨out,ho.symm.trans hy,UJ (by omega) fun k hk=>?_⟩
   rw[hQ k]
   by_cases hk:k<63
   ·rw[ax6 hk,axy,axd]
   ·rw[ax9 hk,axP,axd,axM (axl (m:=2^63) (by omega) (axo (by decide) (by omega)))]
  ·refine⟨fun _=>false,?_,?_⟩
   ·rw[←ho]
    apply dI
    unfold nE
    simp(disch:=omega) only[CC,WW]
   ·rw[show n.toNat=0 by omega]; exact UJ (by decide) fun k _=>by simp
 obtain⟨f,rfl,hf⟩:=key
 obtain⟨a,ha,hN⟩:=Zi f
 simp only[ha]
 exact⟨a,rfl,hf▸hN⟩
theorem Ej {a:Nat→Int} {n:Nat}(h:IsN a n):Im a=some (iq n:Int):=by
 rw[TN]; unfold TM
 obtain⟨f,h1,h2⟩:=xw h
 simp only[h1]
 generalize ho:aB nG _=o
 obtain⟨y,hy,hQ⟩:=kH (R:=nG) (S:=Unit) (fun k _=>a0z ((255:Int)-(k:Nat)) f) (fun k _=>n<2^(256-k))
  (fun y=>(∃L:Nat,y=Wy (L:Int)∧n<2^L∧1≤L∧2^(L-1)≤n)∨(y=Wz∧n=0)) 256
  (fun k hk _ hP=>by
   have hb:=h2 (255-k) (by omega)
   cases hf:f (255-k)with
   |true=>
    refine .inr ⟨_,?_,.inl ⟨256-k,rfl,hP,by omega,?_⟩⟩
    ·unfold nG
     simp(disch:=omega) only[CC,WW,hf]
     rw[show 255-k+1=256-k by omega]
    ·rw[hf]at hb
     exact Nat.ge_two_pow_of_testBit (i:=255-k) hb.symm|> fun h=>by rwa [show 256-k-1=255-k by omega]
   |false=>
    refine .inl ⟨(),?_,?_⟩
    ·unfold nG
     simp(disch:=omega) only[CC,WW,hf]
     rw[wrap_i64 (by omega),show((255-k:Nat):Int)-1=255-((k+1:Nat):Int)by omega]
    ·rw[hf]at hb
     have h3:=vI n (255-k)
     rw[←hb,show 255-k+1=256-k by omega,axX hP]at h3
     simp only[axA,ayi]at h3
     rw[show 256-(k+1)=255-k by omega]
     rw[ayv,Nat.div_eq_zero_iff]at h3
     rcases h3 with h3|h3
     ·have:=az3 (n:=255-k) (show 0<2 by decide); omega
     ·exact h3)
  (fun _ hP=>by
   refine⟨_,?_,.inr ⟨rfl,?_⟩⟩
   ·unfold nG
    simp(disch:=omega) only[CC,WW]
   ·simpa using hP) () h.1
 obtain rfl:=ho.symm.trans hy
 rcases hQ with⟨L,rfl,h3,h4,h5⟩|⟨rfl,h3⟩
 ·rw[a4s h3 (.inr h5)]
 ·rw[h3]; rfl
theorem yT {a:Nat→Int} {n:Nat}(h:IsN a n):DT a=some (if n<9223372036854775808 then((n:Int),true)else(0,false)):=by
 rw[TQ]; unfold TP
 obtain⟨f,h1,h2⟩:=xw h
 simp only[h1,Ej h]
 by_cases hn:n<9223372036854775808
 ·have hb:iq n≤63:=tX (by omega)
  simp(disch:=omega) only[WW,ax1 hn]
  generalize ho:aB nH _=o
  obtain⟨out,hy,hQ⟩:=aO (R:=nH) (fun k (x:Nat)=>a0A (x:Int) (k:Nat) f) (fun x=>WA (x:Int))
   (fun k x=>x=n%2^k) 63
   (fun k hk x hP=>by
    have hx:x<2^63:=by rw[hP]; exact axl (axh _ (az3 (by decide))) (axo (by decide) (by omega))
    have hp:2^k<2^63:=ayk (by decide) hk
    have hx':x<2^k:=by rw[hP]; exact axh _ (az3 (by decide))
    have hb:=h2 k (by omega)
    cases hf:f k with
    |true=>
     refine⟨x||| 2^k,?_,?_⟩
     ·unfold nH
      simp(disch:=omega) only[CC,WW,hf,acR,orS]
     ·rw[hf]at hb
      apply ayy
      intro j
      rw[ayW,azq,axB,hP,axB]
      by_cases e:j=k
      ·subst e; simp[←hb]
      ·have e1:decide (k=j)=false:=ax9 (by omega)
       rw[e1,ayV]; congr 1; rw[ay6]; omega
    |false=>
     refine⟨x,?_,?_⟩
     ·unfold nH
      simp(disch:=omega) only[CC,WW,hf]
     ·rw[hf]at hb
      apply ayy
      intro j
      rw[hP,axB,axB]
      by_cases e:j=k
      ·subst e; simp[←hb]
      ·congr 1; rw[ay6]; omega)
   (fun x hP=>by
    unfold nH
    simp(disch:=omega) only[CC,WW]) 0 (by simp[Nat.mod_one])
  obtain rfl:=ho.symm.trans hy
  rw[hQ,awX (by omega)]
 ·have hb:63<iq n:=by
   apply axp
   intro hb
   have:=IK n
   have h3:2^iq n≤2^63:=axo (by decide) (by omega)
   omega
  simp(disch:=omega) only[WW,awU hn]
theorem Zj {a b:Nat→Int} {n m:Nat}(ha:IsN a n)(hb:IsN b m):RJ a b=some (Db n m):=by
 rw[TL]; unfold TK
 obtain⟨f,h1,h2⟩:=xw ha
 obtain⟨g,g1,g2⟩:=xw hb
 simp only[h1,g1]
 generalize ho:aB jo _=o
 have hna:=ha.1
 have hmb:=hb.1
 obtain⟨y,hy,hQ⟩:=kH (R:=jo) (S:=Unit) (fun k _=>a0y ((255:Int)-(k:Nat)) f g) (fun k _=>n/2^(256-k)=m/2^(256-k))
  (fun y=>(y=Ww (Db n m))∨(y=Wx∧n=m)) 256
  (fun k hk _ hP=>by
   have hf:=h2 (255-k) (by omega)
   have hg:=g2 (255-k) (by omega)
   have s1:=vI n (255-k)
   have s2:=vI m (255-k)
   rw[show 255-k+1=256-k by omega]at s1 s2
   rw[←hf]at s1
   rw[←hg]at s2
   have lt1: ∀ {x y:Nat},x/2^(255-k)<y/2^(255-k)→x<y:=by
    intro x y h
    apply axp
    intro hc
    have:=Nat.div_le_div_right (c:=2^(255-k)) (Nat.le_of_not_lt hc)
    omega
   cases hf':f (255-k)<;>cases hg':g (255-k)<;>simp only[hf',hg',ayj,ayi,axA]at s1 s2
   ·refine .inl ⟨(),?_,?_⟩
    ·unfold jo
     simp(disch:=omega) only[CC,WW,hf',hg']
     rw[wrap_i64 (by omega),show((255-k:Nat):Int)-1=255-((k+1:Nat):Int)by omega]
    ·rw[show 256-(k+1)=255-k by omega]; omega
   ·refine .inr ⟨_,?_,.inl rfl⟩
    have:=lt1 (x:=n) (y:=m) (by omega)
    unfold jo
    simp(disch:=omega) only[CC,WW,hf',hg',Db,ax1 this]
   ·refine .inr ⟨_,?_,.inl rfl⟩
    have:=lt1 (x:=m) (y:=n) (by omega)
    unfold jo
    simp(disch:=omega) only[CC,WW,hf',hg',Db,awU (show¬n<m by omega),ax1 this]
   ·refine .inl ⟨(),?_,?_⟩
    ·unfold jo
     simp(disch:=omega) only[CC,WW,hf',hg']
     rw[wrap_i64 (by omega),show((255-k:Nat):Int)-1=255-((k+1:Nat):Int)by omega]
    ·rw[show 256-(k+1)=255-k by omega]; omega)
  (fun _ hP=>by
   refine⟨_,?_,.inr ⟨rfl,?_⟩⟩
   ·unfold jo
    simp(disch:=omega) only[CC,WW]
   ·simpa using hP) () (by rw[axX (by simpa using hna),axX (by simpa using hmb)])
 obtain rfl:=ho.symm.trans hy
 rcases hQ with rfl|⟨rfl,h3⟩
 ·rfl
 ·subst h3; simp[Db]
theorem Nw {a:Nat→Int} {n:Nat}(h:IsN a n)(k:Int):Mx a k=some (if 0≤k∧n.testBit k.toNat then 1 else 0):=by
 rw[TS]; unfold TR
 obtain⟨f,h1,h2⟩:=xw h
 simp only[h1]
 by_cases h0:0≤k
 ·by_cases h3:k<256
  ·simp(disch:=omega) only[WW,h2 k.toNat (by omega),h0,true_and]
   cases n.testBit k.toNat<;>rfl
  ·rw[axM (axl h.1 (axo (by decide) (by omega)))]
   simp(disch:=omega) only[WW]
   simp
 ·simp(disch:=omega) only[WW]
  simp[h0]
theorem a4t {a:Nat}(h:a<18446744073709551616):ak .and .u64 (a:Int) 4294967295=((a%4294967296:Nat):Int):=by
 rw[show(4294967295:Int)=((4294967295:Nat):Int)from rfl,aaX h (by decide)]
 congr 1
 exact axK a 32
theorem F8 {a:Nat}(h:a<18446744073709551616):bH .u64 (a:Int) 32=((a/4294967296:Nat):Int):=OQ (s:=32) h
theorem z8 {a b:Nat}(ha:a<4294967296)(hb:b<4294967296):a*b≤18446744065119617025:=by
 have:=azg (show a≤4294967295 by omega) (show b≤4294967295 by omega)
 simpa using this
theorem Rk {x y:Nat}(hx:x<18446744073709551616)(hy:y<18446744073709551616):
  bits_Mul64 (x:Int) (y:Int)=some (((x*y/18446744073709551616:Nat):Int),((x*y%18446744073709551616:Nat):Int)):=by
 rw[Jv]; unfold G6
 rw[a4t hx,a4t hy,F8 hx,F8 hy]
 have hx0:x%4294967296<4294967296:=axh _ (by decide)
 have hx1:x/4294967296<4294967296:=by omega
 have hy0:y%4294967296<4294967296:=axh _ (by decide)
 have hy1:y/4294967296<4294967296:=by omega
 have ex:x=x/4294967296*4294967296+x%4294967296:=by omega
 have ey:y=y/4294967296*4294967296+y%4294967296:=by omega
 generalize x/4294967296=x1 at*
 generalize x%4294967296=x0 at*
 generalize y/4294967296=y1 at*
 generalize y%4294967296=y0 at*
 have hxy:x*y=x1*y1*18446744073709551616+(x1*y0+x0*y1)*4294967296+x0*y0:=by
  rw[ex,ey]; simp only[axt,az2]
  have e1:x1*4294967296*(y1*4294967296)=x1*y1*18446744073709551616:=by rw[Nat.mul_mul_mul_comm]
  have e2:x0*(y1*4294967296)=x0*y1*4294967296:=by rw[axF]
  have e3:x1*4294967296*y0=x1*y0*4294967296:=by rw[ayZ]
  omega
 have m00:=z8 hx0 hy0
 have m01:=z8 hx0 hy1
 have m10:=z8 hx1 hy0
 have m11:=z8 hx1 hy1
 simp only[a0U,wrap_u64 (x*y),hxy]
 generalize x0*y0=a at*
 generalize x0*y1=b at*
 generalize x1*y0=c at*
 generalize x1*y1=d at*
 clear ex ey hxy
 simp(disch:=omega) only[CC,BZ,F8,a4t]
 have e1:d+(c+a/4294967296)/4294967296+((c+a/4294967296)%4294967296+b)/4294967296=(d*18446744073709551616+(c+b)*4294967296+a)/18446744073709551616:=by omega
 rw[e1,wrap_u64]
theorem K9 {x y:Nat}(hx:x<18446744073709551616)(hy:y<18446744073709551616):
  ∃h l:Nat,bits_Mul64 (x:Int) (y:Int)=some ((h:Int),(l:Int))∧x*y=h*18446744073709551616+l∧l<18446744073709551616∧h<18446744073709551615:=by
 refine⟨_,_,Rk hx hy,?_,axh _ (by decide),?_⟩
 ·have:=axI (x*y) 18446744073709551616; omega
 ·have:x*y≤18446744073709551615*18446744073709551615:=azg (by omega) (by omega)
  omega
def aiv:ByteArray:=ByteArray.mk #[0,1,2,2,3,3,3,3,4,4,4,4,4,4,4,4,5,5,5,5,5,5,5,5,5,5,5,5,5,5,5,5,6,6,6,6,6,6,6,6,6,6,6,6,6,6,6,6,6,6,6,6,6,6,6,6,6,6,6,6,6,6,6,6,7,7,7,7,7,7,7,7,7,7,7,7,7,7,7,7,7,7,7,7,7,7,7,7,7,7,7,7,7,7,7,7,7,7,7,7,7,7,7,7,7,7,7,7,7,7,7,7,7,7,7,7,7,7,7,7,7,7,7,7,7,7,7,7,8,8,8,8,8,8,8,8,8,8,8,8,8,8,8,8,8,8,8,8,8,8,8,8,8,8,8,8,8,8,8,8,8,8,8,8,8,8,8,8,8,8,8,8,8,8,8,8,8,8,8,8,8,8,8,8,8,8,8,8,8,8,8,8,8,8,8,8,8,8,8,8,8,8,8,8,8,8,8,8,8,8,8,8,8,8,8,8,8,8,8,8,8,8,8,8,8,8,8,8,8,8,8,8,8,8,8,8,8,8,8,8,8,8,8,8,8,8,8,8,8,8,8,8,8,8,8,8]
def acS(i:Nat):Nat:=UInt8.toNat (List.getD (Array.toList (ByteArray.data aiv)) i 0)
theorem a9F {i:Nat}(h:i<256):acS i=iq i:=by
 have: ∀i:Fin 256,acS i.val=iq i.val:=by decide+kernel
 exact this ⟨i,h⟩
theorem jN {x s:Nat}(h:x/2^s≠0):iq x=s+iq (x/2^s):=by
 have h1:=a0V h
 have h2:=IK (x/2^s)
 have hp:=az3 (n:=s) (show 0<2 by decide)
 refine a4s ?_ (.inr ?_)
 ·rw[ayo hp,←ayg,aym]at h2
  exact h2
 ·rw[Nat.le_div_iff_mul_le hp,←ayg]at h1
  rw[show s+iq (x/2^s)-1=iq (x/2^s)-1+s by omega]
  exact h1.2
theorem QI {a:Nat}(h:a<18446744073709551616):bH .u64 (a:Int) 16=((a/65536:Nat):Int):=OQ (s:=16) h
theorem a0W {a:Nat}(h:a<18446744073709551616):bH .u64 (a:Int) 8=((a/256:Nat):Int):=OQ (s:=8) h
theorem Bd {n:Nat}(h:n<256):IntKind.u8.wrap (n:Int)=(n:Int):=a9y (by omega)
theorem lQ {x:Nat}(hx:x<18446744073709551616):bits_Len64 (x:Int)=some (iq x:Int):=by
 rw[Jw]; unfold G7
 generalize hT:ByteArray.mk #[0,1,2,2,3,3,3,3,4,4,4,4,4,4,4,4,5,5,5,5,5,5,5,5,5,5,5,5,5,5,5,5,6,6,6,6,6,6,6,6,6,6,6,6,6,6,6,6,6,6,6,6,6,6,6,6,6,6,6,6,6,6,6,6,7,7,7,7,7,7,7,7,7,7,7,7,7,7,7,7,7,7,7,7,7,7,7,7,7,7,7,7,7,7,7,7,7,7,7,7,7,7,7,7,7,7,7,7,7,7,7,7,7,7,7,7,7,7,7,7,7,7,7,7,7,7,7,7,8,8,8,8,8,8,8,8,8,8,8,8,8,8,8,8,8,8,8,8,8,8,8,8,8,8,8,8,8,8,8,8,8,8,8,8,8,8,8,8,8,8,8,8,8,8,8,8,8,8,8,8,8,8,8,8,8,8,8,8,8,8,8,8,8,8,8,8,8,8,8,8,8,8,8,8,8,8,8,8,8,8,8,8,8,8,8,8,8,8,8,8,8,8,8,8,8,8,8,8,8,8,8,8,8,8,8,8,8,8,8,8,8,8,8,8,8,8,8,8,8,8,8,8,8,8,8,8]=T
 have tab: ∀ {i:Nat},i<256→UInt8.toNat (List.getD (Array.toList (ByteArray.data T)) i 0)=iq i:=fun h=>by subst hT; exact a9F h
 clear hT
 have b8: ∀ {i:Nat},i<256→iq i≤8:=fun h=>tX (by simpa using h)
 have d1:x/4294967296/65536/256=x/2^56:=by rw[ay3,ay3]
 have d2:x/4294967296/65536=x/2^48:=by rw[ay3]
 have d3:x/4294967296/256=x/2^40:=by rw[ay3]
 have d4:x/65536/256=x/2^24:=by rw[ay3]
 by_cases h1:4294967296≤x
 ·by_cases h2:65536≤x/4294967296
  ·by_cases h3:256≤x/4294967296/65536
   ·have hb:=b8 (i:=x/4294967296/65536/256) (by omega)
    simp(disch:=omega) only[CC,WW,F8,QI,a0W,Bd,tab]
    rw[d1,jN (x:=x) (s:=56) (by omega)]
   ·have hb:=b8 (i:=x/4294967296/65536) (by omega)
    simp(disch:=omega) only[CC,WW,F8,QI,a0W,Bd,tab]
    rw[d2,jN (x:=x) (s:=48) (by omega)]
  ·by_cases h3:256≤x/4294967296
   ·have hb:=b8 (i:=x/4294967296/256) (by omega)
    simp(disch:=omega) only[CC,WW,F8,QI,a0W,Bd,tab]
    rw[d3,jN (x:=x) (s:=40) (by omega)]
   ·have hb:=b8 (i:=x/4294967296) (by omega)
    simp(disch:=omega) only[CC,WW,F8,QI,a0W,Bd,tab]
    rw[jN (x:=x) (s:=32) (by omega)]
 ·by_cases h2:65536≤x
  ·by_cases h3:256≤x/65536
   ·have hb:=b8 (i:=x/65536/256) (by omega)
    simp(disch:=omega) only[CC,WW,F8,QI,a0W,Bd,tab]
    rw[d4,jN (x:=x) (s:=24) (by omega)]
   ·have hb:=b8 (i:=x/65536) (by omega)
    simp(disch:=omega) only[CC,WW,F8,QI,a0W,Bd,tab]
    rw[jN (x:=x) (s:=16) (by omega)]
  ·by_cases h3:256≤x
   ·have hb:=b8 (i:=x/256) (by omega)
    simp(disch:=omega) only[CC,WW,F8,QI,a0W,Bd,tab]
    rw[jN (x:=x) (s:=8) (by omega)]
   ·have hb:=b8 (i:=x) (by omega)
    simp(disch:=omega) only[CC,WW,F8,QI,a0W,Bd,tab,axc]
theorem C8 {x:Nat}(hx:x<18446744073709551616):bits_LeadingZeros64 (x:Int)=some ((64-iq x:Nat):Int):=by
 rw[sH]; unfold ng
 have:iq x≤64:=tX (by simpa using hx)
 simp(disch:=omega) only[lQ hx,CC,WW]
section
variable {y yn1 yn0 un un1 q1 rhat:Nat}
theorem Ny(hy:y=yn1*4294967296+yn0)(h:q1*yn1+rhat=un):q1*y+rhat*4294967296=un*4294967296+q1*yn0:=by
 subst hy; subst h
 rw[az2,axt,axF]; omega
theorem OV(hun:un<y)(hu1:un1<4294967296):(un*4294967296+un1)/y<4294967296:=by
 rw[ayo (by omega)]
 have:(un+1)*4294967296≤y*4294967296:=axg _ hun
 rw[axi 4294967296 y]; omega
theorem RO {Q:Nat}(hQ:Q=(un*4294967296+un1)/y)(hy:y=yn1*4294967296+yn0)(hun:un<y)(hu1:un1<4294967296)(h:q1*yn1+rhat=un)(hc:4294967296≤q1∨4294967296*rhat+un1<q1*yn0):Q<q1:=by
 rw[hQ]
 rcases hc with hc|hc
 ·exact axl (OV hun hu1) hc
 ·rw[ayo (by omega)]
  have:=Ny hy h
  omega
theorem El {Q:Nat}(hQ:Q=(un*4294967296+un1)/y)(hy:y=yn1*4294967296+yn0)(h0:yn0<4294967296)(hun:un<y)(h:q1*yn1+rhat=un)(hlt:Q<q1)(hq:q1≤4294967297)(hr:4294967296≤rhat+yn1):q1-1=Q:=by
 have h1:(q1-1)*yn1+(rhat+yn1)=un:=by
  obtain⟨p,rfl⟩: ∃p,q1=p+1:=⟨q1-1,by omega⟩
  rw[axt,ayf]at h
  rw[azx]; omega
 have h2:=Ny hy h1
 have h3:(q1-1)*yn0≤4294967296*4294967295:=azg (by omega) (by omega)
 have h4:q1-1≤Q:=by
  rw[hQ,Nat.le_div_iff_mul_le (by omega)]; omega
 omega
theorem XJ {Q:Nat}(hQ:Q=(un*4294967296+un1)/y)(hy:y=yn1*4294967296+yn0)(hun:un<y)(h:q1*yn1+rhat=un)(hle:Q≤q1)(hc:q1*yn0≤4294967296*rhat+un1):q1=Q:=by
 have h2:=Ny hy h
 have h4:q1≤Q:=by
  rw[hQ,Nat.le_div_iff_mul_le (by omega)]; omega
 omega
theorem half_start(hy:y=yn1*4294967296+yn0)(h1:2147483648≤yn1)(h0:yn0<4294967296)(hun:un<y):(un*4294967296+un1)/y≤un/yn1∨4294967296≤un1:=by
 by_cases hu:un1<4294967296
 ·left
  have h2:=axI un yn1
  have h3:=axh un (show 0<yn1 by omega)
  have h5:(un*4294967296+un1)/y<un/yn1+1:=by
   rw[ayo (by omega)]
   have h4:=Ny (q1:=un/yn1+1) (rhat:=0) (un:=(un/yn1+1)*yn1) hy rfl
   have h6:(un/yn1+1)*yn1=yn1*(un/yn1)+yn1:=by rw[axt,ayf,axi]
   have h7:un+1≤(un/yn1+1)*yn1:=by omega
   have h8:(un+1)*4294967296≤(un/yn1+1)*yn1*4294967296:=axg _ h7
   omega
  omega
 ·right; omega
theorem XK(hy:y=yn1*4294967296+yn0)(h1:2147483648≤yn1)(h0:yn0<4294967296)(hun:un<y):un/yn1≤4294967297:=by
 have:un/yn1<4294967298:=by
  rw[ayo (by omega)]
  omega
 omega
end
theorem a5J {y s yn1 yn0 un un1 un0:Nat}(hy:y=yn1*4294967296+yn0)(h1:2147483648≤yn1)(h1':yn1<4294967296)(h0:yn0<4294967296)(hun:un<y)(hu1:un1<4294967296):
  aB fA (zu (y:Int) (s:Int) (yn1:Int) (yn0:Int) (un:Int) (un1:Int) (un0:Int) ((un/yn1:Nat):Int) ((un%yn1:Nat):Int))=
   some (uR (y:Int) (s:Int) (yn1:Int) (yn0:Int) (un:Int) (un1:Int) (un0:Int) (((un*4294967296+un1)/y:Nat):Int)):=by
 obtain⟨Q,hQ⟩: ∃Q,Q=(un*4294967296+un1)/y:=⟨_,rfl⟩
 rw[←hQ]
 obtain⟨z,hz,rfl⟩:=Xq (f:=fA)
  (fun x=> ∃q1 rhat:Nat,x=zu (y:Int) (s:Int) (yn1:Int) (yn0:Int) (un:Int) (un1:Int) (un0:Int) (q1:Int) (rhat:Int)∧Q≤q1∧q1≤4294967297∧q1*yn1+rhat=un∧rhat<4294967296)
  (fun x=>x.1.2.2.2.2.2.2.2.1.toNat) (fun z=>z=uR (y:Int) (s:Int) (yn1:Int) (yn0:Int) (un:Int) (un1:Int) (un0:Int) ((Q:Nat):Int)) (by
   rintro x ⟨q1,rhat,rfl,hle,hq,h,hr⟩
   have next:Q<q1→rhat+yn1<4294967296→Q≤q1-1∧q1-1≤4294967297∧(q1-1)*yn1+(rhat+yn1)=un∧rhat+yn1<4294967296:=by
    intro h3 h4
    refine⟨by omega,by omega,?_,h4⟩
    obtain⟨p,rfl⟩: ∃p,q1=p+1:=⟨q1-1,by omega⟩
    rw[axt,ayf]at h
    rw[azx]; omega
   by_cases hb:4294967296≤q1
   ·have hlt:=RO hQ hy hun hu1 h (.inl hb)
    by_cases hr2:4294967296≤rhat+yn1
    ·right
     refine⟨_,?_,rfl⟩
     unfold fA
     simp(disch:=omega) only[CC,WW]
     rw[El hQ hy h0 hun h hlt hq hr2]
    ·left
     refine⟨_,?_,⟨q1-1,rhat+yn1,rfl,next hlt (by omega)⟩,?_⟩
     ·unfold fA
      simp(disch:=omega) only[CC,WW]
     ·simp only[axd]; omega
   ·have hm:q1*yn0≤18446744065119617025:=z8 (by omega) h0
    by_cases hc:4294967296*rhat+un1<q1*yn0
    ·have hlt:=RO hQ hy hun hu1 h (.inr hc)
     by_cases hr2:4294967296≤rhat+yn1
     ·right
      refine⟨_,?_,rfl⟩
      unfold fA
      simp(disch:=omega) only[CC,WW]
      rw[El hQ hy h0 hun h hlt hq hr2]
     ·left
      refine⟨_,?_,⟨q1-1,rhat+yn1,rfl,next hlt (by omega)⟩,?_⟩
      ·unfold fA
       simp(disch:=omega) only[CC,WW]
      ·simp only[axd]; omega
    ·right
     refine⟨_,?_,rfl⟩
     unfold fA
     simp(disch:=omega) only[CC,WW]
     rw[XJ (un1:=un1) hQ hy hun h hle (by omega)])
  _ ⟨un/yn1,un%yn1,rfl,hQ▸(half_start hy h1 h0 hun).resolve_right (by omega),XK hy h1 h0 hun,by rw[axi]; exact axI un yn1,azl (axh _ (by omega)) h1'⟩
 exact hz
theorem a5K {y s yn1 yn0 un un1 q:Nat}(hy:y=yn1*4294967296+yn0)(h1:2147483648≤yn1)(h1':yn1<4294967296)(h0:yn0<4294967296)(hun:un<y)(hu1:un1<4294967296):
  aB fB (zw (y:Int) (s:Int) (yn1:Int) (yn0:Int) (un1:Int) (q:Int) ((un%yn1:Nat):Int) (un:Int) ((un/yn1:Nat):Int))=
   some (uS (y:Int) (s:Int) (un1:Int) (q:Int) (un:Int) (((un*4294967296+un1)/y:Nat):Int)):=by
 obtain⟨Q,hQ⟩: ∃Q,Q=(un*4294967296+un1)/y:=⟨_,rfl⟩
 rw[←hQ]
 obtain⟨z,hz,rfl⟩:=Xq (f:=fB)
  (fun x=> ∃q1 rhat:Nat,x=zw (y:Int) (s:Int) (yn1:Int) (yn0:Int) (un1:Int) (q:Int) (rhat:Int) (un:Int) (q1:Int)∧Q≤q1∧q1≤4294967297∧q1*yn1+rhat=un∧rhat<4294967296)
  (fun x=>x.1.2.2.2.2.2.2.2.2.1.toNat) (fun z=>z=uS (y:Int) (s:Int) (un1:Int) (q:Int) (un:Int) ((Q:Nat):Int)) (by
   rintro x ⟨q1,rhat,rfl,hle,hq,h,hr⟩
   have next:Q<q1→rhat+yn1<4294967296→Q≤q1-1∧q1-1≤4294967297∧(q1-1)*yn1+(rhat+yn1)=un∧rhat+yn1<4294967296:=by
    intro h3 h4
    refine⟨by omega,by omega,?_,h4⟩
    obtain⟨p,rfl⟩: ∃p,q1=p+1:=⟨q1-1,by omega⟩
    rw[axt,ayf]at h
    rw[azx]; omega
   by_cases hb:4294967296≤q1
   ·have hlt:=RO hQ hy hun hu1 h (.inl hb)
    by_cases hr2:4294967296≤rhat+yn1
    ·right
     refine⟨_,?_,rfl⟩
     unfold fB
     simp(disch:=omega) only[CC,WW]
     rw[El hQ hy h0 hun h hlt hq hr2]
    ·left
     refine⟨_,?_,⟨q1-1,rhat+yn1,rfl,next hlt (by omega)⟩,?_⟩
     ·unfold fB
      simp(disch:=omega) only[CC,WW]
     ·simp only[axd]; omega
   ·have hm:q1*yn0≤18446744065119617025:=z8 (by omega) h0
    by_cases hc:4294967296*rhat+un1<q1*yn0
    ·have hlt:=RO hQ hy hun hu1 h (.inr hc)
     by_cases hr2:4294967296≤rhat+yn1
     ·right
      refine⟨_,?_,rfl⟩
      unfold fB
      simp(disch:=omega) only[CC,WW]
      rw[El hQ hy h0 hun h hlt hq hr2]
     ·left
      refine⟨_,?_,⟨q1-1,rhat+yn1,rfl,next hlt (by omega)⟩,?_⟩
      ·unfold fB
       simp(disch:=omega) only[CC,WW]
      ·simp only[axd]; omega
    ·right
     refine⟨_,?_,rfl⟩
     unfold fB
     simp(disch:=omega) only[CC,WW]
     rw[XJ (un1:=un1) hQ hy hun h hle (by omega)])
  _ ⟨un/yn1,un%yn1,rfl,hQ▸(half_start hy h1 h0 hun).resolve_right (by omega),XK hy h1 h0 hun,by rw[axi]; exact axI un yn1,azl (axh _ (by omega)) h1'⟩
 exact hz
theorem a0X {un un1 q y r:Nat}(h:un*4294967296+un1=q*y+r)(hr:r<18446744073709551616):
  IntKind.u64.wrap (IntKind.u64.wrap (IntKind.u64.wrap ((un:Int)*4294967296)+(un1:Int))-IntKind.u64.wrap ((q:Int)*(y:Int)))=(r:Int):=by
 simp only[II,CC]
 generalize q*y=p at*
 omega
theorem a5L {t n:Nat}(ht:t<18446744073709551616):IntKind.u64.wrap ((t:Int)-IntKind.u64.wrap (IntKind.u64.wrap (Int.tdiv (t:Int) (n:Int))*(n:Int)))=((t%n:Nat):Int):=by
 have h1:=axI t n
 have h2:t/n≤t:=axE _ _
 have h3:t/n*n≤t:=by rw[axi]; omega
 rw[Zg,BZ (by omega),a0U,BZ (by omega),a9A h3,BZ (by omega)]
 congr 1
 rw[axi]; omega
theorem OW {t n:Nat}(ht:t<18446744073709551616):IntKind.u64.wrap (Int.tdiv (t:Int) (n:Int))=((t/n:Nat):Int):=by
 have h2:t/n≤t:=axE _ _
 rw[Zg,BZ (by omega)]
theorem UK {t n:Nat}(ht:t<18446744073709551616):IntKind.u64.wrap ((t:Int)-IntKind.u64.wrap (((t/n:Nat):Int)*(n:Int)))=((t%n:Nat):Int):=by
 have:=a5L (t:=t) (n:=n) ht
 rwa [OW ht]at this
theorem XL {U u y q r:Nat}(h:y*q+r=U):U*4294967296+u=(r*4294967296+u)+y*(q*4294967296):=by
 rw[←h,axt,axF]; omega
theorem aaZ {U u y:Nat}(hy:0<y):(U*4294967296+u)/y=U/y*4294967296+(U%y*4294967296+u)/y:=by
 rw[XL (axI U y),Nat.add_mul_div_left _ _ hy,aym]
theorem ab0 {U u y:Nat} :(U*4294967296+u)%y=(U%y*4294967296+u)%y:=by
 rw[XL (axI U y),aze]
theorem lS {hi lo y:Nat}(hy:y<18446744073709551616)(hhi:hi<y)(hlo:lo<18446744073709551616):
  ni (hi:Int) (lo:Int) (y:Int)=some ((((hi*18446744073709551616+lo)/y:Nat):Int),(((hi*18446744073709551616+lo)%y:Nat):Int)):=by
 rw[Jy]; unfold Ga
 by_cases h0:hi=0
 ·subst h0
  have:lo/y≤lo:=axE _ _
  simp(disch:=omega) only[CC,WW,ayv,axc]
 ·have hb:=a0V (n:=y) (by omega)
  have hb2:=IK y
  have hb3:iq y≤64:=tX (by simpa using hy)
  obtain⟨s,hs⟩: ∃s,s=64-iq y:=⟨_,rfl⟩
  have hs2:s<64:=by omega
  have p1:2^s*2^(64-s)=18446744073709551616:=by rw[←ayg,show s+(64-s)=64 by omega]
  have p2:2^s*2^(iq y-1)=9223372036854775808:=by rw[←ayg,show s+(iq y-1)=63 by omega]
  have hps:=az3 (n:=s) (show 0<2 by decide)
  have hpt:=az3 (n:=64-s) (show 0<2 by decide)
  have hyl:9223372036854775808≤y*2^s:=by rw[←p2,axi]; exact axg _ hb.2
  have hyu:y*2^s<18446744073709551616:=by
   rw[←p1,axi,show 64-s=iq y by omega]
   exact Nat.mul_lt_mul_of_pos_left hb2 hps
  have hhis:(hi+1)*2^s≤y*2^s:=axg _ hhi
  rw[axt,ayf]at hhis
  have hlos:lo/2^(64-s)<2^s:=by rw[ayo hpt,p1]; exact hlo
  have hun:ak .or .u64 (ig .u64 (hi:Int) (s:Int)) (bH .u64 (lo:Int) ((64-s:Nat):Int))=((hi*2^s+lo/2^(64-s):Nat):Int):=by
   rw[a3m,OQ hlo,awX (by omega),orU (by omega) (by omega),axi hi,ayh hlos]
  have hN:(hi*18446744073709551616+lo)*2^s=(hi*2^s+lo/2^(64-s))*18446744073709551616+lo*2^s%18446744073709551616:=by
   have e1:=axI (lo*2^s) 18446744073709551616
   have e2:lo*2^s/18446744073709551616=lo/2^(64-s):=by
    rw[←p1,axi lo,Nat.mul_div_mul_left _ _ hps]
   rw[e2]at e1
   rw[axt,axt,ayZ]; omega
  have hrest:lo*2^s%18446744073709551616<18446744073709551616:=axh _ (by decide)
  simp(disch:=omega) only[C8 hy,←hs]
  simp(disch:=omega) only[CC,WW,hun]
  simp only[a3m,awX hyu]
  have hfin1:(hi*18446744073709551616+lo)/y=((hi*2^s+lo/2^(64-s))*18446744073709551616+lo*2^s%18446744073709551616)/(y*2^s):=by
   rw[←hN,Nat.mul_div_mul_right _ _ hps]
  have hfin2:(hi*18446744073709551616+lo)%y=((hi*2^s+lo/2^(64-s))*18446744073709551616+lo*2^s%18446744073709551616)%(y*2^s)/2^s:=by
   rw[←hN,Nat.mul_mod_mul_right,Nat.mul_div_cancel _ hps]
  rw[hfin1,hfin2]
  have hunlt:hi*2^s+lo/2^(64-s)<y*2^s:=by omega
  clear hfin1 hfin2 hN hun hlos hhis
  generalize hi*2^s+lo/2^(64-s)=un at*
  generalize lo*2^s%18446744073709551616=un10 at*
  generalize hY:y*2^s=Y at*
  simp(disch:=omega) only[F8,a4t]
  have hy':Y=Y/4294967296*4294967296+Y%4294967296:=by omega
  have hb1:2147483648≤Y/4294967296:=by omega
  have hb1':Y/4294967296<4294967296:=by omega
  have hb0:Y%4294967296<4294967296:=by omega
  simp(disch:=omega) only[OW,UK,bG,axn]
  have L0:=a5J (s:=s) (un0:=un10%4294967296) hy' hb1 hb1' hb0 hunlt (un1:=un10/4294967296) (by omega)
  simp only[zu,uR]at L0
  rw[L0]
  obtain⟨U,hU⟩: ∃U,U=un*4294967296+un10/4294967296:=⟨_,rfl⟩
  have hR:=axI U Y
  have hRlt:U%Y<Y:=axh _ (by omega)
  rw[←hU]
  simp only[a0X (un:=un) (un1:=un10/4294967296) (q:=U/Y) (y:=Y) (r:=U%Y) (by rw[←hU,axi]; exact hR.symm) (by omega)]
  simp(disch:=omega) only[OW,UK,bG,axn]
  have L2:=a5K (s:=s) (q:=U/Y) hy' hb1 hb1' hb0 hRlt (un1:=un10%4294967296) (by omega)
  simp only[zw,uS]at L2
  rw[L2]
  obtain⟨V,hV⟩: ∃V,V=U%Y*4294967296+un10%4294967296:=⟨_,rfl⟩
  have hS:=axI V Y
  have hSlt:V%Y<Y:=axh _ (by omega)
  rw[←hV]
  simp only[a0X (un:=U%Y) (un1:=un10%4294967296) (q:=V/Y) (y:=Y) (r:=V%Y) (by rw[←hV,axi]; exact hS.symm) (by omega)]
  have hUV:(un*18446744073709551616+un10)=U*4294967296+un10%4294967296:=by omega
  have q1lt:U/Y<4294967296:=by rw[hU]; exact OV hunlt (by omega)
  have q0lt:V/Y<4294967296:=by rw[hV]; exact OV hRlt (by omega)
  rw[hUV,aaZ (by omega),ab0,←hV]
  generalize U/Y=q1 at*
  generalize V/Y=q0 at*
  have hY2:V%Y<18446744073709551616:=by omega
  simp(disch:=omega) only[CC,WW,OQ]
open Go Go.Den
theorem nQ {n:Int}(hn:n<9223372036854775808): ∃a,bZ n=some a∧IsN a n.toNat:=by
 rw[Xy]; unfold YJ
 refine⟨_,rfl,?_⟩
 have:IntKind.u64.wrap (if n<0 then 0 else n)=((n.toNat:Nat):Int):=by
  rw[acJ]
  ·split<;>omega
  ·split<;>omega
 rw[this]
 exact IsN.small (by omega)
theorem IsN.low {a:Nat→Int} {n:Nat}(h:IsN a n):eqF (.arr 4 (.int .u64)) a (upd (fun _=>0) 0 (a 0))=decide (n<18446744073709551616)∧(n<18446744073709551616→a 0=(n:Int))∧ ∃x0:Nat,a 0=(x0:Int)∧x0<18446744073709551616:=by
 obtain⟨x0,x1,x2,x3,e0,e1,e2,e3,h0,h1,h2,h3,hn⟩:=h.get
 have hs:=IsN.small h0
 rw[e0,h.eqb hs]
 refine⟨?_,fun h=>?_,x0,rfl,h0⟩
 ·rw[ay6]; omega
 ·congr 1; omega
theorem tY {a:Nat→Int} {n:Nat}(h:IsN a n):Mk a=some (if n<9223372036854775808 then((n:Int),true)else(0,false)):=by
 rw[Tz]; unfold Tx
 obtain⟨h1,h2,x0,h3,h4⟩:=h.low
 rw[h1]
 by_cases h5:n<18446744073709551616
 ·have h6:=h2 h5
  by_cases h7:n<9223372036854775808
  ·simp(disch:=omega) only[CC,WW,h6,ax1 h7]
  ·simp(disch:=omega) only[CC,WW,h6,awU h7]
 ·have h7: ¬n<9223372036854775808:=by omega
  simp(disch:=omega) only[CC,WW,awU h7]
theorem fJ {a b:Nat→Int} {n m:Nat}(ha:IsN a n)(hb:IsN b m):yH a b=some (Db n m):=by
 rw[Tn]; unfold Tm
 obtain⟨x0,x1,x2,x3,e0,e1,e2,e3,h0,h1,h2,h3,hn⟩:=ha.get
 obtain⟨y0,y1,y2,y3,f0,f1,f2,f3,g0,g1,g2,g3,hm⟩:=hb.get
 simp only[e0,e1,e2,e3,f0,f1,f2,f3]
 unfold Db
 by_cases c3:x3<y3
 ·simp(disch:=omega) only[WW,ax1 (show n<m by omega)]
 ·by_cases d3:y3<x3
  ·simp(disch:=omega) only[WW,awU (show¬n<m by omega),ax1 (show m<n by omega)]
  ·by_cases c2:x2<y2
   ·simp(disch:=omega) only[WW,ax1 (show n<m by omega)]
   ·by_cases d2:y2<x2
    ·simp(disch:=omega) only[WW,awU (show¬n<m by omega),ax1 (show m<n by omega)]
    ·by_cases c1:x1<y1
     ·simp(disch:=omega) only[WW,ax1 (show n<m by omega)]
     ·by_cases d1:y1<x1
      ·simp(disch:=omega) only[WW,awU (show¬n<m by omega),ax1 (show m<n by omega)]
      ·by_cases c0:x0<y0
       ·simp(disch:=omega) only[WW,ax1 (show n<m by omega)]
       ·by_cases d0:y0<x0
        ·simp(disch:=omega) only[WW,awU (show¬n<m by omega),ax1 (show m<n by omega)]
        ·simp(disch:=omega) only[WW,awU (show¬n<m by omega),awU (show¬m<n by omega)]
theorem Nz {x y c:Nat}(hx:x<18446744073709551616)(hy:y<18446744073709551616)(hc:c≤1): ∃s d:Nat,bP (x:Int) (y:Int) (c:Int)=some ((s:Int),(d:Int))∧x+y+c=s+d*18446744073709551616∧s<18446744073709551616∧d≤1:=
 ⟨_,_,a5G hc,by omega,by omega,by omega⟩
theorem NA {x y c:Nat}(hx:x<18446744073709551616)(hy:y<18446744073709551616)(hc:c≤1): ∃s d:Nat,EA (x:Int) (y:Int) (c:Int)=some ((s:Int),(d:Int))∧x+d*18446744073709551616=s+y+c∧s<18446744073709551616∧d≤1:=by
 refine⟨_,_,a5H hc,?_,axh _ (by decide),?_⟩
 ·split<;>omega
 ·split<;>omega
theorem IL {x y:Nat}(hx:x<18446744073709551616)(hy:y<18446744073709551616): ∃s d:Nat,bP (x:Int) (y:Int) 0=some ((s:Int),(d:Int))∧x+y=s+d*18446744073709551616∧s<18446744073709551616∧d≤1:=
 Nz (c:=0) hx hy (by omega)
theorem a5M {x y:Nat}(hx:x<18446744073709551616)(hy:y<18446744073709551616): ∃s d:Nat,EA (x:Int) (y:Int) 0=some ((s:Int),(d:Int))∧x+d*18446744073709551616=s+y∧s<18446744073709551616∧d≤1:=
 NA (c:=0) hx hy (by omega)
theorem Zk {a b:Nat→Int} {n m:Nat}(ha:IsN a n)(hb:IsN b m): ∃s,RH a b=some (s,(((n+m)/2^256:Nat):Int))∧IsN s ((n+m)%2^256):=by
 rw[Tq]; unfold Tp
 obtain⟨x0,x1,x2,x3,e0,e1,e2,e3,h0,h1,h2,h3,hn⟩:=ha.get
 obtain⟨y0,y1,y2,y3,f0,f1,f2,f3,g0,g1,g2,g3,hm⟩:=hb.get
 simp only[e0,e1,e2,e3,f0,f1,f2,f3]
 obtain⟨s0,c0,i0,j0,k0,l0⟩:=IL h0 g0
 obtain⟨s1,c1,i1,j1,k1,l1⟩:=Nz h1 g1 l0
 obtain⟨s2,c2,i2,j2,k2,l2⟩:=Nz h2 g2 l1
 obtain⟨s3,c3,i3,j3,k3,l3⟩:=Nz h3 g3 l2
 simp only[i0,i1,i2,i3]
 have hS:n+m=(s0+s1*18446744073709551616+s2*340282366920938463463374607431768211456+s3*6277101735386680763835789423207666416102355444464034512896)+c3*115792089237316195423570985008687907853269984665640564039457584007913129639936:=by
  subst hn hm; clear ha hb i0 i1 i2 i3 e0 e1 e2 e3 f0 f1 f2 f3; omega
 have hN:=aiu (f:=fun _=>0) k0 k1 k2 k3
 have hlt:=hN.1
 generalize s0+s1*18446744073709551616+s2*340282366920938463463374607431768211456+s3*6277101735386680763835789423207666416102355444464034512896=S at hS hN hlt
 clear hn hm j0 j1 j2 j3 h0 h1 h2 h3 g0 g1 g2 g3
 refine⟨_,?_,hN.of_eq ?_⟩
 ·rw[eU (by omega),show(n+m)/2^256=c3 by simp only[Nat.reducePow]at hlt⊢; omega]
 ·simp only[Nat.reducePow]at hlt⊢; omega
theorem tZ {a b:Nat→Int} {n m:Nat}(ha:IsN a n)(hb:IsN b m): ∃s,w9 a b=some (s,if n<m then 1 else 0)∧IsN s ((n+2^256-m)%2^256):=by
 rw[Tk]; unfold Tj
 obtain⟨x0,x1,x2,x3,e0,e1,e2,e3,h0,h1,h2,h3,hn⟩:=ha.get
 obtain⟨y0,y1,y2,y3,f0,f1,f2,f3,g0,g1,g2,g3,hm⟩:=hb.get
 simp only[e0,e1,e2,e3,f0,f1,f2,f3]
 obtain⟨s0,c0,i0,j0,k0,l0⟩:=a5M h0 g0
 obtain⟨s1,c1,i1,j1,k1,l1⟩:=NA h1 g1 l0
 obtain⟨s2,c2,i2,j2,k2,l2⟩:=NA h2 g2 l1
 obtain⟨s3,c3,i3,j3,k3,l3⟩:=NA h3 g3 l2
 simp only[i0,i1,i2,i3]
 have hS:n+c3*115792089237316195423570985008687907853269984665640564039457584007913129639936=(s0+s1*18446744073709551616+s2*340282366920938463463374607431768211456+s3*6277101735386680763835789423207666416102355444464034512896)+m:=by
  subst hn hm; clear ha hb i0 i1 i2 i3 e0 e1 e2 e3 f0 f1 f2 f3; omega
 have hN:=aiu (f:=fun _=>0) k0 k1 k2 k3
 have hlt:=hN.1
 have hnl:=ha.1
 have hml:=hb.1
 generalize s0+s1*18446744073709551616+s2*340282366920938463463374607431768211456+s3*6277101735386680763835789423207666416102355444464034512896=S at hS hN hlt
 clear hn hm j0 j1 j2 j3 h0 h1 h2 h3 g0 g1 g2 g3
 simp only[Nat.reducePow]at hlt hnl hml⊢
 refine⟨_,?_,hN.of_eq ?_⟩
 ·rw[eU (by omega)]
  by_cases hc:n<m
  ·rw[ax1 hc,show c3=1 by omega]; rfl
  ·rw[awU hc,show c3=0 by omega]; rfl
 ·omega
theorem jy {a:Nat→Int} {n:Nat}(h:IsN a n):yI a=some (iq n:Int):=by
 rw[Tv]; unfold Tt
 obtain⟨x0,x1,x2,x3,e0,e1,e2,e3,h0,h1,h2,h3,hn⟩:=h.get
 simp only[e0,e1,e2,e3]
 have b64: ∀ {i:Nat},i<18446744073709551616→iq i≤64:=fun h=>tX (by simpa using h)
 by_cases c3:x3=0
 ·by_cases c2:x2=0
  ·by_cases c1:x1=0
   ·by_cases c0:x0=0
    ·simp(disch:=omega) only[WW]
     rw[show n=0 by omega]; rfl
    ·have hb:=b64 h0
     simp(disch:=omega) only[CC,WW,lQ h0]
     rw[show n=x0 by omega,axc]
   ·have hb:=b64 h1
    simp(disch:=omega) only[CC,WW,lQ h1]
    have:n/2^64=x1:=by simp only[Nat.reducePow]; omega
    rw[jN (x:=n) (s:=64) (by omega),this]
  ·have hb:=b64 h2
   simp(disch:=omega) only[CC,WW,lQ h2]
   have:n/2^128=x2:=by simp only[Nat.reducePow]; omega
   rw[jN (x:=n) (s:=128) (by omega),this]
 ·have hb:=b64 h3
  simp(disch:=omega) only[CC,WW,lQ h3]
  have:n/2^192=x3:=by simp only[Nat.reducePow]; omega
  rw[jN (x:=n) (s:=192) (by omega),this]
theorem NC {a:Nat→Int} {n:Nat}(h:IsN a n)(k:Int):Au a k=some (if 0≤k∧n.testBit k.toNat then 1 else 0):=by
 rw[Tf]; unfold Te
 by_cases h0:0≤k
 ·by_cases h3:k<256
  ·obtain⟨K,rfl⟩: ∃K:Nat,k=(K:Int):=⟨k.toNat,by omega⟩
   obtain⟨w,h1,h2,h4⟩:=h.bit (i:=K/64) (by omega)
   have h4':=h4 (K%64) (by omega)
   have:=axb (axE w (2^(K%64))) h2
   simp(disch:=omega) only[CC,WW,h1,OQ,a9D]
   rw[OT,h4',show 64*(K/64)+K%64=K by omega]
   simp only[h0,true_and,axd]
  ·rw[axM (axl h.1 (axo (by decide) (by omega)))]
   simp(disch:=omega) only[WW]
   simp
 ·simp(disch:=omega) only[WW]
  simp[h0]
theorem QJ {a:Nat→Int} {n:Nat}(h:IsN a n)(k:Int): ∃b,Ti a k=some b∧IsN b (n*2^k.toNat%2^256):=by
 rw[Xx]; unfold YI
 by_cases h1:k<1
 ·simp(disch:=omega) only[WW]
  refine⟨a,rfl,h.of_eq ?_⟩
  rw[show k.toNat=0 by omega,ayt,ayC,awX h.1]
 ·by_cases h2:256≤k
  ·simp(disch:=omega) only[WW]
   refine⟨_,rfl,IsN.zero.of_eq ?_⟩
   obtain⟨d,hd⟩: ∃d,k.toNat=256+d:=⟨k.toNat-256,by omega⟩
   rw[hd,ayg,Nat.mul_left_comm,Nat.mul_mod_right]
  ·obtain⟨K,rfl⟩: ∃K:Nat,k=(K:Int):=⟨k.toNat,by omega⟩
   simp(disch:=omega) only[CC,WW]
   generalize ho:aB nk _=o
   have hbits: ∀(N:Nat) j,(N*2^K).testBit j=(decide (K≤j)&&N.testBit (j-K)):=fun N j=>by
    rw[axi,ayQ]
   obtain⟨out,hy,hQ⟩:=aO (R:=nk) (fun i out=>a2E ((K/64:Nat):Int) ((K%64:Nat):Int) ((K/64+i:Nat):Int) a (fun _=>0) out) (fun out=>YH (fun _=>0) out)
    (fun i out=> ∀l,l<4→ ∃w:Nat,out l=(w:Int)∧w<18446744073709551616∧ ∀j,j<64→w.testBit j=(decide (l<K/64+i)&&(n*2^K).testBit (64*l+j))) (4-K/64)
    (fun i hi out hP=>by
     obtain⟨w,e1,e2,e3⟩:=h.bit (i:=i) (by omega)
     have hlt:w*2^(K%64)%18446744073709551616<18446744073709551616:=axh _ (by decide)
     have others: ∀v:Nat,(∀j,j<64→v.testBit j=(n*2^K).testBit (64*(K/64+i)+j))→v<18446744073709551616→ ∀out':Nat→Int,(∀l,out' l=if l=K/64+i then(v:Int)else out l)→ ∀l,l<4→ ∃w:Nat,out' l=(w:Int)∧w<18446744073709551616∧ ∀j,j<64→w.testBit j=(decide (l<K/64+(i+1))&&(n*2^K).testBit (64*l+j)):=by
      intro v hv hv2 out' ho' l hl
      by_cases e:l=K/64+i
      ·refine⟨v,by rw[ho' l,ax1 e],hv2,fun j hj=>?_⟩
       rw[hv j hj,e,ax6 (by omega),axy]
      ·obtain⟨u,g1,g2,g3⟩:=hP l hl
       refine⟨u,by rw[ho' l,awU e,g1],g2,fun j hj=>?_⟩
       rw[g3 j hj]; congr 1; rw[ay6]; omega
     have first: ∀j,j<64→(w*2^(K%64)%18446744073709551616).testBit j=(decide (K%64≤j)&&n.testBit (64*i+j-K%64)):=by
      intro j hj
      rw[show(18446744073709551616:Nat)=2^64 by decide,axB,ax6 hj,axy,axi _ (2^_),ayQ]
      by_cases h5:K%64≤j
      ·rw[ax6 h5,axy,axy,e3 _ (by omega)]; congr 1; omega
      ·rw[ax9 h5,axP,axP]
     by_cases h0:i=0
     ·subst h0
      refine⟨upd out (K/64+0) ((w*2^(K%64)%18446744073709551616:Nat):Int),?_,others _ ?_ hlt _ fun l=>rfl⟩
      ·unfold nk
       simp(disch:=omega) only[CC,WW,ay0,ayx,e1,a3m]
      ·intro j hj
       rw[first j hj,hbits]
       congr 1
       ·rw[ay6]; omega
       ·congr 1; omega
     ·obtain⟨v,f1,f2,f3⟩:=h.bit (i:=i-1) (by omega)
      have hlt2:v/2^(64-K%64)<18446744073709551616:=axb (axE _ _) f2
      refine⟨upd (upd out (K/64+i) ((w*2^(K%64)%18446744073709551616:Nat):Int)) (K/64+i) ((w*2^(K%64)%18446744073709551616||| v/2^(64-K%64):Nat):Int),?_,others _ ?_ (axR (n:=64) hlt hlt2) _ fun l=>?_⟩
      ·unfold nk
       simp(disch:=omega) only[CC,WW,azr,e1,f1,a3m,OQ,upd_same,orU,azb]
      ·intro j hj
       rw[ayW,first j hj,hbits,axU]
       by_cases h5:K%64≤j
       ·have h6:v.testBit (j+(64-K%64))=false:=axM (axl (m:=2^64) f2 (axo (by decide) (by omega)))
        rw[h6,ayV]
        congr 1
        ·rw[ay6]; omega
        ·congr 1; omega
       ·rw[ax9 h5,axP,azo,f3 _ (by omega),ax6 (by omega),axy]
        congr 1; omega
      ·simp only[upd]; split<;>rfl)
    (fun out hP=>by
     unfold nk
     simp(disch:=omega) only[CC,WW]) (fun _=>0) (fun l hl=>⟨0,rfl,by decide,fun j hj=>by
      rw[hbits,azB]
      by_cases h5:l<K/64+0
      ·rw[ax9 (show¬K≤64*l+j by omega)]; simp
      ·rw[ax9 h5]; simp⟩)
   have hy':aB nk _=_:=hy
   rw[ay0]at hy'
   obtain rfl:=ho.symm.trans hy'
   refine⟨out,rfl,IsN.ofBits (axh _ (by decide)) fun l hl=>?_⟩
   obtain⟨w,e1,e2,e3⟩:=hQ l hl
   refine⟨w,e1,e2,fun j hj=>?_⟩
   rw[e3 j hj,axB,ax6 (by omega),ax6 (by omega)]
theorem Ka {a:Nat→Int} {n:Nat}(h:IsN a n)(k:Int): ∃b,Gb a k=some b∧IsN b (n/2^k.toNat):=by
 rw[Qb]; unfold Om
 by_cases h1:k<1
 ·simp(disch:=omega) only[WW]
  refine⟨a,rfl,h.of_eq ?_⟩
  rw[show k.toNat=0 by omega,ayt,azC]
 ·by_cases h2:256≤k
  ·simp(disch:=omega) only[WW]
   refine⟨_,rfl,IsN.zero.of_eq ?_⟩
   rw[axX (axl h.1 (axo (by decide) (by omega)))]
  ·obtain⟨K,rfl⟩: ∃K:Nat,k=(K:Int):=⟨k.toNat,by omega⟩
   simp(disch:=omega) only[CC,WW]
   generalize ho:aB kX _=o
   have hbits: ∀j,(n/2^K).testBit j=n.testBit (j+K):=fun j=>axU ..
   obtain⟨out,hy,hQ⟩:=aO (R:=kX) (fun i out=>YK ((K/64:Nat):Int) ((K%64:Nat):Int) ((4-K/64:Nat):Int) (i:Int) a (fun _=>0) out) (fun out=>Tw (fun _=>0) out)
    (fun i out=> ∀l,l<4→ ∃w:Nat,out l=(w:Int)∧w<18446744073709551616∧ ∀j,j<64→w.testBit j=(decide (l<i)&&n.testBit (64*l+j+K))) (4-K/64)
    (fun i hi out hP=>by
     obtain⟨w,e1,e2,e3⟩:=h.bit (i:=i+K/64) (by omega)
     have hlt:w/2^(K%64)<18446744073709551616:=axb (axE _ _) e2
     have others: ∀v:Nat,(∀j,j<64→v.testBit j=n.testBit (64*i+j+K))→v<18446744073709551616→ ∀out':Nat→Int,(∀l,out' l=if l=i then(v:Int)else out l)→ ∀l,l<4→ ∃w:Nat,out' l=(w:Int)∧w<18446744073709551616∧ ∀j,j<64→w.testBit j=(decide (l<i+1)&&n.testBit (64*l+j+K)):=by
      intro v hv hv2 out' ho' l hl
      by_cases e:l=i
      ·refine⟨v,by rw[ho' l,ax1 e],hv2,fun j hj=>?_⟩
       rw[hv j hj,e,ax6 (by omega),axy]
      ·obtain⟨u,g1,g2,g3⟩:=hP l hl
       refine⟨u,by rw[ho' l,awU e,g1],g2,fun j hj=>?_⟩
       rw[g3 j hj]; congr 1; rw[ay6]; omega
     have first: ∀j,j<64→(w/2^(K%64)).testBit j=(decide (j+K%64<64)&&n.testBit (64*i+j+K)):=by
      intro j hj
      rw[axU]
      by_cases h5:j+K%64<64
      ·rw[ax6 h5,axy,e3 _ h5]; congr 1; omega
      ·rw[ax9 h5,axP]
       exact axM (axl (m:=2^64) e2 (axo (by decide) (by omega)))
     by_cases h0:i+K/64+1<4
     ·obtain⟨v,f1,f2,f3⟩:=h.bit (i:=i+K/64+1) (by omega)
      have hlt2:v*2^(64-K%64)%18446744073709551616<18446744073709551616:=axh _ (by decide)
      refine⟨upd (upd out i ((w/2^(K%64):Nat):Int)) i ((w/2^(K%64)||| v*2^(64-K%64)%18446744073709551616:Nat):Int),?_,others _ ?_ (axR (n:=64) hlt hlt2) _ fun l=>?_⟩
      ·unfold kX
       simp(disch:=omega) only[CC,WW,e1,f1,a3m,OQ,upd_same,orU]
      ·intro j hj
       rw[ayW,first j hj,show(18446744073709551616:Nat)=2^64 by decide,axB,ax6 hj,axy,axi _ (2^_),ayQ]
       by_cases h5:j+K%64<64
       ·rw[ax6 h5,ax9 (show¬j≥64-K%64 by omega),axy,axP,ayV]
       ·rw[ax9 h5,ax6 (show j≥64-K%64 by omega),axy,axP,azo,f3 _ (by omega)]
        congr 1; omega
      ·simp only[upd]; split<;>rfl
     ·refine⟨upd out i ((w/2^(K%64):Nat):Int),?_,others _ ?_ hlt _ fun l=>rfl⟩
      ·unfold kX
       simp(disch:=omega) only[CC,WW,e1,OQ]
      ·intro j hj
       rw[first j hj]
       by_cases h5:j+K%64<64
       ·rw[ax6 h5,axy]
       ·rw[ax9 h5,axP]
        exact(axM (axl h.1 (axo (by decide) (by omega)))).symm)
    (fun out hP=>by
     unfold kX
     simp(disch:=omega) only[CC,WW]) (fun _=>0) (fun l hl=>⟨0,rfl,by decide,fun j hj=>by
      rw[azB,ax9 (axv l),axP]⟩)
   obtain rfl:=ho.symm.trans hy
   refine⟨out,rfl,IsN.ofBits (axb (axE _ _) h.1) fun l hl=>?_⟩
   obtain⟨w,e1,e2,e3⟩:=hQ l hl
   refine⟨w,e1,e2,fun j hj=>?_⟩
   rw[e3 j hj,hbits]
   by_cases h5:l<4-K/64
   ·rw[ax6 h5,axy]
   ·rw[ax9 h5,axP]
    exact(axM (axl h.1 (axo (by decide) (by omega)))).symm
open Go Go.Den Go.Num
end Go.Pl
