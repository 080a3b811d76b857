/-
 Powers below an odd natural.
-/
import Derived.Test.YtldlihheppdhnaaGreatMB
import Derived.Test.YtldlihheppdhnaaGreatPlA
set_option linter.unusedVariables false
set_option linter.unusedSimpArgs false
namespace Go.Pl
open Go Go.Den Go.Num
theorem a1r {M k:Nat}(h:M%2=1):Nat.Coprime M (2^k):=by apply Nat.Coprime.pow_right;show Nat.gcd M 2=1;rw[Nat.gcd_comm,Nat.gcd_rec,h];rfl
def IsT(t:Nat->Int)(V:Nat):Prop:=V<2^192*2^192/\ ∀i,i<6->t i=((V/18446744073709551616^i%18446744073709551616:Nat):Int)
theorem a3R:(2:Nat)^192*2^192=39402006196394479212279040100143613805079739270465446667948293404245721771497210611414266254884915640806627990306816:=by decide
theorem IsT.zero:IsT (λ_=>0) 0:=⟨by rw[a3R];decide,λi hi=>by simp⟩
theorem IsT.mk {t:Nat->Int}{x0 x1 x2 x3 x4 x5:Nat}(h0:t 0=x0)(h1:t 1=x1)(h2:t 2=x2)(h3:t 3=x3)(h4:t 4=x4)(h5:t 5=x5)(b0:x0<18446744073709551616)(b1:x1<18446744073709551616)(b2:x2<18446744073709551616)(b3:x3<18446744073709551616)(b4:x4<18446744073709551616)(b5:x5<18446744073709551616):
  IsT t (x0+x1*18446744073709551616+x2*340282366920938463463374607431768211456+x3*6277101735386680763835789423207666416102355444464034512896+x4*115792089237316195423570985008687907853269984665640564039457584007913129639936+x5*2135987035920910082395021706169552114602704522356652769947041607822219725780640550022962086936576):=by
 refine⟨by rw[a3R];omega,λi hi=>?_⟩
 match i,hi with
 |0,_=>rw[h0];congr 1;simp only[Nat.reducePow];omega
 |1,_=>rw[h1];congr 1;simp only[Nat.reducePow];omega
 |2,_=>rw[h2];congr 1;simp only[Nat.reducePow];omega
 |3,_=>rw[h3];congr 1;simp only[Nat.reducePow];omega
 |4,_=>rw[h4];congr 1;simp only[Nat.reducePow];omega
 |5,_=>rw[h5];congr 1;simp only[Nat.reducePow];omega
theorem IsT.get {t:Nat->Int}{V:Nat}(h:IsT t V): ∃x0 x1 x2 x3 x4 x5:Nat,t 0=x0/\t 1=x1/\t 2=x2/\t 3=x3/\t 4=x4/\t 5=x5/\x0<18446744073709551616/\x1<18446744073709551616/\x2<18446744073709551616/\x3<18446744073709551616/\x4<18446744073709551616/\x5<18446744073709551616/\
  V=x0+x1*18446744073709551616+x2*340282366920938463463374607431768211456+x3*6277101735386680763835789423207666416102355444464034512896+x4*115792089237316195423570985008687907853269984665640564039457584007913129639936+x5*2135987035920910082395021706169552114602704522356652769947041607822219725780640550022962086936576:=by
 have hlt:=h.1;rw[a3R]at hlt;refine⟨_,_,_,_,_,_,h.2 0 (by omega),h.2 1 (by omega),h.2 2 (by omega),h.2 3 (by omega),h.2 4 (by omega),h.2 5 (by omega),?_⟩;simp only[Nat.reducePow];omega
theorem IsT.shift {t:Nat->Int}{V:Nat}(h:IsT t V):IsT (upd (tO t 0 5 (λj=>t (1+j))) 5 0) (V/18446744073709551616):=by
 have hlt:=h.1;refine⟨axB (ay1 _ _) hlt,λi hi=>?_⟩;by_cases e:i=5
 ·subst e;rw[upd_same,ayq,ayl]
  ·rfl
  ·rw[a3R]at hlt;simp only[Nat.reducePow,Nat.reduceMul];exact hlt
 ·have:upd (tO t 0 5 (λj=>t (1+j))) 5 0 i=t (1+i):=by rw[upd_ne e];unfold tO;rw[axp (by omega)];rfl
  rw[this,h.2 (1+i) (by omega),ayq,ayK 1 i,ayQ,axH (18446744073709551616^i)]
theorem IsT.of_eq' {t:Nat->Int}{n m:Nat}(h:IsT t n)(e:n=m):IsT t m:=e▸h
theorem Ic {t b:Nat->Int}{x V y:Nat}(ht:IsT t V)(hx:x<18446744073709551616)(hb:IsN b y)(hlt:V+x*y<2^192*2^192):
  ∃t',iH t (x:Int) b=some t'/\IsT t' (V+x*y):=by
 rw[MR];unfold L6;obtain⟨o0,o1,o2,o3,o4,o5,e0,e1,e2,e3,e4,e5,h0,h1,h2,h3,h4,h5,hV⟩:=ht.get;obtain⟨y0,y1,y2,y3,f0,f1,f2,f3,g0,g1,g2,g3,hy⟩:=hb.get;obtain⟨h00,l00,s00,c00,t00,d00,n00,h01,l01,s01,c01,t01,d01,n01,h02,l02,s02,c02,t02,d02,n02,h03,l03,s03,c03,t03,d03,n03,p00,q00,r00,w00,p01,q01,r01,w01,p02,q02,r02,w02,p03,q03,r03,w03,b00,b01,b02,b03,bn0,E0⟩:=Vh hx g0 g1 g2 g3 h0 h1 h2 h3;obtain⟨s4,c4,a1,a2,a3,a4⟩:=J6 h4 bn0;simp only[e0,e1,e2,e3,e4,e5,f0,f1,f2,f3];simp only[p00,q00,r00,w00,p01,q01,r01,w01,p02,q02,r02,w02,p03,q03,r03,w03,a1];rw[<-hy]at E0;rw[a3R,hV]at hlt;have hsum:V+x*y=t00+t01*18446744073709551616+t02*340282366920938463463374607431768211456+t03*6277101735386680763835789423207666416102355444464034512896+s4*115792089237316195423570985008687907853269984665640564039457584007913129639936+(o5+c4)*2135987035920910082395021706169552114602704522356652769947041607822219725780640550022962086936576:=by rw[hV];generalize x*y=P at*;clear ht hb e0 e1 e2 e3 e4 e5 f0 f1 f2 f3 p00 q00 r00 w00 p01 q01 r01 w01 p02 q02 r02 w02 p03 q03 r03 w03 a1 h0 h1 h2 h3 h4 h5 g0 g1 g2 g3 b00 b01 b02 b03 bn0 hy hV hlt;omega
 have hc:o5+c4<18446744073709551616:=by rw[<-hV,hsum]at hlt;clear hsum E0;omega
 rw[NS,Cw hc];refine⟨_,rfl,IsT.of_eq' (IsT.mk rfl rfl rfl rfl rfl rfl b00 b01 b02 b03 a3 hc) hsum.symm⟩
abbrev tH:=(Nat->Int)×(Int×((Nat->Int)×(Nat->Int)))
structure lg(r:tH)(M:Nat):Prop where
 m:IsN r.1 M
 odd:M%2=1
 one:1<M
 inv: ∃k:Nat,r.2.1=(k:Int)/\k<18446744073709551616/\(M*k+1)%18446744073709551616=0
 r1:IsN r.2.2.1 (2^256%M)
 r2:IsN r.2.2.2 (2^256*2^256%M)
theorem lg.pos {r:tH}{M:Nat}(h:lg r M):0<M:=by have:=h.one;omega
theorem lg.cop {r:tH}{M:Nat}(h:lg r M):Nat.Coprime M (2^256):=a1r h.odd
theorem aah {V V' a q y M P r:Nat}(h:V'*18446744073709551616=V+a*y+q*M)(hV:V*P%M=r*y%M):
  V'*(18446744073709551616*P)%M=(r+P*a)*y%M:=by
 have e1:V'*(18446744073709551616*P)=V*P+a*y*P+q*P*M:=by rw[<-ay2,h,axQ,axQ,azl q]
 have e3:a*y*P=P*a*y:=by rw[axH P a,azl]
 rw[e1,ayZ,axQ,azC,hV,<-azC,e3]
theorem J8 {V V' a q y M k:Nat}(hM:0<M)(h:V'*18446744073709551616=V+a*y+q*M){x:Nat}(hV:V*2^(64*k)%M=(x%2^(64*k))*y%M)(ha:a=x/2^(64*k)%18446744073709551616):
  V'*2^(64*(k+1))%M=(x%2^(64*(k+1)))*y%M:=by
 have e2:x%2^(64*(k+1))=x%2^(64*k)+2^(64*k)*a:=by rw[show 64*(k+1)=64*k+64 by omega,ayF,Nat.mod_mul,ha]
 have e3:(2:Nat)^(64*(k+1))=18446744073709551616*2^(64*k):=by rw[show 64*(k+1)=64+64*k by omega,ayF]
 rw[e2,e3];exact aah h hV
theorem abw {V V' a q y M:Nat}(h:V'*18446744073709551616=V+a*y+q*M)(hV:V<2*M)(ha:a<18446744073709551616)(hq:q<18446744073709551616)(hy:y<M):V'<2*M:=by have h1:a*y<=18446744073709551615*y:=axF _ (by omega);have h2:q*M<=18446744073709551615*M:=axF _ (by omega);omega
theorem aj2 {U M k:Nat}(hk:(M*k+1)%18446744073709551616=0):(U+(U%18446744073709551616*k%18446744073709551616)*M)%18446744073709551616=0:=by
 have h1:(U+(U%18446744073709551616*k%18446744073709551616)*M)%18446744073709551616=(U*(M*k+1))%18446744073709551616:=by
  have h2:(U%18446744073709551616*k%18446744073709551616)*M%18446744073709551616=(U*k*M)%18446744073709551616:=by rw[Nat.mod_mul_mod,ay2,Nat.mod_mul_mod,ay2]
  rw[azC,h2,<-azC,azo,az0,ayK,ay2,axH k M]
 rw[h1,ayW,hk,Nat.mul_zero,Nat.zero_mod]
theorem Ar {r:tH}{M:Nat}(hr:lg r M){a b:Nat->Int}{x y:Nat}(ha:IsN a x)(hb:IsN b y)(hy:y<M):
  ∃z Z,d9 (some r) a b=some z/\IsN z Z/\Z<M/\Z*2^256%M=x*y%M:=by
 rw[Bf];unfold rE;obtain⟨inv,k1,k2,k3⟩:=hr.inv;have hM:=hr.m;have hM256:=hM.1;have hpos:=hr.pos;obtain⟨m,i,o1,o2⟩:=r;simp only at k1 hM;subst k1;have hdig: ∀j,j<4-> ∃w:Nat,a j=(w:Int)/\w<18446744073709551616/\w=x/2^(64*j)%18446744073709551616:=λj hj=>⟨_,ha.2 j hj,axG _ (by decide),rfl⟩
 have round: ∀(t:Nat->Int) (V w:Nat),IsT t V->V<2*M->w<18446744073709551616-> ∃(t1 t2:Nat->Int) (V' u:Nat),iH t (w:Int) b=some t1/\t1 0=(u:Int)/\
   iH t1 (IntKind.u64.wrap ((u:Int)*(inv:Int))) m=some t2/\IsT (upd (tO t2 0 5 (λj=>t2 (1+j))) 5 0) V'/\V'<2*M/\ ∃q,V'*18446744073709551616=V+w*y+q*M:=by
  intro t V w ht hV hw;have hwy:w*y<=18446744073709551615*y:=axF _ (by omega);obtain⟨t1,a1,a2⟩:=Ic ht hw hb (by rw[a3R];omega);have hu:=a2.2 0 (by omega);rw[ayV,azY]at hu;have hq:(V+w*y)%18446744073709551616*inv%18446744073709551616<18446744073709551616:=axG _ (by decide);have hqM:(V+w*y)%18446744073709551616*inv%18446744073709551616*M<=18446744073709551615*M:=axF _ (by omega);obtain⟨t2,b1,b2⟩:=Ic a2 hq hM (by rw[a3R];omega);have hdiv:=aj2 (U:=V+w*y) k3;have hV':(V+w*y+(V+w*y)%18446744073709551616*inv%18446744073709551616*M)/18446744073709551616*18446744073709551616=V+w*y+(V+w*y)%18446744073709551616*inv%18446744073709551616*M:=by have h5:=ay3 (V+w*y+(V+w*y)%18446744073709551616*inv%18446744073709551616*M) 18446744073709551616;rw[hdiv]at h5;omega
  refine⟨t1,t2,_,_,a1,hu,?_,b2.shift,abw hV' hV hw hq hy,_,hV'⟩;rw[a1m,wrap_u64,b1]
 obtain⟨w0,c0,d0,e0⟩:=hdig 0 (by omega);obtain⟨w1,c1,d1,e1⟩:=hdig 1 (by omega);obtain⟨w2,c2,d2,e2⟩:=hdig 2 (by omega);obtain⟨w3,c3,d3,e3⟩:=hdig 3 (by omega);obtain⟨t1,t2,V1,u1,p1,p2,p3,p4,p5,q1,p6⟩:=round (λ_=>0) 0 w0 IsT.zero (by omega) d0;obtain⟨t3,t4,V2,u2,g1,g2,g3,g4,g5,q2,g6⟩:=round _ V1 w1 p4 p5 d1;obtain⟨t5,t6,V3,u3,h1,h2,h3,h4,h5,q3,h6⟩:=round _ V2 w2 g4 g5 d2;obtain⟨t7,t8,V4,u4,i1,i2,i3,i4,i5,q4,i6⟩:=round _ V3 w3 h4 h5 d3;clear round hdig;have s1:=J8 (k:=0) (x:=x) hpos p6 (by simp[Nat.mod_one]) e0;have s2:=J8 (k:=1) (x:=x) hpos g6 s1 e1;have s3:=J8 (k:=2) (x:=x) hpos h6 s2 e2;have s4:=J8 (k:=3) (x:=x) hpos i6 s3 e3;rw[show 64*(3+1)=256 from rfl,axk ha.1]at s4;simp only[c0,c1,c2,c3,p1,p2,p3,g1,g2,g3,h1,h2,h3,i1,i2,i3];clear p1 p2 p3 p4 g1 g2 g3 g4 h1 h2 h3 h4 i1 i2 i3 s1 s2 s3 p6 g6 h6 i6;have hz5:t8 5=((V4/2^256%2^64:Nat):Int):=by have:=i4.2 4 (by omega);rw[upd_ne (by omega)]at this;unfold tO at this;rw[axp (by omega),show 18446744073709551616^4=2^256 by decide]at this;exact this
 generalize hout:(λj=>upd (tO t8 0 5 (λj=>t8 (1+j))) 5 0 (0+j))=out;have hN:IsN out (V4%2^256):=by
  refine⟨axG _ (by decide),λj hj=>?_⟩;rw[<-hout];show upd (tO t8 0 5 (λj=>t8 (1+j))) 5 0 (0+j)=_;rw[axA,i4.2 j (by omega)]
  congr 1
  rw[show(18446744073709551616:Nat)=2^64 by decide,<-azg];apply ayU;intro b;simp only[axY,ayi];by_cases hb:b<64
  ·rw[axw hb,axw (show b+64*j<256 by omega),axV,axV]
  ·rw[axz hb,ayd,ayd]
 have hred: ∀Z,Z+M=V4->Z*2^256%M=x*y%M:=by intro Z hZ;rw[<-s4,<-hZ,axQ,axH M,ayZ]
 obtain⟨d,f1,f2⟩:=uR hN hM;by_cases hbig:2^256<=V4
 ·have hnz:V4/2^256%2^64≠0:=by simp only[Nat.reducePow]at*;omega
  generalize V4/2^256%2^64=g at hz5 hnz;simp(disch:=omega) only[WW,hz5,f1];exact⟨d,V4-M,rfl,f2.of_eq (by omega),by omega,hred _ (by omega)⟩
 ·have hz:V4/2^256%2^64=0:=by rw[ayl (by omega)]
  rw[hz]at hz5;have hN':=hN.of_eq (axk (show V4<2^256 by omega));by_cases hc:V4<M
  ·simp(disch:=omega) only[WW,hz5,fJ hN' hM,Dz,axp hc];exact⟨out,V4,rfl,hN',hc,s4⟩
  ·have hc':(0:Int)<=if M<V4 then 1 else 0:=by split<;>decide
   simp(disch:=omega) only[WW,hz5,fJ hN' hM,Dz,axi hc,f1];exact⟨d,V4-M,rfl,f2.of_eq (by omega),by omega,hred _ (by omega)⟩
theorem lq {r:tH}{M:Nat}(hr:lg r M){a b:Nat->Int}{u v:Nat}(ha:IsN a (u*2^256%M))(hb:IsN b (v*2^256%M)):
  ∃z,d9 (some r) a b=some z/\IsN z (u*v*2^256%M):=by
 obtain⟨z,Z,h1,h2,h3,h4⟩:=Ar hr ha hb (axG _ hr.pos);refine⟨z,h1,h2.of_eq ?_⟩;rw[<-axk h3];apply wG (c:=2^256) hr.cop;rw[h4,<-ayW];rw[Nat.mul_mul_mul_comm,ay2 (u*v)]
theorem Vm {r:tH}{M:Nat}(hr:lg r M){a b:Nat->Int}{u v:Nat}(ha:IsN a (u*2^256%M))(hb:IsN b v)(hv:v<M):
  ∃z,d9 (some r) a b=some z/\IsN z (u*v%M):=by
 obtain⟨z,Z,h1,h2,h3,h4⟩:=Ar hr ha hb hv;refine⟨z,h1,h2.of_eq ?_⟩;rw[<-axk h3];apply wG (c:=2^256) hr.cop;rw[h4,Nat.mod_mul_mod];rw[azl]
theorem mI {r:tH}{M:Nat}(hr:lg r M):bX (some r)=some true:=by
 rw[lS];unfold pE;obtain⟨k,k1,k2,k3⟩:=hr.inv;have:k≠0:=by rintro rfl;omega
 simp(disch:=omega) only[k1,WW]
theorem RN:bX none=some false:=by rw[lS];rfl
theorem Xh {r:tH}{M:Nat}(hr:lg r M){a:Nat->Int}{x:Nat}(ha:IsN a x): ∃z,qK (some r) a=some z/\IsN z (x%M):=by
 rw[D6];unfold ug;obtain⟨z,z1,z2⟩:=Aq ha hr.m hr.pos;by_cases hc:x<M
 ·simp(disch:=omega) only[WW,fJ ha hr.m,Dz,axp hc];exact⟨a,rfl,ha.of_eq (axk hc).symm⟩
 ·have hc': ¬(if M<x then(1:Int)else 0)<0:=by split<;>decide
  simp(disch:=omega) only[WW,fJ ha hr.m,Dz,axi hc,z1];exact⟨z,rfl,z2⟩
theorem Vn {r:tH}{M:Nat}(hr:lg r M){a:Nat->Int}{x:Nat}(ha:IsN a x): ∃z,nZ (some r) a=some z/\IsN z (x*2^256%M):=by rw[Bg];unfold rF;obtain⟨l,l1,l2⟩:=Xh hr ha;obtain⟨z,Z,h1,h2,h3,h4⟩:=Ar hr l2 hr.r2 (axG _ hr.pos);simp(disch:=omega) only[WW,mI hr,l1,h1];refine⟨z,rfl,h2.of_eq ?_⟩;rw[<-axk h3];apply wG (c:=2^256) hr.cop;rw[h4,<-ayW,ay2]
theorem a1s {r:tH}{M:Nat}(hr:lg r M):fT (some r)=some r.1:=by rw[Ab];unfold uo;simp(disch:=omega) only[WW,mI hr]
theorem pU {r:tH}{M:Nat}(hr:lg r M){a:Nat->Int}{x:Nat}(ha:IsN a x):dx (some r) a=some (decide (x<M)):=by
 rw[F3];unfold wY;by_cases hc:x<M
 ·simp(disch:=omega) only[WW,mI hr,fJ ha hr.m,Dz,axp hc]
 ·have hc': ¬(if M<x then(1:Int)else 0)<0:=by split<;>decide
  simp(disch:=omega) only[WW,mI hr,fJ ha hr.m,Dz,axi hc]
theorem Vo {m x d D:Int}(h:d∣m*x-1)(hd:D∣d*d)(hD:D∣18446744073709551616):
  D∣m*((x*((2-(m*x)%18446744073709551616)%18446744073709551616))%18446744073709551616)-1:=by
 obtain⟨c,hc⟩:=h;obtain⟨e,he⟩:=hd;obtain⟨f,hf⟩:=hD;have h1:=Int.mul_ediv_add_emod (m*x) 18446744073709551616;generalize (m*x)%18446744073709551616=r1 at*;generalize (m*x)/18446744073709551616=q1 at*;have h2:=Int.mul_ediv_add_emod (2-r1) 18446744073709551616;generalize (2-r1)%18446744073709551616=r2 at*;generalize (2-r1)/18446744073709551616=q2 at*;have h3:=Int.mul_ediv_add_emod (x*r2) 18446744073709551616;generalize (x*r2)%18446744073709551616=r3 at*;generalize (x*r2)/18446744073709551616=q3 at*;refine⟨-(e*c*c)+m*x*f*q1-m*x*f*q2-m*f*q3,?_⟩;have e3:r3=x*r2-18446744073709551616*q3:=by omega
 have e2:r2=2-r1-18446744073709551616*q2:=by omega
 have e1:r1=m*x-18446744073709551616*q1:=by omega
 have e0:m*x=1+d*c:=by omega
 rw[e3,e2,e1,hf]
 grind
theorem a6o(x:Int):IntKind.u64.wrap x=x%18446744073709551616:=J4 x
theorem aai {m:Nat}(hm:m<18446744073709551616)(hodd:m%2=1): ∀t t1 t2 t3 t4:Int,
  t=(IntKind.u64.wrap ((m:Int)*(IntKind.u64.wrap (2-(IntKind.u64.wrap ((m:Int)*(m:Int)))))))->
  t1=(IntKind.u64.wrap ((m:Int)*(IntKind.u64.wrap (t*(IntKind.u64.wrap (2-(IntKind.u64.wrap ((m:Int)*t))))))))->
  t2=(IntKind.u64.wrap ((IntKind.u64.wrap (t*(IntKind.u64.wrap (2-(IntKind.u64.wrap ((m:Int)*t))))))*(IntKind.u64.wrap (2-t1))))->
  t3=(IntKind.u64.wrap ((m:Int)*(IntKind.u64.wrap (t2*(IntKind.u64.wrap (2-(IntKind.u64.wrap ((m:Int)*t2))))))))->
  t4=(IntKind.u64.wrap ((IntKind.u64.wrap (t2*(IntKind.u64.wrap (2-(IntKind.u64.wrap ((m:Int)*t2))))))*(IntKind.u64.wrap (2-t3))))->
  ∃k:Nat,IntKind.u64.wrap (0-t4)=(k:Int)/\k<18446744073709551616/\(m*k+1)%18446744073709551616=0:=by
 intro t t1 t2 t3 t4 h0 h1 h2 h3 h4;subst h1;subst h3;simp only[a6o]at*;have k3:(8:Int)∣(m:Int)*(m:Int)-1:=by
  have:m*m%8=1:=by
   rw[ayW];have:m%8=1\/m%8=3\/m%8=5\/m%8=7:=by omega
   rcases this with h|h|h|h<;>rw[h]
  have e:((m:Int)*(m:Int))=((m*m:Nat):Int):=rfl;rw[e];omega
 have k6:=Vo (D:=64) k3 ⟨1,by decide⟩ ⟨288230376151711744,by decide⟩;rw[<-h0]at k6;have k12:=Vo (D:=4096) k6 ⟨1,by decide⟩ ⟨4503599627370496,by decide⟩;have k24:=Vo (D:=16777216) k12 ⟨1,by decide⟩ ⟨1099511627776,by decide⟩;rw[<-h2]at k24;have k48:=Vo (D:=281474976710656) k24 ⟨1,by decide⟩ ⟨65536,by decide⟩;have k64:=Vo (D:=18446744073709551616) k48 ⟨4294967296,by decide⟩ ⟨1,by decide⟩;rw[<-h4]at k64;refine⟨((0-t4)%18446744073709551616).toNat,by omega,by omega,?_⟩;have e1:(((0-t4)%18446744073709551616).toNat:Int)=(0-t4)%18446744073709551616:=azv (Int.emod_nonneg _ (by decide));have h5:=Int.mul_ediv_add_emod (0-t4) 18446744073709551616;have e2:((m*((0-t4)%18446744073709551616).toNat+1:Nat):Int)%18446744073709551616=0:=by
  rw[Int.natCast_add,Int.natCast_mul,e1];obtain⟨c,hc⟩:=k64;generalize (0-t4)/18446744073709551616=q at*;have e3:(0-t4)%18446744073709551616=0-t4-18446744073709551616*q:=by omega
  rw[e3];have e4:(m:Int)*(0-t4-18446744073709551616*q)+((1:Nat):Int)=18446744073709551616*(-c-m*q):=by
   have:((1:Nat):Int)=1:=rfl;rw[this]
   grind
  rw[e4];exact Int.mul_emod_right _ _
 omega
theorem IsN.lowbit {a:Nat->Int}{n:Nat}(h:IsN a n):av .and .u64 (a 0) 1=((n%2:Nat):Int):=by
 obtain⟨x0,x1,x2,x3,e0,e1,e2,e3,h0,h1,h2,h3,hn⟩:=h.get;rw[e0,aad h0]
 congr 1;omega
theorem mV {m:Nat->Int}{M:Nat}(hm:IsN m M):
  (M%2=0\/M=1->xQ m=some (none,1))/\(M%2=1->M≠1-> ∃r,xQ m=some (some r,0)/\lg r M/\r.1=m):=by
 rw[Qy];unfold OP;obtain⟨o,o1,o2⟩:=oL (n:=1) (by decide);have o2':IsN o 1:=o2;simp only[hm.lowbit];by_cases h0:M%2=0
 ·refine⟨λ_=>?_,λh=>by omega⟩;simp(disch:=omega) only[WW,h0]
 ·by_cases h1:M=1
  ·refine⟨λ_=>?_,λ_ h=>absurd h1 h⟩;simp(disch:=omega) only[WW,o1,hm.eqb o2']
  ·refine⟨λh=>by omega,λ_ _=>?_⟩;have hpos:0<M:=by omega
   obtain⟨a,a1,a2⟩:=Cz IsN.zero o2' hm hpos;obtain⟨b,b1,b2⟩:=Pp a2 a2 hm hpos;obtain⟨x0,x1,x2,x3,e0,e1,e2,e3,g0,g1,g2,g3,hn⟩:=hm.get;obtain⟨k,k1,k2,k3⟩:=aai g0 (by omega) _ _ _ _ _ rfl rfl rfl rfl rfl;simp(disch:=omega) only[WW,o1,hm.eqb o2',a1,b1,e0];refine⟨_,rfl,⟨hm,by omega,by omega,⟨k,k1,k2,?_⟩,a2.of_eq (by rw[ayE,ayo]),b2.of_eq (by rw[ayE,ayo,<-ayW])⟩,rfl⟩;have e4:M*k+1=(x0*k+1)+18446744073709551616*((x1+x2*18446744073709551616+x3*340282366920938463463374607431768211456)*k):=by
    rw[<-ay2,hn];have:x0+x1*18446744073709551616+x2*340282366920938463463374607431768211456+x3*6277101735386680763835789423207666416102355444464034512896=x0+18446744073709551616*(x1+x2*18446744073709551616+x3*340282366920938463463374607431768211456):=by omega
    rw[this,axQ];omega
   rw[e4,azB];exact k3
theorem adp {a b:Nat}(h:a<=b):Nat.ble a b=true:=axu h
theorem asg {a b:Nat}(h: ¬a<=b):Nat.ble a b=false:=by
 cases hb:Nat.ble a b
 ·rfl
 ·exact absurd (axx hb) h
def jk(f:Nat->Nat):Nat->Nat|0=>1|n+1=>jk f n*f n
theorem Ie {f g:Nat->Nat} : ∀ {n:Nat},(∀i,i<n->f i=g i)->jk f n=jk g n:=by
 intro n
 induction n with
 |zero=>intro h;rfl
 |succ n ih=>intro h;rw[jk,jk,ih λi hi=>h i (by omega),h n (by omega)]
theorem a6p: ∀n,jk (λ_=>1) n=1:=by
 intro n
 induction n with
 |zero=>rfl
 |succ n ih=>rw[jk,ih]
theorem a1t(B e d:Nat->Nat): ∀n,jk (λi=>B i^e i) n^16*jk (λi=>B i^d i) n=jk (λi=>B i^(16*e i+d i)) n:=by
 intro n
 induction n with
 |zero=>rfl
 |succ n ih=>
  rw[jk,jk,jk,<-ih,Nat.mul_pow,Nat.mul_mul_mul_comm,ayF,<-azg,axH (e n) 16]
theorem Pv {r:tH}{M:Nat}(hr:lg r M){a:Nat->Int}{x:Nat}(ha:IsN a x):
  ∃out,pF (some r) a=some out/\ ∀d,d<16->IsN (out d) (x^d*2^256%M):=by
 rw[yO];unfold nI;obtain⟨f,f1,f2⟩:=Vn hr ha;simp only[f1];generalize ho:aD eU _=o;obtain⟨out,hy,hQ⟩:=aP (R:=eU) (λk out=>Gz r ((1+k:Nat):Int) (λ_=>λ_=>0) out f) (λout=>Ee (λ_=>λ_=>0) out)
  (λk out=> ∀d,d<1+k->IsN (out d) (x^d*2^256%M)) 15
  (λk hk out hP=>by
   obtain⟨z,z1,z2⟩:=lq hr (hP k (by omega)) f2;refine⟨upd out (1+k) z,?_,λd hd=>?_⟩
   ·unfold eU;simp(disch:=omega) only[CC,WW,azN,z1,azy]
   ·by_cases e:d=1+k
    ·subst e;rw[upd_same,ayK,ayQ];exact z2
    ·rw[upd_ne e];exact hP d (by omega))
  (λout hP=>by
   unfold eU;simp(disch:=omega) only[CC,WW]) (upd (λ_=>λ_=>0) 0 r.2.2.1) (λd hd=>by
    obtain rfl:d=0:=by omega
    rw[upd_same,ayV,ayE];exact hr.r1)
 obtain rfl:=ho.symm.trans hy;exact⟨out,rfl,λd hd=>hQ d (by omega)⟩
theorem RO {e:Nat->Int}{E:Nat}(he:IsN e E)(at_:Nat):pG e (at_:Int)=some ((E/2^at_%16:Nat):Int):=by
 rw[yP];unfold uh;obtain⟨a,a1,a2⟩:=Kv he at_;obtain⟨b,b1,b2⟩:=R7 a2 252;obtain⟨c,c1,c2⟩:=Kv b2 252;have hv:E/2^at_*2^252%2^256/2^252=E/2^at_%16:=by generalize E/2^at_=v;rw[show(2:Nat)^256=16*2^252 by decide,Nat.mul_mod_mul_right,Nat.mul_div_cancel _ (azp (by decide))]
 simp only[a1,b1,c1];have c3:=c2.of_eq (m:=E/2^at_%16) hv;rw[uQ c3,axp (by omega)]
theorem Ig {r:tH}{M:Nat}(hr:lg r M){n:Nat}(hn:n<=64){bases exps:Nat->(Nat->Int)}{B E:Nat->Nat}(hB: ∀i,i<n->IsN (bases i) (B i))(hE: ∀i,i<n->IsN (exps i) (E i)):
  ∃z,dY (some r) n bases n exps=some (z,0)/\IsN z (jk (λi=>B i^E i) n%M):=by
 rw[uj];unfold mE;simp(disch:=omega) only[WW,mI hr];generalize ho:aD gI _=o;obtain⟨⟨tb,L⟩,hy,q1,q2,q3⟩:=aP (R:=gI) (λk (s:(Nat->Nat->Nat->Int)×Nat)=>L8 r n exps k s.1 (s.2:Int) n bases (n:Int) (k:Int) (λ_=>0)) (λs=>GD r n exps n s.1 (s.2:Int) (λ_=>0))
  (λk s=>(∀i,i<k-> ∀d,d<16->IsN (s.1 i d) (B i^d*2^256%M))/\(∀i,i<k->iG (E i)<=s.2)/\s.2<=256) n
  (λk hk s hP=>by
   obtain⟨tb,L⟩:=s;obtain⟨h1,h2,h3⟩:=hP;simp only at h1 h2 h3;obtain⟨p,p1,p2⟩:=Pv hr (hB k hk);have hl:=jM (hE k hk);have hl256:iG (E k)<=256:=uP (hE k hk).1;refine⟨(glue k tb (λj=>upd (λ_=>λ_=>λ_=>0) 0 p (0+j)),max L (iG (E k))),?_,λi hi d hd=>?_,λi hi=>?_,?_⟩
   ·unfold gI;have hmax:(if(L:Int)<(iG (E k):Int)then(iG (E k):Int)else(L:Int))=((max L (iG (E k)):Nat):Int):=by split<;>omega
    simp(disch:=omega) only[CC,WW,p1,hl,adp,Bool.and_self,hmax]
   ·simp only[glue];by_cases e:i<k
    ·rw[show Nat.blt i k=true from adp e];exact h1 i e d hd
    ·obtain rfl:i=k:=by omega
     rw[show Nat.blt i i=false from asg (by omega),axL,ayu];exact p2 d hd
   ·simp only;by_cases e:i=k
    ·subst e;omega
    ·have:=h2 i (by omega);omega
   ·simp only;omega)
  (λs hP=>by unfold gI;simp(disch:=omega) only[CC,WW]) (λ_=>λ_=>λ_=>0,0) ⟨λi hi=>by omega,λi hi=>by omega,by simp⟩
 obtain rfl:=ho.symm.trans hy;clear ho hy;simp only at q1 q2 q3;obtain⟨A,hA⟩: ∃A,A=(L+3)/4:=⟨_,rfl⟩;have hstart:IntKind.i64.wrap (IntKind.i64.wrap (Int.tdiv (IntKind.i64.wrap (IntKind.i64.wrap ((L:Int)+4)-1)) 4)*4)=((A*4-4*0:Nat):Int):=by
  rw[Vd,eX (by omega),aa9 (by omega),eX (by omega),a3P,eX (by omega),aa7,eX (by omega)]
  congr 1;omega
 simp only[hstart];generalize ho:aD eH _=o;obtain⟨out,hy,hQ⟩:=aP (R:=eH) (λj (out:Nat->Int)=>L9 r n exps n tb ((A*4-4*j:Nat):Int) (λ_=>0) out) (λout=>GJ r (λ_=>0) out)
  (λj out=>IsN out (jk (λi=>B i^(E i/2^(A*4-4*j))) n*2^256%M)) A
  (λj hj out hP=>by
   generalize hu:jk (λi=>B i^(E i/2^(A*4-4*j))) n=u at hP;obtain⟨a,a1,a2⟩:=lq hr hP hP;obtain⟨b,b1,b2⟩:=lq hr a2 a2;obtain⟨c,c1,c2⟩:=lq hr b2 b2;obtain⟨d,d1,d2⟩:=lq hr c2 c2;have hu16:u*u*(u*u)*(u*u*(u*u))*(u*u*(u*u)*(u*u*(u*u)))=u^16:=by grind
   rw[hu16]at d2;obtain⟨z,hz,hz2⟩:=aP (R:=gJ) (λk (out:Nat->Int)=>rO r n exps n tb ((A*4-4*(j+1):Nat):Int) n exps (n:Int) (k:Int) (λ_=>0) out) (λout=>GH r n exps n tb ((A*4-4*(j+1):Nat):Int) (λ_=>0) out)
    (λk out=>IsN out (u^16*jk (λi=>B i^(E i/2^(A*4-4*(j+1))%16)) k*2^256%M)) n
    (λk hk out hP=>by have hd:=RO (hE k hk) (A*4-4*(j+1));have hlt:E k/2^(A*4-4*(j+1))%16<16:=axG _ (by decide);obtain⟨z,z1,z2⟩:=lq hr hP (q1 k hk _ hlt);refine⟨z,?_,z2.of_eq (by rw[jk,<-ay2])⟩;unfold gJ;simp(disch:=omega) only[CC,WW,hd,axA,z1])
    (λout hP=>by unfold gJ;simp(disch:=omega) only[CC,WW]) d (by rw[jk,az0];exact d2)
   refine⟨z,?_,hz2.of_eq ?_⟩
   ·have hz':aD gJ (rO r n exps n tb ((A*4-4*(j+1):Nat):Int) n exps (n:Int) 0 (λ_=>0) d)=_:=hz;simp only[rO]at hz';unfold eH;have e1:IntKind.i64.wrap (((A*4-4*j:Nat):Int)-4)=((A*4-4*(j+1):Nat):Int):=by rw[wrap_i64 (by omega)];omega
    simp(disch:=omega) only[WW,a1,b1,c1,d1,e1,hz']
   ·rw[<-hu,a1t]
    congr 2
    apply Ie;intro i hi;have e2:A*4-4*j=(A*4-4*(j+1))+4:=by omega
    rw[e2,ayF 2 _ 4,<-ayq,show(2:Nat)^4=16 by decide];have:=ay3 (E i/2^(A*4-4*(j+1))) 16;rw[this])
  (λout hP=>by
   unfold eH;simp(disch:=omega) only[CC,WW]) r.2.2.1 (by
    have:jk (λi=>B i^(E i/2^(A*4-4*0))) n=jk (λ_=>1) n:=Ie λi hi=>by have h1:=J5 (E i);have h2:2^iG (E i)<=2^(A*4-4*0):=axM (by decide) (by have:=q2 i hi;omega);rw[ayl (by omega),ayV]
    rw[this,a6p,ayE];exact hr.r1)
 obtain rfl:=ho.symm.trans hy;obtain⟨w,w1,w2⟩:=oL (n:=1) (by decide);have w2':IsN w 1:=w2;obtain⟨z,z1,z2⟩:=Vm hr hQ w2' hr.one;simp only[w1,z1];refine⟨z,rfl,z2.of_eq ?_⟩;rw[az0,show A*4-4*A=0 by omega]
 congr 1
 exact Ie λi hi=>by rw[ayV,azY]
theorem qZ {r:tH}{M:Nat}(hr:lg r M){a e:Nat->Int}{x k:Nat}(ha:IsN a x)(he:IsN e k): ∃z,aT (some r) a e=some z/\IsN z (x^k%M):=by
 rw[D7];unfold um;obtain⟨z,z1,z2⟩:=Ig hr (n:=1) (by decide) (bases:=λj=>upd (λ_=>λ_=>0) 0 a (0+j)) (exps:=λj=>upd (λ_=>λ_=>0) 0 e (0+j)) (B:=λ_=>x) (E:=λ_=>k)
  (λi hi=>by
   obtain rfl:i=0:=by omega
   exact ha) (λi hi=>by
   obtain rfl:i=0:=by omega
   exact he)
 simp only[z1];exact⟨z,rfl,z2.of_eq (by rw[jk,jk,ayE])⟩
theorem Au {a b m:Nat}(hm:0<m)(hm2:m<9223372036854775808):zI (a:Int) (b:Int) (m:Int)=some ((a*b%m:Nat):Int):=by
 rw[Nc];unfold Le;have h1:=axG a hm;have h2:=axG b hm;obtain⟨h,l,e1,e2,e3,e4⟩:=Ku (x:=a%m) (y:=b%m) (by omega) (by omega);have hh:h<m:=by apply axN;intro hc;have h3:a%m*(b%m)<m*m:=Nat.mul_lt_mul'' h1 h2;have h4:m*m<=m*18446744073709551616:=azw _ (by omega);have h5:m*18446744073709551616<=h*18446744073709551616:=axF _ (by omega);omega
 have hv:=mH (hi:=h) (lo:=l) (y:=m) (by omega) hh e3;have h6:=axG (h*18446744073709551616+l) hm;simp(disch:=omega) only[CC,WW,e1,hv];rw[<-e2,<-ayW]
theorem Vp {a m:Nat}{e:Nat->Int}{E:Nat}(he:IsN e E)(hm:0<m)(hm2:m<9223372036854775808):IU (a:Int) e (m:Int)=some ((a^E%m:Nat):Int):=by
 rw[Nf];unfold Lf;simp(disch:=omega) only[WW,ED he];generalize ho:aD jS _=o;have hlen:iG E<=256:=uP he.1;obtain⟨L,hL⟩: ∃L,L=iG E:=⟨_,rfl⟩;rw[<-hL]at ho hlen;obtain⟨x,hy,hQ⟩:=aP (R:=jS) (λj (x:Nat)=>X9 (a:Int) (m:Int) (x:Int) ((L:Int)-1-(j:Nat)) e) (λx=>RA (x:Int))
  (λj x=>x=a^(E/2^(L-j))%m) L
  (λj hj x hP=>by
   have hb:=wH E (L-1-j);rw[show L-1-j+1=L-j by omega]at hb;have hbit:=NU he ((L:Int)-1-(j:Nat));rw[show((L:Int)-1-(j:Nat))=((L-1-j:Nat):Int)by omega,axE]at hbit;have ht:=Au (a:=x) (b:=x) hm hm2;have hx2:x*x%m=a^(E/2^(L-j)*2)%m:=by rw[hP,<-ayW,axH (E/2^(L-j)) 2,Nat.two_mul,ayF]
   have hk:((L:Int)-1-(j:Nat))=((L-1-j:Nat):Int):=by omega
   by_cases hbt:E.testBit (L-1-j)
   ·rw[axp ⟨by omega,hbt⟩]at hbit;rw[axp hbt]at hb;refine⟨x*x%m*a%m,?_,?_⟩
    ·unfold jS;simp(disch:=omega) only[hk,WW,ht,hbit,Au hm hm2,wrap_i64];rw[show((L-1-j:Nat):Int)-1=(L:Int)-1-((j+1:Nat):Int)by omega]
    ·rw[show L-(j+1)=L-1-j by omega,hb,ayQ,hx2,Nat.mod_mul_mod]
   ·rw[axi (λh=>hbt h.2)]at hbit;rw[axi hbt,ayo]at hb;refine⟨x*x%m,?_,?_⟩
    ·unfold jS;simp(disch:=omega) only[hk,WW,ht,hbit,wrap_i64];rw[show((L-1-j:Nat):Int)-1=(L:Int)-1-((j+1:Nat):Int)by omega]
    ·rw[show L-(j+1)=L-1-j by omega,hb,hx2])
  (λx hP=>by
   unfold jS;simp(disch:=omega) only[WW]) (1%m) (by rw[Nat.sub_zero,ayl (hL▸J5 E),ayV])
 have hstart:IntKind.i64.wrap ((L:Int)-1)=(L:Int)-1-((0:Nat):Int):=by rw[wrap_i64 (by omega)];omega
 rw[hstart]at ho;obtain rfl:=ho.symm.trans hy;simp only[hQ,ayu,ayV,azY]
def LG(r:Option tH):Prop:=r=none\/ ∃f g,r=some (f,0,g)
theorem LG.given {r:Option tH}(h:LG r):bX r=some false:=by
 rcases h with rfl|⟨f,g,rfl⟩
 ·exact RN
 ·rw[lS];rfl
theorem LG.M {r:Option tH}(h:LG r):fT r=some λ_=>0:=by rw[Ab];unfold uo;cases r<;>simp only[h.given,WW]
theorem LG.Prod {r:Option tH}(h:LG r)(n k:Nat)(a b:Nat->Nat->Int):dY r n a k b=some ((λ_=>0),1):=by rw[uj];unfold mE;cases r<;>simp only[h.given,WW]
end Go.Pl
