/-
 Powers below an odd natural.
-/
import Derived.Test.YtlohbhpbkieoeaaGreatMB
import Derived.Test.YtlohbhpbkieoeaaGreatPlA
set_option linter.unusedVariables false
set_option linter.unusedSimpArgs false
namespace Go.Pl
open Go Go.Den Go.Num
theorem a1e {M k:Nat}(h:M%2=1):Nat.Coprime M (2^k):=by apply Nat.Coprime.pow_right;show Nat.gcd M 2=1;rw[Nat.gcd_comm,Nat.gcd_rec,h];rfl
def IsT(t:Nat->Int)(V:Nat):Prop:=V<2^192*2^192/\ ∀i,i<6->t i=((V/18446744073709551616^i%18446744073709551616:Nat):Int)
theorem a3w:(2:Nat)^192*2^192=39402006196394479212279040100143613805079739270465446667948293404245721771497210611414266254884915640806627990306816:=by decide
theorem IsT.zero:IsT (λ_=>0) 0:=⟨by rw[a3w];decide,λi hi=>by simp⟩
theorem IsT.mk {t:Nat->Int}{x0 x1 x2 x3 x4 x5:Nat}(h0:t 0=x0)(h1:t 1=x1)(h2:t 2=x2)(h3:t 3=x3)(h4:t 4=x4)(h5:t 5=x5)(b0:x0<18446744073709551616)(b1:x1<18446744073709551616)(b2:x2<18446744073709551616)(b3:x3<18446744073709551616)(b4:x4<18446744073709551616)(b5:x5<18446744073709551616):
  IsT t (x0+x1*18446744073709551616+x2*340282366920938463463374607431768211456+x3*6277101735386680763835789423207666416102355444464034512896+x4*115792089237316195423570985008687907853269984665640564039457584007913129639936+x5*2135987035920910082395021706169552114602704522356652769947041607822219725780640550022962086936576):=by
 refine⟨by rw[a3w];omega,λi hi=>?_⟩
 match i,hi with
 |0,_=>rw[h0];congr 1;simp only[Nat.reducePow];omega
 |1,_=>rw[h1];congr 1;simp only[Nat.reducePow];omega
 |2,_=>rw[h2];congr 1;simp only[Nat.reducePow];omega
 |3,_=>rw[h3];congr 1;simp only[Nat.reducePow];omega
 |4,_=>rw[h4];congr 1;simp only[Nat.reducePow];omega
 |5,_=>rw[h5];congr 1;simp only[Nat.reducePow];omega
theorem IsT.get {t:Nat->Int}{V:Nat}(h:IsT t V): ∃x0 x1 x2 x3 x4 x5:Nat,t 0=x0/\t 1=x1/\t 2=x2/\t 3=x3/\t 4=x4/\t 5=x5/\x0<18446744073709551616/\x1<18446744073709551616/\x2<18446744073709551616/\x3<18446744073709551616/\x4<18446744073709551616/\x5<18446744073709551616/\
  V=x0+x1*18446744073709551616+x2*340282366920938463463374607431768211456+x3*6277101735386680763835789423207666416102355444464034512896+x4*115792089237316195423570985008687907853269984665640564039457584007913129639936+x5*2135987035920910082395021706169552114602704522356652769947041607822219725780640550022962086936576:=by
 have hlt:=h.1;rw[a3w]at hlt;refine⟨_,_,_,_,_,_,h.2 0 (by omega),h.2 1 (by omega),h.2 2 (by omega),h.2 3 (by omega),h.2 4 (by omega),h.2 5 (by omega),?_⟩;simp only[Nat.reducePow];omega
theorem IsT.shift {t:Nat->Int}{V:Nat}(h:IsT t V):IsT (upd (sO t 0 5 (λj=>t (1+j))) 5 0) (V/18446744073709551616):=by
 have hlt:=h.1;refine⟨awV (axe _ _) hlt,λi hi=>?_⟩;by_cases e:i=5
 ·subst e;rw[upd_same,axA,axC]
  ·rfl
  ·rw[a3w]at hlt;simp only[Nat.reducePow,Nat.reduceMul];exact hlt
 ·have:upd (sO t 0 5 (λj=>t (1+j))) 5 0 i=t (1+i):=by rw[upd_ne e];unfold sO;rw[awQ (by omega)];rfl
  rw[this,h.2 (1+i) (by omega),axA,axP 1 i,ay3,awT (18446744073709551616^i)]
theorem IsT.of_eq' {t:Nat->Int}{n m:Nat}(h:IsT t n)(e:n=m):IsT t m:=e▸h
theorem I9 {t b:Nat->Int}{x V y:Nat}(ht:IsT t V)(hx:x<18446744073709551616)(hb:IsN b y)(hlt:V+x*y<2^192*2^192):
  ∃t',iG t (x:Int) b=some t'/\IsT t' (V+x*y):=by
 rw[MQ];unfold La;obtain⟨o0,o1,o2,o3,o4,o5,e0,e1,e2,e3,e4,e5,h0,h1,h2,h3,h4,h5,hV⟩:=ht.get;obtain⟨y0,y1,y2,y3,f0,f1,f2,f3,g0,g1,g2,g3,hy⟩:=hb.get;obtain⟨h00,l00,s00,c00,t00,d00,n00,h01,l01,s01,c01,t01,d01,n01,h02,l02,s02,c02,t02,d02,n02,h03,l03,s03,c03,t03,d03,n03,p00,q00,r00,w00,p01,q01,r01,w01,p02,q02,r02,w02,p03,q03,r03,w03,b00,b01,b02,b03,bn0,E0⟩:=Va hx g0 g1 g2 g3 h0 h1 h2 h3;obtain⟨s4,c4,a1,a2,a3,a4⟩:=Ja h4 bn0;simp only[e0,e1,e2,e3,e4,e5,f0,f1,f2,f3];simp only[p00,q00,r00,w00,p01,q01,r01,w01,p02,q02,r02,w02,p03,q03,r03,w03,a1];rw[<-hy]at E0;rw[a3w,hV]at hlt;have hsum:V+x*y=t00+t01*18446744073709551616+t02*340282366920938463463374607431768211456+t03*6277101735386680763835789423207666416102355444464034512896+s4*115792089237316195423570985008687907853269984665640564039457584007913129639936+(o5+c4)*2135987035920910082395021706169552114602704522356652769947041607822219725780640550022962086936576:=by rw[hV];generalize x*y=P at*;clear ht hb e0 e1 e2 e3 e4 e5 f0 f1 f2 f3 p00 q00 r00 w00 p01 q01 r01 w01 p02 q02 r02 w02 p03 q03 r03 w03 a1 h0 h1 h2 h3 h4 h5 g0 g1 g2 g3 b00 b01 b02 b03 bn0 hy hV hlt;omega
 have hc:o5+c4<18446744073709551616:=by rw[<-hV,hsum]at hlt;clear hsum E0;omega
 rw[O1,Cb hc];refine⟨_,rfl,IsT.of_eq' (IsT.mk rfl rfl rfl rfl rfl rfl b00 b01 b02 b03 a3 hc) hsum.symm⟩
abbrev sK:=(Nat->Int)×(Int×((Nat->Int)×(Nat->Int)))
structure l9(r:sK)(M:Nat):Prop where
 m:IsN r.1 M
 odd:M%2=1
 one:1<M
 inv: ∃k:Nat,r.2.1=(k:Int)/\k<18446744073709551616/\(M*k+1)%18446744073709551616=0
 r1:IsN r.2.2.1 (2^256%M)
 r2:IsN r.2.2.2 (2^256*2^256%M)
theorem l9.pos {r:sK}{M:Nat}(h:l9 r M):0<M:=by have:=h.one;omega
theorem l9.cop {r:sK}{M:Nat}(h:l9 r M):Nat.Coprime M (2^256):=a1e h.odd
theorem a9R {V V' a q y M P r:Nat}(h:V'*18446744073709551616=V+a*y+q*M)(hV:V*P%M=r*y%M):
  V'*(18446744073709551616*P)%M=(r+P*a)*y%M:=by
 have e1:V'*(18446744073709551616*P)=V*P+a*y*P+q*P*M:=by rw[<-axf,h,ax3,ax3,ayu q]
 have e3:a*y*P=P*a*y:=by rw[awT P a,ayu]
 rw[e1,ayb,ax3,ayS,hV,<-ayS,e3]
theorem Jc {V V' a q y M k:Nat}(hM:0<M)(h:V'*18446744073709551616=V+a*y+q*M){x:Nat}(hV:V*2^(64*k)%M=(x%2^(64*k))*y%M)(ha:a=x/2^(64*k)%18446744073709551616):
  V'*2^(64*(k+1))%M=(x%2^(64*(k+1)))*y%M:=by
 have e2:x%2^(64*(k+1))=x%2^(64*k)+2^(64*k)*a:=by rw[show 64*(k+1)=64*k+64 by omega,ay1,Nat.mod_mul,ha]
 have e3:(2:Nat)^(64*(k+1))=18446744073709551616*2^(64*k):=by rw[show 64*(k+1)=64+64*k by omega,ay1]
 rw[e2,e3];exact a9R h hV
theorem ab8 {V V' a q y M:Nat}(h:V'*18446744073709551616=V+a*y+q*M)(hV:V<2*M)(ha:a<18446744073709551616)(hq:q<18446744073709551616)(hy:y<M):V'<2*M:=by have h1:a*y<=18446744073709551615*y:=awP _ (by omega);have h2:q*M<=18446744073709551615*M:=awP _ (by omega);omega
theorem ain {U M k:Nat}(hk:(M*k+1)%18446744073709551616=0):(U+(U%18446744073709551616*k%18446744073709551616)*M)%18446744073709551616=0:=by
 have h1:(U+(U%18446744073709551616*k%18446744073709551616)*M)%18446744073709551616=(U*(M*k+1))%18446744073709551616:=by
  have h2:(U%18446744073709551616*k%18446744073709551616)*M%18446744073709551616=(U*k*M)%18446744073709551616:=by rw[Nat.mod_mul_mod,axf,Nat.mod_mul_mod,axf]
  rw[ayS,h2,<-ayS,ayy,aye,axP,axf,awT k M]
 rw[h1,ayx,hk,Nat.mul_zero,Nat.zero_mod]
theorem zZ {r:sK}{M:Nat}(hr:l9 r M){a b:Nat->Int}{x y:Nat}(ha:IsN a x)(hb:IsN b y)(hy:y<M):
  ∃z Z,bS (some r) a b=some z/\IsN z Z/\Z<M/\Z*2^256%M=x*y%M:=by
 rw[AA];unfold qZ;obtain⟨inv,k1,k2,k3⟩:=hr.inv;have hM:=hr.m;have hM256:=hM.1;have hpos:=hr.pos;obtain⟨m,i,o1,o2⟩:=r;simp only at k1 hM;subst k1;have hdig: ∀j,j<4-> ∃w:Nat,a j=(w:Int)/\w<18446744073709551616/\w=x/2^(64*j)%18446744073709551616:=λj hj=>⟨_,ha.2 j hj,awZ _ (by decide),rfl⟩
 have round: ∀(t:Nat->Int) (V w:Nat),IsT t V->V<2*M->w<18446744073709551616-> ∃(t1 t2:Nat->Int) (V' u:Nat),iG t (w:Int) b=some t1/\t1 0=(u:Int)/\
   iG t1 (IntKind.u64.wrap ((u:Int)*(inv:Int))) m=some t2/\IsT (upd (sO t2 0 5 (λj=>t2 (1+j))) 5 0) V'/\V'<2*M/\ ∃q,V'*18446744073709551616=V+w*y+q*M:=by
  intro t V w ht hV hw;have hwy:w*y<=18446744073709551615*y:=awP _ (by omega);obtain⟨t1,a1,a2⟩:=I9 ht hw hb (by rw[a3w];omega);have hu:=a2.2 0 (by omega);rw[ay8,az8]at hu;have hq:(V+w*y)%18446744073709551616*inv%18446744073709551616<18446744073709551616:=awZ _ (by decide);have hqM:(V+w*y)%18446744073709551616*inv%18446744073709551616*M<=18446744073709551615*M:=awP _ (by omega);obtain⟨t2,b1,b2⟩:=I9 a2 hq hM (by rw[a3w];omega);have hdiv:=ain (U:=V+w*y) k3;have hV':(V+w*y+(V+w*y)%18446744073709551616*inv%18446744073709551616*M)/18446744073709551616*18446744073709551616=V+w*y+(V+w*y)%18446744073709551616*inv%18446744073709551616*M:=by have h5:=axn (V+w*y+(V+w*y)%18446744073709551616*inv%18446744073709551616*M) 18446744073709551616;rw[hdiv]at h5;omega
  refine⟨t1,t2,_,_,a1,hu,?_,b2.shift,ab8 hV' hV hw hq hy,_,hV'⟩;rw[a19,wrap_u64,b1]
 obtain⟨w0,c0,d0,e0⟩:=hdig 0 (by omega);obtain⟨w1,c1,d1,e1⟩:=hdig 1 (by omega);obtain⟨w2,c2,d2,e2⟩:=hdig 2 (by omega);obtain⟨w3,c3,d3,e3⟩:=hdig 3 (by omega);obtain⟨t1,t2,V1,u1,p1,p2,p3,p4,p5,q1,p6⟩:=round (λ_=>0) 0 w0 IsT.zero (by omega) d0;obtain⟨t3,t4,V2,u2,g1,g2,g3,g4,g5,q2,g6⟩:=round _ V1 w1 p4 p5 d1;obtain⟨t5,t6,V3,u3,h1,h2,h3,h4,h5,q3,h6⟩:=round _ V2 w2 g4 g5 d2;obtain⟨t7,t8,V4,u4,i1,i2,i3,i4,i5,q4,i6⟩:=round _ V3 w3 h4 h5 d3;clear round hdig;have s1:=Jc (k:=0) (x:=x) hpos p6 (by simp[Nat.mod_one]) e0;have s2:=Jc (k:=1) (x:=x) hpos g6 s1 e1;have s3:=Jc (k:=2) (x:=x) hpos h6 s2 e2;have s4:=Jc (k:=3) (x:=x) hpos i6 s3 e3;rw[show 64*(3+1)=256 from rfl,awD ha.1]at s4;simp only[c0,c1,c2,c3,p1,p2,p3,g1,g2,g3,h1,h2,h3,i1,i2,i3];clear p1 p2 p3 p4 g1 g2 g3 g4 h1 h2 h3 h4 i1 i2 i3 s1 s2 s3 p6 g6 h6 i6;have hz5:t8 5=((V4/2^256%2^64:Nat):Int):=by have:=i4.2 4 (by omega);rw[upd_ne (by omega)]at this;unfold sO at this;rw[awQ (by omega),show 18446744073709551616^4=2^256 by decide]at this;exact this
 generalize hout:(λj=>upd (sO t8 0 5 (λj=>t8 (1+j))) 5 0 (0+j))=out;have hN:IsN out (V4%2^256):=by
  refine⟨awZ _ (by decide),λj hj=>?_⟩;rw[<-hout];show upd (sO t8 0 5 (λj=>t8 (1+j))) 5 0 (0+j)=_;rw[awR,i4.2 j (by omega)]
  congr 1
  rw[show(18446744073709551616:Nat)=2^64 by decide,<-ayM];apply ay7;intro b;simp only[axb,axt];by_cases hb:b<64
  ·rw[awv hb,awv (show b+64*j<256 by omega),ax4,ax4]
  ·rw[aww hb,ax6,ax6]
 have hred: ∀Z,Z+M=V4->Z*2^256%M=x*y%M:=by intro Z hZ;rw[<-s4,<-hZ,ax3,awT M,ayb]
 obtain⟨d,f1,f2⟩:=uE hN hM;by_cases hbig:2^256<=V4
 ·have hnz:V4/2^256%2^64≠0:=by simp only[Nat.reducePow]at*;omega
  generalize V4/2^256%2^64=g at hz5 hnz;simp(disch:=omega) only[WW,hz5,f1];exact⟨d,V4-M,rfl,f2.of_eq (by omega),by omega,hred _ (by omega)⟩
 ·have hz:V4/2^256%2^64=0:=by rw[axC (by omega)]
  rw[hz]at hz5;have hN':=hN.of_eq (awD (show V4<2^256 by omega));by_cases hc:V4<M
  ·simp(disch:=omega) only[WW,hz5,fC hN' hM,Pt,awQ hc];exact⟨out,V4,rfl,hN',hc,s4⟩
  ·have hc':(0:Int)<=if M<V4 then 1 else 0:=by split<;>decide
   simp(disch:=omega) only[WW,hz5,fC hN' hM,Pt,awG hc,f1];exact⟨d,V4-M,rfl,f2.of_eq (by omega),by omega,hred _ (by omega)⟩
theorem lg {r:sK}{M:Nat}(hr:l9 r M){a b:Nat->Int}{u v:Nat}(ha:IsN a (u*2^256%M))(hb:IsN b (v*2^256%M)):
  ∃z,bS (some r) a b=some z/\IsN z (u*v*2^256%M):=by
 obtain⟨z,Z,h1,h2,h3,h4⟩:=zZ hr ha hb (awZ _ hr.pos);refine⟨z,h1,h2.of_eq ?_⟩;rw[<-awD h3];apply vS (c:=2^256) hr.cop;rw[h4,<-ayx];rw[Nat.mul_mul_mul_comm,axf (u*v)]
theorem Vg {r:sK}{M:Nat}(hr:l9 r M){a b:Nat->Int}{u v:Nat}(ha:IsN a (u*2^256%M))(hb:IsN b v)(hv:v<M):
  ∃z,bS (some r) a b=some z/\IsN z (u*v%M):=by
 obtain⟨z,Z,h1,h2,h3,h4⟩:=zZ hr ha hb hv;refine⟨z,h1,h2.of_eq ?_⟩;rw[<-awD h3];apply vS (c:=2^256) hr.cop;rw[h4,Nat.mod_mul_mod];rw[ayu]
theorem mR {r:sK}{M:Nat}(hr:l9 r M):bL (some r)=some true:=by
 rw[lM];unfold pK;obtain⟨k,k1,k2,k3⟩:=hr.inv;have:k≠0:=by rintro rfl;omega
 simp(disch:=omega) only[k1,WW]
theorem Rz:bL none=some false:=by rw[lM];rfl
theorem X4 {r:sK}{M:Nat}(hr:l9 r M){a:Nat->Int}{x:Nat}(ha:IsN a x): ∃z,qG (some r) a=some z/\IsN z (x%M):=by
 rw[CJ];unfold tu;obtain⟨z,z1,z2⟩:=zY ha hr.m hr.pos;by_cases hc:x<M
 ·simp(disch:=omega) only[WW,fC ha hr.m,Pt,awQ hc];exact⟨a,rfl,ha.of_eq (awD hc).symm⟩
 ·have hc': ¬(if M<x then(1:Int)else 0)<0:=by split<;>decide
  simp(disch:=omega) only[WW,fC ha hr.m,Pt,awG hc,z1];exact⟨z,rfl,z2⟩
theorem Vh {r:sK}{M:Nat}(hr:l9 r M){a:Nat->Int}{x:Nat}(ha:IsN a x): ∃z,oC (some r) a=some z/\IsN z (x*2^256%M):=by rw[AB];unfold ru;obtain⟨l,l1,l2⟩:=X4 hr ha;obtain⟨z,Z,h1,h2,h3,h4⟩:=zZ hr l2 hr.r2 (awZ _ hr.pos);simp(disch:=omega) only[WW,mR hr,l1,h1];refine⟨z,rfl,h2.of_eq ?_⟩;rw[<-awD h3];apply vS (c:=2^256) hr.cop;rw[h4,<-ayx,axf]
theorem a1f {r:sK}{M:Nat}(hr:l9 r M):fF (some r)=some r.1:=by rw[zB];unfold tJ;simp(disch:=omega) only[WW,mR hr]
theorem pY {r:sK}{M:Nat}(hr:l9 r M){a:Nat->Int}{x:Nat}(ha:IsN a x):bX (some r) a=some (decide (x<M)):=by
 rw[EK];unfold wo;by_cases hc:x<M
 ·simp(disch:=omega) only[WW,mR hr,fC ha hr.m,Pt,awQ hc]
 ·have hc': ¬(if M<x then(1:Int)else 0)<0:=by split<;>decide
  simp(disch:=omega) only[WW,mR hr,fC ha hr.m,Pt,awG hc]
theorem Vi {m x d D:Int}(h:d∣m*x-1)(hd:D∣d*d)(hD:D∣18446744073709551616):
  D∣m*((x*((2-(m*x)%18446744073709551616)%18446744073709551616))%18446744073709551616)-1:=by
 obtain⟨c,hc⟩:=h;obtain⟨e,he⟩:=hd;obtain⟨f,hf⟩:=hD;have h1:=Int.mul_ediv_add_emod (m*x) 18446744073709551616;generalize (m*x)%18446744073709551616=r1 at*;generalize (m*x)/18446744073709551616=q1 at*;have h2:=Int.mul_ediv_add_emod (2-r1) 18446744073709551616;generalize (2-r1)%18446744073709551616=r2 at*;generalize (2-r1)/18446744073709551616=q2 at*;have h3:=Int.mul_ediv_add_emod (x*r2) 18446744073709551616;generalize (x*r2)%18446744073709551616=r3 at*;generalize (x*r2)/18446744073709551616=q3 at*;refine⟨-(e*c*c)+m*x*f*q1-m*x*f*q2-m*f*q3,?_⟩;have e3:r3=x*r2-18446744073709551616*q3:=by omega
 have e2:r2=2-r1-18446744073709551616*q2:=by omega
 have e1:r1=m*x-18446744073709551616*q1:=by omega
 have e0:m*x=1+d*c:=by omega
 rw[e3,e2,e1,hf]
 grind
theorem a5J(x:Int):IntKind.u64.wrap x=x%18446744073709551616:=J8 x
theorem a9S {m:Nat}(hm:m<18446744073709551616)(hodd:m%2=1): ∀t t1 t2 t3 t4:Int,
  t=(IntKind.u64.wrap ((m:Int)*(IntKind.u64.wrap (2-(IntKind.u64.wrap ((m:Int)*(m:Int)))))))->
  t1=(IntKind.u64.wrap ((m:Int)*(IntKind.u64.wrap (t*(IntKind.u64.wrap (2-(IntKind.u64.wrap ((m:Int)*t))))))))->
  t2=(IntKind.u64.wrap ((IntKind.u64.wrap (t*(IntKind.u64.wrap (2-(IntKind.u64.wrap ((m:Int)*t))))))*(IntKind.u64.wrap (2-t1))))->
  t3=(IntKind.u64.wrap ((m:Int)*(IntKind.u64.wrap (t2*(IntKind.u64.wrap (2-(IntKind.u64.wrap ((m:Int)*t2))))))))->
  t4=(IntKind.u64.wrap ((IntKind.u64.wrap (t2*(IntKind.u64.wrap (2-(IntKind.u64.wrap ((m:Int)*t2))))))*(IntKind.u64.wrap (2-t3))))->
  ∃k:Nat,IntKind.u64.wrap (0-t4)=(k:Int)/\k<18446744073709551616/\(m*k+1)%18446744073709551616=0:=by
 intro t t1 t2 t3 t4 h0 h1 h2 h3 h4;subst h1;subst h3;simp only[a5J]at*;have k3:(8:Int)∣(m:Int)*(m:Int)-1:=by
  have:m*m%8=1:=by
   rw[ayx];have:m%8=1\/m%8=3\/m%8=5\/m%8=7:=by omega
   rcases this with h|h|h|h<;>rw[h]
  have e:((m:Int)*(m:Int))=((m*m:Nat):Int):=rfl;rw[e];omega
 have k6:=Vi (D:=64) k3 ⟨1,by decide⟩ ⟨288230376151711744,by decide⟩;rw[<-h0]at k6;have k12:=Vi (D:=4096) k6 ⟨1,by decide⟩ ⟨4503599627370496,by decide⟩;have k24:=Vi (D:=16777216) k12 ⟨1,by decide⟩ ⟨1099511627776,by decide⟩;rw[<-h2]at k24;have k48:=Vi (D:=281474976710656) k24 ⟨1,by decide⟩ ⟨65536,by decide⟩;have k64:=Vi (D:=18446744073709551616) k48 ⟨4294967296,by decide⟩ ⟨1,by decide⟩;rw[<-h4]at k64;refine⟨((0-t4)%18446744073709551616).toNat,by omega,by omega,?_⟩;have e1:(((0-t4)%18446744073709551616).toNat:Int)=(0-t4)%18446744073709551616:=Int.toNat_of_nonneg (Int.emod_nonneg _ (by decide));have h5:=Int.mul_ediv_add_emod (0-t4) 18446744073709551616;have e2:((m*((0-t4)%18446744073709551616).toNat+1:Nat):Int)%18446744073709551616=0:=by
  rw[Int.natCast_add,Int.natCast_mul,e1];obtain⟨c,hc⟩:=k64;generalize (0-t4)/18446744073709551616=q at*;have e3:(0-t4)%18446744073709551616=0-t4-18446744073709551616*q:=by omega
  rw[e3];have e4:(m:Int)*(0-t4-18446744073709551616*q)+((1:Nat):Int)=18446744073709551616*(-c-m*q):=by
   have:((1:Nat):Int)=1:=rfl;rw[this]
   grind
  rw[e4];exact Int.mul_emod_right _ _
 omega
theorem IsN.lowbit {a:Nat->Int}{n:Nat}(h:IsN a n):ay .and .u64 (a 0) 1=((n%2:Nat):Int):=by
 obtain⟨x0,x1,x2,x3,e0,e1,e2,e3,h0,h1,h2,h3,hn⟩:=h.get;rw[e0,a9M h0]
 congr 1;omega
theorem ni {m:Nat->Int}{M:Nat}(hm:IsN m M):
  (M%2=0\/M=1->wS m=some (none,1))/\(M%2=1->M≠1-> ∃r,wS m=some (some r,0)/\l9 r M/\r.1=m):=by
 rw[Qr];unfold OY;obtain⟨o,o1,o2⟩:=oZ (n:=1) (by decide);have o2':IsN o 1:=o2;simp only[hm.lowbit];by_cases h0:M%2=0
 ·refine⟨λ_=>?_,λh=>by omega⟩;simp(disch:=omega) only[WW,h0]
 ·by_cases h1:M=1
  ·refine⟨λ_=>?_,λ_ h=>absurd h1 h⟩;simp(disch:=omega) only[WW,o1,hm.eqb o2']
  ·refine⟨λh=>by omega,λ_ _=>?_⟩;have hpos:0<M:=by omega
   obtain⟨a,a1,a2⟩:=Ce IsN.zero o2' hm hpos;obtain⟨b,b1,b2⟩:=Py a2 a2 hm hpos;obtain⟨x0,x1,x2,x3,e0,e1,e2,e3,g0,g1,g2,g3,hn⟩:=hm.get;obtain⟨k,k1,k2,k3⟩:=a9S g0 (by omega) _ _ _ _ _ rfl rfl rfl rfl rfl;simp(disch:=omega) only[WW,o1,hm.eqb o2',a1,b1,e0];refine⟨_,rfl,⟨hm,by omega,by omega,⟨k,k1,k2,?_⟩,a2.of_eq (by rw[axN,axE]),b2.of_eq (by rw[axN,axE,<-ayx])⟩,rfl⟩;have e4:M*k+1=(x0*k+1)+18446744073709551616*((x1+x2*18446744073709551616+x3*340282366920938463463374607431768211456)*k):=by
    rw[<-axf,hn];have:x0+x1*18446744073709551616+x2*340282366920938463463374607431768211456+x3*6277101735386680763835789423207666416102355444464034512896=x0+18446744073709551616*(x1+x2*18446744073709551616+x3*340282366920938463463374607431768211456):=by omega
    rw[this,ax3];omega
   rw[e4,ayK];exact k3
theorem ads {a b:Nat}(h:a<=b):Nat.ble a b=true:=awF h
theorem arY {a b:Nat}(h: ¬a<=b):Nat.ble a b=false:=by
 cases hb:Nat.ble a b
 ·rfl
 ·exact absurd (awN hb) h
def jf(f:Nat->Nat):Nat->Nat|0=>1|n+1=>jf f n*f n
theorem Ia {f g:Nat->Nat} : ∀ {n:Nat},(∀i,i<n->f i=g i)->jf f n=jf g n:=by
 intro n
 induction n with
 |zero=>intro h;rfl
 |succ n ih=>intro h;rw[jf,jf,ih λi hi=>h i (by omega),h n (by omega)]
theorem a5K: ∀n,jf (λ_=>1) n=1:=by
 intro n
 induction n with
 |zero=>rfl
 |succ n ih=>rw[jf,ih]
theorem a1g(B e d:Nat->Nat): ∀n,jf (λi=>B i^e i) n^16*jf (λi=>B i^d i) n=jf (λi=>B i^(16*e i+d i)) n:=by
 intro n
 induction n with
 |zero=>rfl
 |succ n ih=>
  rw[jf,jf,jf,<-ih,Nat.mul_pow,Nat.mul_mul_mul_comm,ay1,<-ayM,awT (e n) 16]
theorem PE {r:sK}{M:Nat}(hr:l9 r M){a:Nat->Int}{x:Nat}(ha:IsN a x):
  ∃out,pO (some r) a=some out/\ ∀d,d<16->IsN (out d) (x^d*2^256%M):=by
 rw[xY];unfold nK;obtain⟨f,f1,f2⟩:=Vh hr ha;simp only[f1];generalize ho:au eB _=o;obtain⟨out,hy,hQ⟩:=aL (R:=eB) (λk out=>Gc r ((1+k:Nat):Int) (λ_=>λ_=>0) out f) (λout=>DN (λ_=>λ_=>0) out)
  (λk out=> ∀d,d<1+k->IsN (out d) (x^d*2^256%M)) 15
  (λk hk out hP=>by
   obtain⟨z,z1,z2⟩:=lg hr (hP k (by omega)) f2;refine⟨upd out (1+k) z,?_,λd hd=>?_⟩
   ·unfold eB;simp(disch:=omega) only[CC,WW,ayU,z1,ayG]
   ·by_cases e:d=1+k
    ·subst e;rw[upd_same,axP,ay3];exact z2
    ·rw[upd_ne e];exact hP d (by omega))
  (λout hP=>by
   unfold eB;simp(disch:=omega) only[CC,WW]) (upd (λ_=>λ_=>0) 0 r.2.2.1) (λd hd=>by
    obtain rfl:d=0:=by omega
    rw[upd_same,ay8,axN];exact hr.r1)
 obtain rfl:=ho.symm.trans hy;exact⟨out,rfl,λd hd=>hQ d (by omega)⟩
theorem RB {e:Nat->Int}{E:Nat}(he:IsN e E)(at_:Nat):pQ e (at_:Int)=some ((E/2^at_%16:Nat):Int):=by
 rw[xZ];unfold tC;obtain⟨a,a1,a2⟩:=KD he at_;obtain⟨b,b1,b2⟩:=QY a2 252;obtain⟨c,c1,c2⟩:=KD b2 252;have hv:E/2^at_*2^252%2^256/2^252=E/2^at_%16:=by generalize E/2^at_=v;rw[show(2:Nat)^256=16*2^252 by decide,Nat.mul_mod_mul_right,Nat.mul_div_cancel _ (ayz (by decide))]
 simp only[a1,b1,c1];have c3:=c2.of_eq (m:=E/2^at_%16) hv;rw[uD c3,awQ (by omega)]
theorem Ib {r:sK}{M:Nat}(hr:l9 r M){n:Nat}(hn:n<=64){bases exps:Nat->(Nat->Int)}{B E:Nat->Nat}(hB: ∀i,i<n->IsN (bases i) (B i))(hE: ∀i,i<n->IsN (exps i) (E i)):
  ∃z,dO (some r) n bases n exps=some (z,0)/\IsN z (jf (λi=>B i^E i) n%M):=by
 rw[tF];unfold mF;simp(disch:=omega) only[WW,mR hr];generalize ho:au gq _=o;obtain⟨⟨tb,L⟩,hy,q1,q2,q3⟩:=aL (R:=gq) (λk (s:(Nat->Nat->Nat->Int)×Nat)=>Lb r n exps k s.1 (s.2:Int) n bases (n:Int) (k:Int) (λ_=>0)) (λs=>Gd r n exps n s.1 (s.2:Int) (λ_=>0))
  (λk s=>(∀i,i<k-> ∀d,d<16->IsN (s.1 i d) (B i^d*2^256%M))/\(∀i,i<k->iF (E i)<=s.2)/\s.2<=256) n
  (λk hk s hP=>by
   obtain⟨tb,L⟩:=s;obtain⟨h1,h2,h3⟩:=hP;simp only at h1 h2 h3;obtain⟨p,p1,p2⟩:=PE hr (hB k hk);have hl:=jS (hE k hk);have hl256:iF (E k)<=256:=uz (hE k hk).1;refine⟨(glue k tb (λj=>upd (λ_=>λ_=>λ_=>0) 0 p (0+j)),max L (iF (E k))),?_,λi hi d hd=>?_,λi hi=>?_,?_⟩
   ·unfold gq;have hmax:(if(L:Int)<(iF (E k):Int)then(iF (E k):Int)else(L:Int))=((max L (iF (E k)):Nat):Int):=by split<;>omega
    simp(disch:=omega) only[CC,WW,p1,hl,ads,Bool.and_self,hmax]
   ·simp only[glue];by_cases e:i<k
    ·rw[show Nat.blt i k=true from ads e];exact h1 i e d hd
    ·obtain rfl:i=k:=by omega
     rw[show Nat.blt i i=false from arY (by omega),awW,axX];exact p2 d hd
   ·simp only;by_cases e:i=k
    ·subst e;omega
    ·have:=h2 i (by omega);omega
   ·simp only;omega)
  (λs hP=>by unfold gq;simp(disch:=omega) only[CC,WW]) (λ_=>λ_=>λ_=>0,0) ⟨λi hi=>by omega,λi hi=>by omega,by simp⟩
 obtain rfl:=ho.symm.trans hy;clear ho hy;simp only at q1 q2 q3;obtain⟨A,hA⟩: ∃A,A=(L+3)/4:=⟨_,rfl⟩;have hstart:IntKind.i64.wrap (IntKind.i64.wrap (Int.tdiv (IntKind.i64.wrap (IntKind.i64.wrap ((L:Int)+4)-1)) 4)*4)=((A*4-4*0:Nat):Int):=by
  rw[V6,eF (by omega),a9K (by omega),eF (by omega),a3u,eF (by omega),a9I,eF (by omega)]
  congr 1;omega
 simp only[hstart];generalize ho:au eu _=o;obtain⟨out,hy,hQ⟩:=aL (R:=eu) (λj (out:Nat->Int)=>Lc r n exps n tb ((A*4-4*j:Nat):Int) (λ_=>0) out) (λout=>Gg r (λ_=>0) out)
  (λj out=>IsN out (jf (λi=>B i^(E i/2^(A*4-4*j))) n*2^256%M)) A
  (λj hj out hP=>by
   generalize hu:jf (λi=>B i^(E i/2^(A*4-4*j))) n=u at hP;obtain⟨a,a1,a2⟩:=lg hr hP hP;obtain⟨b,b1,b2⟩:=lg hr a2 a2;obtain⟨c,c1,c2⟩:=lg hr b2 b2;obtain⟨d,d1,d2⟩:=lg hr c2 c2;have hu16:u*u*(u*u)*(u*u*(u*u))*(u*u*(u*u)*(u*u*(u*u)))=u^16:=by grind
   rw[hu16]at d2;obtain⟨z,hz,hz2⟩:=aL (R:=gu) (λk (out:Nat->Int)=>rE r n exps n tb ((A*4-4*(j+1):Nat):Int) n exps (n:Int) (k:Int) (λ_=>0) out) (λout=>Gf r n exps n tb ((A*4-4*(j+1):Nat):Int) (λ_=>0) out)
    (λk out=>IsN out (u^16*jf (λi=>B i^(E i/2^(A*4-4*(j+1))%16)) k*2^256%M)) n
    (λk hk out hP=>by have hd:=RB (hE k hk) (A*4-4*(j+1));have hlt:E k/2^(A*4-4*(j+1))%16<16:=awZ _ (by decide);obtain⟨z,z1,z2⟩:=lg hr hP (q1 k hk _ hlt);refine⟨z,?_,z2.of_eq (by rw[jf,<-axf])⟩;unfold gu;simp(disch:=omega) only[CC,WW,hd,awR,z1])
    (λout hP=>by unfold gu;simp(disch:=omega) only[CC,WW]) d (by rw[jf,aye];exact d2)
   refine⟨z,?_,hz2.of_eq ?_⟩
   ·have hz':au gu (rE r n exps n tb ((A*4-4*(j+1):Nat):Int) n exps (n:Int) 0 (λ_=>0) d)=_:=hz;simp only[rE]at hz';unfold eu;have e1:IntKind.i64.wrap (((A*4-4*j:Nat):Int)-4)=((A*4-4*(j+1):Nat):Int):=by rw[wrap_i64 (by omega)];omega
    simp(disch:=omega) only[WW,a1,b1,c1,d1,e1,hz']
   ·rw[<-hu,a1g]
    congr 2
    apply Ia;intro i hi;have e2:A*4-4*j=(A*4-4*(j+1))+4:=by omega
    rw[e2,ay1 2 _ 4,<-axA,show(2:Nat)^4=16 by decide];have:=axn (E i/2^(A*4-4*(j+1))) 16;rw[this])
  (λout hP=>by
   unfold eu;simp(disch:=omega) only[CC,WW]) r.2.2.1 (by
    have:jf (λi=>B i^(E i/2^(A*4-4*0))) n=jf (λ_=>1) n:=Ia λi hi=>by have h1:=J9 (E i);have h2:2^iF (E i)<=2^(A*4-4*0):=ax1 (by decide) (by have:=q2 i hi;omega);rw[axC (by omega),ay8]
    rw[this,a5K,axN];exact hr.r1)
 obtain rfl:=ho.symm.trans hy;obtain⟨w,w1,w2⟩:=oZ (n:=1) (by decide);have w2':IsN w 1:=w2;obtain⟨z,z1,z2⟩:=Vg hr hQ w2' hr.one;simp only[w1,z1];refine⟨z,rfl,z2.of_eq ?_⟩;rw[aye,show A*4-4*A=0 by omega]
 congr 1
 exact Ia λi hi=>by rw[ay8,az8]
theorem qQ {r:sK}{M:Nat}(hr:l9 r M){a e:Nat->Int}{x k:Nat}(ha:IsN a x)(he:IsN e k): ∃z,aP (some r) a e=some z/\IsN z (x^k%M):=by
 rw[CK];unfold tH;obtain⟨z,z1,z2⟩:=Ib hr (n:=1) (by decide) (bases:=λj=>upd (λ_=>λ_=>0) 0 a (0+j)) (exps:=λj=>upd (λ_=>λ_=>0) 0 e (0+j)) (B:=λ_=>x) (E:=λ_=>k)
  (λi hi=>by
   obtain rfl:i=0:=by omega
   exact ha) (λi hi=>by
   obtain rfl:i=0:=by omega
   exact he)
 simp only[z1];exact⟨z,rfl,z2.of_eq (by rw[jf,jf,axN])⟩
theorem A8 {a b m:Nat}(hm:0<m)(hm2:m<9223372036854775808):za (a:Int) (b:Int) (m:Int)=some ((a*b%m:Nat):Int):=by
 rw[Nf];unfold Lj;have h1:=awZ a hm;have h2:=awZ b hm;obtain⟨h,l,e1,e2,e3,e4⟩:=KC (x:=a%m) (y:=b%m) (by omega) (by omega);have hh:h<m:=by apply ax7;intro hc;have h3:a%m*(b%m)<m*m:=Nat.mul_lt_mul'' h1 h2;have h4:m*m<=m*18446744073709551616:=ayE _ (by omega);have h5:m*18446744073709551616<=h*18446744073709551616:=awP _ (by omega);omega
 have hv:=mQ (hi:=h) (lo:=l) (y:=m) (by omega) hh e3;have h6:=awZ (h*18446744073709551616+l) hm;simp(disch:=omega) only[CC,WW,e1,hv];rw[<-e2,<-ayx]
theorem Vj {a m:Nat}{e:Nat->Int}{E:Nat}(he:IsN e E)(hm:0<m)(hm2:m<9223372036854775808):IU (a:Int) e (m:Int)=some ((a^E%m:Nat):Int):=by
 rw[Ng];unfold Ll;simp(disch:=omega) only[WW,Em he];generalize ho:au ko _=o;have hlen:iF E<=256:=uz he.1;obtain⟨L,hL⟩: ∃L,L=iF E:=⟨_,rfl⟩;rw[<-hL]at ho hlen;obtain⟨x,hy,hQ⟩:=aL (R:=ko) (λj (x:Nat)=>WJ (a:Int) (m:Int) (x:Int) ((L:Int)-1-(j:Nat)) e) (λx=>Rs (x:Int))
  (λj x=>x=a^(E/2^(L-j))%m) L
  (λj hj x hP=>by
   have hb:=Dl E (L-1-j);rw[show L-1-j+1=L-j by omega]at hb;have hbit:=O3 he ((L:Int)-1-(j:Nat));rw[show((L:Int)-1-(j:Nat))=((L-1-j:Nat):Int)by omega,awz]at hbit;have ht:=A8 (a:=x) (b:=x) hm hm2;have hx2:x*x%m=a^(E/2^(L-j)*2)%m:=by rw[hP,<-ayx,awT (E/2^(L-j)) 2,Nat.two_mul,ay1]
   have hk:((L:Int)-1-(j:Nat))=((L-1-j:Nat):Int):=by omega
   by_cases hbt:E.testBit (L-1-j)
   ·rw[awQ ⟨by omega,hbt⟩]at hbit;rw[awQ hbt]at hb;refine⟨x*x%m*a%m,?_,?_⟩
    ·unfold ko;simp(disch:=omega) only[hk,WW,ht,hbit,A8 hm hm2,wrap_i64];rw[show((L-1-j:Nat):Int)-1=(L:Int)-1-((j+1:Nat):Int)by omega]
    ·rw[show L-(j+1)=L-1-j by omega,hb,ay3,hx2,Nat.mod_mul_mod]
   ·rw[awG (λh=>hbt h.2)]at hbit;rw[awG hbt,axE]at hb;refine⟨x*x%m,?_,?_⟩
    ·unfold ko;simp(disch:=omega) only[hk,WW,ht,hbit,wrap_i64];rw[show((L-1-j:Nat):Int)-1=(L:Int)-1-((j+1:Nat):Int)by omega]
    ·rw[show L-(j+1)=L-1-j by omega,hb,hx2])
  (λx hP=>by
   unfold ko;simp(disch:=omega) only[WW]) (1%m) (by rw[Nat.sub_zero,axC (hL▸J9 E),ay8])
 have hstart:IntKind.i64.wrap ((L:Int)-1)=(L:Int)-1-((0:Nat):Int):=by rw[wrap_i64 (by omega)];omega
 rw[hstart]at ho;obtain rfl:=ho.symm.trans hy;simp only[hQ,axX,ay8,az8]
def LX(r:Option sK):Prop:=r=none\/ ∃f g,r=some (f,0,g)
theorem LX.given {r:Option sK}(h:LX r):bL r=some false:=by
 rcases h with rfl|⟨f,g,rfl⟩
 ·exact Rz
 ·rw[lM];rfl
theorem LX.M {r:Option sK}(h:LX r):fF r=some λ_=>0:=by rw[zB];unfold tJ;cases r<;>simp only[h.given,WW]
theorem LX.Prod {r:Option sK}(h:LX r)(n k:Nat)(a b:Nat->Nat->Int):dO r n a k b=some ((λ_=>0),1):=by rw[tF];unfold mF;cases r<;>simp only[h.given,WW]
end Go.Pl
