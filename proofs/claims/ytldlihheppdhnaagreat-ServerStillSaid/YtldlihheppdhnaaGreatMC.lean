/-
 Powers below an odd natural.
-/
import Derived.Test.YtldlihheppdhnaaGreatMB
import Derived.Test.YtldlihheppdhnaaGreatPlA
set_option linter.unusedVariables false
set_option linter.unusedSimpArgs false
namespace Go.Pl
open Go Go.Den Go.Num
theorem a0Z {M k:Nat}(h:M%2=1):Nat.Coprime M (2^k):=by
 apply Nat.Coprime.pow_right
 show Nat.gcd M 2=1
 rw[Nat.gcd_comm,Nat.gcd_rec,h]
 rfl
def IsT(t:Nat→Int)(V:Nat):Prop:=V<2^192*2^192∧ ∀i,i<6→t i=((V/18446744073709551616^i%18446744073709551616:Nat):Int)
theorem a3p:(2:Nat)^192*2^192=39402006196394479212279040100143613805079739270465446667948293404245721771497210611414266254884915640806627990306816:=by decide
theorem IsT.zero:IsT (fun _=>0) 0:=⟨by rw[a3p]; decide,fun i hi=>by simp⟩
theorem IsT.mk {t:Nat→Int} {x0 x1 x2 x3 x4 x5:Nat}(h0:t 0=x0)(h1:t 1=x1)(h2:t 2=x2)(h3:t 3=x3)(h4:t 4=x4)(h5:t 5=x5)(b0:x0<18446744073709551616)(b1:x1<18446744073709551616)(b2:x2<18446744073709551616)(b3:x3<18446744073709551616)(b4:x4<18446744073709551616)(b5:x5<18446744073709551616):
  IsT t (x0+x1*18446744073709551616+x2*340282366920938463463374607431768211456+x3*6277101735386680763835789423207666416102355444464034512896+x4*115792089237316195423570985008687907853269984665640564039457584007913129639936+x5*2135987035920910082395021706169552114602704522356652769947041607822219725780640550022962086936576):=by
 refine⟨by rw[a3p]; omega,fun i hi=>?_⟩
 match i,hi with
 |0,_=>rw[h0]; congr 1; simp only[Nat.reducePow]; omega
 |1,_=>rw[h1]; congr 1; simp only[Nat.reducePow]; omega
 |2,_=>rw[h2]; congr 1; simp only[Nat.reducePow]; omega
 |3,_=>rw[h3]; congr 1; simp only[Nat.reducePow]; omega
 |4,_=>rw[h4]; congr 1; simp only[Nat.reducePow]; omega
 |5,_=>rw[h5]; congr 1; simp only[Nat.reducePow]; omega
theorem IsT.get {t:Nat→Int} {V:Nat}(h:IsT t V): ∃x0 x1 x2 x3 x4 x5:Nat,t 0=x0∧t 1=x1∧t 2=x2∧t 3=x3∧t 4=x4∧t 5=x5∧x0<18446744073709551616∧x1<18446744073709551616∧x2<18446744073709551616∧x3<18446744073709551616∧x4<18446744073709551616∧x5<18446744073709551616∧
  V=x0+x1*18446744073709551616+x2*340282366920938463463374607431768211456+x3*6277101735386680763835789423207666416102355444464034512896+x4*115792089237316195423570985008687907853269984665640564039457584007913129639936+x5*2135987035920910082395021706169552114602704522356652769947041607822219725780640550022962086936576:=by
 have hlt:=h.1
 rw[a3p]at hlt
 refine⟨_,_,_,_,_,_,h.2 0 (by omega),h.2 1 (by omega),h.2 2 (by omega),h.2 3 (by omega),h.2 4 (by omega),h.2 5 (by omega),?_⟩
 simp only[Nat.reducePow]
 omega
theorem IsT.shift {t:Nat→Int} {V:Nat}(h:IsT t V):IsT (upd (sj t 0 5 (fun j=>t (1+j))) 5 0) (V/18446744073709551616):=by
 have hlt:=h.1
 refine⟨axb (axE _ _) hlt,fun i hi=>?_⟩
 by_cases e:i=5
 ·subst e
  rw[upd_same,ay3,axX]
  ·rfl
  ·rw[a3p]at hlt
   simp only[Nat.reducePow,Nat.reduceMul]
   exact hlt
 ·have:upd (sj t 0 5 (fun j=>t (1+j))) 5 0 i=t (1+i):=by
   rw[upd_ne e]
   unfold sj
   rw[ax1 (by omega)]
   rfl
  rw[this,h.2 (1+i) (by omega),ay3,aym 1 i,ays,axi (18446744073709551616^i)]
theorem IsT.of_eq' {t:Nat→Int} {n m:Nat}(h:IsT t n)(e:n=m):IsT t m:=e▸h
theorem Hw {t b:Nat→Int} {x V y:Nat}(ht:IsT t V)(hx:x<18446744073709551616)(hb:IsN b y)(hlt:V+x*y<2^192*2^192):
  ∃t',iw t (x:Int) b=some t'∧IsT t' (V+x*y):=by
 rw[Mt]; unfold KJ
 obtain⟨o0,o1,o2,o3,o4,o5,e0,e1,e2,e3,e4,e5,h0,h1,h2,h3,h4,h5,hV⟩:=ht.get
 obtain⟨y0,y1,y2,y3,f0,f1,f2,f3,g0,g1,g2,g3,hy⟩:=hb.get
 obtain⟨h00,l00,s00,c00,t00,d00,n00,h01,l01,s01,c01,t01,d01,n01,h02,l02,s02,c02,t02,d02,n02,h03,l03,s03,c03,t03,d03,n03,p00,q00,r00,w00,p01,q01,r01,w01,p02,q02,r02,w02,p03,q03,r03,w03,b00,b01,b02,b03,bn0,E0⟩:=UL hx g0 g1 g2 g3 h0 h1 h2 h3
 obtain⟨s4,c4,a1,a2,a3,a4⟩:=IL h4 bn0
 simp only[e0,e1,e2,e3,e4,e5,f0,f1,f2,f3]
 simp only[p00,q00,r00,w00,p01,q01,r01,w01,p02,q02,r02,w02,p03,q03,r03,w03,a1]
 rw[←hy]at E0
 rw[a3p,hV]at hlt
 have hsum:V+x*y=t00+t01*18446744073709551616+t02*340282366920938463463374607431768211456+t03*6277101735386680763835789423207666416102355444464034512896+s4*115792089237316195423570985008687907853269984665640564039457584007913129639936+(o5+c4)*2135987035920910082395021706169552114602704522356652769947041607822219725780640550022962086936576:=by
  rw[hV]
  generalize x*y=P at*
  clear ht hb e0 e1 e2 e3 e4 e5 f0 f1 f2 f3 p00 q00 r00 w00 p01 q01 r01 w01 p02 q02 r02 w02 p03 q03 r03 w03 a1 h0 h1 h2 h3 h4 h5 g0 g1 g2 g3 b00 b01 b02 b03 bn0 hy hV hlt
  omega
 have hc:o5+c4<18446744073709551616:=by
  rw[←hV,hsum]at hlt
  clear hsum E0
  omega
 rw[Nu,BZ hc]
 refine⟨_,rfl,IsT.of_eq' (IsT.mk rfl rfl rfl rfl rfl rfl b00 b01 b02 b03 a3 hc) hsum.symm⟩
abbrev yt:=(Nat→Int)×(Int×((Nat→Int)×(Nat→Int)))
structure kI(r:yt)(M:Nat):Prop where
 m:IsN r.1 M
 odd:M%2=1
 one:1<M
 inv: ∃k:Nat,r.2.1=(k:Int)∧k<18446744073709551616∧(M*k+1)%18446744073709551616=0
 r1:IsN r.2.2.1 (2^256%M)
 r2:IsN r.2.2.2 (2^256*2^256%M)
theorem kI.pos {r:yt} {M:Nat}(h:kI r M):0<M:=by have:=h.one; omega
theorem kI.cop {r:yt} {M:Nat}(h:kI r M):Nat.Coprime M (2^256):=a0Z h.odd
theorem a9H {V V' a q y M P r:Nat}(h:V'*18446744073709551616=V+a*y+q*M)(hV:V*P%M=r*y%M):
  V'*(18446744073709551616*P)%M=(r+P*a)*y%M:=by
 have e1:V'*(18446744073709551616*P)=V*P+a*y*P+q*P*M:=by
  rw[←axF,h,axt,axt,ayZ q]
 have e3:a*y*P=P*a*y:=by rw[axi P a,ayZ]
 rw[e1,ayB,axt,azf,hV,←azf,e3]
theorem IU {V V' a q y M k:Nat}(hM:0<M)(h:V'*18446744073709551616=V+a*y+q*M) {x:Nat}(hV:V*2^(64*k)%M=(x%2^(64*k))*y%M)(ha:a=x/2^(64*k)%18446744073709551616):
  V'*2^(64*(k+1))%M=(x%2^(64*(k+1)))*y%M:=by
 have e2:x%2^(64*(k+1))=x%2^(64*k)+2^(64*k)*a:=by
  rw[show 64*(k+1)=64*k+64 by omega,ayg,Nat.mod_mul,ha]
 have e3:(2:Nat)^(64*(k+1))=18446744073709551616*2^(64*k):=by
  rw[show 64*(k+1)=64+64*k by omega,ayg]
 rw[e2,e3]
 exact a9H h hV
theorem ab1 {V V' a q y M:Nat}(h:V'*18446744073709551616=V+a*y+q*M)(hV:V<2*M)(ha:a<18446744073709551616)(hq:q<18446744073709551616)(hy:y<M):V'<2*M:=by
 have h1:a*y≤18446744073709551615*y:=axg _ (by omega)
 have h2:q*M≤18446744073709551615*M:=axg _ (by omega)
 omega
theorem aiz {U M k:Nat}(hk:(M*k+1)%18446744073709551616=0):(U+(U%18446744073709551616*k%18446744073709551616)*M)%18446744073709551616=0:=by
 have h1:(U+(U%18446744073709551616*k%18446744073709551616)*M)%18446744073709551616=(U*(M*k+1))%18446744073709551616:=by
  have h2:(U%18446744073709551616*k%18446744073709551616)*M%18446744073709551616=(U*k*M)%18446744073709551616:=by
   rw[Nat.mod_mul_mod,axF,Nat.mod_mul_mod,axF]
  rw[azf,h2,←azf,az2,ayC,aym,axF,axi k M]
 rw[h1,ayF,hk,Nat.mul_zero,Nat.zero_mod]
theorem zY {r:yt} {M:Nat}(hr:kI r M) {a b:Nat→Int} {x y:Nat}(ha:IsN a x)(hb:IsN b y)(hy:y<M):
  ∃z Z,cu (some r) a b=some z∧IsN z Z∧Z<M∧Z*2^256%M=x*y%M:=by
 rw[Aw]; unfold qE
 obtain⟨inv,k1,k2,k3⟩:=hr.inv
 have hM:=hr.m
 have hM256:=hM.1
 have hpos:=hr.pos
 obtain⟨m,i,o1,o2⟩:=r
 simp only at k1 hM
 subst k1
 have hdig: ∀j,j<4→ ∃w:Nat,a j=(w:Int)∧w<18446744073709551616∧w=x/2^(64*j)%18446744073709551616:=fun j hj=>⟨_,ha.2 j hj,axh _ (by decide),rfl⟩
 have round: ∀(t:Nat→Int) (V w:Nat),IsT t V→V<2*M→w<18446744073709551616→ ∃(t1 t2:Nat→Int) (V' u:Nat),iw t (w:Int) b=some t1∧t1 0=(u:Int)∧
   iw t1 (IntKind.u64.wrap ((u:Int)*(inv:Int))) m=some t2∧IsT (upd (sj t2 0 5 (fun j=>t2 (1+j))) 5 0) V'∧V'<2*M∧ ∃q,V'*18446744073709551616=V+w*y+q*M:=by
  intro t V w ht hV hw
  have hwy:w*y≤18446744073709551615*y:=axg _ (by omega)
  obtain⟨t1,a1,a2⟩:=Hw ht hw hb (by rw[a3p]; omega)
  have hu:=a2.2 0 (by omega)
  rw[ayt,azC]at hu
  have hq:(V+w*y)%18446744073709551616*inv%18446744073709551616<18446744073709551616:=axh _ (by decide)
  have hqM:(V+w*y)%18446744073709551616*inv%18446744073709551616*M≤18446744073709551615*M:=axg _ (by omega)
  obtain⟨t2,b1,b2⟩:=Hw a2 hq hM (by rw[a3p]; omega)
  have hdiv:=aiz (U:=V+w*y) k3
  have hV':(V+w*y+(V+w*y)%18446744073709551616*inv%18446744073709551616*M)/18446744073709551616*18446744073709551616=V+w*y+(V+w*y)%18446744073709551616*inv%18446744073709551616*M:=by
   have h5:=axI (V+w*y+(V+w*y)%18446744073709551616*inv%18446744073709551616*M) 18446744073709551616
   rw[hdiv]at h5
   omega
  refine⟨t1,t2,_,_,a1,hu,?_,b2.shift,ab1 hV' hV hw hq hy,_,hV'⟩
  rw[a0U,wrap_u64,b1]
 obtain⟨w0,c0,d0,e0⟩:=hdig 0 (by omega)
 obtain⟨w1,c1,d1,e1⟩:=hdig 1 (by omega)
 obtain⟨w2,c2,d2,e2⟩:=hdig 2 (by omega)
 obtain⟨w3,c3,d3,e3⟩:=hdig 3 (by omega)
 obtain⟨t1,t2,V1,u1,p1,p2,p3,p4,p5,q1,p6⟩:=round (fun _=>0) 0 w0 IsT.zero (by omega) d0
 obtain⟨t3,t4,V2,u2,g1,g2,g3,g4,g5,q2,g6⟩:=round _ V1 w1 p4 p5 d1
 obtain⟨t5,t6,V3,u3,h1,h2,h3,h4,h5,q3,h6⟩:=round _ V2 w2 g4 g5 d2
 obtain⟨t7,t8,V4,u4,i1,i2,i3,i4,i5,q4,i6⟩:=round _ V3 w3 h4 h5 d3
 clear round hdig
 have s1:=IU (k:=0) (x:=x) hpos p6 (by simp[Nat.mod_one]) e0
 have s2:=IU (k:=1) (x:=x) hpos g6 s1 e1
 have s3:=IU (k:=2) (x:=x) hpos h6 s2 e2
 have s4:=IU (k:=3) (x:=x) hpos i6 s3 e3
 rw[show 64*(3+1)=256 from rfl,awX ha.1]at s4
 simp only[c0,c1,c2,c3,p1,p2,p3,g1,g2,g3,h1,h2,h3,i1,i2,i3]
 clear p1 p2 p3 p4 g1 g2 g3 g4 h1 h2 h3 h4 i1 i2 i3 s1 s2 s3 p6 g6 h6 i6
 have hz5:t8 5=((V4/2^256%2^64:Nat):Int):=by
  have:=i4.2 4 (by omega)
  rw[upd_ne (by omega)]at this
  unfold sj at this
  rw[ax1 (by omega),show 18446744073709551616^4=2^256 by decide]at this
  exact this
 generalize hout:(fun j=>upd (sj t8 0 5 (fun j=>t8 (1+j))) 5 0 (0+j))=out
 have hN:IsN out (V4%2^256):=by
  refine⟨axh _ (by decide),fun j hj=>?_⟩
  rw[←hout]
  show upd (sj t8 0 5 (fun j=>t8 (1+j))) 5 0 (0+j)=_
  rw[axc,i4.2 j (by omega)]
  congr 1
  rw[show(18446744073709551616:Nat)=2^64 by decide,←ayU]
  apply ayy
  intro b
  simp only[axB,axU]
  by_cases hb:b<64
  ·rw[ax6 hb,ax6 (show b+64*j<256 by omega),axy,axy]
  ·rw[ax9 hb,axP,axP]
 have hred: ∀Z,Z+M=V4→Z*2^256%M=x*y%M:=by
  intro Z hZ
  rw[←s4,←hZ,axt,axi M,ayB]
 obtain⟨d,f1,f2⟩:=tZ hN hM
 by_cases hbig:2^256≤V4
 ·have hnz:V4/2^256%2^64≠0:=by
   simp only[Nat.reducePow]at*; omega
  generalize V4/2^256%2^64=g at hz5 hnz
  simp(disch:=omega) only[WW,hz5,f1]
  exact⟨d,V4-M,rfl,f2.of_eq (by omega),by omega,hred _ (by omega)⟩
 ·have hz:V4/2^256%2^64=0:=by
   rw[axX (by omega)]
  rw[hz]at hz5
  have hN':=hN.of_eq (awX (show V4<2^256 by omega))
  by_cases hc:V4<M
  ·simp(disch:=omega) only[WW,hz5,fJ hN' hM,Db,ax1 hc]
   exact⟨out,V4,rfl,hN',hc,s4⟩
  ·have hc':(0:Int)≤if M<V4 then 1 else 0:=by split<;>decide
   simp(disch:=omega) only[WW,hz5,fJ hN' hM,Db,awU hc,f1]
   exact⟨d,V4-M,rfl,f2.of_eq (by omega),by omega,hred _ (by omega)⟩
theorem kJ {r:yt} {M:Nat}(hr:kI r M) {a b:Nat→Int} {u v:Nat}(ha:IsN a (u*2^256%M))(hb:IsN b (v*2^256%M)):
  ∃z,cu (some r) a b=some z∧IsN z (u*v*2^256%M):=by
 obtain⟨z,Z,h1,h2,h3,h4⟩:=zY hr ha hb (axh _ hr.pos)
 refine⟨z,h1,h2.of_eq ?_⟩
 rw[←awX h3]
 apply vH (c:=2^256) hr.cop
 rw[h4,←ayF]
 rw[Nat.mul_mul_mul_comm,axF (u*v)]
theorem UR {r:yt} {M:Nat}(hr:kI r M) {a b:Nat→Int} {u v:Nat}(ha:IsN a (u*2^256%M))(hb:IsN b v)(hv:v<M):
  ∃z,cu (some r) a b=some z∧IsN z (u*v%M):=by
 obtain⟨z,Z,h1,h2,h3,h4⟩:=zY hr ha hb hv
 refine⟨z,h1,h2.of_eq ?_⟩
 rw[←awX h3]
 apply vH (c:=2^256) hr.cop
 rw[h4,Nat.mod_mul_mod]
 rw[ayZ]
theorem lT {r:yt} {M:Nat}(hr:kI r M):d9 (some r)=some true:=by
 rw[zy]; unfold om
 obtain⟨k,k1,k2,k3⟩:=hr.inv
 have:k≠0:=by rintro rfl; omega
 simp(disch:=omega) only[k1,WW]
theorem WQ {r:yt} {M:Nat}(hr:kI r M) {a:Nat→Int} {x:Nat}(ha:IsN a x): ∃z,qb (some r) a=some z∧IsN z (x%M):=by
 rw[Cv]; unfold sM
 obtain⟨z,z1,z2⟩:=zX ha hr.m hr.pos
 by_cases hc:x<M
 ·simp(disch:=omega) only[WW,fJ ha hr.m,Db,ax1 hc]
  exact⟨a,rfl,ha.of_eq (awX hc).symm⟩
 ·have hc': ¬(if M<x then(1:Int)else 0)<0:=by split<;>decide
  simp(disch:=omega) only[WW,fJ ha hr.m,Db,awU hc,z1]
  exact⟨z,rfl,z2⟩
theorem UU {r:yt} {M:Nat}(hr:kI r M) {a:Nat→Int} {x:Nat}(ha:IsN a x): ∃z,nA (some r) a=some z∧IsN z (x*2^256%M):=by
 rw[Ay]; unfold qF
 obtain⟨l,l1,l2⟩:=WQ hr ha
 obtain⟨z,Z,h1,h2,h3,h4⟩:=zY hr l2 hr.r2 (axh _ hr.pos)
 simp(disch:=omega) only[WW,lT hr,l1,h1]
 refine⟨z,rfl,h2.of_eq ?_⟩
 rw[←awX h3]
 apply vH (c:=2^256) hr.cop
 rw[h4,←ayF,axF]
theorem a10 {r:yt} {M:Nat}(hr:kI r M):nC (some r)=some r.1:=by
 rw[Gm]; unfold yJ
 simp(disch:=omega) only[WW,lT hr]
theorem oI {r:yt} {M:Nat}(hr:kI r M) {a:Nat→Int} {x:Nat}(ha:IsN a x):cO (some r) a=some (decide (x<M)):=by
 rw[EF]; unfold wh
 by_cases hc:x<M
 ·simp(disch:=omega) only[WW,lT hr,fJ ha hr.m,Db,ax1 hc]
 ·have hc': ¬(if M<x then(1:Int)else 0)<0:=by split<;>decide
  simp(disch:=omega) only[WW,lT hr,fJ ha hr.m,Db,awU hc]
theorem UW {m x d D:Int}(h:d∣m*x-1)(hd:D∣d*d)(hD:D∣18446744073709551616):
  D∣m*((x*((2-(m*x)%18446744073709551616)%18446744073709551616))%18446744073709551616)-1:=by
 obtain⟨c,hc⟩:=h
 obtain⟨e,he⟩:=hd
 obtain⟨f,hf⟩:=hD
 have h1:=Int.mul_ediv_add_emod (m*x) 18446744073709551616
 generalize (m*x)%18446744073709551616=r1 at*
 generalize (m*x)/18446744073709551616=q1 at*
 have h2:=Int.mul_ediv_add_emod (2-r1) 18446744073709551616
 generalize (2-r1)%18446744073709551616=r2 at*
 generalize (2-r1)/18446744073709551616=q2 at*
 have h3:=Int.mul_ediv_add_emod (x*r2) 18446744073709551616
 generalize (x*r2)%18446744073709551616=r3 at*
 generalize (x*r2)/18446744073709551616=q3 at*
 refine⟨-(e*c*c)+m*x*f*q1-m*x*f*q2-m*f*q3,?_⟩
 have e3:r3=x*r2-18446744073709551616*q3:=by omega
 have e2:r2=2-r1-18446744073709551616*q2:=by omega
 have e1:r1=m*x-18446744073709551616*q1:=by omega
 have e0:m*x=1+d*c:=by omega
 rw[e3,e2,e1,hf]
 grind
theorem a5N(x:Int):IntKind.u64.wrap x=x%18446744073709551616:=II x
theorem a9I {m:Nat}(hm:m<18446744073709551616)(hodd:m%2=1): ∀t t1 t2 t3 t4:Int,
  t=(IntKind.u64.wrap ((m:Int)*(IntKind.u64.wrap (2-(IntKind.u64.wrap ((m:Int)*(m:Int)))))))→
  t1=(IntKind.u64.wrap ((m:Int)*(IntKind.u64.wrap (t*(IntKind.u64.wrap (2-(IntKind.u64.wrap ((m:Int)*t))))))))→
  t2=(IntKind.u64.wrap ((IntKind.u64.wrap (t*(IntKind.u64.wrap (2-(IntKind.u64.wrap ((m:Int)*t))))))*(IntKind.u64.wrap (2-t1))))→
  t3=(IntKind.u64.wrap ((m:Int)*(IntKind.u64.wrap (t2*(IntKind.u64.wrap (2-(IntKind.u64.wrap ((m:Int)*t2))))))))→
  t4=(IntKind.u64.wrap ((IntKind.u64.wrap (t2*(IntKind.u64.wrap (2-(IntKind.u64.wrap ((m:Int)*t2))))))*(IntKind.u64.wrap (2-t3))))→
  ∃k:Nat,IntKind.u64.wrap (0-t4)=(k:Int)∧k<18446744073709551616∧(m*k+1)%18446744073709551616=0:=by
 intro t t1 t2 t3 t4 h0 h1 h2 h3 h4
 subst h1; subst h3
 simp only[a5N]at*
 have k3:(8:Int)∣(m:Int)*(m:Int)-1:=by
  have:m*m%8=1:=by
   rw[ayF]
   have:m%8=1∨m%8=3∨m%8=5∨m%8=7:=by omega
   rcases this with h|h|h|h<;>rw[h]
  have e:((m:Int)*(m:Int))=((m*m:Nat):Int):=rfl
  rw[e]; omega
 have k6:=UW (D:=64) k3 ⟨1,by decide⟩ ⟨288230376151711744,by decide⟩
 rw[←h0]at k6
 have k12:=UW (D:=4096) k6 ⟨1,by decide⟩ ⟨4503599627370496,by decide⟩
 have k24:=UW (D:=16777216) k12 ⟨1,by decide⟩ ⟨1099511627776,by decide⟩
 rw[←h2]at k24
 have k48:=UW (D:=281474976710656) k24 ⟨1,by decide⟩ ⟨65536,by decide⟩
 have k64:=UW (D:=18446744073709551616) k48 ⟨4294967296,by decide⟩ ⟨1,by decide⟩
 rw[←h4]at k64
 refine⟨((0-t4)%18446744073709551616).toNat,by omega,by omega,?_⟩
 have e1:(((0-t4)%18446744073709551616).toNat:Int)=(0-t4)%18446744073709551616:=az9 (Int.emod_nonneg _ (by decide))
 have h5:=Int.mul_ediv_add_emod (0-t4) 18446744073709551616
 have e2:((m*((0-t4)%18446744073709551616).toNat+1:Nat):Int)%18446744073709551616=0:=by
  rw[Int.natCast_add,Int.natCast_mul,e1]
  obtain⟨c,hc⟩:=k64
  generalize (0-t4)/18446744073709551616=q at*
  have e3:(0-t4)%18446744073709551616=0-t4-18446744073709551616*q:=by omega
  rw[e3]
  have e4:(m:Int)*(0-t4-18446744073709551616*q)+((1:Nat):Int)=18446744073709551616*(-c-m*q):=by
   have:((1:Nat):Int)=1:=rfl
   rw[this]
   grind
  rw[e4]
  exact Int.mul_emod_right _ _
 omega
theorem IsN.lowbit {a:Nat→Int} {n:Nat}(h:IsN a n):ak .and .u64 (a 0) 1=((n%2:Nat):Int):=by
 obtain⟨x0,x1,x2,x3,e0,e1,e2,e3,h0,h1,h2,h3,hn⟩:=h.get
 rw[e0,a9D h0]
 congr 1; omega
theorem mo {m:Nat→Int} {M:Nat}(hm:IsN m M):
  (M%2=0∨M=1→wT m=some (none,1))∧(M%2=1→M≠1→ ∃r,wT m=some (some r,0)∧kI r M∧r.1=m):=by
 rw[Qg]; unfold Ov
 obtain⟨o,o1,o2⟩:=nQ (n:=1) (by decide)
 have o2':IsN o 1:=o2
 simp only[hm.lowbit]
 by_cases h0:M%2=0
 ·refine⟨fun _=>?_,fun h=>by omega⟩
  simp(disch:=omega) only[WW,h0]
 ·by_cases h1:M=1
  ·refine⟨fun _=>?_,fun _ h=>absurd h1 h⟩
   simp(disch:=omega) only[WW,o1,hm.eqb o2']
  ·refine⟨fun h=>by omega,fun _ _=>?_⟩
   have hpos:0<M:=by omega
   obtain⟨a,a1,a2⟩:=C9 IsN.zero o2' hm hpos
   obtain⟨b,b1,b2⟩:=OY a2 a2 hm hpos
   obtain⟨x0,x1,x2,x3,e0,e1,e2,e3,g0,g1,g2,g3,hn⟩:=hm.get
   obtain⟨k,k1,k2,k3⟩:=a9I g0 (by omega) _ _ _ _ _ rfl rfl rfl rfl rfl
   simp(disch:=omega) only[WW,o1,hm.eqb o2',a1,b1,e0]
   refine⟨_,rfl,⟨hm,by omega,by omega,⟨k,k1,k2,?_⟩,a2.of_eq (by rw[ayf,ay0]),b2.of_eq (by rw[ayf,ay0,←ayF])⟩,rfl⟩
   have e4:M*k+1=(x0*k+1)+18446744073709551616*((x1+x2*18446744073709551616+x3*340282366920938463463374607431768211456)*k):=by
    rw[←axF,hn]
    have:x0+x1*18446744073709551616+x2*340282366920938463463374607431768211456+x3*6277101735386680763835789423207666416102355444464034512896=x0+18446744073709551616*(x1+x2*18446744073709551616+x3*340282366920938463463374607431768211456):=by omega
    rw[this,axt]; omega
   rw[e4,aze]; exact k3
theorem acT {a b:Nat}(h:a≤b):Nat.ble a b=true:=ax2 h
theorem arO {a b:Nat}(h: ¬a≤b):Nat.ble a b=false:=by
 cases hb:Nat.ble a b
 ·rfl
 ·exact absurd (ax7 hb) h
def iY(f:Nat→Nat):Nat→Nat
 |0=>1
 |n+1=>iY f n*f n
theorem Hy {f g:Nat→Nat} : ∀ {n:Nat},(∀i,i<n→f i=g i)→iY f n=iY g n:=by
 intro n
 induction n with
 |zero=>intro h; rfl
 |succ n ih=>intro h; rw[iY,iY,ih fun i hi=>h i (by omega),h n (by omega)]
theorem a5O: ∀n,iY (fun _=>1) n=1:=by
 intro n
 induction n with
 |zero=>rfl
 |succ n ih=>rw[iY,ih]
theorem a11(B e d:Nat→Nat): ∀n,iY (fun i=>B i^e i) n^16*iY (fun i=>B i^d i) n=iY (fun i=>B i^(16*e i+d i)) n:=by
 intro n
 induction n with
 |zero=>rfl
 |succ n ih=>
  rw[iY,iY,iY,←ih,Nat.mul_pow,Nat.mul_mul_mul_comm,ayg,←ayU,axi (e n) 16]
theorem P6 {r:yt} {M:Nat}(hr:kI r M) {a:Nat→Int} {x:Nat}(ha:IsN a x):
  ∃out,oq (some r) a=some out∧ ∀d,d<16→IsN (out d) (x^d*2^256%M):=by
 rw[xX]; unfold mI
 obtain⟨f,f1,f2⟩:=UU hr ha
 simp only[f1]
 generalize ho:aB eP _=o
 obtain⟨out,hy,hQ⟩:=aO (R:=eP) (fun k out=>Gh r ((1+k:Nat):Int) (fun _=>fun _=>0) out f) (fun out=>DK (fun _=>fun _=>0) out)
  (fun k out=> ∀d,d<1+k→IsN (out d) (x^d*2^256%M)) 15
  (fun k hk out hP=>by
   obtain⟨z,z1,z2⟩:=kJ hr (hP k (by omega)) f2
   refine⟨upd out (1+k) z,?_,fun d hd=>?_⟩
   ·unfold eP
    simp(disch:=omega) only[CC,WW,azr,z1,azb]
   ·by_cases e:d=1+k
    ·subst e
     rw[upd_same,aym,ays]; exact z2
    ·rw[upd_ne e]; exact hP d (by omega))
  (fun out hP=>by
   unfold eP
   simp(disch:=omega) only[CC,WW]) (upd (fun _=>fun _=>0) 0 r.2.2.1) (fun d hd=>by
    obtain rfl:d=0:=by omega
    rw[upd_same,ayt,ayf]; exact hr.r1)
 obtain rfl:=ho.symm.trans hy
 exact⟨out,rfl,fun d hd=>hQ d (by omega)⟩
theorem Rn {e:Nat→Int} {E:Nat}(he:IsN e E)(at_:Nat):ou e (at_:Int)=some ((E/2^at_%16:Nat):Int):=by
 rw[xY]; unfold sN
 obtain⟨a,a1,a2⟩:=Ka he at_
 obtain⟨b,b1,b2⟩:=QJ a2 252
 obtain⟨c,c1,c2⟩:=Ka b2 252
 have hv:E/2^at_*2^252%2^256/2^252=E/2^at_%16:=by
  generalize E/2^at_=v
  rw[show(2:Nat)^256=16*2^252 by decide,Nat.mul_mod_mul_right,Nat.mul_div_cancel _ (az3 (by decide))]
 simp only[a1,b1,c1]
 have c3:=c2.of_eq (m:=E/2^at_%16) hv
 rw[tY c3,ax1 (by omega)]
theorem Hz {r:yt} {M:Nat}(hr:kI r M) {n:Nat}(hn:n≤64) {bases exps:Nat→(Nat→Int)} {B E:Nat→Nat}(hB: ∀i,i<n→IsN (bases i) (B i))(hE: ∀i,i<n→IsN (exps i) (E i)):
  ∃z,fC (some r) n bases n exps=some (z,0)∧IsN z (iY (fun i=>B i^E i) n%M):=by
 rw[Az]; unfold qG
 simp(disch:=omega) only[WW,lT hr]
 generalize ho:aB gF _=o
 obtain⟨⟨tb,L⟩,hy,q1,q2,q3⟩:=aO (R:=gF) (fun k (s:(Nat→Nat→Nat→Int)×Nat)=>KL r n exps k s.1 (s.2:Int) n bases (n:Int) (k:Int) (fun _=>0)) (fun s=>Gi r n exps n s.1 (s.2:Int) (fun _=>0))
  (fun k s=>(∀i,i<k→ ∀d,d<16→IsN (s.1 i d) (B i^d*2^256%M))∧(∀i,i<k→iq (E i)≤s.2)∧s.2≤256) n
  (fun k hk s hP=>by
   obtain⟨tb,L⟩:=s
   obtain⟨h1,h2,h3⟩:=hP
   simp only at h1 h2 h3
   obtain⟨p,p1,p2⟩:=P6 hr (hB k hk)
   have hl:=jy (hE k hk)
   have hl256:iq (E k)≤256:=tX (hE k hk).1
   refine⟨(glue k tb (fun j=>upd (fun _=>fun _=>fun _=>0) 0 p (0+j)),max L (iq (E k))),?_,fun i hi d hd=>?_,fun i hi=>?_,?_⟩
   ·unfold gF
    have hmax:(if(L:Int)<(iq (E k):Int)then(iq (E k):Int)else(L:Int))=((max L (iq (E k)):Nat):Int):=by
     split<;>omega
    simp(disch:=omega) only[CC,WW,p1,hl,acT,Bool.and_self,hmax]
   ·simp only[glue]
    by_cases e:i<k
    ·rw[show Nat.blt i k=true from acT e]; exact h1 i e d hd
    ·obtain rfl:i=k:=by omega
     rw[show Nat.blt i i=false from arO (by omega),axn,ayx]; exact p2 d hd
   ·simp only
    by_cases e:i=k
    ·subst e; omega
    ·have:=h2 i (by omega); omega
   ·simp only; omega)
  (fun s hP=>by
   unfold gF
   simp(disch:=omega) only[CC,WW]) (fun _=>fun _=>fun _=>0,0) ⟨fun i hi=>by omega,fun i hi=>by omega,by simp⟩
 obtain rfl:=ho.symm.trans hy
 clear ho hy
 simp only at q1 q2 q3
 obtain⟨A,hA⟩: ∃A,A=(L+3)/4:=⟨_,rfl⟩
 have hstart:IntKind.i64.wrap (IntKind.i64.wrap (Int.tdiv (IntKind.i64.wrap (IntKind.i64.wrap ((L:Int)+4)-1)) 4)*4)=((A*4-4*0:Nat):Int):=by
  rw[UG,eU (by omega),a9B (by omega),eU (by omega),a3n,eU (by omega),a9z,eU (by omega)]
  congr 1; omega
 simp only[hstart]
 generalize ho:aB eF _=o
 obtain⟨out,hy,hQ⟩:=aO (R:=eF) (fun j (out:Nat→Int)=>KM r n exps n tb ((A*4-4*j:Nat):Int) (fun _=>0) out) (fun out=>Gl r (fun _=>0) out)
  (fun j out=>IsN out (iY (fun i=>B i^(E i/2^(A*4-4*j))) n*2^256%M)) A
  (fun j hj out hP=>by
   generalize hu:iY (fun i=>B i^(E i/2^(A*4-4*j))) n=u at hP
   obtain⟨a,a1,a2⟩:=kJ hr hP hP
   obtain⟨b,b1,b2⟩:=kJ hr a2 a2
   obtain⟨c,c1,c2⟩:=kJ hr b2 b2
   obtain⟨d,d1,d2⟩:=kJ hr c2 c2
   have hu16:u*u*(u*u)*(u*u*(u*u))*(u*u*(u*u)*(u*u*(u*u)))=u^16:=by grind
   rw[hu16]at d2
   obtain⟨z,hz,hz2⟩:=aO (R:=gG) (fun k (out:Nat→Int)=>qL r n exps n tb ((A*4-4*(j+1):Nat):Int) n exps (n:Int) (k:Int) (fun _=>0) out) (fun out=>Gj r n exps n tb ((A*4-4*(j+1):Nat):Int) (fun _=>0) out)
    (fun k out=>IsN out (u^16*iY (fun i=>B i^(E i/2^(A*4-4*(j+1))%16)) k*2^256%M)) n
    (fun k hk out hP=>by
     have hd:=Rn (hE k hk) (A*4-4*(j+1))
     have hlt:E k/2^(A*4-4*(j+1))%16<16:=axh _ (by decide)
     obtain⟨z,z1,z2⟩:=kJ hr hP (q1 k hk _ hlt)
     refine⟨z,?_,z2.of_eq (by rw[iY,←axF])⟩
     unfold gG
     simp(disch:=omega) only[CC,WW,hd,axc,z1])
    (fun out hP=>by
     unfold gG
     simp(disch:=omega) only[CC,WW]) d (by rw[iY,ayC]; exact d2)
   refine⟨z,?_,hz2.of_eq ?_⟩
   ·have hz':aB gG (qL r n exps n tb ((A*4-4*(j+1):Nat):Int) n exps (n:Int) 0 (fun _=>0) d)=_:=hz
    simp only[qL]at hz'
    unfold eF
    have e1:IntKind.i64.wrap (((A*4-4*j:Nat):Int)-4)=((A*4-4*(j+1):Nat):Int):=by
     rw[wrap_i64 (by omega)]; omega
    simp(disch:=omega) only[WW,a1,b1,c1,d1,e1,hz']
   ·rw[←hu,a11]
    congr 2
    apply Hy
    intro i hi
    have e2:A*4-4*j=(A*4-4*(j+1))+4:=by omega
    rw[e2,ayg 2 _ 4,←ay3,show(2:Nat)^4=16 by decide]
    have:=axI (E i/2^(A*4-4*(j+1))) 16
    rw[this])
  (fun out hP=>by
   unfold eF
   simp(disch:=omega) only[CC,WW]) r.2.2.1 (by
    have:iY (fun i=>B i^(E i/2^(A*4-4*0))) n=iY (fun _=>1) n:=Hy fun i hi=>by
     have h1:=IK (E i)
     have h2:2^iq (E i)≤2^(A*4-4*0):=axo (by decide) (by have:=q2 i hi; omega)
     rw[axX (by omega),ayt]
    rw[this,a5O,ayf]; exact hr.r1)
 obtain rfl:=ho.symm.trans hy
 obtain⟨w,w1,w2⟩:=nQ (n:=1) (by decide)
 have w2':IsN w 1:=w2
 obtain⟨z,z1,z2⟩:=UR hr hQ w2' hr.one
 simp only[w1,z1]
 refine⟨z,rfl,z2.of_eq ?_⟩
 rw[ayC,show A*4-4*A=0 by omega]
 congr 1
 exact Hy fun i hi=>by rw[ayt,azC]
theorem qz {r:yt} {M:Nat}(hr:kI r M) {a e:Nat→Int} {x k:Nat}(ha:IsN a x)(he:IsN e k): ∃z,aS (some r) a e=some z∧IsN z (x^k%M):=by
 rw[Cw]; unfold sO
 obtain⟨z,z1,z2⟩:=Hz hr (n:=1) (by decide) (bases:=fun j=>upd (fun _=>fun _=>0) 0 a (0+j)) (exps:=fun j=>upd (fun _=>fun _=>0) 0 e (0+j)) (B:=fun _=>x) (E:=fun _=>k)
  (fun i hi=>by
   obtain rfl:i=0:=by omega
   exact ha) (fun i hi=>by
   obtain rfl:i=0:=by omega
   exact he)
 simp only[z1]
 exact⟨z,rfl,z2.of_eq (by rw[iY,iY,ayf])⟩
theorem zZ {a b m:Nat}(hm:0<m)(hm2:m<9223372036854775808):yZ (a:Int) (b:Int) (m:Int)=some ((a*b%m:Nat):Int):=by
 rw[MK]; unfold KR
 have h1:=axh a hm
 have h2:=axh b hm
 obtain⟨h,l,e1,e2,e3,e4⟩:=K9 (x:=a%m) (y:=b%m) (by omega) (by omega)
 have hh:h<m:=by
  apply axp
  intro hc
  have h3:a%m*(b%m)<m*m:=Nat.mul_lt_mul'' h1 h2
  have h4:m*m≤m*18446744073709551616:=ayK _ (by omega)
  have h5:m*18446744073709551616≤h*18446744073709551616:=axg _ (by omega)
  omega
 have hv:=lS (hi:=h) (lo:=l) (y:=m) (by omega) hh e3
 have h6:=axh (h*18446744073709551616+l) hm
 simp(disch:=omega) only[CC,WW,e1,hv]
 rw[←e2,←ayF]
theorem UY {a m:Nat} {e:Nat→Int} {E:Nat}(he:IsN e E)(hm:0<m)(hm2:m<9223372036854775808):Ir (a:Int) e (m:Int)=some ((a^E%m:Nat):Int):=by
 rw[ML]; unfold KS
 simp(disch:=omega) only[WW,Ej he]
 generalize ho:aB jF _=o
 have hlen:iq E≤256:=tX he.1
 obtain⟨L,hL⟩: ∃L,L=iq E:=⟨_,rfl⟩
 rw[←hL]at ho hlen
 obtain⟨x,hy,hQ⟩:=aO (R:=jF) (fun j (x:Nat)=>WE (a:Int) (m:Int) (x:Int) ((L:Int)-1-(j:Nat)) e) (fun x=>Rb (x:Int))
  (fun j x=>x=a^(E/2^(L-j))%m) L
  (fun j hj x hP=>by
   have hb:=vI E (L-1-j)
   rw[show L-1-j+1=L-j by omega]at hb
   have hbit:=Nw he ((L:Int)-1-(j:Nat))
   rw[show((L:Int)-1-(j:Nat))=((L-1-j:Nat):Int)by omega,axd]at hbit
   have ht:=zZ (a:=x) (b:=x) hm hm2
   have hx2:x*x%m=a^(E/2^(L-j)*2)%m:=by
    rw[hP,←ayF,axi (E/2^(L-j)) 2,Nat.two_mul,ayg]
   have hk:((L:Int)-1-(j:Nat))=((L-1-j:Nat):Int):=by omega
   by_cases hbt:E.testBit (L-1-j)
   ·rw[ax1 ⟨by omega,hbt⟩]at hbit
    rw[ax1 hbt]at hb
    refine⟨x*x%m*a%m,?_,?_⟩
    ·unfold jF
     simp(disch:=omega) only[hk,WW,ht,hbit,zZ hm hm2,wrap_i64]
     rw[show((L-1-j:Nat):Int)-1=(L:Int)-1-((j+1:Nat):Int)by omega]
    ·rw[show L-(j+1)=L-1-j by omega,hb,ays,hx2,Nat.mod_mul_mod]
   ·rw[awU (fun h=>hbt h.2)]at hbit
    rw[awU hbt,ay0]at hb
    refine⟨x*x%m,?_,?_⟩
    ·unfold jF
     simp(disch:=omega) only[hk,WW,ht,hbit,wrap_i64]
     rw[show((L-1-j:Nat):Int)-1=(L:Int)-1-((j+1:Nat):Int)by omega]
    ·rw[show L-(j+1)=L-1-j by omega,hb,hx2])
  (fun x hP=>by
   unfold jF
   simp(disch:=omega) only[WW]) (1%m) (by
    rw[Nat.sub_zero,axX (hL▸IK E),ayt])
 have hstart:IntKind.i64.wrap ((L:Int)-1)=(L:Int)-1-((0:Nat):Int):=by
  rw[wrap_i64 (by omega)]; omega
 rw[hstart]at ho
 obtain rfl:=ho.symm.trans hy
 simp only[hQ,ayx,ayt,azC]
end Go.Pl
