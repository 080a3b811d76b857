/-
 Products and what is left of them.
-/
import Derived.Test.YtlohbhpbkieoeaaGreatMA
import Derived.Test.YtlohbhpbkieoeaaGreatPlA
set_option linter.unusedVariables false
set_option linter.unusedSimpArgs false
namespace Go.Pl
open Go Go.Den
theorem Sb {x y o c:Nat}(hx:x<18446744073709551616)(hy:y<18446744073709551616)(ho:o<18446744073709551616)(hc:c<18446744073709551616):
  ∃h l s c1 t c2 n:Nat,bits_Mul64 (x:Int) (y:Int)=some ((h:Int),(l:Int))/\bG (l:Int) (o:Int) 0=some ((s:Int),(c1:Int))/\bG (s:Int) (c:Int) 0=some ((t:Int),(c2:Int))/\
   IntKind.u64.wrap (IntKind.u64.wrap ((h:Int)+(c1:Int))+(c2:Int))=(n:Int)/\t<18446744073709551616/\n<18446744073709551616/\x*y+o+c=n*18446744073709551616+t:=by
 obtain⟨h,l,e1,e2,e3,e4⟩:=KC hx hy;obtain⟨s,c1,f1,f2,f3,f4⟩:=Ja e3 ho;obtain⟨t,c2,g1,g2,g3,g4⟩:=Ja f3 hc;have hm:x*y<=18446744073709551615*18446744073709551615:=ayL (by omega) (by omega);have hn:h+c1+c2<18446744073709551616:=by omega
 refine⟨h,l,s,c1,t,c2,h+c1+c2,e1,f1,g1,?_,g3,hn,by omega⟩;simp(disch:=omega) only[CC,Cb]
theorem Va {x y0 y1 y2 y3 o0 o1 o2 o3:Nat}(hx:x<18446744073709551616)(hy0:y0<18446744073709551616)(hy1:y1<18446744073709551616)(hy2:y2<18446744073709551616)(hy3:y3<18446744073709551616)
  (ho0:o0<18446744073709551616) (ho1:o1<18446744073709551616) (ho2:o2<18446744073709551616) (ho3:o3<18446744073709551616):
  ∃h0 l0 s0 c0 t0 d0 n0 h1 l1 s1 c1 t1 d1 n1 h2 l2 s2 c2 t2 d2 n2 h3 l3 s3 c3 t3 d3 n3:Nat,
   bits_Mul64 (x:Int) (y0:Int)=some ((h0:Int),(l0:Int))/\bG (l0:Int) (o0:Int) 0=some ((s0:Int),(c0:Int))/\bG (s0:Int) 0 0=some ((t0:Int),(d0:Int))/\IntKind.u64.wrap (IntKind.u64.wrap ((h0:Int)+(c0:Int))+(d0:Int))=(n0:Int)/\
   bits_Mul64 (x:Int) (y1:Int)=some ((h1:Int),(l1:Int))/\bG (l1:Int) (o1:Int) 0=some ((s1:Int),(c1:Int))/\bG (s1:Int) (n0:Int) 0=some ((t1:Int),(d1:Int))/\IntKind.u64.wrap (IntKind.u64.wrap ((h1:Int)+(c1:Int))+(d1:Int))=(n1:Int)/\
   bits_Mul64 (x:Int) (y2:Int)=some ((h2:Int),(l2:Int))/\bG (l2:Int) (o2:Int) 0=some ((s2:Int),(c2:Int))/\bG (s2:Int) (n1:Int) 0=some ((t2:Int),(d2:Int))/\IntKind.u64.wrap (IntKind.u64.wrap ((h2:Int)+(c2:Int))+(d2:Int))=(n2:Int)/\
   bits_Mul64 (x:Int) (y3:Int)=some ((h3:Int),(l3:Int))/\bG (l3:Int) (o3:Int) 0=some ((s3:Int),(c3:Int))/\bG (s3:Int) (n2:Int) 0=some ((t3:Int),(d3:Int))/\IntKind.u64.wrap (IntKind.u64.wrap ((h3:Int)+(c3:Int))+(d3:Int))=(n3:Int)/\
   t0<18446744073709551616/\t1<18446744073709551616/\t2<18446744073709551616/\t3<18446744073709551616/\n3<18446744073709551616/\
   x*(y0+y1*18446744073709551616+y2*340282366920938463463374607431768211456+y3*6277101735386680763835789423207666416102355444464034512896)+(o0+o1*18446744073709551616+o2*340282366920938463463374607431768211456+o3*6277101735386680763835789423207666416102355444464034512896)=
    t0+t1*18446744073709551616+t2*340282366920938463463374607431768211456+t3*6277101735386680763835789423207666416102355444464034512896+n3*115792089237316195423570985008687907853269984665640564039457584007913129639936:=by
 obtain⟨h0,l0,s0,c0,t0,d0,n0,p0,q0,r0,w0,bt0,bn0,e0⟩:=Sb (c:=0) hx hy0 ho0 (by decide);obtain⟨h1,l1,s1,c1,t1,d1,n1,p1,q1,r1,w1,bt1,bn1,e1⟩:=Sb hx hy1 ho1 bn0;obtain⟨h2,l2,s2,c2,t2,d2,n2,p2,q2,r2,w2,bt2,bn2,e2⟩:=Sb hx hy2 ho2 bn1;obtain⟨h3,l3,s3,c3,t3,d3,n3,p3,q3,r3,w3,bt3,bn3,e3⟩:=Sb hx hy3 ho3 bn2;refine⟨h0,l0,s0,c0,t0,d0,n0,h1,l1,s1,c1,t1,d1,n1,h2,l2,s2,c2,t2,d2,n2,h3,l3,s3,c3,t3,d3,n3,p0,q0,r0,w0,p1,q1,r1,w1,p2,q2,r2,w2,p3,q3,r3,w3,bt0,bt1,bt2,bt3,bn3,?_⟩;clear p0 q0 r0 w0 p1 q1 r1 w1 p2 q2 r2 w2 p3 q3 r3 w3 bt0 bt1 bt2 bt3 bn3 bn0 bn1 bn2 hx hy0 hy1 hy2 hy3 ho0 ho1 ho2 ho3;simp only[ayy,<-axf];generalize x*y0=P0 at*;generalize x*y1=P1 at*;generalize x*y2=P2 at*;generalize x*y3=P3 at*;omega
theorem aij {P0 P1 P2 P3 t00 t01 t02 t03 t10 t11 t12 t13 t20 t21 t22 t23 t30 t31 t32 t33 n03 n13 n23 n33:Nat}
  (E0:P0+(0+0*18446744073709551616+0*340282366920938463463374607431768211456+0*6277101735386680763835789423207666416102355444464034512896)=t00+t01*18446744073709551616+t02*340282366920938463463374607431768211456+t03*6277101735386680763835789423207666416102355444464034512896+n03*115792089237316195423570985008687907853269984665640564039457584007913129639936)
  (E1:P1+(t01+t02*18446744073709551616+t03*340282366920938463463374607431768211456+n03*6277101735386680763835789423207666416102355444464034512896)=t10+t11*18446744073709551616+t12*340282366920938463463374607431768211456+t13*6277101735386680763835789423207666416102355444464034512896+n13*115792089237316195423570985008687907853269984665640564039457584007913129639936)
  (E2:P2+(t11+t12*18446744073709551616+t13*340282366920938463463374607431768211456+n13*6277101735386680763835789423207666416102355444464034512896)=t20+t21*18446744073709551616+t22*340282366920938463463374607431768211456+t23*6277101735386680763835789423207666416102355444464034512896+n23*115792089237316195423570985008687907853269984665640564039457584007913129639936)
  (E3:P3+(t21+t22*18446744073709551616+t23*340282366920938463463374607431768211456+n23*6277101735386680763835789423207666416102355444464034512896)=t30+t31*18446744073709551616+t32*340282366920938463463374607431768211456+t33*6277101735386680763835789423207666416102355444464034512896+n33*115792089237316195423570985008687907853269984665640564039457584007913129639936)
  :P0+P1*18446744073709551616+P2*340282366920938463463374607431768211456+P3*6277101735386680763835789423207666416102355444464034512896=(t00+t10*18446744073709551616+t20*340282366920938463463374607431768211456+t30*6277101735386680763835789423207666416102355444464034512896)+(t31+t32*18446744073709551616+t33*340282366920938463463374607431768211456+n33*6277101735386680763835789423207666416102355444464034512896)*2^256:=by
 simp only[Nat.reducePow];have G0:P0=t00+(t01+t02*18446744073709551616+t03*340282366920938463463374607431768211456+n03*6277101735386680763835789423207666416102355444464034512896)*18446744073709551616:=by clear E1 E2 E3;omega
 have G1:P1+(t01+t02*18446744073709551616+t03*340282366920938463463374607431768211456+n03*6277101735386680763835789423207666416102355444464034512896)=t10+(t11+t12*18446744073709551616+t13*340282366920938463463374607431768211456+n13*6277101735386680763835789423207666416102355444464034512896)*18446744073709551616:=by clear E0 E2 E3 G0;omega
 have G2:P2+(t11+t12*18446744073709551616+t13*340282366920938463463374607431768211456+n13*6277101735386680763835789423207666416102355444464034512896)=t20+(t21+t22*18446744073709551616+t23*340282366920938463463374607431768211456+n23*6277101735386680763835789423207666416102355444464034512896)*18446744073709551616:=by clear E0 E1 E3 G0 G1;omega
 have G3:P3+(t21+t22*18446744073709551616+t23*340282366920938463463374607431768211456+n23*6277101735386680763835789423207666416102355444464034512896)=t30+(t31+t32*18446744073709551616+t33*340282366920938463463374607431768211456+n33*6277101735386680763835789423207666416102355444464034512896)*18446744073709551616:=by clear E0 E1 E2 G0 G1 G2;omega
 clear E0 E1 E2 E3;generalize t01+t02*18446744073709551616+t03*340282366920938463463374607431768211456+n03*6277101735386680763835789423207666416102355444464034512896=A1 at*;generalize t11+t12*18446744073709551616+t13*340282366920938463463374607431768211456+n13*6277101735386680763835789423207666416102355444464034512896=A2 at*;generalize t21+t22*18446744073709551616+t23*340282366920938463463374607431768211456+n23*6277101735386680763835789423207666416102355444464034512896=A3 at*;generalize t31+t32*18446744073709551616+t33*340282366920938463463374607431768211456+n33*6277101735386680763835789423207666416102355444464034512896=A4 at*;omega
theorem KE {a b:Nat->Int}{n m:Nat}(ha:IsN a n)(hb:IsN b m): ∃lo hi,CF a b=some (lo,hi)/\IsN lo (n*m%2^256)/\IsN hi (n*m/2^256):=by
 rw[Qn];unfold OT;obtain⟨x0,x1,x2,x3,e0,e1,e2,e3,h0,h1,h2,h3,hn⟩:=ha.get;obtain⟨y0,y1,y2,y3,f0,f1,f2,f3,g0,g1,g2,g3,hm⟩:=hb.get;simp only[e0,e1,e2,e3,f0,f1,f2,f3];rw[<-hm.symm]at hb;obtain⟨h00,l00,s00,c00,t00,d00,n00,h01,l01,s01,c01,t01,d01,n01,h02,l02,s02,c02,t02,d02,n02,h03,l03,s03,c03,t03,d03,n03,p00,q00,r00,w00,p01,q01,r01,w01,p02,q02,r02,w02,p03,q03,r03,w03,b00,b01,b02,b03,bn0,E0⟩:=Va (o0:=0) (o1:=0) (o2:=0) (o3:=0) h0 g0 g1 g2 g3 (by decide) (by decide) (by decide) (by decide);simp only[Int.ofNat_zero]at q00 q01 q02 q03;simp only[p00,q00,r00,w00,p01,q01,r01,w01,p02,q02,r02,w02,p03,q03,r03,w03];clear p00 q00 r00 w00 p01 q01 r01 w01 p02 q02 r02 w02 p03 q03 r03 w03;obtain⟨h10,l10,s10,c10,t10,d10,n10,h11,l11,s11,c11,t11,d11,n11,h12,l12,s12,c12,t12,d12,n12,h13,l13,s13,c13,t13,d13,n13,p10,q10,r10,w10,p11,q11,r11,w11,p12,q12,r12,w12,p13,q13,r13,w13,b10,b11,b12,b13,bn1,E1⟩:=Va h1 g0 g1 g2 g3 b01 b02 b03 bn0;simp only[p10,q10,r10,w10,p11,q11,r11,w11,p12,q12,r12,w12,p13,q13,r13,w13];clear p10 q10 r10 w10 p11 q11 r11 w11 p12 q12 r12 w12 p13 q13 r13 w13;obtain⟨h20,l20,s20,c20,t20,d20,n20,h21,l21,s21,c21,t21,d21,n21,h22,l22,s22,c22,t22,d22,n22,h23,l23,s23,c23,t23,d23,n23,p20,q20,r20,w20,p21,q21,r21,w21,p22,q22,r22,w22,p23,q23,r23,w23,b20,b21,b22,b23,bn2,E2⟩:=Va h2 g0 g1 g2 g3 b11 b12 b13 bn1;simp only[p20,q20,r20,w20,p21,q21,r21,w21,p22,q22,r22,w22,p23,q23,r23,w23];clear p20 q20 r20 w20 p21 q21 r21 w21 p22 q22 r22 w22 p23 q23 r23 w23;obtain⟨h30,l30,s30,c30,t30,d30,n30,h31,l31,s31,c31,t31,d31,n31,h32,l32,s32,c32,t32,d32,n32,h33,l33,s33,c33,t33,d33,n33,p30,q30,r30,w30,p31,q31,r31,w31,p32,q32,r32,w32,p33,q33,r33,w33,b30,b31,b32,b33,bn3,E3⟩:=Va h3 g0 g1 g2 g3 b21 b22 b23 bn2;simp only[p30,q30,r30,w30,p31,q31,r31,w31,p32,q32,r32,w32,p33,q33,r33,w33];clear p30 q30 r30 w30 p31 q31 r31 w31 p32 q32 r32 w32 p33 q33 r33 w33;have hlo:=(aif (f:=λ_=>0) b00 b10 b20 b30).1;have hnm:n*m=(t00+t10*18446744073709551616+t20*340282366920938463463374607431768211456+t30*6277101735386680763835789423207666416102355444464034512896)+(t31+t32*18446744073709551616+t33*340282366920938463463374607431768211456+n33*6277101735386680763835789423207666416102355444464034512896)*2^256:=by rw[<-aij (P0:=x0*m) (P1:=x1*m) (P2:=x2*m) (P3:=x3*m) (by rw[hm];exact E0) (by rw[hm];exact E1) (by rw[hm];exact E2) (by rw[hm];exact E3),hn];simp only[ax3,ayu _ _ m]
 refine⟨_,_,rfl,(IsN.mk (x0:=t00) (x1:=t10) (x2:=t20) (x3:=t30) rfl rfl rfl rfl b00 b10 b20 b30).of_eq ?_,(IsN.mk (x0:=t31) (x1:=t32) (x2:=t33) (x3:=n33) rfl rfl rfl rfl b31 b32 b33 bn3).of_eq ?_⟩
 ·rw[hnm,ayb,awD hlo]
 ·rw[hnm,ays _ _ (by decide),axC hlo,awR]
theorem Px {B l a m:Nat}(hm:0<m): ∀u,((l*B+a)*B+u)/m=(l*B+a)/m*B+((l*B+a)%m*B+u)/m/\((l*B+a)*B+u)%m=((l*B+a)%m*B+u)%m:=by
 intro u;have h1:=axn (l*B+a) m;generalize l*B+a=U at*;have h2:U*B+u=(U%m*B+u)+m*(U/m*B):=by
  conv=>lhs;rw[<-h1]
  rw[ax3,axf];omega
 rw[h2,Nat.add_mul_div_left _ _ hm,ayK];exact⟨axP .., rfl⟩
theorem O8 {r x m:Nat}(hr:r<m)(hx:x<18446744073709551616):(r*18446744073709551616+x)/m<18446744073709551616:=by rw[axS (by omega)];have:(r+1)*18446744073709551616<=m*18446744073709551616:=awP _ hr;rw[awT _ m];omega
theorem Rx {a:Nat->Int}{n l m:Nat}(ha:IsN a n)(hm:m<18446744073709551616)(hl:l<m):
  ∃q r,DI a (l:Int) (m:Int)=some (q,r)/\IsN q ((l*2^256+n)/m)/\IsN r ((l*2^256+n)%m):=by
 rw[JI];unfold G8;obtain⟨x0,x1,x2,x3,e0,e1,e2,e3,h0,h1,h2,h3,hn⟩:=ha.get;have hm0:0<m:=by omega
 simp only[e0,e1,e2,e3];have lt3:=awZ (l*18446744073709551616+x3) hm0;have lt2:=awZ ((l*18446744073709551616+x3)%m*18446744073709551616+x2) hm0;have lt1:=awZ (((l*18446744073709551616+x3)%m*18446744073709551616+x2)%m*18446744073709551616+x1) hm0;rw[mQ hm hl h3];simp only[];rw[mQ hm lt3 h2];simp only[];rw[mQ hm lt2 h1];simp only[];rw[mQ hm lt1 h0];simp only[];have E:l*2^256+n=(((l*18446744073709551616+x3)*18446744073709551616+x2)*18446744073709551616+x1)*18446744073709551616+x0:=by simp only[Nat.reducePow];omega
 have d2:=Px (B:=18446744073709551616) (l:=l) (a:=x3) hm0 x2;have d1:=Px (B:=18446744073709551616) (l:=l*18446744073709551616+x3) (a:=x2) hm0 x1;have d0:=Px (B:=18446744073709551616) (l:=(l*18446744073709551616+x3)*18446744073709551616+x2) (a:=x1) hm0 x0;refine⟨_,_,rfl,?_,?_⟩
 ·refine IsN.of_eq (IsN.mk rfl rfl rfl rfl (O8 lt1 h0) (O8 lt2 h1) (O8 lt3 h2) (O8 hl h3)) ?_;rw[E,d0.1,d1.1,d2.1,d1.2,d2.2];omega
 ·refine(IsN.small (Nat.lt_trans (awZ _ hm0) hm)).of_eq ?_;rw[E,d0.2,d1.2,d2.2]
theorem IsN.setbit {a:Nat->Int}{v k:Nat}(h:IsN a v)(hk:k<256): ∃w:Nat,a (k/64)=(w:Int)/\w<18446744073709551616/\IsN (upd a (k/64) ((w||| 2^(k%64):Nat):Int)) (v||| 2^k):=by
 obtain⟨w,h1,h2,h3⟩:=h.bit (i:=k/64) (by omega);refine⟨w,h1,h2,IsN.ofBits (axp h.1 (axM (by decide) hk)) λi hi=>?_⟩;by_cases e:i=k/64
 ·subst e;refine⟨_,upd_same _ _ _,axp (n:=64) h2 (axM (by decide) (by omega)),λj hj=>?_⟩;rw[ayq,ayq,h3 j hj,ayT,ayT]
  congr 1;rw[axD];omega
 ·obtain⟨u,g1,g2,g3⟩:=h.bit hi;refine⟨u,by rw[upd_ne e,g1],g2,λj hj=>?_⟩;rw[g3 j hj,ayq,ayT,aww (show¬k=64*i+j by omega),ayA]
theorem IsN.orlow {a:Nat->Int}{v b:Nat}(h:IsN a v)(hv:v%2=0)(hb:b<=1): ∃w:Nat,a 0=(w:Int)/\w<18446744073709551616/\IsN (upd a 0 ((w||| b:Nat):Int)) (v+b):=by
 have hbb:b=0\/b=1:=by omega
 obtain⟨w,h1,h2,h3⟩:=h.setbit (k:=0) (by decide);refine⟨w,h1,h2,?_⟩;rcases hbb with rfl|rfl
 ·rw[Nat.or_zero];have:upd a 0 (w:Int)=a:=by
   funext i;unfold upd;split
   ·rename_i e;rw[e];exact h1.symm
   ·rfl
  rw[this];exact h
 ·refine h3.of_eq ?_;have:=axK (i:=1) (b:=1) (by decide) (v/2);rw[show 2^1*(v/2)=v by omega]at this;exact this.symm
theorem testBit_toNat {n k:Nat} :(if n.testBit k then 1 else 0:Nat)=n/2^k%2:=by
 rw[ayk];have:n/2^k%2=0\/n/2^k%2=1:=by omega
 rcases this with h|h<;>simp[h]
theorem XT {A Q M L b:Nat}(h:A=Q*M+L)(hL:L<M):(¬2*L+b<M->b<=1->2*A+b=(2*Q+1)*M+(2*L+b-M)/\2*L+b-M<M)/\(2*L+b<M->2*A+b=(2*Q)*M+(2*L+b)):=by
 refine⟨λh1 h2=>⟨?_,by omega⟩,λh1=>?_⟩
 ·rw[h,ax3,axN,ayy,axf];omega
 ·rw[h,ayy,axf];omega
theorem a4w {A Q M L:Nat}(h:A=Q*M+L)(hL:L<M):A/M=Q/\A%M=L:=by subst h;rw[axP,ays _ _ (by omega),ayb,axC hL,awD hL];exact⟨awR _,rfl⟩
theorem vU {a left m:Nat->Int}{n l M:Nat}(ha:IsN a n)(hl:IsN left l)(hm:IsN m M)(hlt:l<M):
  ∃q r,su a left m=some (q,r)/\IsN q ((l*2^256+n)/M)/\IsN r ((l*2^256+n)%M):=by
 rw[G9];unfold DJ;obtain⟨c1,c2,x0,c3,c4⟩:=hm.low;rw[c1];by_cases hM:M<18446744073709551616
 ·rw[c2 hM,hl.low.2.1 (by omega)];obtain⟨q,r,h1,h2,h3⟩:=Rx ha hM hlt;simp(disch:=omega) only[WW,h1];exact⟨q,r,rfl,h2,h3⟩
 ·simp(disch:=omega) only[WW];generalize ho:au fE _=o;have hMlt:=hm.1;obtain⟨⟨lf,q⟩,hy,L,Q,hQ⟩:=aL (R:=fE) (λt (s:(Nat->Int)×(Nat->Int))=>Rn (t:Int) a s.1 m (λ_=>0) (λ_=>0) s.2) (λs=>ML s.1 (λ_=>0) (λ_=>0) s.2)
   (λt s=> ∃L Q:Nat,IsN s.1 L/\L<M/\l*2^t+n/2^(256-t)=Q*M+L/\IsN s.2 (2^(256-t)*Q)) 256
   (λt ht s hP=>by
    obtain⟨lf,q⟩:=s;obtain⟨L,Q,p1,p2,p3,p4⟩:=hP;simp only at p1 p4;have hk:256-t=(255-t)+1:=by omega
    have hbit:=Dl n (255-t);rw[testBit_toNat,<-hk]at hbit;have hb1:n/2^(255-t)%2<=1:=by omega
    have s1:=O7 p1 255;have s2:=O7 ha ((255-t:Nat):Int);obtain⟨u,u1,u2⟩:=QY p1 1;obtain⟨w,w1,w2,w3⟩:=u2.orlow (b:=n/2^(255-t)%2) (by simp only[Int.toNat_one];omega) hb1;have s2':Ay a ((255-t:Nat):Int)=some ((n/2^(255-t)%2:Nat):Int):=by rw[s2,<-testBit_toNat];simp only[awz,Int.natCast_nonneg,true_and];split<;>rfl
    have hA:l*2^(t+1)+n/2^(256-(t+1))=2*(l*2^t+n/2^(256-t))+n/2^(255-t)%2:=by rw[show 256-(t+1)=255-t by omega,hbit,ay3,<-axf];omega
    have hst:=XT (b:=n/2^(255-t)%2) p3 p2;have hQ2:2^(256-t)*Q=2^(256-(t+1))*(2*Q):=by rw[hk,ay3,show 256-(t+1)=255-t by omega,axf]
    generalize n/2^(255-t)%2=b at*;have hbit2:IsN q (2^(256-t)*Q)-> ∃w:Nat,q ((255-t)/64)=(w:Int)/\w<18446744073709551616/\IsN (upd q ((255-t)/64) ((w||| 2^((255-t)%64):Nat):Int)) (2^(256-(t+1))*(2*Q+1)):=by intro h;obtain⟨v,v1,v2,v3⟩:=h.setbit (k:=255-t) (by omega);refine⟨v,v1,v2,v3.of_eq ?_⟩;rw[<-axK (axM (by decide) (by omega)),hQ2,ayy,aye,show 256-(t+1)=255-t by omega]
    have hpw:2^((255-t)%64)<2^64:=axM (by decide) (by omega);obtain⟨v,v1,v2,v3⟩:=hbit2 p4;have hL256:=p1.1;simp only[Int.toNat_one,Nat.pow_one]at w3;by_cases hov:L.testBit 255
    ·have s1':Ay lf 255=some 1:=by rw[s1,awQ ⟨by decide,hov⟩]
     have hge:2^255<=L:=Nat.ge_two_pow_of_testBit hov;have hnl: ¬2*L+b<M:=by omega
     obtain⟨g1,g2⟩:=hst.1 hnl hb1;obtain⟨d,d1,d2⟩:=uE w3 hm;refine⟨(d,upd q ((255-t)/64) ((v||| 2^((255-t)%64):Nat):Int)),?_,2*L+b-M,2*Q+1,d2.of_eq (by omega),g2,by rw[hA];exact g1,v3⟩;unfold fE;simp(disch:=omega) only[CC,WW,s1',u1,s2',w1,orU,d1,v1,a4s,show(255:Int).toNat=255 from rfl,hov,true_and,and_self,axV]
    ·have s1':Ay lf 255=some 0:=by rw[s1,awG (λh=>hov h.2)]
     obtain⟨d,d1,d2⟩:=uE w3 hm;have hnge:L<2^255:=by
      apply ax7;intro hc;have h6:=Dl L 255;rw[axC (show L<2^(255+1)from hL256),awG hov,ay2,axE,Nat.div_eq_zero_iff]at h6;rcases h6 with h6|h6
      ·revert h6;decide
      ·exact hc h6
     have w3':=w3.of_eq (show L*2%2^256+b=2*L+b by omega);by_cases hnl:2*L+b<M
     ·refine⟨(upd u 0 ((w||| b:Nat):Int),q),?_,2*L+b,2*Q,w3',hnl,by rw[hA];exact hst.2 hnl,by rw[<-hQ2];exact p4⟩;unfold fE;simp(disch:=omega) only[CC,WW,s1',u1,s2',w1,orU,d1,v1,a4s,show(255:Int).toNat=255 from rfl,hov,and_false,ay4,fC w3' hm,Pt,awQ hnl]
     ·obtain⟨g1,g2⟩:=hst.1 hnl hb1;refine⟨(d,upd q ((255-t)/64) ((v||| 2^((255-t)%64):Nat):Int)),?_,2*L+b-M,2*Q+1,d2.of_eq (by omega),g2,by rw[hA];exact g1,v3⟩;have hc:(0:Int)<=if M<2*L+b then 1 else 0:=by split<;>decide
      unfold fE;simp(disch:=omega) only[CC,WW,s1',u1,s2',w1,orU,d1,v1,a4s,show(255:Int).toNat=255 from rfl,hov,and_false,ay4,fC w3' hm,Pt,awG hnl])
   (λs hP=>by unfold fE;simp(disch:=omega) only[CC,WW]) (left,λ_=>0) ⟨l,0,hl,hlt,by rw[ay8,aye,ay2,Nat.sub_zero,axC ha.1];omega,by rw[Nat.mul_zero];exact IsN.zero⟩
  obtain rfl:=ho.symm.trans hy;obtain⟨p1,p2,p3,p4⟩:=hQ;have hq:=a4w p3 p2;rw[axX,ay8,az8]at hq;refine⟨q,lf,rfl,?_,?_⟩
  ·rw[hq.1];simpa using p4
  ·rw[hq.2];exact p1
theorem IsN.isZero {a:Nat->Int}{n:Nat}(h:IsN a n):eqF (.arr 4 (.int .u64)) a (λ_=>0)=decide (n=0):=h.eqb IsN.zero
theorem Ce {lo hi m:Nat->Int}{L H M:Nat}(hl:IsN lo L)(hh:IsN hi H)(hm:IsN m M)(h0:0<M):
  ∃r,sZ lo hi m=some (r,0)/\IsN r ((H*2^256+L)%M):=by
 rw[Qo];unfold OV;obtain⟨q1,r1,a1,a2,a3⟩:=vU hh IsN.zero hm h0;obtain⟨q2,r2,b1,b2,b3⟩:=vU hl a3 hm (awZ _ h0);simp(disch:=omega) only[hm.isZero,WW,a1,b1];refine⟨r2,rfl,b3.of_eq ?_⟩;rw[ay2,awR,ayS,ayx,Nat.mod_mod,<-ayx,<-ayS]
theorem zY {a m:Nat->Int}{n M:Nat}(ha:IsN a n)(hm:IsN m M)(h0:0<M):
  ∃r,sZ a (λ_=>0) m=some (r,0)/\IsN r (n%M):=by
 obtain⟨r,h1,h2⟩:=Ce ha IsN.zero hm h0;exact⟨r,h1,h2.of_eq (by rw[ay2,awR])⟩
theorem KF {a b:Nat->Int}{n m:Nat}(ha:IsN a n)(hb:IsN b m)(h0:0<m):
  ∃q r,CG a b=some (q,r,0)/\IsN q (n/m)/\IsN r (n%m):=by
 rw[Qp];unfold OW;obtain⟨q,r,a1,a2,a3⟩:=vU ha IsN.zero hb h0;simp(disch:=omega) only[hb.isZero,WW,a1];exact⟨q,r,rfl,a2.of_eq (by rw[ay2,awR]),a3.of_eq (by rw[ay2,awR])⟩
theorem Py {a b m:Nat->Int}{x y M:Nat}(ha:IsN a x)(hb:IsN b y)(hm:IsN m M)(h0:0<M):
  ∃r,Az a b m=some (r,0)/\IsN r ((x*y)%M):=by
 rw[Ga];unfold DK;obtain⟨lo,hi,s1,s2,s3⟩:=KE ha hb;obtain⟨r,r1,r2⟩:=Ce s2 s3 hm h0;simp only[s1,r1];refine⟨r,rfl,r2.of_eq ?_⟩;rw[awT _ (2^256),axn]
theorem Pz {a b m:Nat->Int}{x y M:Nat}(ha:IsN a x)(hb:IsN b y)(hm:IsN m M)(h0:0<M):
  ∃r,oz a b m=some (r,0)/\IsN r ((x+(M-y%M))%M):=by
 rw[Gb];unfold DL;obtain⟨r,r1,r2⟩:=zY ha hm h0;obtain⟨s,s1,s2⟩:=zY hb hm h0;obtain⟨d,d1,d2⟩:=uE r2 s2;obtain⟨e,e1,e2⟩:=Zh d2 hm;have hM:=hm.1;have h3:=awZ x h0;have h4:=awZ y h0;have key:(x+(M-y%M))%M=(x%M+(M-y%M))%M:=(Nat.mod_add_mod x M (M-y%M)).symm;rw[key];generalize x%M=u at*;generalize y%M=v at*;by_cases h:u<v
 ·simp(disch:=omega) only[WW,r1,s1,d1,awQ h,e1];refine⟨e,rfl,e2.of_eq ?_⟩;rw[awD (show u+(M-v)<M by omega)];omega
 ·simp(disch:=omega) only[WW,r1,s1,d1,awG h];refine⟨d,rfl,d2.of_eq ?_⟩;rw[show u+(M-v)=(u-v)+M by omega,Nat.add_mod_right,awD (show u-v<M by omega)];omega
theorem WY {a b:Nat->Int}{x y:Nat}(ha:IsN a x)(hb:IsN b y): ∃g,zw a b=some g/\IsN g (Nat.gcd x y):=by
 rw[Qq];unfold OX;generalize ho:au lK _=o;have key: ∀n a b x y,y<=n->IsN a x->IsN b y-> ∃g,au lK (MO a b (λ_=>0))=some (TL g (λ_=>0))/\IsN g (Nat.gcd x y):=by
  intro n
  induction n with
  |zero=>
   intro a b x y h ha hb;obtain rfl:y=0:=by omega
   refine⟨a,fZ ?_,ha.of_eq (Nat.gcd_zero_right x).symm⟩;unfold lK;simp(disch:=omega) only[WW,hb.isZero]
  |succ n ih=>
   intro a b x y h ha hb;by_cases h0:y=0
   ·subst h0;refine⟨a,fZ ?_,ha.of_eq (Nat.gcd_zero_right x).symm⟩;unfold lK;simp(disch:=omega) only[WW,hb.isZero]
   ·obtain⟨q,r,d1,d2,d3⟩:=KF ha hb (by omega);obtain⟨g,g1,g2⟩:=ih b r y (x%y) (by have:=awZ x (show 0<y by omega);omega) hb d3;refine⟨g,?_,g2.of_eq ?_⟩
    ·rw[zn (x':=MO b r (λ_=>0))]
     ·exact g1
     ·unfold lK;simp(disch:=omega) only[WW,hb.isZero,d1]
    ·rw[Nat.gcd_comm x y,Nat.gcd_rec y x,Nat.gcd_comm]
 obtain⟨g,g1,g2⟩:=key y a b x y (ax2 _) ha hb;obtain rfl:=ho.symm.trans g1;exact⟨g,rfl,g2⟩
end Go.Pl
namespace Go.Num
end Go.Num
namespace Go.Pl
open Go Go.Den Go.Num
open Go Go.Den
def bI(f:Nat->Nat):Nat->Nat|0=>0|k+1=>bI f k+f k*65536^k
theorem Vb(f:Nat->Nat)(k:Nat):bI f (k+1)=bI f k+f k*65536^k:=rfl
theorem O9 {f:Nat->Nat} : ∀ {k:Nat},(∀j,j<k->f j<65536)->bI f k<65536^k:=by
 intro k
 induction k with
 |zero=>intro _;exact Nat.one_pos
 |succ k ih=>
  intro h;have h1:=ih λj hj=>h j (by omega)
  have h2:(f k+1)*65536^k<=65536*65536^k:=awP _ (h k (by omega));rw[bI,ay3,awT (65536^k)];rw[ax3,axN]at h2;omega
theorem a1d {f g:Nat->Nat} : ∀ {k:Nat},(∀j,j<k->f j=g j)->bI f k=bI g k:=by
 intro k
 induction k with
 |zero=>intro h;rfl
 |succ k ih=>intro h;rw[bI,bI,ih λj hj=>h j (by omega),h k (by omega)]
theorem Jb(f:Nat->Nat)(k v:Nat):bI (upd f k v) (k+1)=bI f k+v*65536^k:=by rw[bI,upd_same,a1d (g:=f) λj hj=>upd_ne (by omega)]
theorem Zi {f:Nat->Nat}{i v:Nat} : ∀ {k:Nat},i<k->bI (upd f i v) k+f i*65536^i=bI f k+v*65536^i:=by
 intro k
 induction k with
 |zero=>intro h;omega
 |succ k ih=>
  intro h;by_cases e:i=k
  ·subst e;rw[Jb,bI];omega
  ·rw[bI,bI,upd_ne (by omega:k≠i)];have:=ih (by omega);omega
theorem PD {f:Nat->Nat} : ∀ {n k:Nat},k<n->(∀j,j<n->f j<65536)->bI f n/65536^k%65536=f k:=by
 intro n
 induction n with
 |zero=>intro k h;omega
 |succ n ih=>
  intro k hk h;have hp:=ayz (n:=k) (show 0<65536 by decide);by_cases e:k=n
  ·subst e;have h1:=O9 (k:=k) λj hj=>h j (by omega)
   rw[bI,ays _ _ hp,axC h1,awR,awD (h k (by omega))]
  ·have h2:=ih (k:=k) (by omega) λj hj=>h j (by omega)
   rw[bI];obtain⟨d,hd⟩: ∃d,n=k+1+d:=⟨n-k-1,by omega⟩;have h3:f n*65536^n=(f n*65536^d*65536)*65536^k:=by rw[hd,ay1,ay3];rw[axf,axf,axf];congr 1;rw[awT (65536^d),axf,awT 65536 (65536^d),awT (65536^d) 65536,<-axf,awT (65536^k)];rw[axf,Nat.mul_left_comm,awT (65536^k)]
   rw[h3,ays _ _ hp,ayb,h2]
theorem a9Q {v:Nat} : ∀ {n:Nat},bI (λk=>v/65536^k%65536) n=v%65536^n:=by
 intro n
 induction n with
 |zero=>rw[bI,ay8,Nat.mod_one]
 |succ n ih=>
  rw[bI,ih,ay3,Nat.mod_mul,awT (v/_%_)]
def IsD(d:Nat->Int)(v:Nat):Prop:= ∃f:Nat->Nat,(∀k,k<32->d k=(f k:Int)/\f k<65536)/\bI f 32=v
theorem a3v:(65536:Nat)^32=2^256*2^256:=rfl
theorem IsD.lt {d:Nat->Int}{v:Nat}(h:IsD d v):v<2^256*2^256:=by
 obtain⟨f,h1,rfl⟩:=h;have:=O9 (f:=f) (k:=32) λj hj=>(h1 j hj).2
 rwa [a3v]at this
theorem IsD.zero:IsD (λ_=>0) 0:=⟨λ_=>0,λk _=>⟨rfl,(by decide:0<65536)⟩,by decide⟩
theorem Vd {n i j:Nat}(hj:j<4):n/2^(64*i)%2^64/2^(16*j)%65536=n/2^(64*i+16*j)%65536:=by
 rw[show(65536:Nat)=2^16 by decide];apply ay7;intro b;simp only[axb,axt];by_cases hb:b<16
 ·rw[awv hb,awv (show b+16*j<64 by omega),ax4,ax4,ax4]
  congr 1;omega
 ·rw[aww hb,ax6,ax6]
theorem arX {a:Nat}(h:a<18446744073709551616):ay .and .u64 (a:Int) 65535=((a%65536:Nat):Int):=by
 rw[show(65535:Int)=((65535:Nat):Int)from rfl,ab4 h (by decide)]
 congr 1
 exact axj a 16
theorem aik {a:Nat}(h:a<9223372036854775808):ay .and .i64 (a:Int) 65535=((a%65536:Nat):Int):=by
 rw[show(65535:Int)=((65535:Nat):Int)from rfl,a18 h (by decide)]
 congr 1
 exact axj a 16
theorem ail {a:Nat}(h:a<9223372036854775808):bO .i64 (a:Int) 16=((a/65536:Nat):Int):=Zd (s:=16) h
theorem QZ {lo hi:Nat->Int}{L H:Nat}(hl:IsN lo L)(hh:IsN hi H): ∃d,U1 lo hi=some d/\IsD d (L+H*2^256):=by
 rw[XI];unfold YP;generalize ho:au vB _=o;obtain⟨out,hy,hQ⟩:=aL (R:=vB) (λk out=>a2I (k:Nat) lo hi (λ_=>0) out) (λout=>YO (λ_=>0) out)
  (λk out=> ∀j,j<k->out j=((L/2^(16*j)%65536:Nat):Int)/\out (16+j)=((H/2^(16*j)%65536:Nat):Int)) 16
  (λk hk out hP=>by
   have e1:=hl.2 (k/4) (by omega);have e2:=hh.2 (k/4) (by omega);have d1:=Vd (n:=L) (i:=k/4) (j:=k%4) (by omega);have d2:=Vd (n:=H) (i:=k/4) (j:=k%4) (by omega);rw[show 64*(k/4)+16*(k%4)=16*k by omega]at d1 d2;refine⟨upd (upd out k ((L/2^(16*k)%65536:Nat):Int)) (16+k) ((H/2^(16*k)%65536:Nat):Int),?_,λj hj=>?_⟩
   ·have b1:L/2^(64*(k/4))%2^64<18446744073709551616:=awZ _ (by decide);have b2:H/2^(64*(k/4))%2^64<18446744073709551616:=awZ _ (by decide);rw[<-d1,<-d2];generalize L/2^(64*(k/4))%2^64=u at*;generalize H/2^(64*(k/4))%2^64=v at*;have b3:u/2^(16*(k%4))<18446744073709551616:=awV (axe _ _) b1;have b4:v/2^(16*(k%4))<18446744073709551616:=awV (axe _ _) b2;unfold vB;simp(disch:=omega) only[CC,WW,e1,e2,Rv,arX]
   ·by_cases e:j=k
    ·subst e;rw[upd_same,upd_ne (by omega),upd_same];exact⟨rfl,rfl⟩
    ·rw[upd_ne (by omega),upd_ne (by omega),upd_ne (by omega),upd_ne (by omega)];exact hP j (by omega))
  (λout hP=>by unfold vB;simp(disch:=omega) only[CC,WW]) (λ_=>0) (λj hj=>by omega)
 obtain rfl:=ho.symm.trans hy;refine⟨out,rfl,λk=>(L+H*2^256)/65536^k%65536,λk hk=>⟨?_,awZ _ (by decide)⟩,?_⟩
 ·show out k=(((L+H*2^256)/65536^k%65536:Nat):Int);have e:(65536:Nat)^k=2^(16*k):=by rw[show(65536:Nat)=2^16 by decide,<-ayM]
  rw[e];by_cases hk16:k<16
  ·rw[(hQ k hk16).1]
   congr 1
   obtain⟨d,hd⟩: ∃d,256=16*k+(16+d):=⟨256-16*k-16,by omega⟩;have:H*2^256=H*2^d*65536*2^(16*k):=by rw[hd,ay1,ay1,show(65536:Nat)=2^16 by decide,axf,axf,awT (2^(16*k)),awT (2^16) (2^d),axf]
   rw[this,ays _ _ (ayz (by decide)),ayb]
  ·obtain⟨j,rfl⟩: ∃j,k=16+j:=⟨k-16,by omega⟩;rw[(hQ j (by omega)).2]
   congr 1
   rw[show 16*(16+j)=256+16*j by omega,ay1,<-axA,ays _ _ (by decide),axC hl.1,awR]
 ·rw[a9Q,a3v,awD];have:=hl.1;have:=hh.1;simp only[Nat.reducePow]at*;omega
theorem WZ {d:Nat->Int}{v:Nat}(h:IsD d v): ∃lo hi,N7 d=some (lo,hi)/\IsN lo (v%2^256)/\IsN hi (v/2^256):=by
 rw[Qz];unfold P6;have hv:=h.lt;obtain⟨f,hf,rfl⟩:=h;generalize ho:au pU _=o;have bits: ∀k,k<32-> ∀j,j<16->(bI f 32).testBit (16*k+j)=(f k).testBit j:=by
  intro k hk j hj;have:=PD (f:=f) hk λj hj=>(hf j hj).2
  rw[<-this,show(65536:Nat)=2^16 from rfl,<-ayM,axb,axt,awv hj,ax4]
  congr 1;omega
 have big: ∀k,k<32-> ∀j,16<=j->(f k).testBit j=false:=λk hk j hj=>axl (awU (m:=2^16) (hf k hk).2 (ax1 (by decide) hj))
 generalize bI f 32=v at*;obtain⟨⟨lo,hi⟩,hy,hQ1,hQ2⟩:=aL (R:=pU) (λk (s:(Nat->Int)×(Nat->Int))=>YQ (k:Nat) d (λ_=>0) (λ_=>0) s.1 s.2) (λs=>U2 (λ_=>0) (λ_=>0) s.1 s.2)
  (λk s=>(∀i,i<4-> ∃w:Nat,s.1 i=(w:Int)/\w<18446744073709551616/\ ∀j,j<64->w.testBit j=(decide (64*i+j<16*k)&&v.testBit (64*i+j)))/\
   (∀i,i<4-> ∃w:Nat,s.2 i=(w:Int)/\w<18446744073709551616/\ ∀j,j<64->w.testBit j=(decide (64*i+j<16*k)&&v.testBit (256+64*i+j)))) 16
  (λk hk s hP=>by
   obtain⟨lo,hi⟩:=s;obtain⟨hP1,hP2⟩:=hP;simp only at hP1 hP2;obtain⟨w,e1,e2,e3⟩:=hP1 (k/4) (by omega);obtain⟨u,g1,g2,g3⟩:=hP2 (k/4) (by omega);have d1:=hf k (by omega);have d2:=hf (16+k) (by omega);have sh: ∀x:Nat,x<65536->x*2^(16*(k%4))%18446744073709551616=x*2^(16*(k%4))/\x*2^(16*(k%4))<18446744073709551616:=by
    intro x hx;have h1:x*2^(16*(k%4))<65536*2^(16*(k%4)):=Nat.mul_lt_mul_of_pos_right hx (ayz (by decide));have h2:65536*2^(16*(k%4))<=65536*2^48:=ayE _ (ax1 (by decide) (by omega));have h3:x*2^(16*(k%4))<18446744073709551616:=by omega
    exact⟨awD h3,h3⟩
   have s1:=sh (f k) d1.2;have s2:=sh (f (16+k)) d2.2;refine⟨(upd lo (k/4) ((w||| f k*2^(16*(k%4)):Nat):Int),upd hi (k/4) ((u||| f (16+k)*2^(16*(k%4)):Nat):Int)),?_,?_,?_⟩
   ·unfold pU;simp(disch:=omega) only[CC,WW,e1,g1,d1.1,d2.1,a3t,s1.1,s2.1,orU]
   ·intro i hi;simp only;by_cases e:i=k/4
    ·subst e;refine⟨_,upd_same _ _ _,axp (n:=64) e2 s1.2,λj hj=>?_⟩;rw[ayq,e3 j hj,awT (f k),ayi];by_cases c1:j<16*(k%4)
     ·rw[aww (show¬j>=16*(k%4)by omega),ax6,ayA,awv (by omega),awv (by omega)]
     ·rw[awv (show j>=16*(k%4)by omega),ax4];by_cases c2:j<16*(k%4)+16
      ·rw[aww (by omega),ax6,az2,awv (by omega),ax4,<-bits k (by omega) _ (by omega)]
       congr 1;omega
      ·rw[big k (by omega) _ (by omega),aww (by omega),aww (by omega)];rfl
    ·obtain⟨x,x1,x2,x3⟩:=hP1 i hi;refine⟨x,by rw[upd_ne e,x1],x2,λj hj=>?_⟩;rw[x3 j hj];congr 1;rw[axD];omega
   ·intro i hi;simp only;by_cases e:i=k/4
    ·subst e;refine⟨_,upd_same _ _ _,axp (n:=64) g2 s2.2,λj hj=>?_⟩;rw[ayq,g3 j hj,awT (f (16+k)),ayi];by_cases c1:j<16*(k%4)
     ·rw[aww (show¬j>=16*(k%4)by omega),ax6,ayA,awv (by omega),awv (by omega)]
     ·rw[awv (show j>=16*(k%4)by omega),ax4];by_cases c2:j<16*(k%4)+16
      ·rw[aww (by omega),ax6,az2,awv (by omega),ax4,<-bits (16+k) (by omega) _ (by omega)]
       congr 1;omega
      ·rw[big (16+k) (by omega) _ (by omega),aww (by omega),aww (by omega)];rfl
    ·obtain⟨x,x1,x2,x3⟩:=hP2 i hi;refine⟨x,by rw[upd_ne e,x1],x2,λj hj=>?_⟩;rw[x3 j hj];congr 1;rw[axD];omega)
  (λs hP=>by unfold pU;simp(disch:=omega) only[CC,WW]) (λ_=>0,λ_=>0) ⟨λi hi=>⟨0,rfl,by decide,λj hj=>by rw[az7,aww (by omega),ax6]⟩,λi hi=>⟨0,rfl,by decide,λj hj=>by rw[az7,aww (by omega),ax6]⟩⟩
 obtain rfl:=ho.symm.trans hy;refine⟨lo,hi,rfl,IsN.ofBits (awZ _ (by decide)) λi hi=>?_,IsN.ofBits (by rw[axS (by decide)];exact hv) λi hi=>?_⟩
 ·obtain⟨w,e1,e2,e3⟩:=hQ1 i hi;refine⟨w,e1,e2,λj hj=>?_⟩;rw[e3 j hj,axb,awv (show 64*i+j<16*16 by omega)]
 ·obtain⟨w,e1,e2,e3⟩:=hQ2 i hi;refine⟨w,e1,e2,λj hj=>?_⟩;rw[e3 j hj,axt,awv (by omega),ax4]
  congr 1;omega
theorem Ve {d:Nat->Int}{v:Nat}(h:IsD d v){b:Nat}(hb:b<=1)(hv:2*v+b<2^256*2^256): ∃e,IL d (b:Int)=some e/\IsD e (2*v+b):=by
 rw[N8];unfold Lh;obtain⟨f,hf,rfl⟩:=h;generalize ho:au mW _=o;obtain⟨⟨c,out,g⟩,hy,hQ1,hQ2,hQ3⟩:=aL (R:=mW) (λk (s:Nat×(Nat->Int)×(Nat->Nat))=>WH (s.1:Int) (k:Nat) d (λ_=>0) s.2.1) (λs=>Ro (λ_=>0) s.2.1)
  (λk s=>s.1<=1/\(∀j,j<k->s.2.1 j=(s.2.2 j:Int)/\s.2.2 j<65536)/\bI s.2.2 k+s.1*65536^k=2*bI f k+b) 32
  (λk hk s hP=>by
   obtain⟨c,out,g⟩:=s;obtain⟨h1,h2,h3⟩:=hP;simp only at h1 h2 h3;have d1:=hf k hk;refine⟨((2*f k+c)/65536,upd out k (((2*f k+c)%65536:Nat):Int),upd g k ((2*f k+c)%65536)),?_,by simp only;omega,λj hj=>?_,?_⟩
   ·unfold mW;simp(disch:=omega) only[CC,WW,d1.1,ail,aik]
   ·simp only;by_cases e:j=k
    ·subst e;rw[upd_same,upd_same];exact⟨rfl,awZ _ (by decide)⟩
    ·rw[upd_ne e,upd_ne e];exact h2 j (by omega)
   ·simp only;rw[Jb,bI,ay3];have h4:=axn (2*f k+c) 65536;have h5:(65536*((2*f k+c)/65536)+(2*f k+c)%65536)*65536^k=(2*f k+c)*65536^k:=by rw[h4]
    rw[ax3,ax3,axf 2,ayu]at h5;have h6:(2*f k+c)/65536*(65536^k*65536)=65536*65536^k*((2*f k+c)/65536):=by rw[awT,awT (65536^k)]
    rw[h6,ayy];omega)
  (λs hP=>by unfold mW;simp(disch:=omega) only[CC,WW]) (b,λ_=>0,λ_=>0) ⟨hb,λj hj=>by omega,by simp[bI]⟩
 obtain rfl:=ho.symm.trans hy;simp only at hQ1 hQ2 hQ3;refine⟨out,rfl,g,hQ2,?_⟩;rw[a3v]at hQ3;clear hy ho hQ2;generalize bI f 32=A at*;generalize bI g 32=B at*;obtain⟨Z,hZ⟩: ∃Z,Z=65536^32:=⟨_,rfl⟩;rw[<-a3v,<-hZ]at hv hQ3;clear hZ;have:c=0:=by
  rcases axd c with h|h
  ·exact h
  ·have:1*Z<=c*Z:=awP _ h;omega
 rw[this,ay2,axE]at hQ3;exact hQ3
theorem X0 {d e:Nat->Int}{v w:Nat}(h:IsD d v)(h':IsD e w)(hw:w<=v): ∃z,Nb d e=some z/\IsD z (v-w):=by
 rw[QA];unfold P7;have hvlt:=h.lt;obtain⟨f,hf,rfl⟩:=h;obtain⟨g,hg,rfl⟩:=h';generalize ho:au lN _=o;obtain⟨⟨c,out,z⟩,hy,hQ1,hQ2,hQ3⟩:=aL (R:=lN) (λk (s:Nat×(Nat->Int)×(Nat->Nat))=>YR (s.1:Int) (k:Nat) d e (λ_=>0) s.2.1) (λs=>U3 (λ_=>0) s.2.1)
  (λk s=>s.1<=1/\(∀j,j<k->s.2.1 j=(s.2.2 j:Int)/\s.2.2 j<65536)/\bI s.2.2 k+bI g k=bI f k+s.1*65536^k) 32
  (λk hk s hP=>by
   obtain⟨c,out,z⟩:=s;obtain⟨h1,h2,h3⟩:=hP;simp only at h1 h2 h3;have d1:=hf k hk;have d2:=hg k hk;by_cases hlt:f k<g k+c
   ·refine⟨(1,upd out k ((f k+65536-g k-c:Nat):Int),upd z k (f k+65536-g k-c)),?_,by simp only;omega,λj hj=>?_,?_⟩
    ·unfold lN;have e1:(f k:Int)-(g k:Int)-(c:Int)+65536=((f k+65536-g k-c:Nat):Int):=by omega
     simp(disch:=omega) only[WW,d1.1,d2.1,wrap_i64,e1];rfl
    ·simp only;by_cases e:j=k
     ·subst e;rw[upd_same,upd_same];exact⟨rfl,by omega⟩
     ·rw[upd_ne e,upd_ne e];exact h2 j (by omega)
    ·simp only;rw[Jb,bI,bI,ay3,axN,awT _ 65536];have h5:(f k+65536-g k-c+g k+c)*65536^k=(f k+65536)*65536^k:=by congr 1;omega
     rw[ax3,ax3,ax3 (f k)]at h5;omega
   ·refine⟨(0,upd out k ((f k-g k-c:Nat):Int),upd z k (f k-g k-c)),?_,by simp only;omega,λj hj=>?_,?_⟩
    ·unfold lN;have e1:(f k:Int)-(g k:Int)-(c:Int)=((f k-g k-c:Nat):Int):=by omega
     simp(disch:=omega) only[WW,d1.1,d2.1,wrap_i64,e1];rfl
    ·simp only;by_cases e:j=k
     ·subst e;rw[upd_same,upd_same];exact⟨rfl,by omega⟩
     ·rw[upd_ne e,upd_ne e];exact h2 j (by omega)
    ·simp only;rw[Jb,bI,bI,ay2];have h5:(f k-g k-c+g k+c)*65536^k=f k*65536^k:=by congr 1;omega
     rw[ax3,ax3]at h5;omega)
  (λs hP=>by unfold lN;simp(disch:=omega) only[CC,WW]) (0,λ_=>0,λ_=>0) ⟨by decide,λj hj=>by omega,by simp[bI]⟩
 obtain rfl:=ho.symm.trans hy;simp only at hQ1 hQ2 hQ3;refine⟨out,rfl,z,hQ2,?_⟩;rw[a3v]at hQ3;have hzl:=O9 (f:=z) (k:=32) λj hj=>(hQ2 j hj).2
 rw[a3v]at hzl;clear hy ho hQ2;generalize bI f 32=A at*;generalize bI g 32=B at*;generalize bI z 32=D at*;obtain⟨Z,hZ⟩: ∃Z,Z=65536^32:=⟨_,rfl⟩;rw[<-a3v,<-hZ]at hvlt hzl hQ3;clear hZ;have:c=0:=by
  rcases axd c with h|h
  ·exact h
  ·have:1*Z<=c*Z:=awP _ h;omega
 subst this;rw[ay2]at hQ3;omega
theorem Vf {d e:Nat->Int}{v w:Nat}(h:IsD d v)(h':IsD e w):IQ d e=some (decide (v<w)):=by
 rw[N9];unfold Li;obtain⟨f,hf,rfl⟩:=h;obtain⟨g,hg,rfl⟩:=h';generalize ho:au kg _=o;have lt: ∀ {f:Nat->Nat},(∀k,k<32->f k<65536)-> ∀k,k<=32->bI f k<65536^k:=λh k hk=>O9 λj hj=>h j (by omega)
 have fb:=lt (f:=f) λk hk=>(hf k hk).2
 have gb:=lt (f:=g) λk hk=>(hg k hk).2
 obtain⟨y,hy,hQ⟩:=bH (R:=kg) (S:=Unit) (λk _=>WI ((31:Int)-(k:Nat)) d e) (λk _=>k<=32/\(bI f 32<bI g 32↔bI f (32-k)<bI g (32-k)))
  (λy=>(y=Rp (decide (bI f 32<bI g 32)))\/(y=Rq/\ ¬bI f 32<bI g 32)) 32
  (λk hk _ hP=>by
   have d1:=hf (31-k) (by omega);have d2:=hg (31-k) (by omega);have b1:=fb (31-k) (by omega);have b2:=gb (31-k) (by omega);obtain⟨_,hP⟩:=hP;rw[show 32-k=(31-k)+1 by omega,Vb f (31-k),Vb g (31-k)]at hP;by_cases hne:f (31-k)=g (31-k)
   ·left;refine⟨(),?_,by omega,?_⟩
    ·unfold kg;simp(disch:=omega) only[CC,WW,d1.1,d2.1];rw[wrap_i64 (by omega),show((31-k:Nat):Int)-1=31-((k+1:Nat):Int)by omega]
    ·rw[hP,hne,show 32-(k+1)=31-k by omega];omega
   ·right;refine⟨_,?_,.inl rfl⟩;have key:(bI f (31-k)+f (31-k)*65536^(31-k)<bI g (31-k)+g (31-k)*65536^(31-k))↔f (31-k)<g (31-k):=by
     constructor
     ·intro h;apply ax7;intro hc;have:=awP (65536^(31-k)) (show g (31-k)+1<=f (31-k)by omega);rw[ax3,axN]at this;omega
     ·intro h;have:=awP (65536^(31-k)) (show f (31-k)+1<=g (31-k)by omega);rw[ax3,axN]at this;omega
    unfold kg;simp(disch:=omega) only[CC,WW,d1.1,d2.1]
    congr 6
    rw[eq_iff_iff,hP,key];omega)
  (λ_ hP=>by
   refine⟨_,?_,.inr ⟨rfl,?_⟩⟩
   ·unfold kg;simp(disch:=omega) only[CC,WW]
   ·rw[hP.2];simp[bI]) () ⟨by omega,Iff.rfl⟩
 obtain rfl:=ho.symm.trans hy;rcases hQ with rfl|⟨rfl,h3⟩
 ·rfl
 ·rw[aww h3]
theorem Ry {a m:Nat->Int}{n M:Nat}(ha:IsD a n)(hm:IsD m M)(h0:0<M)(hM:2*M<=2^256*2^256):
  ∃q r,DW a m=some (q,r)/\IsD q (n/M)/\IsD r (n%M):=by
 rw[JR];unfold Gr;have hn:=ha.lt;obtain⟨f,hf,rfl⟩:=ha;generalize ho:au jo _=o;have hn2:bI f 32<2^(256+256):=Nat.lt_of_lt_of_eq hn (ay1 2 256 256).symm;have bitf: ∀k,k<512->f (k/16)/2^(k%16)%2=bI f 32/2^k%2:=by
  intro k hk;have h1:=PD (f:=f) (n:=32) (k:=k/16) (by omega) λj hj=>(hf j hj).2
  generalize bI f 32=v at*;rw[<-h1,<-testBit_toNat,<-testBit_toNat,show(65536:Nat)=2^16 from rfl,<-ayM,axb,axt,awv (by omega),ax4,show k%16+16*(k/16)=k by omega]
 generalize bI f 32=n at*;have hz: ∀k,k=256+256->n/2^k=0*M+0:=λk hk=>by subst hk;rw[axC hn2,ay2]
 obtain⟨E,hE⟩: ∃E,E=256+256:=⟨_,rfl⟩;have hstart: ∃Q L:Nat,IsD (λ_=>0) L/\L<M/\n/2^E=Q*M+L/\IsD (λ_=>0) (2^E*Q):=
  ⟨0,0,IsD.zero,h0,hz E hE,by rw[Nat.mul_zero];exact IsD.zero⟩
 obtain⟨⟨q,r⟩,hy,Q,L,c1,c2,c3,c4⟩:=aL (R:=jo) (λt (s:(Nat->Int)×(Nat->Int))=>U4 ((511:Int)-(t:Nat)) a m (λ_=>0) (λ_=>0) s.1 s.2) (λs=>P8 (λ_=>0) (λ_=>0) s.1 s.2)
  (λt s=> ∃Q L:Nat,IsD s.2 L/\L<M/\n/2^(E-t)=Q*M+L/\IsD s.1 (2^(E-t)*Q)) 512
  (λt ht s hP=>by
   obtain⟨q,r⟩:=s;obtain⟨Q,L,p1,p2,p3,p4⟩:=hP;simp only at p1 p4;have d1:=hf ((511-t)/16) (by omega);have hbit:=Dl n (511-t);rw[testBit_toNat,show 511-t+1=E-t by omega,<-bitf (511-t) (by omega),p3]at hbit;have hb1:f ((511-t)/16)/2^((511-t)%16)%2<=1:=by omega
   have hle:f ((511-t)/16)/2^((511-t)%16)<=f ((511-t)/16):=axe _ _;obtain⟨e,e1,e2⟩:=Ve p1 hb1 (by generalize f ((511-t)/16)/2^((511-t)%16)%2=b at hb1⊢;clear bitf hbit p1 p4 hf hn;omega);have hst:=XT (b:=f ((511-t)/16)/2^((511-t)%16)%2) (A:=n/2^(E-t)) p3 p2;rw[p3]at hst;have hcmp:=Vf e2 hm;have hbd:n/2^(E-(t+1))=n/2^(511-t):=by rw[show E-(t+1)=511-t by omega]
   have hQ2:2^(E-t)*Q=2^(511-t)*(2*Q):=by rw[show E-t=511-t+1 by omega,ay3,axf]
   by_cases hnl:2*L+f ((511-t)/16)/2^((511-t)%16)%2<M
   ·refine⟨(q,e),?_,2*Q,2*L+f ((511-t)/16)/2^((511-t)%16)%2,e2,hnl,?_,?_⟩
    ·unfold jo;simp(disch:=omega) only[CC,WW,d1.1,Zd,a9N,e1,hcmp];rw[wrap_i64 (by omega),show((511-t:Nat):Int)-1=511-((t+1:Nat):Int)by omega]
    ·rw[hbd,hbit,<-hst.2 hnl,awT 2 (Q*M+L)]
    ·simp only;rw[show E-(t+1)=511-t by omega,<-hQ2];exact p4
   ·obtain⟨g1,g2⟩:=hst.1 hnl hb1;obtain⟨z,z1,z2⟩:=X0 e2 hm (by omega);obtain⟨fq,q1,q2⟩:=p4;have d2:=q1 ((511-t)/16) (by omega);have hpw:2^((511-t)%16)<2^16:=axM (by decide) (by omega);have hdig:=PD (f:=fq) (n:=32) (k:=(511-t)/16) (by omega) λj hj=>(q1 j hj).2
    have hor:fq ((511-t)/16)||| 2^((511-t)%16)=fq ((511-t)/16)+2^((511-t)%16):=by
     have hmul:fq ((511-t)/16)=2^((511-t)%16+1)*(fq ((511-t)/16)/2^((511-t)%16+1)):=by
      have h7:=axn (fq ((511-t)/16)) (2^((511-t)%16+1));have h8:fq ((511-t)/16)%2^((511-t)%16+1)=0:=by
       apply ay7;intro j;rw[az7,axb];by_cases hj:j<(511-t)%16+1
       ·rw[awv hj,ax4,<-hdig,q2,show(65536:Nat)=2^16 from rfl,<-ayM,axb,axt,ayi,aww (show¬j+16*((511-t)/16)>=E-t by omega),ax6,Bool.and_false]
       ·rw[aww hj,ax6]
      omega
     have:=axK (i:=(511-t)%16+1) (b:=2^((511-t)%16)) (axM (by decide) (by omega)) (fq ((511-t)/16)/2^((511-t)%16+1));rw[<-hmul]at this;exact this.symm
    have hlt16:fq ((511-t)/16)||| 2^((511-t)%16)<2^16:=axp d2.2 hpw;refine⟨(upd q ((511-t)/16) ((fq ((511-t)/16)||| 2^((511-t)%16):Nat):Int),z),?_,2*Q+1,2*L+f ((511-t)/16)/2^((511-t)%16)%2-M,z2,g2,?_,upd fq ((511-t)/16) (fq ((511-t)/16)||| 2^((511-t)%16)),λk hk=>?_,?_⟩
    ·unfold jo;simp(disch:=omega) only[CC,WW,d1.1,Zd,a9N,e1,hcmp,z1,d2.1,adq,orS];rw[wrap_i64 (by omega),show((511-t:Nat):Int)-1=511-((t+1:Nat):Int)by omega]
    ·rw[hbd,hbit,<-g1,awT 2 (Q*M+L)]
    ·simp only;by_cases e:k=(511-t)/16
     ·subst e;rw[upd_same,upd_same];exact⟨rfl,hlt16⟩
     ·rw[upd_ne e,upd_ne e];exact q1 k hk
    ·have hu:=Zi (f:=fq) (i:=(511-t)/16) (v:=fq ((511-t)/16)||| 2^((511-t)%16)) (k:=32) (by omega);have hp:2^((511-t)%16)*65536^((511-t)/16)=2^(511-t):=by rw[show(65536:Nat)=2^16 from rfl,<-ayM,<-ay1,Nat.mod_add_div]
     rw[hor]at hu⊢;rw[ax3,hp]at hu;rw[show E-(t+1)=511-t by omega,ayy,aye,<-hQ2,<-q2];generalize bI (upd fq ((511-t)/16) (fq ((511-t)/16)+2^((511-t)%16))) 32=A1 at*;generalize bI fq 32=A2 at*;omega)
  (λs hP=>by unfold jo;simp(disch:=omega) only[CC,WW]) (λ_=>0,λ_=>0) (by rw[Nat.sub_zero];exact hstart)
 obtain rfl:=ho.symm.trans hy;rw[show E-512=0 by omega,ay8,az8]at c3;have hq:=a4w c3 c2;refine⟨q,r,rfl,?_,?_⟩
 ·rw[hq.1];rw[show E-512=0 by omega,ay8,axN]at c4;exact c4
 ·rw[hq.2];exact c1
theorem IsN.two_le {a:Nat->Int}{M:Nat}(h:IsN a M):2*M<=2^256*2^256:=by
 have:=h.1;have h2:2*M<=2^256*2:=by omega
 exact ayF h2 (ayE _ (by decide))
theorem Zj {lo hi m:Nat->Int}{L H M:Nat}(hl:IsN lo L)(hh:IsN hi H)(hm:IsN m M)(h0:0<M):
  ∃r,Nc lo hi m=some (r,0)/\IsN r ((H*2^256+L)%M):=by
 rw[U6];unfold U5;obtain⟨d,d1,d2⟩:=QZ hl hh;obtain⟨e,e1,e2⟩:=QZ hm IsN.zero;rw[ay2,axE]at e2;obtain⟨q,r,p1,p2,p3⟩:=Ry d2 e2 h0 hm.two_le;obtain⟨x,y,n1,n2,n3⟩:=WZ p3;simp(disch:=omega) only[hm.isZero,WW,d1,e1,p1,n1];refine⟨x,rfl,n2.of_eq ?_⟩;rw[axP,awD];exact Nat.lt_trans (awZ _ h0) hm.1
theorem X3 {a m:Nat->Int}{n M:Nat}(ha:IsN a n)(hm:IsN m M)(h0:0<M):
  ∃r,Nc a (λ_=>0) m=some (r,0)/\IsN r (n%M):=by
 obtain⟨r,h1,h2⟩:=Zj ha IsN.zero hm h0;exact⟨r,h1,h2.of_eq (by rw[ay2,awR])⟩
end Go.Pl
